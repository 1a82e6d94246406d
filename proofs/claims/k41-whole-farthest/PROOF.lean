import PyProof.Rows.All
import HandS.ForMost
import HandS.Deep
import HandS.IsInst
import HandS.Flow
import KE.DataCmp
import KE.SortData
import KE.KDictKeyed
import KE.KDictDisplayH
import HandS.DictComp
import KE.KDictSum
import KE.KDictCopyH
import HandS.Iter
import KE.KDictPairs
import PyProof.FactsLen
import PyProof.PvWalk
import HandS.Sort
import PySem.Challenge.RW_slideinto_k41_whole_farthest
import PyProof.TupleOfSeq
import HandS.TupSets
import HandS.ForExc
import HandS.ExcInit
import HandS.ExcField
import HandS.TryOnly
import PyProof.CallFns
import Wide.All
import OpenK.AllK
import Wide.FinOn
set_option Elab.async false
set_option linter.all false
set_option maxRecDepth 100000
set_option maxHeartbeats 1000000
/-! ZA: deep data in the abstract heap (Dp), what keeps it; what a reading gives as data (Evd, EvT, EvA). -/
namespace L2
open PySem PySem.Spec
open PyProof.Rows hiding St

/-! ### what keeps data -/
/-- all lists that can be read stay | all tuples -/
def LKp (K : PySem.W.Frag) (H H' : Hp) : Prop := ∀ a xs, SqL K H a xs → SqL K H' a xs
def TKp (K : PySem.W.Frag) (H H' : Hp) : Prop := ∀ a xs, SqT K H a xs → SqT K H' a xs
section
variable {K : PySem.W.Frag} {H H1 H2 H' : Hp} {a p : Addr} {o u : HO}
theorem rd_same (e : Same H H') (h : Rd H a u) : Rd H' a u := h.elim (fun h => .inl (e _ _ h)) fun ⟨o, h⟩ => .inr ⟨o, e _ _ h⟩
theorem LKp.same (e : Same H H') : LKp K H H' := fun a xs h => h.elim (fun h => .inl (rd_same e h)) .inr
theorem TKp.same (e : Same H H') : TKp K H H' := fun a xs h => h.elim (fun h => .inl (rd_same e h)) .inr
theorem LKp.trans (h : LKp K H H1) (g : LKp K H1 H2) : LKp K H H2 := fun a xs q => g a xs (h a xs q)
theorem TKp.trans (h : TKp K H H1) (g : TKp K H1 H2) : TKp K H H2 := fun a xs q => g a xs (h a xs q)
theorem TKp.refl : TKp K H H := fun _ _ h => h
theorem LKp.refl : LKp K H H := fun _ _ h => h
theorem Same.new (h : H p = none) : Same H (upd H p o) := fun b x e => by
  rw [upd_ne (ne_of_none e h)]; exact e
/-- what H does not know may change in H' -/
theorem Same.mut (e : Same H H') (h : H p = none) : Same H (upd H' p o) := fun b x q => by
  rw [upd_ne (ne_of_none q h)]; exact e b x q
/-- neither a tuple nor frozen -/
def Loose : HO → Bool
  | .tup _ => false
  | .frz _ _ => false
  | _ => true
/-- a mutable thing that is no list -/
def NoSeq : HO → Bool
  | .tup _ => false
  | .lst _ => false
  | .frz _ _ => false
  | _ => true
theorem rd_upd (h : H p = some o) (l : Loose o = true) {xs : List V} (q : Rd H a (.tup xs)) : Rd (upd H p u) a (.tup xs) := by
  have ne : ∀ {x : HO}, H a = some x → Loose x = false → a ≠ p := fun {x} e f z => by
    subst z; rw [h] at e; cases e; rw [l] at f; cases f
  rcases q with q | ⟨ob, q⟩
  · exact .inl (by rw [upd_ne (ne q rfl)]; exact q)
  · exact .inr ⟨ob, by rw [upd_ne (ne q rfl)]; exact q⟩
theorem TKp.upd (h : H p = some o) (l : Loose o = true) : TKp K H (upd H p u) := fun a xs q => q.elim (fun q => .inl (rd_upd h l q)) .inr
theorem TKp.new (h : H p = none) : TKp K H (L2.upd H p u) := .same (Same.new h)
theorem LKp.upd (h : H p = some o) (l : NoSeq o = true) : LKp K H (upd H p u) := fun a xs q => q.elim (fun q => .inl (by
  have ne : ∀ {x : HO}, H a = some x → NoSeq x = false → a ≠ p := fun {x} e f z => by
    subst z; rw [h] at e; cases e; rw [l] at f; cases f
  rcases q with q | ⟨ob, q⟩
  · exact .inl (by rw [upd_ne (ne q rfl)]; exact q)
  · exact .inr ⟨ob, by rw [upd_ne (ne q rfl)]; exact q⟩)) .inr
theorem loose_of : NoSeq o = true → Loose o = true := by cases o <;> simp [NoSeq, Loose]

mutual
def flat : PyData → Bool
  | .list _ => false
  | .dict _ => false
  | .tuple ds => flatAll ds
  | _ => true
def flatAll : List PyData → Bool
  | [] => true
  | d :: ds => flat d && flatAll ds
end
mutual
theorem Dp.keep (hl : LKp K H H') (ht : TKp K H H') : ∀ (d : PyData) (v : V), Dp K H v d → Dp K H' v d
  | .none, _, h => by cases h; exact .non
  | .bool b, _, h => by cases h; exact .bl b
  | .int i, _, h => by cases h; exact .int i
  | .str x, _, h => by cases h; exact .str x
  | .list ds, _, h => by
    cases h with
    | lst hs ha => exact .lst (hl _ _ hs) (DpAll.keep hl ht ds _ ha)
  | .tuple ds, _, h => by
    cases h with
    | tup hs ha => exact .tup (ht _ _ hs) (DpAll.keep hl ht ds _ ha)
  | .dict _, _, h => by cases h
theorem DpAll.keep (hl : LKp K H H') (ht : TKp K H H') : ∀ (ds : List PyData) (vs : List V), DpAll K H vs ds → DpAll K H' vs ds
  | [], _, h => by cases h; exact .nil
  | d :: ds, _, h => by
    cases h with
    | cons h1 h2 => exact .cons (Dp.keep hl ht d _ h1) (DpAll.keep hl ht ds _ h2)
end
mutual
theorem Dp.keepT (ht : TKp K H H') : ∀ (d : PyData) (v : V), flat d = true → Dp K H v d → Dp K H' v d
  | .none, _, _, h => by cases h; exact .non
  | .bool b, _, _, h => by cases h; exact .bl b
  | .int i, _, _, h => by cases h; exact .int i
  | .str x, _, _, h => by cases h; exact .str x
  | .list ds, _, f, h => by simp [flat] at f
  | .tuple ds, _, f, h => by
    cases h with
    | tup hs ha => exact .tup (ht _ _ hs) (DpAll.keepT ht ds _ (by simpa [flat] using f) ha)
  | .dict _, _, _, h => by cases h
theorem DpAll.keepT (ht : TKp K H H') : ∀ (ds : List PyData) (vs : List V), flatAll ds = true → DpAll K H vs ds → DpAll K H' vs ds
  | [], _, _, h => by cases h; exact .nil
  | d :: ds, _, f, h => by
    cases h with
    | cons h1 h2 =>
      simp only [flatAll, Bool.and_eq_true] at f
      exact .cons (Dp.keepT ht d _ f.1 h1) (DpAll.keepT ht ds _ f.2 h2)
end
theorem Dp.same {v : V} {d : PyData} (e : Same H H') (h : Dp K H v d) : Dp K H' v d := Dp.keep (.same e) (.same e) d v h
theorem DpAll.same {vs : List V} {ds : List PyData} (e : Same H H') (h : DpAll K H vs ds) : DpAll K H' vs ds := DpAll.keep (.same e) (.same e) ds vs h
theorem DpAll.length : ∀ {vs : List V} {ds : List PyData}, DpAll K H vs ds → vs.length = ds.length
  | _, _, .nil => rfl
  | _, _, .cons _ t => by rw [List.length_cons, List.length_cons, DpAll.length t]
theorem DpAll.get : ∀ {vs : List V} {ds : List PyData} {i : Nat} {v : V}, DpAll K H vs ds → vs[i]? = some v → ∃ d, ds[i]? = some d ∧ Dp K H v d
  | _, _, _, _, .nil, e => by simp at e
  | _, _, 0, _, .cons r _, e => by simp at e; subst e; exact ⟨_, rfl, r⟩
  | _, _, i + 1, v, .cons _ t, e => by
    obtain ⟨d, h1, h2⟩ := DpAll.get (i := i) (v := v) t (by simpa using e)
    exact ⟨d, by simpa using h1, h2⟩
theorem DpAll.get' : ∀ {vs : List V} {ds : List PyData} {i : Nat} {d : PyData}, DpAll K H vs ds → ds[i]? = some d → ∃ v, vs[i]? = some v ∧ Dp K H v d
  | _, _, _, _, .nil, e => by simp at e
  | _, _, 0, _, .cons r _, e => by simp at e; subst e; exact ⟨_, rfl, r⟩
  | _, _, i + 1, d, .cons _ t, e => by
    obtain ⟨v, h1, h2⟩ := DpAll.get' (i := i) (d := d) t (by simpa using e)
    exact ⟨v, by simpa using h1, h2⟩
theorem DpAll.append : ∀ {vs ws : List V} {ds es : List PyData}, DpAll K H vs ds → DpAll K H ws es → DpAll K H (vs ++ ws) (ds ++ es)
  | _, _, _, _, .nil, s => s
  | _, _, _, _, .cons r t, s => .cons r (DpAll.append t s)
theorem DpAll.one {v : V} {d : PyData} (h : Dp K H v d) : DpAll K H [v] [d] := .cons h .nil
theorem DpAll.ints : ∀ {vs : List V} {ns : List Int}, DpAll K H vs (ns.map .int) → vs = ns.map V.int
  | _, [], h => by cases h; rfl
  | _, n :: ns, h => by
    cases h with
    | cons h1 h2 => cases h1; rw [DpAll.ints h2]; rfl
theorem flatAll_mem : ∀ {ds : List PyData}, (∀ d ∈ ds, flat d = true) → flatAll ds = true
  | [], _ => rfl
  | d :: ds, h => by
    simp only [flatAll, Bool.and_eq_true]
    exact ⟨h d List.mem_cons_self, flatAll_mem fun x hx => h x (List.mem_cons_of_mem _ hx)⟩
theorem flatAll_map {α : Type} {f : α → PyData} (h : ∀ x, flat (f x) = true) (xs : List α) : flatAll (xs.map f) = true := flatAll_mem fun d hd => by
  obtain ⟨x, _, rfl⟩ := List.mem_map.mp hd
  exact h x
end

end L2
namespace Z
open PySem PySem.Spec L2
open PyProof.Rows hiding St
/-! ### slots by data -/
inductive Slot where
  | no
  | dat (d : PyData)
  | raw (v : V)
def SlotOk (K : PySem.W.Frag) (H : Hp) : Slot → Option V → Prop
  | .no, _ => True
  | .dat d, o => ∃ v, o = some v ∧ Dp K H v d
  | .raw v, o => o = some v
inductive Al (K : PySem.W.Frag) (H : Hp) : List Slot → St → Prop
  | nil : Al K H [] []
  | cons {e : Slot} {o : Option V} {es : List Slot} {σ : St} : SlotOk K H e o → Al K H es σ → Al K H (e :: es) (o :: σ)
def flatE : Slot → Bool
  | .dat d => flat d
  | _ => true
section
variable {K : PySem.W.Frag} {H H' : Hp} {es : List Slot} {σ : St}
theorem Al.keep (hl : LKp K H H') (ht : TKp K H H') : ∀ {es : List Slot} {σ : St}, Al K H es σ → Al K H' es σ
  | _, _, .nil => .nil
  | e :: _, _, .cons h t => .cons (by
      cases e with
      | no => trivial
      | dat d => obtain ⟨v, e, q⟩ := h; exact ⟨v, e, Dp.keep hl ht _ _ q⟩
      | raw v => exact h) (Al.keep hl ht t)
theorem Al.same (e : Same H H') (h : Al K H es σ) : Al K H' es σ := Al.keep (.same e) (.same e) h
theorem Al.keepT (ht : TKp K H H') : ∀ {es : List Slot} {σ : St}, es.all flatE = true → Al K H es σ → Al K H' es σ
  | _, _, _, .nil => .nil
  | e :: _, _, f, .cons h t => by
    simp only [List.all_cons, Bool.and_eq_true] at f
    refine .cons ?_ (Al.keepT ht f.2 t)
    cases e with
    | no => trivial
    | dat d => obtain ⟨v, e, q⟩ := h; exact ⟨v, e, Dp.keepT ht _ _ f.1 q⟩
    | raw v => exact h
theorem Al.get : ∀ {es : List Slot} {σ : St} {i : Nat} {d : PyData}, Al K H es σ → es[i]? = some (.dat d) → ∃ v, σ[i]? = some (some v) ∧ Dp K H v d
  | _, _, _, _, .nil, e => by simp at e
  | _, _, 0, _, .cons h _, e => by
    simp at e; subst e
    obtain ⟨v, e, q⟩ := h
    exact ⟨v, by simp [e], q⟩
  | _, _, i + 1, d, .cons _ t, e => by
    obtain ⟨v, h1, h2⟩ := Al.get (i := i) (d := d) t (by simpa using e)
    exact ⟨v, by simpa using h1, h2⟩
theorem Al.getR : ∀ {es : List Slot} {σ : St} {i : Nat} {v : V}, Al K H es σ → es[i]? = some (.raw v) → σ[i]? = some (some v)
  | _, _, _, _, .nil, e => by simp at e
  | _, _, 0, _, .cons h _, e => by
    simp at e; subst e
    have h' : _ = some _ := h
    simp [h']
  | _, _, i + 1, v, .cons _ t, e => by
    have h1 := Al.getR (i := i) (v := v) t (by simpa using e)
    simpa using h1
theorem Al.set {e : Slot} {o : Option V} (h : SlotOk K H e o) : ∀ {es : List Slot} {σ : St} (i : Nat), Al K H es σ → Al K H (es.set i e) (σ.set i o)
  | _, _, _, .nil => .nil
  | _, _, 0, .cons _ t => .cons h t
  | _, _, i + 1, .cons q t => .cons q (Al.set h i t)
theorem Al.put {d : PyData} {v : V} (q : Dp K H v d) (i : Nat) (h : Al K H es σ) : Al K H (es.set i (.dat d)) (σ.set i (some v)) := Al.set (e := .dat d) ⟨v, rfl, q⟩ i h
theorem Al.putR {v : V} (i : Nat) (h : Al K H es σ) : Al K H (es.set i (.raw v)) (σ.set i (some v)) := Al.set (e := .raw v) rfl i h
theorem Al.no : ∀ (n : Nat), Al K H (List.replicate n .no) (List.replicate n none)
  | 0 => .nil
  | n + 1 => .cons trivial (Al.no n)
theorem Al.start {vs : List V} {ds : List PyData} (h : DpAll K H vs ds) : ∀ {n : Nat}, Al K H (ds.map .dat ++ List.replicate n .no) (vs.map some ++ List.replicate n none) := by
  intro n
  induction ds generalizing vs with
  | nil => cases h; exact Al.no n
  | cons d ds ih =>
    cases h with
    | cons h1 h2 => exact .cons ⟨_, rfl, h1⟩ (ih h2)
/-- a comprehension's own slots -/
def wipeE (es : List Slot) : List Nat → List Slot
  | [] => es
  | v :: vs => (wipeE es vs).set v .no
theorem Al.wipe (h : Al K H es σ) : ∀ vs : List Nat, Al K H (wipeE es vs) (wipe σ vs)
  | [] => h
  | v :: vs => Al.set (e := .no) trivial v (Al.wipe h vs)
/-- a slot forgotten -/
theorem Al.weak : ∀ {es es' : List Slot} {σ : St}, Al K H es σ → es'.length = es.length → (∀ (i : Nat) e, es'[i]? = some e → e = .no ∨ es[i]? = some e) → Al K H es' σ
  | [], [], _, .nil, _, _ => .nil
  | [], _ :: _, _, _, l, _ => by simp at l
  | _ :: _, [], _, _, l, _ => by simp at l
  | e :: es, e' :: es', _, .cons h t, l, w => .cons (by
      rcases w 0 e' rfl with q | q
      · rw [q]; trivial
      · simp at q; rw [← q]; exact h) (Al.weak t (by simpa using l) fun i x q => by
        have := w (i + 1) x (by simpa using q)
        simpa using this)
end

/-! ### what a reading gives -/
def Evd (K : PySem.W.Frag) (te : TE) (σ : St) (H : Hp) (d : PyData) : Prop := ∀ H1, Same H H1 → ∀ Q : VK, (∀ v H2, Same H1 H2 → Dp K H2 v d → Q v H2) → te σ H1 Q
def EvT (tt : TT) (σ : St) (H : Hp) (b : Bool) : Prop := ∀ H1, Same H H1 → ∀ Q : Bool → Hp → Prop, (∀ H2, Same H1 H2 → Q b H2) → tt σ H1 Q
def EvA (K : PySem.W.Frag) (ta : TA) (σ : St) (H : Hp) (ds : List PyData) : Prop := ∀ H1, Same H H1 → ∀ Q : List V → Hp → Prop, (∀ vs H2, Same H1 H2 → DpAll K H2 vs ds → Q vs H2) → ta σ H1 Q
/-- a reading that gives this very value -/
def Evr (te : TE) (σ : St) (H : Hp) (v : V) : Prop := ∀ H1, Same H H1 → ∀ Q : VK, (∀ H2, Same H1 H2 → Q v H2) → te σ H1 Q
/-- operations on values -/
def RD (K : PySem.W.Frag) (r : R2) (d e z : PyData) : Prop := ∀ x y H, Dp K H x d → Dp K H y e → ∀ Q : VK, (∀ v H2, Same H H2 → Dp K H2 v z → Q v H2) → r x y H Q
def RU (K : PySem.W.Frag) (r : V → Hp → VK → Prop) (d z : PyData) : Prop := ∀ x H, Dp K H x d → ∀ Q : VK, (∀ v H2, Same H H2 → Dp K H2 v z → Q v H2) → r x H Q
def RC (K : PySem.W.Frag) (r : List V → Hp → VK → Prop) (ds : List PyData) (z : PyData) : Prop := ∀ vs H, DpAll K H vs ds → ∀ Q : VK, (∀ v H2, Same H H2 → Dp K H2 v z → Q v H2) → r vs H Q
/-- a def that makes data of data -/
def PureSp (K : PySem.W.Frag) (R : List PyData → PyData → Prop) : Sp := fun vs H Q _ => ∃ ds r, DpAll K H vs ds ∧ R ds r ∧ ∀ v H', Same H H' → Dp K H' v r → Q v H'

section
variable {K : PySem.W.Frag} {σ : St} {H H' : Hp} {ta tb tc te : TE} {t u : TT} {d e z : PyData} {es : List Slot} {r : R2} {v : V}
theorem Evd.mono (s : Same H H') (h : Evd K te σ H d) : Evd K te σ H' d := fun H1 a Q q => h H1 (s.trans a) Q q
theorem EvT.mono {b : Bool} (s : Same H H') (h : EvT t σ H b) : EvT t σ H' b := fun H1 a Q q => h H1 (s.trans a) Q q
theorem EvA.mono {tA : TA} {ds : List PyData} (s : Same H H') (h : EvA K tA σ H ds) : EvA K tA σ H' ds := fun H1 a Q q => h H1 (s.trans a) Q q
theorem Evd.is (h : Evd K te σ H d) (q : d = e) : Evd K te σ H e := q ▸ h
theorem EvT.is {b c : Bool} (h : EvT t σ H b) (q : b = c) : EvT t σ H c := q ▸ h

theorem ev_var {i : Nat} (A : Al K H es σ) (h : es[i]? = some (.dat d)) : Evd K (tVar i) σ H d := fun H1 s Q q => by
  obtain ⟨v, e, p⟩ := (A.same s).get h
  exact ⟨v, e, q v H1 (Same.refl _) p⟩
theorem er_var {i : Nat} (A : Al K H es σ) (h : es[i]? = some (.raw v)) : Evr (tVar i) σ H v := fun H1 s Q q => ⟨v, A.getR h, q H1 (Same.refl _)⟩
theorem ev_of (h : Evr te σ H v) (p : Dp K H v d) : Evd K te σ H d := fun H1 s Q q => h H1 s Q fun H2 s2 => q v H2 s2 (Dp.same (s.trans s2) p)
theorem ev_raw {i : Nat} (A : Al K H es σ) (h : es[i]? = some (.raw v)) (p : Dp K H v d) : Evd K (tVar i) σ H d := ev_of (er_var A h) p
theorem ev_int {i : Int} : Evd K (tC (.int i)) σ H (.int i) := fun H1 _ Q q => q _ H1 (Same.refl _) (.int i)
theorem ev_bl {i : Bool} : Evd K (tC (.bl i)) σ H (.bool i) := fun H1 _ Q q => q _ H1 (Same.refl _) (.bl i)
theorem ev_non : Evd K (tC .non) σ H .none := fun H1 _ Q q => q _ H1 (Same.refl _) .non
theorem ev_str {x : Str} : Evd K (tC (.str x)) σ H (.str x) := fun H1 _ Q q => q _ H1 (Same.refl _) (.str x)
theorem ev_ref {a : Addr} (p : Dp K H (.ref a) d) : Evd K (tC (.ref a)) σ H d := fun H1 s Q q => q _ H1 (Same.refl _) (Dp.same s p)
theorem ev_op (ha : Evd K ta σ H d) (hb : Evd K tb σ H e) (hr : RD K r d e z) : Evd K (tOp r ta tb) σ H z := fun H1 s Q q =>
  ha H1 s _ fun x H2 s2 hx => hb H2 (s.trans s2) _ fun y H3 s3 hy => hr x y H3 (Dp.same s3 hx) hy Q fun v H4 s4 hv => q v H4 ((s2.trans s3).trans s4) hv
theorem ev_un {r : V → Hp → VK → Prop} (ha : Evd K ta σ H d) (hr : RU K r d z) : Evd K (tUn r ta) σ H z := fun H1 s Q q =>
  ha H1 s _ fun x H2 s2 hx => hr x H2 hx Q fun v H4 s4 hv => q v H4 (s2.trans s4) hv
theorem ea_nil : EvA K tNil σ H [] := fun H1 _ Q q => q [] H1 (Same.refl _) .nil
theorem ea_cons {tr : TA} {ds : List PyData} (h : Evd K ta σ H d) (hr : EvA K tr σ H ds) : EvA K (tCons ta tr) σ H (d :: ds) := fun H1 s Q q =>
  h H1 s _ fun x H2 s2 hx => hr H2 (s.trans s2) _ fun xs H3 s3 hxs => q (x :: xs) H3 (s2.trans s3) (.cons (Dp.same s3 hx) hxs)
theorem ev_tup {tA : TA} {ds : List PyData} (h : EvA K tA σ H ds) (hl : ds.length ≤ sizeLine := by first | decide | (simp only [List.length_cons, List.length_nil]; decide)) : Evd K (tTup tA) σ H (.tuple ds) := fun H1 s Q q =>
  h H1 s _ fun xs H2 s2 hx => ⟨by rw [hx.length]; exact hl, fun p hp => q _ _ (s2.trans (Same.new hp)) (.tup (.inl (.inl upd_same)) (hx.same (Same.new hp)))⟩
theorem ev_lst {tA : TA} {ds : List PyData} (h : EvA K tA σ H ds) (hl : ds.length ≤ sizeLine := by first | decide | (simp only [List.length_cons, List.length_nil]; decide)) : Evd K (tLst tA) σ H (.list ds) := fun H1 s Q q =>
  h H1 s _ fun xs H2 s2 hx => ⟨by rw [hx.length]; exact hl, fun p hp => q _ _ (s2.trans (Same.new hp)) (.lst (.inl (.inl upd_same)) (hx.same (Same.new hp)))⟩
theorem ev_cb {r : List V → Hp → VK → Prop} {tA : TA} {ds : List PyData} (h : EvA K tA σ H ds) (hr : RC K r ds z) : Evd K (tCB r tA) σ H z := fun H1 s Q q =>
  h H1 s _ fun xs H2 s2 hx => hr xs H2 hx Q fun v H3 s3 hv => q v H3 (s2.trans s3) hv
theorem ev_call {R : List PyData → PyData → Prop} {E : XK} {tA : TA} {ds : List PyData} (h : EvA K tA σ H ds) (hr : R ds z) : Evd K (tCall (PureSp K R) [] E tA) σ H z := fun H1 s Q q =>
  h H1 s _ fun xs H2 s2 hx => ⟨ds, z, by rw [List.append_nil]; exact hx, hr, fun v H3 s3 hv => q v H3 (s2.trans s3) hv⟩
theorem ev_ifT (h : EvT t σ H true) (h1 : Evd K ta σ H d) : Evd K (tIf t ta tb) σ H d := fun H1 s Q q => h H1 s _ fun H2 s2 => iteT (h1 H2 (s.trans s2) Q fun v H3 s3 => q v H3 (s2.trans s3))
theorem ev_ifF (h : EvT t σ H false) (h1 : Evd K tb σ H d) : Evd K (tIf t ta tb) σ H d := fun H1 s Q q => h H1 s _ fun H2 s2 => iteF (h1 H2 (s.trans s2) Q fun v H3 s3 => q v H3 (s2.trans s3))
theorem dp_bl {b : Bool} {x : V} (h : Dp K H x (.bool b)) : x = .bl b := by cases h; rfl
theorem dp_int {i : Int} {x : V} (h : Dp K H x (.int i)) : x = .int i := by cases h; rfl
theorem dp_str {i : Str} {x : V} (h : Dp K H x (.str i)) : x = .str i := by cases h; rfl
theorem dp_non {x : V} (h : Dp K H x .none) : x = .non := by cases h; rfl
theorem ev_andV {b c : Bool} (h1 : Evd K ta σ H (.bool b)) (h2 : b = true → Evd K tb σ H (.bool c)) : Evd K (tAndV ta tb) σ H (.bool (b && c)) := fun H1 s Q q => h1 H1 s _ fun x H2 s2 hx => ⟨b, dp_bl hx, by
  cases b with
  | true => exact iteT (h2 rfl H2 (s.trans s2) Q fun v H3 s3 hv => q v H3 (s2.trans s3) hv)
  | false => exact iteF (q _ H2 s2 (.bl false))⟩
theorem ev_orV {b c : Bool} (h1 : Evd K ta σ H (.bool b)) (h2 : b = false → Evd K tb σ H (.bool c)) : Evd K (tOrV ta tb) σ H (.bool (b || c)) := fun H1 s Q q => h1 H1 s _ fun x H2 s2 hx => ⟨b, dp_bl hx, by
  cases b with
  | true => exact iteT (q _ H2 s2 (.bl true))
  | false => exact iteF (h2 rfl H2 (s.trans s2) Q fun v H3 s3 hv => q v H3 (s2.trans s3) hv)⟩
theorem ev_notV {b : Bool} (h1 : Evd K ta σ H (.bool b)) : Evd K (tNotV ta) σ H (.bool (!b)) := fun H1 s Q q => h1 H1 s _ fun x H2 s2 hx => ⟨b, dp_bl hx, q _ H2 s2 (.bl _)⟩

/-! tests -/
theorem et_test {b : Bool} (h : Evd K te σ H (.bool b)) : EvT (tTest te) σ H b := fun H1 s Q q => h H1 s _ fun x H2 s2 hx => ⟨b, dp_bl hx, q H2 s2⟩
theorem et_B {b : Bool} (h : Evd K te σ H (.bool b)) : EvT (tB te) σ H b := fun H1 s Q q => h H1 s _ fun x H2 s2 hx => ⟨b, dp_bl hx, q H2 s2⟩
theorem et_and {a b : Bool} (h1 : EvT t σ H a) (h2 : a = true → EvT u σ H b) : EvT (tAnd t u) σ H (a && b) := fun H1 s Q q => h1 H1 s _ fun H2 s2 => by
  cases a with
  | true => exact iteT (h2 rfl H2 (s.trans s2) Q fun H3 s3 => q H3 (s2.trans s3))
  | false => exact iteF (q H2 s2)
theorem et_or {a b : Bool} (h1 : EvT t σ H a) (h2 : a = false → EvT u σ H b) : EvT (tOr t u) σ H (a || b) := fun H1 s Q q => h1 H1 s _ fun H2 s2 => by
  cases a with
  | true => exact iteT (q H2 s2)
  | false => exact iteF (h2 rfl H2 (s.trans s2) Q fun H3 s3 => q H3 (s2.trans s3))
theorem et_not {a : Bool} (h1 : EvT t σ H a) : EvT (tNot t) σ H (!a) := fun H1 s Q q => h1 H1 s _ fun H2 s2 => q H2 s2
/-- the truth of a list -/
theorem et_list {ds : List PyData} (h : Evd K te σ H (.list ds)) : EvT (fun σ H Q => te σ H fun x H' => ∃ k, TruV K x H' k ∧ Q k H') σ H (!ds.isEmpty) := fun H1 s Q q => h H1 s _ fun x H2 s2 hx => by
  cases hx with
  | lst hs ha =>
    refine ⟨_, .inl ⟨_, hs, rfl⟩, ?_⟩
    have e : ∀ {xs : List V}, DpAll K H2 xs ds → xs.isEmpty = ds.isEmpty := fun h => by cases h <;> rfl
    rw [e ha]
    exact q H2 s2
theorem ev_isN {b : Bool} (h : Evd K te σ H d) (hb : (match d with | .none => true | _ => false) = b) : Evd K (tIsN te) σ H (.bool b) := fun H1 s Q q => h H1 s _ fun x H2 s2 hx => by
  have e : decide (x = .non) = b := by subst hb; cases hx <;> rfl
  rw [e]
  exact q _ H2 s2 (.bl _)

/-! operations -/
theorem rd_I0 {g : Int → Int → Int} {i j : Int} : RD K (rI0 fun i j => .int (g i j)) (.int i) (.int j) (.int (g i j)) := fun x y H hx hy Q q => ⟨i, j, dp_int hx, dp_int hy, q _ H (Same.refl _) (.int _)⟩
theorem rd_B0 {g : Int → Int → Bool} {i j : Int} : RD K (rI0 fun i j => .bl (g i j)) (.int i) (.int j) (.bool (g i j)) := fun x y H hx hy Q q => ⟨i, j, dp_int hx, dp_int hy, q _ H (Same.refl _) (.bl _)⟩
theorem rd_I {C : Int → Int → Prop} {g : Int → Int → Int} {i j : Int} (hc : C i j) : RD K (rI C fun i j => .int (g i j)) (.int i) (.int j) (.int (g i j)) := fun x y H hx hy Q q => ⟨i, j, dp_int hx, dp_int hy, hc, q _ H (Same.refl _) (.int _)⟩
theorem ru_U {g : Int → Int} {i : Int} : RU K (rU fun i => .int (g i)) (.int i) (.int (g i)) := fun x H hx Q q => ⟨i, dp_int hx, q _ H (Same.refl _) (.int _)⟩
theorem rd_ixT {ds : List PyData} {i : Int} (h : atI ds i = some z) : RD K (rIxT K) (.tuple ds) (.int i) z := fun x y H hx hy Q q => by
  cases hx with
  | @tup a xs _ hs ha =>
    have hl := ha.length
    obtain ⟨v, hv, pv⟩ : ∃ v, atI xs i = some v ∧ Dp K H v z := by
      unfold atI at h ⊢
      rw [hl]
      obtain ⟨j, hj, hz⟩ := Option.bind_eq_some_iff.mp h
      obtain ⟨v, e, p⟩ := ha.get' hz
      exact ⟨v, by rw [hj]; exact e, p⟩
    exact ⟨a, xs, i, v, rfl, dp_int hy, hs, hv, q _ H (Same.refl _) pv⟩
theorem rd_ixL {ds : List PyData} {i : Int} (h : atI ds i = some z) : RD K (rIxL K) (.list ds) (.int i) z := fun x y H hx hy Q q => by
  cases hx with
  | @lst a xs _ hs ha =>
    have hl := ha.length
    obtain ⟨v, hv, pv⟩ : ∃ v, atI xs i = some v ∧ Dp K H v z := by
      unfold atI at h ⊢
      rw [hl]
      obtain ⟨j, hj, hz⟩ := Option.bind_eq_some_iff.mp h
      obtain ⟨v, e, p⟩ := ha.get' hz
      exact ⟨v, by rw [hj]; exact e, p⟩
    exact ⟨a, xs, i, v, rfl, dp_int hy, hs, hv, q _ H (Same.refl _) pv⟩
theorem rd_eq {b : Bool} (sd : SeqAt.shaped d = true) (se : SeqAt.shaped e = true) (h : PyData.eqv d e = b) : RD K (rEqD K) d e (.bool b) := fun x y H hx hy Q q => ⟨d, e, hx, hy, sd, se, by rw [h]; exact q _ H (Same.refl _) (.bl _)⟩
theorem rd_ne {b : Bool} (sd : SeqAt.shaped d = true) (se : SeqAt.shaped e = true) (h : (!PyData.eqv d e) = b) : RD K (rNeD K) d e (.bool b) := fun x y H hx hy Q q => ⟨d, e, hx, hy, sd, se, by rw [h]; exact q _ H (Same.refl _) (.bl _)⟩
theorem rd_inL {ds : List PyData} {b : Bool} (sd : SeqAt.shaped d = true) (se : SeqAt.shaped (.list ds) = true) (h : (ds.any fun z => PyData.eqv z d) = b) : RD K (rInD K) d (.list ds) (.bool b) := fun x y H hx hy Q q => ⟨d, ds, hx, hy, sd, se, by rw [h]; exact q _ H (Same.refl _) (.bl _)⟩
/-- list + list, read only -/
def rCatL (K : PySem.W.Frag) : R2 := fun x y H Q => ∃ a b xs ys, x = .ref a ∧ y = .ref b ∧ SqL K H a xs ∧ SqL K H b ys ∧ xs.length + ys.length ≤ sizeLine ∧ ∀ p, H p = none → Q (.ref p) (upd H p (.lst (xs ++ ys)))
theorem op_catL {X : Cx} : OpR X (binaryOp .Add) (rCatL X.K) := by
  intro pins s σ H x y v u Q I rx ry h
  obtain ⟨a, b, xs, ys, rfl, rfl, ha, hb, hz, q⟩ := h
  cases rx
  cases ry
  obtain ⟨is, r1, ⟨⟨c1, d1, t1, l1⟩, n1, g1, e1, e2, e3⟩, z1⟩ := I.list ha
  obtain ⟨js, r2, ⟨⟨c2, d2, t2, l2⟩, n2, g2, f1, f2, f3⟩, z2⟩ := I.list hb
  simp only at e1 e2 e3 f1 f2 f3
  subst e1 e2 e3 f1 f2 f3
  have h1 := r1.length
  have h2 := r2.length
  have e : is.toArray ++ js.toArray = (is ++ js).toArray := by simp
  have hs : is.toArray.size + js.toArray.size ≤ sizeLine := by simp only [List.size_toArray]; omega
  refine concat_meets ⟨_, g1, rfl⟩ ⟨_, g2, rfl⟩ noFill_list_add seq_list_add PySem.F.slot_list_add PySem.F.entry_list_add
    (PySem.F.args_list_add_2 _ _) (list_addW a b _ _ n1 n2 _ _ l1 l2 hs) ⟨g1, g2, ?_⟩
  rw [e]
  exact ⟨.ref _, _, I.lnew (t' := s.toks) (r1.append r2) (by rw [List.length_append]; omega), rfl, q _ I.fresh⟩
theorem rd_catL {ds es : List PyData} (hl : ds.length + es.length ≤ sizeLine) : RD K (rCatL K) (.list ds) (.list es) (.list (ds ++ es)) := fun x y H hx hy Q q => by
  cases hx with
  | @lst a xs _ hs ha =>
    cases hy with
    | @lst b ys _ hs' ha' =>
      exact ⟨a, b, xs, ys, rfl, rfl, hs, hs', by rw [ha.length, ha'.length]; exact hl, fun p hp => q _ _ (Same.new hp) (.lst (.inl (.inl upd_same)) ((ha.append ha').same (Same.new hp)))⟩
theorem rd_catT {ds es : List PyData} (hl : ds.length + es.length ≤ sizeLine) (h0 : ds ≠ []) (h1 : es ≠ []) : RD K (rCatT K) (.tuple ds) (.tuple es) (.tuple (ds ++ es)) := fun x y H hx hy Q q => by
  cases hx with
  | @tup a xs _ hs ha =>
    cases hy with
    | @tup b ys _ hs' ha' =>
      refine ⟨a, b, xs, ys, rfl, rfl, hs, hs', fun z => ?_, by rw [ha.length, ha'.length]; exact hl, ?_⟩
      · subst z; cases ha; exact h0 rfl
      · exact ⟨fun z => by subst z; cases ha'; exact absurd rfl h1, fun _ p hp => q _ _ (Same.new hp) (.tup (.inl (.inl upd_same)) ((ha.append ha').same (Same.new hp)))⟩
/-! calls of built-ins -/
theorem rc_len {ds : List PyData} : RC K (fun xs H Q => ∃ p ys, xs = [.ref p] ∧ (SqL K H p ys ∨ SqT K H p ys) ∧ Q (.int ys.length) H) [.list ds] (.int ds.length) := fun vs H hv Q q => by
  cases hv with
  | cons h1 h2 =>
    cases h2
    cases h1 with
    | @lst a xs _ hs ha => exact ⟨a, xs, rfl, .inl hs, by rw [ha.length]; exact q _ H (Same.refl _) (.int _)⟩
theorem rc_lenT {ds : List PyData} : RC K (fun xs H Q => ∃ p ys, xs = [.ref p] ∧ (SqL K H p ys ∨ SqT K H p ys) ∧ Q (.int ys.length) H) [.tuple ds] (.int ds.length) := fun vs H hv Q q => by
  cases hv with
  | cons h1 h2 =>
    cases h2
    cases h1 with
    | @tup a xs _ hs ha => exact ⟨a, xs, rfl, .inr hs, by rw [ha.length]; exact q _ H (Same.refl _) (.int _)⟩
theorem rc_tup {ds : List PyData} : RC K (fun xs H Q => ∃ p ys, xs = [.ref p] ∧ ((SqL K H p ys ∧ ∀ l, H l = none → Q (.ref l) (upd H l (.tup ys))) ∨ (SqT K H p ys ∧ Q (.ref p) H))) [.list ds] (.tuple ds) := fun vs H hv Q q => by
  cases hv with
  | cons h1 h2 =>
    cases h2
    cases h1 with
    | @lst a xs _ hs ha => exact ⟨a, xs, rfl, .inl ⟨hs, fun l hl => q _ _ (Same.new hl) (.tup (.inl (.inl upd_same)) (ha.same (Same.new hl)))⟩⟩
theorem rc_abs {i : Int} : RC K (fun xs H Q => ∃ i, xs = [.int i] ∧ Q (.int (if i < 0 then -i else i)) H) [.int i] (.int (if i < 0 then -i else i)) := fun vs H hv Q q => by
  cases hv with
  | cons h1 h2 => cases h2; cases h1; exact ⟨i, rfl, q _ H (Same.refl _) (.int _)⟩
theorem rc_int {i : Int} : RC K (fun xs H Q => (∃ i, xs = [.int i] ∧ Q (.int i) H) ∨ ∃ k, xs = [.bl k] ∧ Q (.int (if k then 1 else 0)) H) [.int i] (.int i) := fun vs H hv Q q => by
  cases hv with
  | cons h1 h2 => cases h2; cases h1; exact .inl ⟨i, rfl, q _ H (Same.refl _) (.int _)⟩
theorem rc_min {ns : List Int} {m : Int} (h0 : 0 < ns.length) (hm : m ∈ ns) (hle : ∀ y ∈ ns, m ≤ y) : RC K (rMin K) [.list (ns.map .int)] (.int m) := fun vs H hv Q q => by
  cases hv with
  | cons h1 h2 =>
    cases h2
    cases h1 with
    | @lst a xs _ hs ha =>
      rw [ha.ints] at hs
      refine ⟨a, ns, rfl, hs, h0, fun m' hm' hle' => ?_⟩
      have e : m' = m := Int.le_antisymm (hle' m hm) (hle m' hm')
      rw [e]
      exact q _ H (Same.refl _) (.int _)
theorem rc_max {ns : List Int} {m : Int} (h0 : 0 < ns.length) (hm : m ∈ ns) (hle : ∀ y ∈ ns, y ≤ m) : RC K (rMax K) [.list (ns.map .int)] (.int m) := fun vs H hv Q q => by
  cases hv with
  | cons h1 h2 =>
    cases h2
    cases h1 with
    | @lst a xs _ hs ha =>
      rw [ha.ints] at hs
      refine ⟨a, ns, rfl, hs, h0, fun m' hm' hle' => ?_⟩
      have e : m' = m := Int.le_antisymm (hle m' hm') (hle' m hm)
      rw [e]
      exact q _ H (Same.refl _) (.int _)
end

/-! ### statements -/
section
variable {K : PySem.W.Frag} {σ : St} {H : Hp} {te : TE} {tc : TT} {t u : TS} {D : Ends} {d : PyData} {es : List Slot}
theorem st_set {i : Nat} (h : Evd K te σ H d) (q : ∀ v H1, Same H H1 → Dp K H1 v d → D.nx (σ.set i (some v)) H1) : tAsg te (gName i) D σ H := h H (Same.refl _) _ q
theorem st_ret (h : Evd K te σ H d) (q : ∀ v H1, Same H H1 → Dp K H1 v d → D.rt v H1) : tRet te D σ H := h H (Same.refl _) _ q
theorem st_drop (h : Evd K te σ H d) (q : ∀ H1, Same H H1 → D.nx σ H1) : tDrop te D σ H := h H (Same.refl _) _ fun _ H1 s _ => q H1 s
theorem st_if {b : Bool} (h : EvT tc σ H b) (h1 : b = true → ∀ H1, Same H H1 → t D σ H1) (h2 : b = false → ∀ H1, Same H H1 → u D σ H1) : tIfS tc t u D σ H := h H (Same.refl _) _ fun H1 s => by
  cases b with
  | true => exact iteT (h1 rfl H1 s)
  | false => exact iteF (h2 rfl H1 s)
theorem st_ifF (h : EvT tc σ H false) (h2 : ∀ H1, Same H H1 → u D σ H1) : tIfS tc t u D σ H := st_if h (fun z => nomatch z) fun _ => h2
theorem st_ifT (h : EvT tc σ H true) (h1 : ∀ H1, Same H H1 → t D σ H1) : tIfS tc t u D σ H := st_if h (fun _ => h1) fun z => nomatch z
/-- a, b = a pair -/
theorem g_pair {i j : Nat} {v : V} {d1 d2 : PyData} {Q : St → Hp → Prop} (h : Dp K H v (.tuple [d1, d2])) (q : ∀ x y, Dp K H x d1 → Dp K H y d2 → Q ((σ.set i (some x)).set j (some y)) H) : gTup K 2 (gCons (gName i) (gCons (gName j) gNil)) v σ H Q := by
  cases h with
  | @tup a xs _ hs ha =>
    cases ha with
    | cons h1 h2 =>
      cases h2 with
      | cons h2 h3 =>
        cases h3
        exact ⟨a, _, rfl, hs, rfl, _, _, rfl, _, _, rfl, rfl, q _ _ h1 h2⟩
theorem st_pair {i j : Nat} {d1 d2 : PyData} (h : Evd K te σ H (.tuple [d1, d2])) (q : ∀ x y H1, Same H H1 → Dp K H1 x d1 → Dp K H1 y d2 → D.nx ((σ.set i (some x)).set j (some y)) H1) : tAsg te (gTup K 2 (gCons (gName i) (gCons (gName j) gNil))) D σ H :=
  h H (Same.refl _) _ fun v H1 s hv => g_pair hv fun x y hx hy => q x y H1 s hx hy
/-- a, b = x, y (locals) -/
theorem st_par {i j : Nat} {ta : TA} {d1 d2 : PyData} (h : EvA K ta σ H [d1, d2]) (q : ∀ x y H1, Same H H1 → Dp K H1 x d1 → Dp K H1 y d2 → D.nx ((σ.set i (some x)).set j (some y)) H1) : tPar i j ta D σ H :=
  h H (Same.refl _) _ fun vs H1 s hv => by
    cases hv with
    | cons h1 h2 =>
      cases h2 with
      | cons h2 h3 => cases h3; exact ⟨_, _, rfl, q _ _ H1 s h1 h2⟩
end
end Z
set_option Elab.async false
set_option linter.all false
set_option maxRecDepth 100000
set_option maxHeartbeats 1000000
/-! ZB: rules for data: in, not in over tuples and lists; <, >; sorted; list comprehensions that give flat data. -/
namespace Z
open PySem PySem.Spec L2
open PyProof.Rows hiding St

theorem vals_length {xs : List V} {us : List Value} (r : Vals xs us) : us.length = xs.length := r.length.symm
section
variable {X : Cx}
/-! ### in a tuple -/
def rInT (K : PySem.W.Frag) : R2 := fun x y H Q => ∃ d ds, Dp K H x d ∧ Dp K H y (.tuple ds) ∧ SeqAt.shaped d = true ∧ SeqAt.shaped (.tuple ds) = true ∧ Q (.bl (ds.any fun z => PyData.eqv z d)) H
def rNotInT (K : PySem.W.Frag) : R2 := fun x y H Q => ∃ d ds, Dp K H x d ∧ Dp K H y (.tuple ds) ∧ SeqAt.shaped d = true ∧ SeqAt.shaped (.tuple ds) = true ∧ Q (.bl (!ds.any fun z => PyData.eqv z d)) H
theorem op_inT (hu : X.A.units + 65 < cLine) : OpR X (compareOp .In) (rInT X.K) := fun pins s σ H x y v u Q I rx ry ⟨d, ds, hd, he, sd, se, q⟩ => by
  obtain ⟨as, ra⟩ := Dp.reads I d x v hd rx
  obtain ⟨bs, rb⟩ := Dp.reads I (.tuple ds) y u he ry
  exact SeqAt.in_tuple_reads rb ra (SeqAt.canLay_of_shaped se) (SeqAt.canLay_of_shaped sd) (room_in_shaped sd hu) ⟨.bl _, H, I, rfl, q⟩
theorem op_notInT (hu : X.A.units + 65 < cLine) : OpR X (compareOp .NotIn) (rNotInT X.K) := fun pins s σ H x y v u Q I rx ry ⟨d, ds, hd, he, sd, se, q⟩ => by
  obtain ⟨as, ra⟩ := Dp.reads I d x v hd rx
  obtain ⟨bs, rb⟩ := Dp.reads I (.tuple ds) y u he ry
  exact SeqAt.notIn_tuple_reads rb ra (SeqAt.canLay_of_shaped se) (SeqAt.canLay_of_shaped sd) (room_in_shaped sd hu) ⟨.bl _, H, I, rfl, q⟩
/-! ### order -/
def rGtD (K : PySem.W.Frag) : R2 := fun x y H Q => ∃ d e, Dp K H x d ∧ Dp K H y e ∧ PySem.W.alike d e = true ∧ d ≠ .none ∧ d.depth ≤ 8 ∧ Q (.bl (PySem.W.dataLt e d)) H
theorem op_gtD (hu : X.A.units + 64 < cLine) : OpR X (compareOp .Gt) (rGtD X.K) := fun pins s σ H x y v u Q I rx ry ⟨d, e, hd, he, al, hn, dp, q⟩ => by
  obtain ⟨as, ra⟩ := Dp.reads I d x v hd rx
  obtain ⟨bs, rb⟩ := Dp.reads I e y u he ry
  refine PySem.W.gt_data ra rb al hn ?_ ⟨.bl _, H, I, rfl, q⟩
  have := Nat.min_le_left d.depth e.depth
  omega
end
section
variable {K : PySem.W.Frag} {d e z : PyData}
theorem rd_inT {ds : List PyData} {b : Bool} (sd : SeqAt.shaped d = true) (se : SeqAt.shaped (.tuple ds) = true) (h : (ds.any fun z => PyData.eqv z d) = b) : RD K (rInT K) d (.tuple ds) (.bool b) := fun x y H hx hy Q q => ⟨d, ds, hx, hy, sd, se, by rw [h]; exact q _ H (Same.refl _) (.bl _)⟩
theorem rd_notInT {ds : List PyData} {b : Bool} (sd : SeqAt.shaped d = true) (se : SeqAt.shaped (.tuple ds) = true) (h : (!ds.any fun z => PyData.eqv z d) = b) : RD K (rNotInT K) d (.tuple ds) (.bool b) := fun x y H hx hy Q q => ⟨d, ds, hx, hy, sd, se, by rw [h]; exact q _ H (Same.refl _) (.bl _)⟩
theorem rd_gt {b : Bool} (al : PySem.W.alike d e = true) (hn : d ≠ .none) (dp : d.depth ≤ 8) (h : PySem.W.dataLt e d = b) : RD K (rGtD K) d e (.bool b) := fun x y H hx hy Q q => ⟨d, e, hx, hy, al, hn, dp, by rw [h]; exact q _ H (Same.refl _) (.bl _)⟩
end

/-! ### sorted(list of data) -/
def sortD (ds : List PyData) : List PyData := ds.mergeSort (PySem.W.dataLe false fun d => d)
def rSortD (K : PySem.W.Frag) : List V → Hp → VK → Prop := fun vs H Q => ∃ a ds, vs = [V.ref a] ∧ Dp K H (.ref a) (.list ds) ∧ PySem.W.AllAlike ds ∧ PySem.W.Sortable ds ∧ (∀ d ∈ ds, d.depth ≤ 8) ∧
  ∀ p ys, H p = none → DpAll K H ys (sortD ds) → Q (.ref p) (upd H p (.lst ys))
/-- values that stand for data, by the abstract ones -/
def Std (K : PySem.W.Frag) (H : Hp) (u : Value) (d : PyData) : Prop := ∃ x, RelV x u ∧ Dp K H x d
theorem std_each {K : PySem.W.Frag} {H : Hp} : ∀ {xs : List V} {us : List Value} {ds : List PyData}, Vals xs us → DpAll K H xs ds → PySem.W.EachIs (Std K H) us ds
  | _, _, _, .nil, .nil => .nil
  | _, _, _, .cons r t, .cons p q => .cons ⟨_, r, p⟩ (std_each t q)
theorem of_each {K : PySem.W.Frag} {H : Hp} : ∀ {us : List Value} {ds : List PyData}, PySem.W.EachIs (Std K H) us ds → ∃ xs, Vals xs us ∧ DpAll K H xs ds
  | _, _, .nil => ⟨[], .nil, .nil⟩
  | _, _, .cons ⟨x, r, p⟩ t => by
    obtain ⟨xs, h1, h2⟩ := of_each t
    exact ⟨x :: xs, .cons r h1, .cons p h2⟩
theorem std_reads {X : Cx} {pins : List (Addr × Obj)} {σ : St} {H : Hp} {s : Shared} (I : Inv X pins σ H s) : ∀ {us : List Value} {ds : List PyData}, PySem.W.EachIs (Std X.K H) us ds → PySem.W.EachIs (fun v d => ∃ as, Reads s.heap v d as) us ds
  | _, _, .nil => .nil
  | _, _, .cons ⟨x, r, p⟩ t => .cons (Dp.reads I _ _ _ p r) (std_reads I t)
section
variable {X : Cx}
theorem cr_sortD (hu : X.A.units + 64 < cLine) : CallR X (.builtin "sorted") (rSortD X.K) := by
  intro pins s σ H vs us Q I r h
  obtain ⟨a, ds, rfl, hd, al, so, dp, q⟩ := h
  cases hd with
  | @lst _ xs _ hs ha =>
    obtain ⟨its, rv, hl, hz⟩ := I.list hs
    obtain ⟨u, rfl, ru⟩ := vals1 r
    obtain rfl : u = Value.ref a := ru
    have e := std_each rv ha
    have hlen := ha.length
    have idm : ds.map (fun d => d) = ds := List.map_id' ds
    refine PySem.W.sorted_data (R := Std X.K H) (enc := fun d => d) hl.isList e (std_reads I e) (by rw [idm]; exact al) (by rw [idm]; exact so) (by omega) (fun d hd => ?_) fun out ho eo => ?_
    · have := dp d hd
      omega
    · obtain ⟨ys, h1, h2⟩ := of_each eo
      obtain ⟨c, hc⟩ := sortedAll_at s.heap its out.toArray
      have hn : H (s.heap.objs.size + 1) = none := I.hok.fresh (Nat.le_succ _)
      refine ⟨.ref (s.heap.objs.size + 1), upd H (s.heap.objs.size + 1) (.lst ys), I.laid (t' := s.toks) (fun b o e => sortedAll_old e) (Nat.le_succ _) ⟨?_, out, c, h1, hc⟩, rfl, q _ ys hn h2⟩
      rw [h1.length, ho]
      omega
end
theorem rc_sortD {K : PySem.W.Frag} {ds : List PyData} (al : PySem.W.AllAlike ds) (so : PySem.W.Sortable ds) (dp : ∀ d ∈ ds, d.depth ≤ 8) : RC K (rSortD K) [.list ds] (.list (sortD ds)) := fun vs H hv Q q => by
  cases hv with
  | cons h1 h2 =>
    cases h2
    cases h1 with
    | @lst a xs _ hs ha => exact ⟨a, ds, rfl, .lst hs ha, al, so, dp, fun p ys hp hy => q _ _ (Same.new hp) (.lst (.inl (.inl upd_same)) (hy.same (Same.new hp)))⟩

/-! ### what is walked -/
/-- a list, a tuple of data -/
def EvL (K : PySem.W.Frag) (te : TE) (σ : St) (H : Hp) (ds : List PyData) : Prop := Evd K te σ H (.list ds)

/-! ### list comprehensions -/
section
variable {K : PySem.W.Frag} {σ : St} {H : Hp} {te tl : TE} {g : TG} {tt : TT} {vs : List Nat}
/-- one turn: from the item v of x, the block's slots σ2, its test, its element -/
def Turn1 (K : PySem.W.Frag) (g : TG) (tt : TT) (te : TE) (vs : List Nat) (σ : St) (H : Hp) (d : PyData) (b : Bool) (e : PyData) : Prop :=
  ∀ v H1, Same H H1 → Dp K H1 v d → ∃ σ2, wipe σ2 vs = wipe σ vs ∧ (∀ Q : St → Hp → Prop, Q σ2 H1 → g v (wipe σ vs) H1 Q) ∧ EvT tt σ2 H1 b ∧ (b = true → Evd K te σ2 H1 e)
/-- the rows (item, kept?, element) of a comprehension -/
def kept (rows : List (PyData × Bool × PyData)) : List PyData := (rows.filter (·.2.1)).map (·.2.2)
theorem kept_nil : kept [] = [] := rfl
theorem kept_snoc (rs : List (PyData × Bool × PyData)) (r : PyData × Bool × PyData) : kept (rs ++ [r]) = kept rs ++ (if r.2.1 = true then [r.2.2] else []) := by
  unfold kept
  rw [List.filter_append, List.map_append]
  by_cases h : r.2.1 = true
  · rw [if_pos h]; simp [h]
  · rw [if_neg h]; simp [h]
theorem kept_le (rs : List (PyData × Bool × PyData)) : (kept rs).length ≤ rs.length := by
  unfold kept
  rw [List.length_map]
  exact List.length_filter_le _ _
theorem flat_kept {rs : List (PyData × Bool × PyData)} (h : ∀ r ∈ rs, flat r.2.2 = true) : flatAll (kept rs) = true := flatAll_mem fun d hd => by
  obtain ⟨r, hr, rfl⟩ := List.mem_map.mp hd
  exact h r (List.mem_filter.mp hr).1
/-- the loop, over anything that goes through the items and stays -/
theorem lc_rows (J : It) (rows : List (PyData × Bool × PyData)) (hlen : rows.length < sizeLine) (hf : ∀ r ∈ rows, flat r.2.2 = true) {H1 : Hp}
    (hJ : ∀ H2, Same H1 H2 → (∀ i, i < rows.length → J.go i H2) ∧ J.stop rows.length H2 ∧ ∀ i x H', J.yld i H2 x H' → ∀ r, rows[i]? = some r → Same H2 H' ∧ Dp K H' x r.1 ∧ TKp K H2 H' ∧ ∀ a o, H2 a = some o → H' a = some o)
    (ht : ∀ r ∈ rows, Turn1 K g tt te vs σ H1 r.1 r.2.1 r.2.2) {Q : VK} (q : ∀ p xs H2, H1 p = none → Same H1 H2 → H2 p = some (.lst xs) → DpAll K H2 xs (kept rows) → Q (.ref p) H2) :
    ∀ D, H1 D = none → ∃ W : Nat → Nat → Hp → Prop, (∃ m, W 0 m (upd H1 D (.lst []))) ∧ ∀ i m H, W i m H →
      (J.stop i H ∧ Q (.ref D) H) ∨ (J.go i H ∧ ∃ Nx : Hp → Prop, (∀ H', Nx H' → ∃ m', m' < m ∧ W (i + 1) m' H') ∧ ∀ x H', J.yld i H x H' → g x (wipe σ vs) H' fun σ2 H2 => wipe σ2 vs = wipe σ vs ∧ tt σ2 H2 fun b H3 =>
        if b = true then te σ2 H3 fun y H4 => ∃ acc, H4 D = some (.lst acc) ∧ acc.length < sizeLine ∧ Nx (upd H4 D (.lst (acc ++ [y]))) else Nx H3) := by
  intro D hD
  have inv : ∀ {H' : Hp} {acc : List V} {i : Nat}, DpAll K H' acc (kept (rows.take i)) → acc.length < sizeLine := fun {H' acc i} h => by
    rw [h.length]
    exact Nat.lt_of_le_of_lt (kept_le _) (Nat.lt_of_le_of_lt (List.length_take_le' ..) hlen)
  refine ⟨fun i m H => i + m = rows.length ∧ Same H1 H ∧ ∃ acc, H D = some (.lst acc) ∧ DpAll K H acc (kept (rows.take i)), ⟨rows.length, by omega, Same.new hD, [], upd_same, .nil⟩, ?_⟩
  rintro i m H ⟨em, sm, acc, hacc, hdp⟩
  obtain ⟨go, stop, yl⟩ := hJ H sm
  by_cases hi : i < rows.length
  · refine .inr ⟨go i hi, fun H' => Same H1 H' ∧ ∃ acc, H' D = some (.lst acc) ∧ DpAll K H' acc (kept (rows.take (i + 1))), fun H' ⟨a, b⟩ => ⟨m - 1, by omega, by omega, a, b⟩, fun x H' hy => ?_⟩
    obtain ⟨r, hr⟩ : ∃ r, rows[i]? = some r := ⟨_, List.getElem?_eq_getElem hi⟩
    have hm : r ∈ rows := List.mem_of_getElem? hr
    obtain ⟨s1, hx, _, keep1⟩ := yl i x H' hy r hr
    obtain ⟨σ2, hw, hg, htt, hte⟩ := ht r hm x H' (sm.trans s1) hx
    have etake : rows.take (i + 1) = rows.take i ++ [r] := by rw [List.take_add_one, hr]; rfl
    have fl : flatAll (kept (rows.take i)) = true := flat_kept fun z hz => hf z (List.mem_of_mem_take hz)
    refine hg _ ⟨hw, htt H' (Same.refl _) _ fun H3 s3 => ?_⟩
    cases hb : r.2.1 with
    | false =>
      refine iteF ⟨(sm.trans s1).trans s3, acc, s3 _ _ (s1 _ _ hacc), ?_⟩
      rw [etake, kept_snoc, hb]
      simp only [Bool.false_eq_true, if_false, List.append_nil]
      exact (hdp.same s1).same s3
    | true =>
      refine iteT (hte hb H3 s3 _ fun y H4 s4 hy4 => ?_)
      have hD4 : H4 D = some (.lst acc) := s4 _ _ (s3 _ _ (s1 _ _ hacc))
      refine ⟨acc, hD4, inv hdp, ?_, acc ++ [y], upd_same, ?_⟩
      · exact Same.mut (((sm.trans s1).trans s3).trans s4) hD
      · rw [etake, kept_snoc, hb]
        simp only [if_true]
        have tk : TKp K H4 (upd H4 D (.lst (acc ++ [y]))) := TKp.upd hD4 rfl
        exact (DpAll.keepT tk _ _ fl (((hdp.same s1).same s3).same s4)).append (.one (Dp.keepT tk _ _ (hf r hm) hy4))
  · have e : i = rows.length := by omega
    subst e
    rw [List.take_length] at hdp
    exact .inl ⟨stop, q D acc H hD sm hacc hdp⟩
/-- over a list -/
theorem evl_list {ds : List PyData} (rows : List (PyData × Bool × PyData)) (hds : rows.map (·.1) = ds) (hlen : rows.length < sizeLine) (hf : ∀ r ∈ rows, flat r.2.2 = true) (hl : Evd K tl σ H (.list ds))
    (ht : ∀ r ∈ rows, Turn1 K g tt te vs σ H r.1 r.2.1 r.2.2) : Evd K (tLc (iList K tl) g tt te vs) σ H (.list (kept rows)) := fun H1 s Q q =>
  hl H1 s _ fun x H2 s2 hx => by
    cases hx with
    | @lst a xs _ hs ha =>
      subst hds
      have hlx : xs.length = rows.length := by rw [ha.length, List.length_map]
      refine ⟨a, rfl, ⟨xs, hs⟩, lc_rows (Itl K a) rows hlen hf (H1 := H2) (fun H3 s3 => ?_) (fun r hr v H3 s3 hv => ht r hr v H3 ((s.trans s2).trans s3) hv) fun p xs' H3 hp s3 e3 d3 => q _ H3 (s2.trans s3) (.lst (.inl (.inl e3)) d3)⟩
      have hs3 : SqL K H3 a xs := LKp.same s3 _ _ hs
      refine ⟨fun i hi => ⟨xs, xs[i]'(by omega), hs3, by simp⟩, ⟨xs, hs3, by omega⟩, fun i x H' hy r hr => ?_⟩
      obtain ⟨rfl, f⟩ := hy
      obtain ⟨d, hd, dp⟩ := (ha.same s3).get (f xs hs3)
      have ed : d = r.1 := by
        rw [List.getElem?_map, hr] at hd
        exact (Option.some.inj hd).symm
      subst ed
      exact ⟨Same.refl _, dp, TKp.refl, fun _ _ e => e⟩
/-- over a tuple -/
theorem evl_tup {ds : List PyData} (rows : List (PyData × Bool × PyData)) (hds : rows.map (·.1) = ds) (hlen : rows.length < sizeLine) (hf : ∀ r ∈ rows, flat r.2.2 = true) (hl : Evd K tl σ H (.tuple ds))
    (ht : ∀ r ∈ rows, Turn1 K g tt te vs σ H r.1 r.2.1 r.2.2) : Evd K (tLc (iTup K tl) g tt te vs) σ H (.list (kept rows)) := fun H1 s Q q =>
  hl H1 s _ fun x H2 s2 hx => by
    cases hx with
    | @tup a xs _ hs ha =>
      subst hds
      have hlx : xs.length = rows.length := by rw [ha.length, List.length_map]
      refine ⟨a, rfl, ⟨xs, hs⟩, lc_rows (Itt K a) rows hlen hf (H1 := H2) (fun H3 s3 => ?_) (fun r hr v H3 s3 hv => ht r hr v H3 ((s.trans s2).trans s3) hv) fun p xs' H3 hp s3 e3 d3 => q _ H3 (s2.trans s3) (.lst (.inl (.inl e3)) d3)⟩
      have hs3 : SqT K H3 a xs := TKp.same s3 _ _ hs
      refine ⟨fun i hi => ⟨xs, xs[i]'(by omega), hs3, by simp⟩, ⟨xs, hs3, by omega⟩, fun i x H' hy r hr => ?_⟩
      obtain ⟨rfl, f⟩ := hy
      obtain ⟨d, hd, dp⟩ := (ha.same s3).get (f xs hs3)
      have ed : d = r.1 := by
        rw [List.getElem?_map, hr] at hd
        exact (Option.some.inj hd).symm
      subst ed
      exact ⟨Same.refl _, dp, TKp.refl, fun _ _ e => e⟩
/-- by a row function: rows from typed items -/
theorem evl_listF {α : Type} {xs : List α} {enc : α → PyData} {p : α → Bool} {f : α → PyData} (hlen : xs.length < sizeLine) (hf : ∀ x ∈ xs, flat (f x) = true) (hl : Evd K tl σ H (.list (xs.map enc)))
    (ht : ∀ x ∈ xs, Turn1 K g tt te vs σ H (enc x) (p x) (f x)) : Evd K (tLc (iList K tl) g tt te vs) σ H (.list ((xs.filter p).map f)) := by
  have h := evl_list (K := K) (g := g) (tt := tt) (te := te) (vs := vs) (σ := σ) (H := H) (tl := tl) (ds := xs.map enc) (xs.map fun x => (enc x, p x, f x)) (by rw [List.map_map]; rfl) (by rw [List.length_map]; exact hlen)
    (fun r hr => by obtain ⟨x, hx, rfl⟩ := List.mem_map.mp hr; exact hf x hx) hl (fun r hr => by obtain ⟨x, hx, rfl⟩ := List.mem_map.mp hr; exact ht x hx)
  refine h.is ?_
  unfold kept
  rw [List.filter_map, List.map_map]
  rfl
theorem evl_tupF {α : Type} {xs : List α} {enc : α → PyData} {p : α → Bool} {f : α → PyData} (hlen : xs.length < sizeLine) (hf : ∀ x ∈ xs, flat (f x) = true) (hl : Evd K tl σ H (.tuple (xs.map enc)))
    (ht : ∀ x ∈ xs, Turn1 K g tt te vs σ H (enc x) (p x) (f x)) : Evd K (tLc (iTup K tl) g tt te vs) σ H (.list ((xs.filter p).map f)) := by
  have h := evl_tup (K := K) (g := g) (tt := tt) (te := te) (vs := vs) (σ := σ) (H := H) (tl := tl) (ds := xs.map enc) (xs.map fun x => (enc x, p x, f x)) (by rw [List.map_map]; rfl) (by rw [List.length_map]; exact hlen)
    (fun r hr => by obtain ⟨x, hx, rfl⟩ := List.mem_map.mp hr; exact hf x hx) hl (fun r hr => by obtain ⟨x, hx, rfl⟩ := List.mem_map.mp hr; exact ht x hx)
  refine h.is ?_
  unfold kept
  rw [List.filter_map, List.map_map]
  rfl
theorem et_yes : EvT tYes σ H true := fun H1 _ Q q => q H1 (Same.refl _)
/-- a name as the target: slot i -/
theorem turn_name {es : List Slot} {i : Nat} {d e : PyData} {b : Bool} (A : Al K H es σ) (hw : ∀ x : Option V, wipe ((wipe σ vs).set i x) vs = wipe σ vs)
    (h : ∀ σ2 H1, Same H H1 → Al K H1 ((wipeE es vs).set i (.dat d)) σ2 → EvT tt σ2 H1 b ∧ (b = true → Evd K te σ2 H1 e)) : Turn1 K (gName i) tt te vs σ H d b e := fun v H1 s hv =>
  ⟨_, hw _, fun Q q => q, h _ H1 s (((A.same s).wipe vs).put hv i)⟩
/-- a, b as the target -/
theorem turn_pair {es : List Slot} {i j : Nat} {d1 d2 e : PyData} {b : Bool} (A : Al K H es σ) (hw : ∀ x y : Option V, wipe (((wipe σ vs).set i x).set j y) vs = wipe σ vs)
    (h : ∀ σ2 H1, Same H H1 → Al K H1 (((wipeE es vs).set i (.dat d1)).set j (.dat d2)) σ2 → EvT tt σ2 H1 b ∧ (b = true → Evd K te σ2 H1 e)) :
    Turn1 K (gTup K 2 (gCons (gName i) (gCons (gName j) gNil))) tt te vs σ H (.tuple [d1, d2]) b e := fun v H1 s hv => by
  cases hv with
  | @tup a xs _ hs ha =>
    cases ha with
    | @cons x _ _ _ h1 h2 =>
      cases h2 with
      | @cons y _ _ _ h2 h3 =>
        cases h3
        exact ⟨_, hw _ _, fun Q q => ⟨a, _, rfl, hs, rfl, _, _, rfl, _, _, rfl, rfl, q⟩, h _ H1 s ((((A.same s).wipe vs).put h1 i).put h2 j)⟩
end
theorem wipe_set1 (σ : St) (i : Nat) (x : Option V) : wipe ((wipe σ [i]).set i x) [i] = wipe σ [i] := by
  simp [wipe, List.set_set]
theorem wipe_set2 (σ : St) (i j : Nat) (x y : Option V) : wipe (((wipe σ [i, j]).set i x).set j y) [i, j] = wipe σ [i, j] := by
  apply List.ext_getElem?
  intro k
  simp only [wipe, List.getElem?_set, List.length_set]
  repeat' split
  all_goals simp_all
end Z
set_option Elab.async false
set_option linter.all false
set_option maxRecDepth 100000
set_option maxHeartbeats 1000000
/-! ZC: dicts whose keys are nested tuples, over the layer: what such a dict is (dn, Tab), and its operations. -/
namespace Z
open PySem PySem.Spec L2
open PyProof.Rows hiding St

/-! ### data as keys -/
mutual
def nk : PyData → NestedKey
  | .none => .none
  | .bool b => .num (if b = true then 1 else 0)
  | .int i => .num i
  | .str x => .text x
  | .tuple ds => .tup (nkAll ds)
  | .list _ => .none
  | .dict _ => .none
def nkAll : List PyData → List NestedKey
  | [] => []
  | d :: ds => nk d :: nkAll ds
end
mutual
theorem nk_is {h : Heap} : ∀ (d : PyData) (v : Value) (as : List Addr), flat d = true → Reads h v d as → NestedIs h (nk d) v
  | .none, _, _, _, r => by cases r; exact .none
  | .bool b, _, _, _, r => by cases r; exact .bool rfl
  | .int i, _, _, _, r => by cases r; exact .int i _
  | .str x, _, _, _, r => by cases r; exact .text x _
  | .list _, _, _, f, _ => by simp [flat] at f
  | .dict _, _, _, f, _ => by simp [flat] at f
  | .tuple ds, _, _, f, r => by
    cases r with
    | tuple h1 h2 h3 h4 => exact .tup h1 h2 h3 (nk_isAll ds _ _ (by simpa [flat] using f) h4)
theorem nk_isAll {h : Heap} : ∀ (ds : List PyData) (vs : List Value) (as : List Addr), flatAll ds = true → ReadsAll h vs ds as → NestedAll h (nkAll ds) vs
  | [], _, _, _, r => by cases r; exact .nil
  | d :: ds, _, _, f, r => by
    simp only [flatAll, Bool.and_eq_true] at f
    cases r with
    | cons h1 h2 => exact .cons (nk_is d _ _ f.1 h1) (nk_isAll ds _ _ f.2 h2)
end

/-! ### tables -/
abbrev NX := List (NestedKey × Addr × V)
abbrev NY := List (NestedKey × Addr × Value)
abbrev RX : NX → NY → Prop := Paired fun p q => p.1 = q.1 ∧ p.2.1 = q.2.1 ∧ RelV p.2.2 q.2.2
def hasX (xs : NX) (k : NestedKey) : Bool := xs.any fun x => decide (x.1 = k)
def atX (xs : NX) (k : NestedKey) : Option V := (xs.find? fun x => decide (x.1 = k)).map (·.2.2)
def stX (xs : NX) (k : NestedKey) (b : Addr) (v : V) : NX := if hasX xs k = true then xs.map (fun x => if x.1 = k then (x.1, x.2.1, v) else x) else xs ++ [(k, b, v)]
def woX (xs : NX) (k : NestedKey) : NX := xs.filter fun x => decide (x.1 ≠ k)
theorem stX_len (xs : NX) (k : NestedKey) (b : Addr) (v : V) : (stX xs k b v).length ≤ xs.length + 1 := by
  unfold stX
  split <;> simp
theorem RX.at : ∀ {xs : NX} {ys : NY} (k : NestedKey), RX xs ys → RelO (atX xs k) ((atKey ys k).map (·.2))
  | _, _, k, .nil => trivial
  | x :: xs, y :: ys, k, .cons h t => by
    obtain ⟨h1, h2, h3⟩ := h
    by_cases e : x.1 = k
    · have e' : y.1 = k := h1.symm.trans e
      simp [atX, atKey, List.find?_cons, e, e']
      exact h3
    · have e' : ¬ y.1 = k := fun z => e (h1.trans z)
      have ih := RX.at k t
      simp only [atX, atKey, List.find?_cons, decide_eq_false e, decide_eq_false e'] at ih ⊢
      exact ih
theorem hasX_at (xs : NX) (k : NestedKey) : hasX xs k = (atX xs k).isSome := by
  unfold hasX atX
  rw [Option.isSome_map]
  induction xs with
  | nil => rfl
  | cons x xs ih =>
    by_cases h : x.1 = k
    · simp [List.find?_cons, h]
    · simp only [List.any_cons, List.find?_cons, decide_eq_false h, Bool.false_or]
      exact ih
theorem RX.has {xs : NX} {ys : NY} (k : NestedKey) (r : RX xs ys) : hasX xs k = (atKey ys k).isSome := by
  rw [hasX_at, (r.at k).isSome_eq, Option.isSome_map]
theorem RX.upd {xs : NX} {ys : NY} {k : NestedKey} {v : V} {u : Value} (rv : RelV v u) (r : RX xs ys) : RX (xs.map fun x => if x.1 = k then (x.1, x.2.1, v) else x) (ys.map (putAt k u)) := by
  induction r with
  | nil => exact .nil
  | @cons x y xs ys h t ih =>
    obtain ⟨h1, h2, h3⟩ := h
    refine .cons ?_ ih
    unfold putAt
    by_cases e : x.1 = k
    · simp only [if_pos e, if_pos (h1.symm.trans e)]; exact ⟨h1, h2, rv⟩
    · simp only [if_neg e, if_neg fun z => e (h1.trans z)]; exact ⟨h1, h2, h3⟩
theorem RX.st {xs : NX} {ys : NY} {k : NestedKey} {b : Addr} {v : V} {u : Value} (rv : RelV v u) (r : RX xs ys) : RX (stX xs k b v) (storedH ys k b u) := by
  unfold stX storedH
  rw [r.has k]
  by_cases e : (atKey ys k).isSome = true
  · rw [if_pos e, if_pos e]; exact r.upd rv
  · rw [if_neg e, if_neg e]; exact Paired.snoc r ⟨rfl, rfl, rv⟩
theorem RX.wo {xs : NX} {ys : NY} {k : NestedKey} (r : RX xs ys) : RX (woX xs k) (withoutH ys k) := by
  unfold woX withoutH
  induction r with
  | nil => exact .nil
  | @cons x y xs ys h t ih =>
    obtain ⟨h1, h2, h3⟩ := h
    by_cases e : x.1 = k
    · rw [List.filter_cons_of_neg (by simp [e]), List.filter_cons_of_neg (by simp [← h1, e])]; exact ih
    · rw [List.filter_cons_of_pos (by simp [e]), List.filter_cons_of_pos (by simp [← h1, e])]; exact .cons ⟨h1, h2, h3⟩ ih
theorem RX.keys : ∀ {xs : NX} {ys : NY}, RX xs ys → xs.map (fun x => (x.1, x.2.1)) = ys.map (fun y => (y.1, y.2.1))
  | _, _, .nil => rfl
  | x :: xs, y :: ys, .cons h t => by
    rw [List.map_cons, List.map_cons, RX.keys t, h.1, h.2.1]

/-- the dict at d holds xs -/
def DnH (P : Program) (w : World) (d : Addr) (xs : NX) (h : Heap) : Prop := xs.length ≤ sizeLine ∧ (d == sysModules) = false ∧ ∃ ys, RX xs ys ∧
  ∃ o es ep, h.get? d = some o ∧ o.ExactDict ∧ o.data = .dict es ep ∧ es.toList = ys.map (entryOfKey (nestedKind P w)) ∧ (ys.map (·.1)).Nodup
def dn (P : Program) (w : World) (d : Addr) (xs : NX) : HO := .ext (DnH P w d xs)
theorem dn_noSeq {P : Program} {w : World} {d : Addr} {xs : NX} : NoSeq (dn P w d xs) = true := rfl
/-- the tuple at b is the key k -/
def KeyAt (K : PySem.W.Frag) (H : Hp) (k : NestedKey) (b : Addr) : Prop := ∃ d, Dp K H (.ref b) d ∧ flat d = true ∧ nk d = k ∧ k.depth ≤ 8
theorem KeyAt.keep {K : PySem.W.Frag} {H H' : Hp} {k : NestedKey} {b : Addr} (t : TKp K H H') (h : KeyAt K H k b) : KeyAt K H' k b := by
  obtain ⟨d, h1, h2, h3⟩ := h
  exact ⟨d, Dp.keepT t _ _ h2 h1, h2, h3⟩
section
variable {X : Cx} {pins : List (Addr × Obj)} {σ : St} {H : Hp} {s : Shared} {d b : Addr} {xs : NX} {k : NestedKey}
theorem KeyAt.is (I : Inv X pins σ H s) (h : KeyAt X.K H k b) : (nestedKind X.prog X.w).is s.heap k b := by
  obtain ⟨e, h1, h2, rfl, h4⟩ := h
  obtain ⟨as, r⟩ := Dp.reads I e _ _ h1 (show RelV (.ref b) (.ref b) from rfl)
  exact ⟨nk_is e _ as h2 r, h4⟩
theorem dn_ok {P : Program} {w : World} {H' : Hp} {h : Heap} (x : DnH P w d xs h) : ObjOk P w H' h d (dn P w d xs) := by
  have x' := x
  obtain ⟨_, _, ys, _, o, es, ep, ho, _⟩ := x'
  refine ⟨x, ⟨o, ho⟩, fun h1 h2 p k => ?_⟩
  obtain ⟨z1, z2, ys, r, o, es, ep, ho, rest⟩ := p
  exact ⟨z1, z2, ys, r, o, es, ep, k o ho, rest⟩
/-- .. in the heap -/
theorem dn_at (I : Inv X pins σ H s) (h : H d = some (dn X.prog X.w d xs)) (ks : ∀ x ∈ xs, KeyAt X.K H x.1 x.2.1) :
    xs.length ≤ sizeLine ∧ (d == sysModules) = false ∧ ∃ ys, RX xs ys ∧ ys.length ≤ sizeLine ∧ s.heap.DictOfH (nestedKind X.prog X.w) d ys := by
  obtain ⟨z1, z2, ys, r, o, es, ep, ho, hex, hd, he, hn⟩ := (show ObjOk X.prog X.w H s.heap d (dn X.prog X.w d xs) from I.hok d _ h).1
  refine ⟨z1, z2, ys, r, by rw [← Paired.length r]; exact z1, o, es, ep, ho, hex, hd, he, fun y hy => ?_, hn⟩
  have hm : (y.1, y.2.1) ∈ xs.map (fun x => (x.1, x.2.1)) := by
    rw [r.keys]
    exact List.mem_map.mpr ⟨y, hy, rfl⟩
  obtain ⟨x, hx, e⟩ := List.mem_map.mp hm
  have e1 : x.1 = y.1 := congrArg Prod.fst e
  have e2 : x.2.1 = y.2.1 := congrArg Prod.snd e
  rw [← e1, ← e2]
  exact (ks x hx).is I
theorem dn_write {h' : Heap} {t' : Nat} {ys : NY} {xs' : NX} (I : Inv X pins σ H s) (h : H d = some (dn X.prog X.w d xs)) (z1 : xs'.length ≤ sizeLine) (z2 : (d == sysModules) = false) (r : RX xs' ys)
    (hm : h'.DictOfH (nestedKind X.prog X.w) d ys) (sb : Heap.SameBut d s.heap h') : Inv X pins σ (upd H d (dn X.prog X.w d xs')) { s with heap := h', toks := t' } := by
  obtain ⟨o, es, ep, ho, hex, hd, he, _, hn⟩ := hm
  exact I.write (x := d) (e := d) (by rw [h]; exact True.intro) (.inl rfl) (fun c q hc z => (sb.2 c hc).trans z) ⟨o, ho⟩ (dn_ok ⟨z1, z2, ys, r, o, es, ep, ho, hex, hd, he, hn⟩)
theorem dn_type (I : Inv X pins σ H s) (h : H d = some (dn X.prog X.w d xs)) : ∃ o, s.heap.get? d = some o ∧ o.ExactDict := by
  obtain ⟨z1, z2, ys, r, o, es, ep, ho, hex, _⟩ := (show ObjOk X.prog X.w H s.heap d (dn X.prog X.w d xs) from I.hok d _ h).1
  exact ⟨o, ho, hex⟩
end

/-! ### by typed keys -/
structure KeyEnc {α : Type} (enc : α → PyData) : Prop where
  flat : ∀ a, flat (enc a) = true
  dep : ∀ a, (nk (enc a)).depth ≤ 8
  inj : ∀ a b, nk (enc a) = nk (enc b) → a = b
  tup : ∀ a, ∃ ds, enc a = .tuple ds
/-- entry by entry: the key's tuple is the key -/
abbrev TR {α : Type} (K : PySem.W.Frag) (H : Hp) (enc : α → PyData) : NX → List (α × V) → Prop := Paired fun x p => x.1 = nk (enc p.1) ∧ x.2.2 = p.2 ∧ Dp K H (.ref x.2.1) (enc p.1)
/-- at d stands a dict with these keys and values -/
structure Tab {α : Type} (P : Program) (w : World) (K : PySem.W.Frag) (enc : α → PyData) (H : Hp) (d : Addr) (kvs : List (α × V)) : Prop where
  E : KeyEnc enc
  rel : ∃ xs, H d = some (dn P w d xs) ∧ TR K H enc xs kvs
section
variable {α : Type} {P : Program} {w : World} {K : PySem.W.Frag} {enc : α → PyData} {H H' : Hp} {d p : Addr} {kvs : List (α × V)} {o : HO} {xs : NX}
theorem TR.map : ∀ {xs : NX} {kvs : List (α × V)}, TR K H enc xs kvs → xs.map (fun x => (x.1, x.2.2)) = kvs.map (fun p => (nk (enc p.1), p.2))
  | _, _, .nil => rfl
  | x :: xs, q :: kvs, .cons h t => by rw [List.map_cons, List.map_cons, TR.map t, h.1, h.2.1]
theorem TR.key (E : KeyEnc enc) : ∀ {xs : NX} {kvs : List (α × V)}, TR K H enc xs kvs → ∀ x ∈ xs, KeyAt K H x.1 x.2.1
  | _, _, .nil, x, hx => nomatch hx
  | y :: ys, q :: kvs, .cons h t, x, hx => by
    rcases List.mem_cons.mp hx with e | hx
    · subst e
      refine ⟨_, h.2.2, E.flat _, h.1.symm, ?_⟩
      rw [h.1]
      exact E.dep _
    · exact TR.key E t x hx
theorem TR.keep (E : KeyEnc enc) (tk : TKp K H H') : ∀ {xs : NX} {kvs : List (α × V)}, TR K H enc xs kvs → TR K H' enc xs kvs
  | _, _, .nil => .nil
  | _ :: _, _ :: _, .cons h t => .cons ⟨h.1, h.2.1, Dp.keepT tk _ _ (E.flat _) h.2.2⟩ (TR.keep E tk t)
theorem Tab.ex (T : Tab P w K enc H d kvs) : ∃ xs, H d = some (dn P w d xs) ∧ xs.map (fun x => (x.1, x.2.2)) = kvs.map (fun p => (nk (enc p.1), p.2)) ∧ (∀ x ∈ xs, KeyAt K H x.1 x.2.1) ∧ TR K H enc xs kvs := by
  obtain ⟨xs, h1, h2⟩ := T.rel
  exact ⟨xs, h1, h2.map, h2.key T.E, h2⟩
theorem Tab.keep (t : TKp K H H') (hd : ∀ o, H d = some o → H' d = some o) (T : Tab P w K enc H d kvs) : Tab P w K enc H' d kvs := by
  obtain ⟨xs, h1, h2⟩ := T.rel
  exact ⟨T.E, xs, hd _ h1, h2.keep T.E t⟩
theorem Tab.same (s : Same H H') (T : Tab P w K enc H d kvs) : Tab P w K enc H' d kvs := T.keep (.same s) fun o e => s _ _ e
theorem Tab.there (T : Tab P w K enc H d kvs) : ∃ o, H d = some o ∧ NoSeq o = true := by
  obtain ⟨xs, h1, _⟩ := T.rel
  exact ⟨_, h1, rfl⟩
/-- something else is written -/
theorem Tab.upd (T : Tab P w K enc H d kvs) (ne : d ≠ p) {x : HO} (hp : H p = some x) (l : Loose x = true) : Tab P w K enc (upd H p o) d kvs := T.keep (.upd hp l) fun _ e => by rw [upd_ne ne]; exact e
theorem Tab.upd_none (T : Tab P w K enc H d kvs) (hp : H p = none) : Tab P w K enc (L2.upd H p o) d kvs := T.same (Same.new hp)
theorem Tab.len {X : Cx} {pins : List (Addr × Obj)} {σ : St} {s : Shared} (I : Inv X pins σ H s) (T : Tab X.prog X.w X.K enc H d kvs) : kvs.length ≤ sizeLine := by
  obtain ⟨xs, h1, h2, h3, _⟩ := T.ex
  have h := congrArg List.length h2
  rw [List.length_map, List.length_map] at h
  rw [← h]
  exact (dn_at I h1 h3).1
variable [DecidableEq α]
theorem at_val (E : KeyEnc enc) : ∀ {xs : NX} {kvs : List (α × V)} (k : α), xs.map (fun x => (x.1, x.2.2)) = kvs.map (fun p => (nk (enc p.1), p.2)) → atX xs (nk (enc k)) = valV kvs k
  | [], [], _, _ => rfl
  | [], _ :: _, _, h => by simp at h
  | _ :: _, [], _, h => by simp at h
  | x :: xs, p :: kvs, k, h => by
    rw [List.map_cons, List.map_cons] at h
    injection h with h1 h2
    have e1 : x.1 = nk (enc p.1) := congrArg Prod.fst h1
    have e2 : x.2.2 = p.2 := congrArg Prod.snd h1
    have ih := at_val E k h2
    by_cases q : p.1 = k
    · have q' : x.1 = nk (enc k) := by rw [e1, q]
      rw [valV_pos q]
      simp [atX, List.find?_cons, q', e2]
    · have q' : ¬ x.1 = nk (enc k) := fun z => q (E.inj _ _ (e1.symm.trans z))
      rw [valV_neg q, ← ih]
      simp [atX, List.find?_cons, q']
theorem has_val (E : KeyEnc enc) {xs : NX} {kvs : List (α × V)} (k : α) (h : xs.map (fun x => (x.1, x.2.2)) = kvs.map (fun p => (nk (enc p.1), p.2))) : hasX xs (nk (enc k)) = (kvs.any fun kv => decide (kv.1 = k)) := by
  rw [hasX_at, at_val E k h, valV_any]
theorem st_val (E : KeyEnc enc) {xs : NX} {kvs : List (α × V)} (k : α) (b : Addr) (v : V) (h : xs.map (fun x => (x.1, x.2.2)) = kvs.map (fun p => (nk (enc p.1), p.2))) :
    (stX xs (nk (enc k)) b v).map (fun x => (x.1, x.2.2)) = (putK kvs k v).map (fun p => (nk (enc p.1), p.2)) := by
  unfold stX putK
  rw [has_val E k h]
  by_cases q : (kvs.any fun kv => decide (kv.1 = k)) = true
  · rw [if_pos q, if_pos q, List.map_map, List.map_map]
    clear q
    induction xs generalizing kvs with
    | nil => cases kvs with
      | nil => rfl
      | cons _ _ => simp at h
    | cons x xs ih => cases kvs with
      | nil => simp at h
      | cons p kvs =>
        rw [List.map_cons, List.map_cons] at h
        injection h with h1 h2
        have e1 : x.1 = nk (enc p.1) := congrArg Prod.fst h1
        have e2 : x.2.2 = p.2 := congrArg Prod.snd h1
        rw [List.map_cons, List.map_cons, ih h2]
        congr 1
        by_cases z : p.1 = k
        · have z' : x.1 = nk (enc k) := by rw [e1, z]
          simp [z, z']
        · have z' : ¬ x.1 = nk (enc k) := fun y => z (E.inj _ _ (e1.symm.trans y))
          show ((if x.1 = nk (enc k) then (x.1, x.2.1, v) else x).1, (if x.1 = nk (enc k) then (x.1, x.2.1, v) else x).2.2) = (nk (enc (if p.1 = k then (p.1, v) else p).1), (if p.1 = k then (p.1, v) else p).2)
          rw [if_neg z, if_neg z', e1, e2]
  · rw [if_neg q, if_neg q, List.map_append, List.map_append, h]
    rfl
theorem wo_val (E : KeyEnc enc) : ∀ {xs : NX} {kvs : List (α × V)} (k : α), xs.map (fun x => (x.1, x.2.2)) = kvs.map (fun p => (nk (enc p.1), p.2)) → (woX xs (nk (enc k))).map (fun x => (x.1, x.2.2)) = (dropK kvs k).map (fun p => (nk (enc p.1), p.2))
  | [], [], _, _ => rfl
  | [], _ :: _, _, h => by simp at h
  | _ :: _, [], _, h => by simp at h
  | x :: xs, p :: kvs, k, h => by
    rw [List.map_cons, List.map_cons] at h
    injection h with h1 h2
    have e1 : x.1 = nk (enc p.1) := congrArg Prod.fst h1
    have ih := wo_val E k h2
    unfold woX dropK at ih ⊢
    by_cases q : p.1 = k
    · have q' : x.1 = nk (enc k) := by rw [e1, q]
      rw [List.filter_cons_of_neg (by simp [q']), List.filter_cons_of_neg (by simp [q])]
      exact ih
    · have q' : ¬ x.1 = nk (enc k) := fun z => q (E.inj _ _ (e1.symm.trans z))
      rw [List.filter_cons_of_pos (by simp [q']), List.filter_cons_of_pos (by simp [q]), List.map_cons, List.map_cons, ih, h1]
theorem TR.st (E : KeyEnc enc) {xs : NX} {kvs : List (α × V)} {k : α} {b : Addr} {v : V} (r : TR K H enc xs kvs) (hb : Dp K H (.ref b) (enc k)) : TR K H enc (stX xs (nk (enc k)) b v) (putK kvs k v) := by
  unfold stX putK
  rw [has_val E k r.map]
  by_cases q : (kvs.any fun kv => decide (kv.1 = k)) = true
  · rw [if_pos q, if_pos q]
    clear q
    induction r with
    | nil => exact .nil
    | @cons x p xs kvs h t ih =>
      refine .cons ?_ ih
      by_cases z : p.1 = k
      · have z' : x.1 = nk (enc k) := by rw [h.1, z]
        simp only [if_pos z, if_pos z']
        exact ⟨h.1, trivial, h.2.2⟩
      · have z' : ¬ x.1 = nk (enc k) := fun y => z (E.inj _ _ (h.1.symm.trans y))
        simp only [if_neg z, if_neg z']
        exact h
  · rw [if_neg q, if_neg q]
    exact Paired.snoc r ⟨rfl, rfl, hb⟩
theorem TR.wo (E : KeyEnc enc) {xs : NX} {kvs : List (α × V)} {k : α} (r : TR K H enc xs kvs) : TR K H enc (woX xs (nk (enc k))) (dropK kvs k) := by
  unfold woX dropK
  induction r with
  | nil => exact .nil
  | @cons x p xs kvs h t ih =>
    by_cases z : p.1 = k
    · have z' : x.1 = nk (enc k) := by rw [h.1, z]
      rw [List.filter_cons_of_neg (by simp [z']), List.filter_cons_of_neg (by simp [z])]
      exact ih
    · have z' : ¬ x.1 = nk (enc k) := fun y => z (E.inj _ _ (h.1.symm.trans y))
      rw [List.filter_cons_of_pos (by simp [z']), List.filter_cons_of_pos (by simp [z])]
      exact .cons h ih
end

/-! ### the operations, by values -/
section
variable {X : Cx} {α : Type} [DecidableEq α] {enc : α → PyData}
theorem key_of_dp {K : PySem.W.Frag} {H : Hp} (E : KeyEnc enc) {x : V} {k : α} (h : Dp K H x (enc k)) : ∃ b, x = .ref b ∧ KeyAt K H (nk (enc k)) b := by
  obtain ⟨ds, e⟩ := E.tup k
  have h' := h
  rw [e] at h'
  cases h' with
  | @tup b _ _ _ _ => exact ⟨b, rfl, _, h, E.flat k, rfl, E.dep k⟩
theorem nroom {A : Around} (hu : A.units + 64 < cLine) (P : Program) (w : World) : (nestedKind P w).room A.in1 := by
  show A.units + 1 + 8 < cLine
  omega
/-- k in d -/
def rInN (P : Program) (w : World) (K : PySem.W.Frag) (enc : α → PyData) : R2 := fun x y H Q => ∃ d kvs k, y = .ref d ∧ Tab P w K enc H d kvs ∧ Dp K H x (enc k) ∧ Q (.bl (valV kvs k).isSome) H
def rNotInN (P : Program) (w : World) (K : PySem.W.Frag) (enc : α → PyData) : R2 := fun x y H Q => ∃ d kvs k, y = .ref d ∧ Tab P w K enc H d kvs ∧ Dp K H x (enc k) ∧ Q (.bl (!(valV kvs k).isSome)) H
theorem op_inN (E : KeyEnc enc) (hu : X.A.units + 64 < cLine) : OpR X (compareOp .In) (rInN X.prog X.w X.K enc) := fun pins s σ H x y v u Q I rx ry ⟨d, kvs, k, ey, T, hx, q⟩ => by
  subst ey
  obtain rfl : u = Value.ref d := ry
  obtain ⟨b, rfl, kb⟩ := key_of_dp E hx
  obtain rfl : v = Value.ref b := rx
  obtain ⟨xs, h1, h2, h3, h4⟩ := T.ex
  obtain ⟨z1, z2, ys, r, z3, hm⟩ := dn_at I h1 h3
  refine wpAny_in_heap (nroom hu _ _) (kb.is I) z2 hm ⟨.bl (atKey ys (nk (enc k))).isSome, H, I.tok _, rfl, ?_⟩
  rw [← r.has, has_val E k h2, valV_any]
  exact q
theorem op_notInN (E : KeyEnc enc) (hu : X.A.units + 64 < cLine) : OpR X (compareOp .NotIn) (rNotInN X.prog X.w X.K enc) := fun pins s σ H x y v u Q I rx ry ⟨d, kvs, k, ey, T, hx, q⟩ => by
  subst ey
  obtain rfl : u = Value.ref d := ry
  obtain ⟨b, rfl, kb⟩ := key_of_dp E hx
  obtain rfl : v = Value.ref b := rx
  obtain ⟨xs, h1, h2, h3, h4⟩ := T.ex
  obtain ⟨z1, z2, ys, r, z3, hm⟩ := dn_at I h1 h3
  refine wpAny_notIn_heap (nroom hu _ _) (kb.is I) z2 hm ⟨.bl (!(atKey ys (nk (enc k))).isSome), H, I.tok _, rfl, ?_⟩
  rw [← r.has, has_val E k h2, valV_any]
  exact q
/-- d[k] -/
def rGetN (P : Program) (w : World) (K : PySem.W.Frag) (enc : α → PyData) : R2 := fun x y H Q => ∃ d kvs k v, x = .ref d ∧ Tab P w K enc H d kvs ∧ Dp K H y (enc k) ∧ valV kvs k = some v ∧ Q v H
def tGetN (P : Program) (w : World) (K : PySem.W.Frag) (enc : α → PyData) (td ty : TE) : TE := tOp (rGetN P w K enc) td ty
theorem pe_getN (E : KeyEnc enc) (hu : X.A.units + 64 < cLine) {o i : Expr} {pos : Pos} {td ty : TE} (ho : PE X o td) (hi : PE X i ty) (hs : NoSl i) : PE X (.Subscript o i pos) (tGetN X.prog X.w X.K enc td ty) := by
  refine ⟨fun pins s σ H Q I h => subD_of PySem.F.slot_dict_getitem.lookup hs (thn (ho.run pins s σ H _ I h) fun u s1 ⟨x, H1, I1, rx, q1⟩ => thn (hi.run pins s1 σ H1 _ I1 q1) fun iv s2 ⟨y, H2, I2, ry, d, kvs, k, v, ex, T, hy, hv, q2⟩ => ?_)⟩
  subst ex
  obtain rfl : u = Value.ref d := rx
  obtain ⟨b, rfl, kb⟩ := key_of_dp E hy
  obtain rfl : iv = Value.ref b := ry
  obtain ⟨xs, h1, h2, h3, h4⟩ := T.ex
  obtain ⟨z1, z2, ys, r, z3, hm⟩ := dn_at I2 h1 h3
  refine ⟨hm.typeIs, ?_⟩
  have ha := r.at (nk (enc k))
  rw [at_val E k h2, hv] at ha
  obtain ⟨u', e', r'⟩ := RelO.some_of ha
  obtain ⟨p, hp, ep⟩ := Option.map_eq_some_iff.mp e'
  refine wpAny_getItem_heap (nroom hu _ _) (kb.is I2) hm hp ⟨v, H2, I2.tok _, ?_, q2⟩
  rw [ep]
  exact r'
/-- d[k] = v -/
def tSetN (P : Program) (w : World) (K : PySem.W.Frag) (enc : α → PyData) : TSet := fun o i v H Q => ∃ d kvs k, o = .ref d ∧ Tab P w K enc H d kvs ∧ Dp K H i (enc k) ∧ kvs.length < sizeLine ∧
  ∀ u, NoSeq u = true → Tab P w K enc (upd H d u) d (putK kvs k v) → Q (upd H d u)
theorem stX_keys {K : PySem.W.Frag} {H : Hp} {xs : NX} {k : NestedKey} {b : Addr} {v : V} (h : ∀ x ∈ xs, KeyAt K H x.1 x.2.1) (hb : KeyAt K H k b) : ∀ x ∈ stX xs k b v, KeyAt K H x.1 x.2.1 := by
  intro x hx
  unfold stX at hx
  split at hx
  · obtain ⟨y, hy, rfl⟩ := List.mem_map.mp hx
    split
    · exact h y hy
    · exact h y hy
  · rcases List.mem_append.mp hx with q | q
    · exact h x q
    · rw [List.mem_singleton] at q
      subst q
      exact hb
theorem set_N (E : KeyEnc enc) (hu : X.A.units + 64 < cLine) : PSet X (tSetN X.prog X.w X.K enc) := fun pins s σ H o i v ov iv u Q I ro ri rv ⟨d, kvs, k, eo, T, hi, hz, q⟩ => by
  subst eo
  obtain rfl : ov = Value.ref d := ro
  obtain ⟨b, rfl, kb⟩ := key_of_dp E hi
  obtain rfl : iv = Value.ref b := ri
  obtain ⟨xs, h1, h2, h3, h4⟩ := T.ex
  obtain ⟨z1, z2, ys, r, z3, hm⟩ := dn_at I h1 h3
  have hl := congrArg List.length h2
  rw [List.length_map, List.length_map] at hl
  refine wpAny_setItem_heap (hsz := z3) (nroom hu _ _) (kb.is I) hm fun h' hm' sb => ?_
  have tk : TKp X.K H (upd H d (dn X.prog X.w d (stX xs (nk (enc k)) b v))) := TKp.upd h1 rfl
  refine ⟨_, dn_write I h1 ?_ z2 (r.st rv) hm' sb, q _ rfl ⟨E, _, upd_same, (h4.st E hi).keep E tk⟩⟩
  have := stX_len xs (nk (enc k)) b v
  omega
/-- del d[k] -/
def sDelN (P : Program) (w : World) (K : PySem.W.Frag) (enc : α → PyData) (td ty : TE) : TS := fun D σ H => td σ H fun x H1 => ty σ H1 fun y H2 => ∃ d kvs k, x = .ref d ∧ Tab P w K enc H2 d kvs ∧ Dp K H2 y (enc k) ∧ (valV kvs k).isSome = true ∧
  ∀ u, NoSeq u = true → Tab P w K enc (upd H2 d u) d (dropK kvs k) → D.nx σ (upd H2 d u)
theorem ps_delN (E : KeyEnc enc) (hu : X.A.units + 64 < cLine) {o i : Expr} {pos tpos : Pos} {td ty : TE} (ho : PE X o td) (hi : PE X i ty) : PS X (.Delete [.Subscript o i tpos] pos) (sDelN X.prog X.w X.K enc td ty) := by
  refine ⟨fun pins s σ H D I h => wpAny_Delete (wpAny_deleteEach_cons (wpAny_delete_Subscript (thn (ho.run pins s σ H _ I h) fun u s1 ⟨x, H1, I1, rx, q1⟩ => thn (hi.run pins s1 σ H1 _ I1 q1) fun iv s2 ⟨y, H2, I2, ry, d, kvs, k, ex, T, hy, hv, q⟩ => ?_)))⟩
  subst ex
  obtain rfl : u = Value.ref d := rx
  obtain ⟨b, rfl, kb⟩ := key_of_dp E hy
  obtain rfl : iv = Value.ref b := ry
  obtain ⟨xs, h1, h2, h3, h4⟩ := T.ex
  obtain ⟨z1, z2, ys, r, z3, hm⟩ := dn_at I2 h1 h3
  rw [← at_val E k h2, ← hasX_at, r.has] at hv
  obtain ⟨p, hp⟩ := Option.isSome_iff_exists.mp hv
  refine wpAny_delItem_heap (hsz := z3) (nroom hu _ _) (kb.is I2) z2 hm hp fun h' hm' sb => wpAny_deleteEach_nil ?_
  have tk : TKp X.K H2 (upd H2 d (dn X.prog X.w d (woX xs (nk (enc k))))) := TKp.upd h1 rfl
  refine ⟨σ, _, dn_write I2 h1 (Nat.le_trans (List.length_filter_le _ _) z1) z2 r.wo hm' sb, q _ rfl ⟨E, _, upd_same, (h4.wo E).keep E tk⟩⟩
/-- {} -/
def tNewN (P : Program) (w : World) : TE := fun _ H Q => ∀ p, H p = none → Q (.ref p) (upd H p (dn P w p []))
theorem dn_empty {P : Program} {w : World} {H : Hp} (h : Heap) (hb : sysModules < h.objs.size) : ObjOk P w H (h.push { cls := .type "dict", data := .dict #[] }) h.objs.size (dn P w h.objs.size []) :=
  dn_ok ⟨Nat.zero_le _, beq_eq_false_iff_ne.mpr (Ne.symm (Nat.ne_of_lt hb)), [], .nil, _, #[], 0, Heap.get?_push_size _ rfl, ⟨rfl, rfl, rfl⟩, rfl, rfl, List.nodup_nil⟩
theorem pe_newN {pos : Pos} : PE X (.Dict [] [] pos) (tNewN X.prog X.w) := ⟨fun pins s σ H Q I h =>
  wpAny_Dict_empty ⟨.ref s.heap.objs.size, _, I.laid (a := s.heap.objs.size) (t' := s.toks) (fun _ _ q => Heap.get?_push_of_some _ q) (Nat.le_refl _) (dn_empty s.heap I.big), rfl, h _ (I.hok.fresh (Nat.le_refl _))⟩⟩
theorem tab_new (E : KeyEnc enc) {P : Program} {w : World} {K : PySem.W.Frag} {H : Hp} {p : Addr} : Tab P w K enc (upd H p (dn P w p [])) p [] := ⟨E, [], upd_same, .nil⟩
/-- {k: v}, one pair -/
def tDisp1 (P : Program) (w : World) (K : PySem.W.Frag) (enc : α → PyData) (tk tv : TE) : TE := fun σ H Q => ∀ p, H p = none → tk σ (upd H p (dn P w p [])) fun x H1 => tv σ H1 fun v H2 => ∃ k, H2 p = some (dn P w p []) ∧ Dp K H2 x (enc k) ∧
  ∀ u, NoSeq u = true → Tab P w K enc (upd H2 p u) p [(k, v)] → Q (.ref p) (upd H2 p u)
theorem pe_disp1 (E : KeyEnc enc) (hu : X.A.units + 64 < cLine) {k v : Expr} {pos : Pos} {tk tv : TE} (hk : PE X k tk) (hv : PE X v tv) : PE X (.Dict [some k] [v] pos) (tDisp1 X.prog X.w X.K enc tk tv) := by
  refine ⟨fun pins s σ H Q I q => ?_⟩
  have hn := I.hok.fresh (Nat.le_refl s.heap.objs.size)
  have I1 := I.laid (a := s.heap.objs.size) (t' := s.toks) (fun _ _ q => Heap.get?_push_of_some _ q) (Nat.le_refl _) (dn_empty (P := X.prog) (w := X.w) (H := upd H s.heap.objs.size (dn X.prog X.w s.heap.objs.size [])) s.heap I.big)
  have room : (nestedKind X.prog X.w).room X.A := by
    show X.A.units + 8 < cLine
    omega
  have hp : (evalEachOpt [some k] X.env).zip ((evalEach [v] X.env).map fun t => do let x ← t; standAt pos; pure x) = (pairTrees [some k] [v] X.env pos).map fun p => (some p.1, p.2) := zip_pairTrees _ _ _ _ rfl rfl
  rw [arm_eval_Dict, hp, dictDisplay_pairs (pairTrees [some k] [v] X.env pos) (by simp [pairTrees]) (by show 1 < 17; decide)]
  refine wpAny_bind (wpAny_standAt (wpAny_bind (wpAny_subDictH (knd := nestedKind X.prog X.w) room (Nat.succ_le_succ (Nat.zero_le _)) ?_)))
  refine pairTrees_cons_walk (thn (hk.run pins _ σ _ _ I1 (q _ hn)) fun u s1 ⟨x, H1, I2, rx, q1⟩ => thn (hv.run pins s1 σ H1 _ I2 q1) fun u2 s2 ⟨y, H2, I3, ry, k', e0, hx, q2⟩ => pairTrees_nil_walk ?_)
  obtain ⟨b, rfl, kb⟩ := key_of_dp E hx
  obtain rfl : u = Value.ref b := rx
  obtain ⟨z1, z2, ys, r, z3, hm⟩ := dn_at I3 e0 (fun x hx => nomatch hx)
  cases r
  refine ⟨[(nk (enc k'), b, u2)], ⟨rfl, rfl, kb.is I3, trivial⟩, hm, fun h' tk hm' sb => wpAny_pure ?_⟩
  have er : RX [(nk (enc k'), b, y)] [(nk (enc k'), b, u2)] := .cons ⟨rfl, rfl, ry⟩ .nil
  have tk' : TKp X.K H2 (upd H2 s.heap.objs.size (dn X.prog X.w s.heap.objs.size [(nk (enc k'), b, y)])) := TKp.upd e0 rfl
  refine ⟨.ref s.heap.objs.size, _, dn_write I3 e0 (by show 1 ≤ sizeLine; decide) z2 er hm' sb, rfl, q2 _ rfl ⟨E, _, upd_same, .cons ⟨rfl, rfl, Dp.keepT tk' _ _ (E.flat _) hx⟩ .nil⟩⟩
end
end Z
set_option Elab.async false
set_option linter.all false
set_option maxRecDepth 100000
set_option maxHeartbeats 2000000
/-! ZD: dict comprehensions with nested-tuple keys. -/
namespace Z
open PySem PySem.Spec L2
open PyProof.Rows hiding St
section
variable {X : Cx} {α : Type} [DecidableEq α] {enc : α → PyData}
/-- the store of a comprehension's turn -/
theorem dictSet_N (E : KeyEnc enc) (hu : X.A.units + 64 < cLine) {pins : List (Addr × Obj)} {σ : St} {H : Hp} {s : Shared} {Er : Value → Shared → Prop} {d : Addr} {kvs : List (α × V)} {k : α} {y v : V} {u r : Value} {Q : Unit → Shared → Prop}
    (I : Inv X pins σ H s) (T : Tab X.prog X.w X.K enc H d kvs) (hy : Dp X.K H y (enc k)) (hz : kvs.length < sizeLine) (ry : RelV y u) (rv : RelV v r)
    (h : ∀ o s', NoSeq o = true → Tab X.prog X.w X.K enc (upd H d o) d (putK kvs k v) → Inv X pins σ (upd H d o) s' → Q () s') : wpAny (model X.prog X.w) X.A (dictSet d u r) Q Er s := by
  obtain ⟨b, rfl, kb⟩ := key_of_dp E hy
  obtain rfl : u = Value.ref b := ry
  obtain ⟨xs, h1, h2, h3, h4⟩ := T.ex
  obtain ⟨z1, z2, ys, q, z3, hm⟩ := dn_at I h1 h3
  have hl := congrArg List.length h2
  rw [List.length_map, List.length_map] at hl
  refine wpAny_dictSet_heap (hsz := z3) (knd := nestedKind X.prog X.w) (show X.A.units + 8 < cLine by omega) (kb.is I) hm fun h' hm' sb => ?_
  have tk : TKp X.K H (upd H d (dn X.prog X.w d (stX xs (nk (enc k)) b v))) := TKp.upd h1 rfl
  have hs := stX_len xs (nk (enc k)) b v
  exact h _ _ rfl ⟨E, _, upd_same, (h4.st E hy).keep E tk⟩ (dn_write I h1 (by omega) z2 (q.st rv) hm' sb)
/-- {k: v for target in iter if ..}: D the new dict -/
def tDcN (P : Program) (w : World) (K : PySem.W.Frag) (enc : α → PyData) (wi : TI) (g : TG) (tt : TT) (tk tv : TE) (vs : List Nat) : TE := fun σ H Q => wi σ H fun J H1 => ∀ D, H1 D = none → ∃ W : Nat → Nat → Hp → Prop,
  (∃ m, W 0 m (upd H1 D (dn P w D []))) ∧ ∀ i m H, W i m H → (J.stop i H ∧ Q (.ref D) H) ∨ (J.go i H ∧ ∃ Nx : Hp → Prop, (∀ H', Nx H' → ∃ m', m' < m ∧ W (i + 1) m' H') ∧
    ∀ x H', J.yld i H x H' → g x (wipe σ vs) H' fun σ2 H2 => wipe σ2 vs = wipe σ vs ∧ tt σ2 H2 fun b H3 => if b = true then tk σ2 H3 fun y H4 => tv σ2 H4 fun z H5 =>
      ∃ kvs k, Tab P w K enc H5 D kvs ∧ Dp K H5 y (enc k) ∧ kvs.length < sizeLine ∧ ∀ o, NoSeq o = true → Tab P w K enc (upd H5 D o) D (putK kvs k z) → Nx (upd H5 D o) else Nx H3)
variable {kx vx tg iter : Expr} {ifs : List Expr} {scope : Scope} {own : List (Str × Nat)} {pos : Pos} {wi : TI} {g : TG} {tt : TT} {tk tv : TE}
theorem pe_dcN (E : KeyEnc enc) (hu : X.A.units + 64 < cLine) (hc : X.calm = true) (hN : X.N.Nodup) (hi : PI X tg iter wi) (ok : BlkOk X.N X.env.scope scope own)
    (hg : ∀ (s : Shared) (H : Hp) (C : Addr) (cl : List (Str × Addr)) (fp : List Addr), PG (X.blk s H scope (compEnvC scope cl C X.env) fp) tg g)
    (ht : ∀ (s : Shared) (H : Hp) (C : Addr) (cl : List (Str × Addr)) (fp : List Addr), PTs (X.blk s H scope (compEnvC scope cl C X.env) fp) ifs tt)
    (hk : ∀ (s : Shared) (H : Hp) (C : Addr) (cl : List (Str × Addr)) (fp : List Addr), PE (X.blk s H scope (compEnvC scope cl C X.env) fp) kx tk)
    (hv : ∀ (s : Shared) (H : Hp) (C : Addr) (cl : List (Str × Addr)) (fp : List Addr), PE (X.blk s H scope (compEnvC scope cl C X.env) fp) vx tv)
    (hs : ∀ x, foldedSetIterable iter X.env x = pure x := by intro _; rfl) : PE X (.DictComp kx vx [⟨tg, iter, ifs, 0⟩] scope pos) (tDcN X.prog X.w X.K enc wi g tt tk tv (own.map (·.2))) := by
  refine ⟨fun pins s σ H Q I h => ?_⟩
  rw [arm_eval_DictComp]
  have cells : ∀ y ∈ scope.names, y.2 = .free → ∃ c, X.env.cells.lookup y.1 = some c := fun y hy e => (ok.free y hy e).elim (fun z => I.ok.has _ (.inl z)) fun z => I.ok.has _ (.inr z)
  refine wpAny_comprehension_free rfl hs (closure_ok cells) ok.kind (fun y hy e => by rw [ok.uniq y hy, e]) (thn (hi.run pins s σ H _ I h) fun xv s1 hx => thn hx fun itv s2 h2 => ?_)
  obtain ⟨it, fp, tn, J, H2, rfl, I2, T, st2, f2, q⟩ := h2
  refine wpAny_newObj_type (newEnv_comp ?_)
  -- the new dict
  have hDn : H2 s2.heap.objs.size = none := I2.hok.fresh (Nat.le_refl _)
  obtain ⟨W, ⟨m0, w0⟩, turn⟩ := q _ hDn
  have I3 := I2.laid (a := s2.heap.objs.size) (t' := s2.toks) (fun b o e => Heap.get?_push_of_some _ e) (Nat.le_refl _) (dn_empty (P := X.prog) (w := X.w) (H := upd H2 s2.heap.objs.size (dn X.prog X.w s2.heap.objs.size [])) s2.heap I2.big)
  have young : ∀ b ∈ fp, b < s2.heap.objs.size := fun b hb => by
    obtain ⟨o, e, _⟩ := T.obj _ _ st2 b hb
    exact Heap.lt_size e
  generalize hs3 : ({ s2 with heap := s2.heap.push { cls := .type "dict", data := .dict #[] } } : Shared) = s3 at I3
  generalize hD : s2.heap.objs.size = D at hDn w0 turn I3 young
  generalize hH3 : upd H2 D (dn X.prog X.w D []) = H3 at I3 w0
  have hh3 : s3.heap = s2.heap.push { cls := .type "dict", data := .dict #[] } := by rw [← hs3]
  have f3 : ∀ b ∈ fp, FpOk X pins H3 b ∧ b < s3.heap.objs.size := fun b hb => by
    have hl := young b hb
    refine ⟨⟨?_, (f2 b hb).2⟩, by rw [hh3, Heap.size_push, hD]; exact Nat.lt_succ_of_lt hl⟩
    rw [← hH3, upd_ne (Nat.ne_of_lt hl)]
    exact (f2 b hb).1
  have st3 : tn 0 s3.heap := T.keep _ _ _ st2 fun b _ o e => by rw [hh3]; exact Heap.get?_push_of_some _ e
  have I4 := block_start I3 ok hN f3
  have pg := hg s3 H3 s3.heap.objs.size (cellsFrom (s3.heap.objs.size + 1) scope.names (cloFrom X.env.cells scope.names [])) fp
  have pt := ht s3 H3 s3.heap.objs.size (cellsFrom (s3.heap.objs.size + 1) scope.names (cloFrom X.env.cells scope.names [])) fp
  have pk := hk s3 H3 s3.heap.objs.size (cellsFrom (s3.heap.objs.size + 1) scope.names (cloFrom X.env.cells scope.names [])) fp
  have pv := hv s3 H3 s3.heap.objs.size (cellsFrom (s3.heap.objs.size + 1) scope.names (cloFrom X.env.cells scope.names [])) fp
  show codeAny _ _ (.compStart (.DictComp kx vx [⟨tg, iter, ifs, 0⟩] scope pos) 0 (.ref it) (.ref D) (compEnvC scope (cellsFrom (s3.heap.objs.size + 1) scope.names (cloFrom X.env.cells scope.names [])) s3.heap.objs.size X.env)) (compPost (model X.prog X.w) X.A X.xe none (EP X pins σ Q) (.ref D) s3.heap.objs.size) { s3 with heap := pushCells (s3.heap.push { cls := .type "dict", data := .dict #[] }) scope.names }
  generalize hce : compEnvC scope (cellsFrom (s3.heap.objs.size + 1) scope.names (cloFrom X.env.cells scope.names [])) s3.heap.objs.size X.env = ce at I4 pg pt pk pv ⊢
  have cL : ce.locals = s3.heap.objs.size := by rw [← hce]; rfl
  generalize hs4 : ({ s3 with heap := pushCells (s3.heap.push { cls := .type "dict", data := .dict #[] }) scope.names } : Shared) = s4 at I4 ⊢
  have st4 : tn 0 s4.heap := T.keep _ _ _ st3 fun b _ o e => by rw [← hs4]; exact pushCells_keeps _ _ _ _ (Heap.get?_push_of_some _ e)
  have stat : ∀ {σ' : St} {H' : Hp} {s' : Shared}, Inv (X.blk s3 H3 scope ce fp) [] σ' H' s' → (∀ b ∈ fp, H' b = none) → ∀ b ∈ fp, FpOk (X.blk s3 H3 scope ce fp) [] H' b := fun {σ' H' s'} I' hn b hb =>
    ⟨hn b hb, (I'.ok.exf b hb).1, I'.ok.exfs b hb, .inl hb, fun x c e => (I'.ok.exf b hb).2 x c e, fun p hp => absurd (show p ∈ ([] : List (Addr × Obj)) ++ [] from hp) (by simp)⟩
  have loop : codeAny (model X.prog X.w) X.A (.compLoop (.DictComp kx vx [⟨tg, iter, ifs, 0⟩] scope pos) 0 (.ref it) (.ref D) ce) (compPost (model X.prog X.w) X.A X.xe none (EP X pins σ Q) (.ref D) s3.heap.objs.size) s4 := by
    refine compLoop_anyD (fun n s' => ∃ i H', Inv (X.blk s3 H3 scope ce fp) [] (wipe σ (own.map (·.2))) H' s' ∧ tn i s'.heap ∧ (∀ b ∈ fp, H' b = none) ∧ W i n H') ?_ m0 ⟨0, H3, I4, st4, fun b hb => (f3 b hb).1.1, w0⟩
    rintro n s5 ⟨i, H5, I5, st5, n5, w5⟩
    rcases turn i n H5 w5 with ⟨stop, qq⟩ | ⟨go, Nx, hNx, step⟩
    · refine thnF (T.done (X.blk s3 H3 scope ce fp) rfl rfl rfl hc i [] s5 _ H5 (fun _ _ => False) I5 (stat I5 n5) st5 stop) fun r s6 ⟨hr, I6⟩ => ?_
      subst hr
      have I7 : Inv X pins σ H5 s6 := I3.call' (ch := fp) I6.os I6.base I6.hok I6.bare fun b hb => ⟨(f3 b hb).1.2.2.2.1, (f3 b hb).1.2.1, (f3 b hb).1.2.2.2.2.1, (f3 b hb).1.2.2.2.2.2⟩
      have nC : H5 s3.heap.objs.size = none := cL ▸ I6.free
      obtain ⟨m, hn, _⟩ := I6.loc
      obtain ⟨c0, c1, c2, c3, c4, c5⟩ := I3.fpOk (Nat.le_refl _) nC
      exact ⟨m, cL ▸ hn, fun h'' sb => ⟨.ref D, H5, I7.turned (t' := s6.toks) (fun b o hb e => (sb.2 b hb).trans e) c0 c1 c3 c4 c5, rfl, qq⟩⟩
    · refine thnF (T.item (X.blk s3 H3 scope ce fp) rfl rfl rfl hc i [] s5 _ H5 (fun _ _ => False) I5 (stat I5 n5) st5 go) fun r s6 ⟨u, hr, h6⟩ => ?_
      subst hr
      refine thnF h6 fun _ s7 ⟨x, H7, I7, r7, y7, st7, n7⟩ => ?_
      have I7' := I7.pinned (stat I7 n7) (T.obj _ _ st7)
      refine thnF (pg.run _ s7 _ H7 x u _ I7' r7 (step x H7 y7)) fun _ s8 ⟨σ8, H8, I8, hw8, q8⟩ => ?_
      refine thnF (pt.run _ s8 σ8 H8 _ I8 q8) fun b s9 ⟨H9, I9, q9⟩ => ?_
      have again : ∀ {s' : Shared} {H' : Hp}, Inv (X.blk s3 H3 scope ce fp) ([] ++ pinsAt fp s7.heap) σ8 H' s' → Nx H' → ∃ m, m < n ∧ ∃ i H', Inv (X.blk s3 H3 scope ce fp) [] (wipe σ (own.map (·.2))) H' s' ∧ tn i s'.heap ∧ (∀ b ∈ fp, H' b = none) ∧ W i m H' := fun {s' H'} I' nx => by
        obtain ⟨m', hm, w'⟩ := hNx H' nx
        have pinned : ∀ b ∈ fp, ∀ o, s7.heap.get? b = some o → s'.heap.get? b = some o ∧ H' b = none := fun b hb o e =>
          ⟨(I'.pin (b, o) (List.mem_append_right _ (List.mem_append_right _ (mem_pinsAt hb e)))).1, (I'.pin (b, o) (List.mem_append_right _ (List.mem_append_right _ (mem_pinsAt hb e)))).2.1⟩
        refine ⟨m', hm, i + 1, H', (I'.unpinned (pins := [])).weak (by rw [← hw8, wipe_length]) (fun j v e => (wipe_some (hw8 ▸ e)).1), T.keep _ _ _ st7 fun b hb o e => (pinned b hb o e).1, fun b hb => ?_, w'⟩
        obtain ⟨o, e, _⟩ := T.obj _ _ st7 b hb
        exact (pinned b hb o e).2
      cases b with
      | false =>
        simp only [Bool.false_eq_true, if_false] at q9 ⊢
        exact again I9 q9
      | true =>
        simp only [if_true] at q9 ⊢
        refine thnF (pk.run _ s9 σ8 H9 _ I9 q9) fun z s10 ⟨yk, H10, I10, r10, q10⟩ => ?_
        refine thnF (pv.run _ s10 σ8 H10 _ I10 q10) fun z2 s11 ⟨yv, H11, I11, r11, kvs, k, hT, hy, hz, nx⟩ => ?_
        exact dictSet_N (X := X.blk s3 H3 scope ce fp) E hu I11 hT hy hz r10 r11 fun o s12 ho hT' I12 => again I12 (nx o ho hT')
  exact codeAny_compStart_dict loop (T.self X.A 0 _ _ _ st4 loop)
end
end Z
set_option Elab.async false
set_option linter.all false
set_option maxRecDepth 100000
set_option maxHeartbeats 2000000
/-! ZE: dicts with nested-tuple keys walked; sorted(d), list(d). -/
namespace Z
open PySem PySem.Spec L2
open PyProof.Rows hiding St
theorem rx_get {xs : NX} {ys : NY} (r : RX xs ys) {i : Nat} {x : NestedKey × Addr × V} (h : xs[i]? = some x) : ∃ y, ys[i]? = some y ∧ x.1 = y.1 ∧ x.2.1 = y.2.1 := by
  induction r generalizing i with
  | nil => simp at h
  | @cons a b as bs q t ih =>
    cases i with
    | zero => simp at h; subst h; exact ⟨b, rfl, q.1, q.2.1⟩
    | succ i => simpa using ih (i := i) (by simpa using h)
/-! ### for k in d, d locked -/
def Itn (P : Program) (w : World) (d : Addr) (o : Obj) (xs : NX) : It :=
  ⟨fun i H => H d = some (.frz o (dn P w d xs)) ∧ i < xs.length, fun i H v H' => H' = H ∧ ∃ x, xs[i]? = some x ∧ v = .ref x.2.1, fun i H => H d = some (.frz o (dn P w d xs)) ∧ xs.length ≤ i⟩
section
variable {X : Cx} {pins : List (Addr × Obj)} {σ : St} {H : Hp} {s : Shared} {d : Addr} {xs : NX} {o : Obj}
theorem frzN (I : Inv X pins σ H s) (h : H d = some (.frz o (dn X.prog X.w d xs))) : (d == sysModules) = false ∧ s.heap.get? d = some o ∧ o.ExactDict ∧ ∃ es ep, o.data = .dict es ep ∧ es.size = xs.length ∧
    ∀ (i : Nat) x, xs[i]? = some x → ∃ en : DictEntry, es[i]? = some en ∧ en.key = Value.ref x.2.1 := by
  obtain ⟨ho, hx, _⟩ := (show ObjOk X.prog X.w H s.heap d (.frz o (dn X.prog X.w d xs)) from I.hok d _ h)
  obtain ⟨_, z2, ys, r, o', es, ep, ho', hex, hd, he, _⟩ := hx
  rw [ho] at ho'
  cases ho'
  have hl : xs.length = ys.length := Paired.length r
  refine ⟨z2, ho, hex, es, ep, hd, ?_, fun i x hx => ?_⟩
  · have := congrArg List.length he
    rw [Array.length_toList, List.length_map] at this
    omega
  · obtain ⟨y, hy, e1, e2⟩ := rx_get r hx
    refine ⟨entryOfKey (nestedKind X.prog X.w) y, ?_, ?_⟩
    · rw [← Array.getElem?_toList, he, List.getElem?_map, hy]; rfl
    · show Value.ref y.2.1 = Value.ref x.2.1
      rw [e2]
theorem turn_N {P : Program} {w : World} {K : PySem.W.Frag} {tg : Expr} {d it : Addr} {o : Obj} {es : Array DictEntry} {ep : Nat} {xs : NX} (hod : o.data = .dict es ep) : Turn P w K tg (Itn P w d o xs) [it] it (fun i h => h.IsKeyIter it d i xs.length ep) where
  mem := List.mem_cons_self
  obj := fun i h st b hb => by
    obtain rfl := List.mem_singleton.mp hb
    obtain ⟨oi, e, _, dd⟩ := st
    exact ⟨oi, e, fun v z => by rw [dd] at z; cases z⟩
  keep := fun i h h' st k => st.at fun oi e => k it List.mem_cons_self oi e
  item := by
    rintro X rfl rfl rfl hc i pins s σ H E I hf st ⟨hd, hi⟩
    obtain ⟨f0, f1, f2, f3, f4, f5⟩ := hf it List.mem_cons_self
    obtain ⟨hs, hg, hx, es', ep', hdt, hsz, ent⟩ := frzN I hd
    obtain ⟨rfl, rfl⟩ := dict_ep hod hdt
    obtain ⟨en, hen, hkey⟩ := ent i _ (List.getElem?_eq_getElem hi)
    refine next_key_item st hg hdt hsz hen fun h' st' sb => ?_
    have J := I.turned (t' := s.toks) (fun b ob hb e => (sb.2 b hb).trans e) f0 f1 f3 f4 f5
    obtain ⟨oi, e, c, dd⟩ := id st'
    exact ⟨en.key, rfl, go_of (s := { s with heap := h' }) e c dd (by decide) ⟨.ref (xs[i]).2.1, H, J, hkey, ⟨rfl, _, List.getElem?_eq_getElem hi, rfl⟩, st', fun b hb => (hf b hb).1⟩⟩
  done := by
    rintro X rfl rfl rfl hc i pins s σ H E I hf st ⟨hd, hi⟩
    obtain ⟨f0, f1, f2, f3, f4, f5⟩ := hf it List.mem_cons_self
    obtain ⟨hs, hg, hx, es', ep', hdt, hsz, ent⟩ := frzN I hd
    obtain ⟨rfl, rfl⟩ := dict_ep hod hdt
    exact next_key_end (I.ok.hd hc) st hg hdt hsz hi fun h' eb => ⟨rfl, I.turned (t' := s.toks) (fun b ob hb e => eb b ob hb e) f0 f1 f3 f4 f5⟩
  self := fun A i s Q E st h => wpAny_pyIter_slot st.typeIs F.slot_dict_keyiterator_iter (wpAny_call_entry F.slot_dict_keyiterator_iter st.typeIs F.entry_dict_keyiterator_iter
    (show wpAny _ _ (ret (.ref it)) _ _ s from wpAny_pure ⟨_, rfl, "dict_keyiterator", _, st.typeIs, F.slot_dict_keyiterator_next.lookup, h⟩) (F.args_dict_keyiterator_iter_1 _))
def iKeysN (P : Program) (w : World) (td : TE) : TI := fun σ H R => td σ H fun x H1 => ∃ d o xs, x = .ref d ∧ H1 d = some (.frz o (dn P w d xs)) ∧ R (Itn P w d o xs) H1
theorem pi_keysN {tg e : Expr} {td : TE} (he : PE X e td) : PI X tg e (iKeysN X.prog X.w td) := ⟨fun pins s σ H R I h => thn (he.run pins s σ H _ I h) fun u s1 ⟨x, H1, I1, rx, d, o, xs, ex, hd, q⟩ => by
  subst ex
  obtain rfl : u = Value.ref d := rx
  obtain ⟨hs, hg, hx, es, ep, hdt, hsz, ent⟩ := frzN I1 hd
  refine iter_keys hs hg hx hdt (pi_one (tk := s1.toks) I1 _ (turn_N hdt) ⟨_, Heap.get?_push_size _ rfl, rfl, ?_⟩ q)
  rw [hsz] <;> rfl⟩
end

/-! ### a new object anywhere -/
theorem un_laid {fs ex : List Addr} {H : Hp} {h h' : Heap} {a : Addr} {o : HO} (k : ∀ b u, h.get? b = some u → h'.get? b = some u) (ne : ∀ b u, h.get? b = some u → b ≠ a) (hn : H a = none) : Un fs ex H (upd H a o) h h' where
  keep := fun b u q _ _ _ => k b u q
  slot := fun b u q _ _ _ => ⟨u.slots, k b u q⟩
  free := fun b u q n _ => by rw [upd_ne (ne b u q)]; exact n
  there := fun b u q _ => ⟨u, k b u q⟩
  tups := fun b xs q => by rw [upd_ne (ne_of_none q hn)]; exact q
  frzs := fun b u xs q => by rw [upd_ne (ne_of_none q hn)]; exact q
  tbls := fun b ps q => ⟨#[], by rw [upd_ne (ne_of_none q hn), q]; simp⟩
theorem hok_laid {P : Program} {w : World} {H : Hp} {h h' : Heap} {a : Addr} {o : HO} (x : HOk P w H h) (k : ∀ b u, h.get? b = some u → h'.get? b = some u) (hn : H a = none) (new : ObjOk P w (upd H a o) h' a o) : HOk P w (upd H a o) h' := fun b u e => by
  by_cases hb : b = a
  · subst hb; rw [upd_same] at e; cases e; exact new
  · rw [upd_ne hb] at e
    exact (x b u e).stay (fun c v _ q => k c v q) (fun c q => by rw [upd_ne (ne_of_none q hn)]; exact q) fun c xs q => by rw [upd_ne (ne_of_none q hn)]; exact q
theorem objok_there {P : Program} {w : World} {H : Hp} {h : Heap} {a : Addr} : ∀ {o : HO}, ObjOk P w H h a o → ∃ u, h.get? a = some u
  | .lst xs, x => let ⟨_, _, _, _, e⟩ := x; ⟨_, e⟩
  | .tup xs, x => let ⟨_, _, _, o, e, _⟩ := x; ⟨o, e⟩
  | .dK kvs, x => let ⟨_, _, _, _, o, _, _, e, _⟩ := x; ⟨o, e⟩
  | .dT kvs, x => let ⟨_, _, _, _, o, _, _, e, _⟩ := x; ⟨o, e⟩
  | .set S n, x => let ⟨o, _, _, _, e, _⟩ := x; ⟨o, e⟩
  | .ins C dx fs, x => let ⟨_, _, _, e, _⟩ := x; ⟨_, e⟩
  | .own y, x => x
  | .xd fs, x => let ⟨_, ⟨o, _, _, e, _⟩, _⟩ := x; ⟨o, e⟩
  | .rng lo hi, x => let ⟨_, _, _, e⟩ := x; ⟨_, e⟩
  | .frz ob u, x => ⟨ob, x.1⟩
  | .tbl ps, x => ⟨_, x⟩
  | .met f y, x => ⟨_, x⟩
  | .ext φ, x => x.2.1
theorem none_of {X : Cx} {pins : List (Addr × Obj)} {σ : St} {H : Hp} {s : Shared} {a : Addr} (I : Inv X pins σ H s) (ne : ∀ b u, s.heap.get? b = some u → b ≠ a) : H a = none := by
  cases q : H a with
  | none => rfl
  | some o =>
    obtain ⟨u, e⟩ := objok_there (I.hok a o q)
    exact absurd rfl (ne a u e)

/-! ### sorted, list of anything that can be gathered -/
section
variable {prog : Program} {w : World} {A : Around} {E : Value → Shared → Prop} {s : Shared}
/-- the gathered values have the data ds (K, H: what is known of them) -/
theorem sorted_via {X : Cx} {pins : List (Addr × Obj)} {σ : St} {H : Hp} (I : Inv X pins σ H s) (hu : X.A.units + 64 < cLine) {r : Addr} {Pv : List Value → Prop} {Q : VK}
    (col : ∀ (R : List Value → Shared → Prop), (∀ s' vs, (∀ b o, s.heap.get? b = some o → s'.heap.get? b = some o) → s'.gens = s.gens → s'.os = s.os → Pv vs → R vs s') →
      wpAny (model X.prog X.w) X.A.in1 (collect (.ref r)) R X.xe s)
    (hP : ∀ vs, Pv vs → ∃ ds, PySem.W.EachIs (Std X.K H) vs ds ∧ PySem.W.AllAlike ds ∧ PySem.W.Sortable ds ∧ (∀ d ∈ ds, d.depth ≤ 8) ∧ ds.length ≤ sizeLine ∧
      ∀ p ys, H p = none → DpAll X.K H ys (sortD ds) → Q (.ref p) (upd H p (.lst ys))) :
    wpAny (model X.prog X.w) X.A (call (.builtin "sorted") [.ref r]) (EP X pins σ Q) X.xe s := by
  refine Calls.call_function_entry kind_sorted plain_sorted entry_sorted (args_sorted1 _) ?_
  unfold Builtin.«sorted»
  refine wpAny_bind (m := checkCount "sorted" 1 1 _) (wpAny_pure (wpAny_bind (col _ fun s1 vs k1 g1 o1 hv => ?_)))
  obtain ⟨ds, e, al, so, dp, hl, q⟩ := hP vs hv
  have hvl : vs.length = ds.length := e.length
  refine wpAny_bind (wpAny_newList ?_ (by omega))
  have z1 : ∀ b o, s.heap.get? b = some o → b < s1.heap.objs.size := fun b o e => Heap.lt_size (k1 b o e)
  have old : ∀ b o, s.heap.get? b = some o → (PySem.W.sortingHeap (s1.heap.push (seqObj "list" vs.toArray 0)) s1.heap.objs.size vs).get? b = some o := fun b o hb => by
    have hlt := z1 b o hb
    exact PySem.W.sortingHeap_old (Nat.ne_of_lt hlt) (Heap.get?_push_of_some _ (k1 b o hb))
  have idm : ds.map (fun d => d) = ds := List.map_id' ds
  have er : PySem.W.EachIs (fun v d => ∃ as, Reads (PySem.W.sortingHeap (s1.heap.push (seqObj "list" vs.toArray 0)) s1.heap.objs.size vs) v d as) vs ds :=
    (std_reads I e).mono fun _ _ ⟨as, r⟩ => ⟨as, PyProof.Rows.Reads.keeps old r⟩
  have hat : (s1.heap.push (seqObj "list" vs.toArray 0)).get? s1.heap.objs.size = some (seqObj "list" vs.toArray 0) := Heap.get?_push_size _ rfl
  refine wpAny_bind (wpAny_holding (wpAny_call_entry slot_list_sort ⟨_, hat, rfl⟩ entry_list_sort (PySem.W.list_sort_vals (s := { s1 with heap := s1.heap.push (seqObj "list" vs.toArray 0) }) (κ := PySem.W.dataKind (PySem.W.sortingHeap (s1.heap.push (seqObj "list" vs.toArray 0)) s1.heap.objs.size vs) ds) hat
    (PySem.W.SortsAt.data er al so fun d hd => ?_) (by omega) ⟨_, rfl, wpAny_pure ⟨_, rfl, ?_⟩⟩) (args_list_sort _)))
  · have := dp d hd
    show X.A.units + 1 + 1 + d.depth < cLine
    omega
  · have eo := PySem.W.sortVals_data (R := Std X.K H) (enc := fun d => d) false e er (by rw [idm]; exact al)
    rw [idm] at eo
    obtain ⟨ys, h1, h2⟩ := of_each eo
    have hn : H s1.heap.objs.size = none := none_of I fun b o e => Nat.ne_of_lt (z1 b o e)
    obtain ⟨c, hc⟩ := sortedHeap_at (out := (PySem.W.sortVals (PySem.W.dataKind (PySem.W.sortingHeap (s1.heap.push (seqObj "list" vs.toArray 0)) s1.heap.objs.size vs) ds) false vs vs).toArray) hat
    have keep : ∀ b o, s.heap.get? b = some o → (sortedHeap (s1.heap.push (seqObj "list" vs.toArray 0)) s1.heap.objs.size vs (PySem.W.sortVals (PySem.W.dataKind (PySem.W.sortingHeap (s1.heap.push (seqObj "list" vs.toArray 0)) s1.heap.objs.size vs) ds) false vs vs).toArray).get? b = some o := fun b o hb => by
      have hlt := z1 b o hb
      rw [sortedHeap_old (Nat.ne_of_lt hlt) (by rw [Heap.size_push]; exact Nat.lt_succ_of_lt hlt)]
      exact Heap.get?_push_of_some _ (k1 b o hb)
    have hlen : ys.length ≤ sizeLine := by
      rw [h2.length]
      show (ds.mergeSort _).length ≤ _
      rw [List.length_mergeSort]
      exact hl
    have J : Inv X pins σ (upd H s1.heap.objs.size (.lst ys)) { s with heap := sortedHeap (s1.heap.push (seqObj "list" vs.toArray 0)) s1.heap.objs.size vs (PySem.W.sortVals (PySem.W.dataKind (PySem.W.sortingHeap (s1.heap.push (seqObj "list" vs.toArray 0)) s1.heap.objs.size vs) ds) false vs vs).toArray, gens := s1.gens, drawn := s1.drawn, toks := s1.toks } :=
      I.call (ch := []) (un_laid keep (fun b o e => Nat.ne_of_lt (z1 b o e)) hn) (hok_laid I.hok keep hn ⟨hlen, _, c, h1, hc⟩) (by rw [g1]; exact I.bare) (fun _ z => nomatch z)
    rw [← o1] at J
    exact ⟨.ref s1.heap.objs.size, _, J, rfl, q _ ys hn h2⟩
end
section
variable {X : Cx} {α : Type} [DecidableEq α] {enc : α → PyData}
/-- the raw dict, its keys as data -/
theorem tab_raw {pins : List (Addr × Obj)} {σ : St} {H : Hp} {s : Shared} {d : Addr} {kvs : List (α × V)} (E : KeyEnc enc) (I : Inv X pins σ H s) (T : Tab X.prog X.w X.K enc H d kvs) : (d == sysModules) = false ∧ ∃ es ep, s.heap.DictRaw d es ep ∧ es.size = kvs.length ∧
    es.size ≤ sizeLine ∧ ∀ vs : List Value, vs.length = es.size → (∀ (j : Nat) v, vs[j]? = some v → ∃ hi : j < es.size, v = es[j].key) → PySem.W.EachIs (Std X.K H) vs (kvs.map fun p => enc p.1) := by
  obtain ⟨xs, h1, h2, h3, h4⟩ := T.ex
  obtain ⟨z1, z2, ys, r, z3, o, es, ep, ho, hex, hd, he, his, hn⟩ := dn_at I h1 h3
  have hl := congrArg List.length h2
  rw [List.length_map, List.length_map] at hl
  have hr : xs.length = ys.length := Paired.length r
  have hz : es.size = ys.length := by
    have := congrArg List.length he
    rw [Array.length_toList, List.length_map] at this
    exact this
  refine ⟨z2, es, ep, ⟨o, ho, hex, hd⟩, by omega, by omega, fun vs hvl hv => ?_⟩
  -- keys one by one
  have at_ : ∀ j (hj : j < kvs.length), ∃ v, vs[j]? = some v ∧ Std X.K H v (enc (kvs[j]).1) := fun j hj => by
    have hjv : j < vs.length := by omega
    obtain ⟨hi, ev⟩ := hv j _ (List.getElem?_eq_getElem hjv)
    refine ⟨_, List.getElem?_eq_getElem hjv, ?_⟩
    have hjx : j < xs.length := by omega
    have hjy : j < ys.length := by omega
    have ek : (es[j]).key = .ref (ys[j]).2.1 := by
      have : es[j]? = some (entryOfKey (nestedKind X.prog X.w) ys[j]) := by
        rw [← Array.getElem?_toList, he, List.getElem?_map, List.getElem?_eq_getElem hjy]; rfl
      rw [Array.getElem?_eq_getElem hi] at this
      rw [Option.some.inj this]
      rfl
    obtain ⟨y, hy, e1, e2⟩ := rx_get r (List.getElem?_eq_getElem hjx)
    rw [List.getElem?_eq_getElem hjy] at hy
    cases hy
    obtain ⟨q, hq, _, _, dq⟩ : ∃ q, kvs[j]? = some q ∧ xs[j].1 = nk (enc q.1) ∧ xs[j].2.2 = q.2 ∧ Dp X.K H (.ref xs[j].2.1) (enc q.1) := by
      obtain ⟨q, hq, r⟩ := paired_get h4 (List.getElem?_eq_getElem hjx)
      exact ⟨q, hq, r⟩
    rw [List.getElem?_eq_getElem hj] at hq
    cases hq
    exact ⟨.ref (xs[j]).2.1, by rw [ev, ek, e2]; rfl, dq⟩
  have build : ∀ (n : Nat) (us : List Value) (ks : List (α × V)), us.length = n → ks.length = n → (∀ j (hj : j < ks.length), ∃ v, us[j]? = some v ∧ Std X.K H v (enc (ks[j]).1)) → PySem.W.EachIs (Std X.K H) us (ks.map fun p => enc p.1) := by
    intro n
    induction n with
    | zero =>
      intro us ks h1 h2 _
      rw [List.length_eq_zero_iff] at h1 h2
      subst h1 h2
      exact .nil
    | succ n ih =>
      intro us ks h1 h2 h
      cases us with
      | nil => simp at h1
      | cons u us =>
        cases ks with
        | nil => simp at h2
        | cons k ks =>
          obtain ⟨v, hv, sv⟩ := h 0 (by simp)
          simp at hv
          subst hv
          refine .cons sv (ih us ks (by simpa using h1) (by simpa using h2) fun j hj => ?_)
          obtain ⟨v, hv, sv⟩ := h (j + 1) (by simp; omega)
          exact ⟨v, by simpa using hv, by simpa using sv⟩
  exact build kvs.length vs kvs (by omega) rfl at_
/-- data that can be sorted -/
structure SortEnc {α : Type} (enc : α → PyData) : Prop where
  alike : ∀ a b, PySem.W.alike (enc a) (enc b) = true
  tup : ∀ a, ∃ x r, enc a = .tuple (x :: r)
  dep : ∀ a, (enc a).depth ≤ 8
theorem SortEnc.all {α : Type} {enc : α → PyData} (S : SortEnc enc) (xs : List α) : PySem.W.AllAlike (xs.map enc) ∧ PySem.W.Sortable (xs.map enc) ∧ ∀ d ∈ xs.map enc, d.depth ≤ 8 :=
  ⟨.of S.alike, .tuples S.tup, fun d hd => by obtain ⟨x, _, rfl⟩ := List.mem_map.mp hd; exact S.dep x⟩
/-- sorted(d) -/
def rSortedN (P : Program) (w : World) (K : PySem.W.Frag) (enc : α → PyData) : List V → Hp → VK → Prop := fun vs H Q => ∃ d kvs, vs = [V.ref d] ∧ Tab P w K enc H d kvs ∧ (PySem.W.AllAlike (kvs.map fun p => enc p.1) ∧ PySem.W.Sortable (kvs.map fun p => enc p.1) ∧ ∀ d ∈ kvs.map fun p => enc p.1, d.depth ≤ 8) ∧ ∀ p ys, H p = none → DpAll K H ys (sortD (kvs.map fun p => enc p.1)) → Q (.ref p) (upd H p (.lst ys))
theorem cr_sortedN (hc : X.calm = true) (hu : X.A.units + 64 < cLine) : CallR X (.builtin "sorted") (rSortedN X.prog X.w X.K enc) := by
  intro pins s σ H vs us Q I r h
  obtain ⟨d, kvs, rfl, T, ⟨a1, a2, a3⟩, q⟩ := h
  obtain ⟨u, rfl, ru⟩ := vals1 r
  obtain rfl : u = Value.ref d := ru
  obtain ⟨z2, es, ep, raw, hz, hl, each⟩ := tab_raw T.E I T
  refine sorted_via I hu (Pv := fun vs => vs.length = es.size ∧ ∀ (j : Nat) v, vs[j]? = some v → ∃ hi : j < es.size, v = es[j].key) (fun R hR => ?_) fun vs hv => ⟨kvs.map fun p => enc p.1, each vs hv.1 hv.2, a1, a2, a3, by rw [List.length_map]; omega, q⟩
  refine PySem.W.kdu_collect (PySem.KdlSrc.rawDict z2) (I.ok.hd hc) raw hl fun h' tk acc hk hacc => hR _ _ hk rfl rfl ⟨?_, fun j v hj => ?_⟩
  · rw [Array.length_toList]; exact hacc.1
  · exact hacc.2 j v (by rw [← Array.getElem?_toList]; exact hj)
/-- list(d) -/
def rListN (P : Program) (w : World) (K : PySem.W.Frag) (enc : α → PyData) : List V → Hp → VK → Prop := fun vs H Q => ∃ d kvs, vs = [V.ref d] ∧ Tab P w K enc H d kvs ∧ ∀ p ys, H p = none → DpAll K H ys (kvs.map fun p => enc p.1) → Q (.ref p) (upd H p (.lst ys))
theorem cr_listN (hc : X.calm = true) : CallR X (.type "list") (rListN X.prog X.w X.K enc) := by
  intro pins s σ H vs us Q I r h
  obtain ⟨d, kvs, rfl, T, q⟩ := h
  obtain ⟨u, rfl, ru⟩ := vals1 r
  obtain rfl : u = Value.ref d := ru
  obtain ⟨z2, es, ep, raw, hz, hl, each⟩ := tab_raw T.E I T
  refine PySem.W.kdl_call (PySem.KdlSrc.rawDict z2) (I.ok.hd hc) raw hl fun h' tk acc c hk hat hacc => ?_
  obtain ⟨ys, h1, h2⟩ := of_each (each acc.toList (by rw [Array.length_toList]; exact hacc.1) fun j v hj => hacc.2 j v (by rw [← Array.getElem?_toList]; exact hj))
  have hn : H s.heap.objs.size = none := I.hok.fresh (Nat.le_refl _)
  refine ⟨.ref s.heap.objs.size, _, I.laid (o := .lst ys) (t' := tk) hk (Nat.le_refl _) ⟨?_, acc.toList, c, h1, hat⟩, rfl, q _ ys hn h2⟩
  rw [h2.length, List.length_map]
  omega
end
end Z
set_option Elab.async false
set_option linter.all false
set_option maxRecDepth 100000
set_option maxHeartbeats 2000000
/-! ZF: setdefault and dict(list of pairs), nested-tuple keys. -/
namespace Z
open PySem PySem.Spec L2
open PyProof.Rows hiding St
section
variable {X : Cx} {α : Type} [DecidableEq α] {enc : α → PyData}
/-- d.setdefault(k, x) -/
def tSetdN (P : Program) (w : World) (K : PySem.W.Frag) (enc : α → PyData) (td ty tx : TE) : TE := fun σ H Q => td σ H fun x H1 => ∃ d, x = .ref d ∧ (∃ xs, H1 d = some (dn P w d xs)) ∧ ty σ H1 fun y H2 => tx σ H2 fun z H3 =>
  ∃ kvs k, Tab P w K enc H3 d kvs ∧ Dp K H3 y (enc k) ∧ kvs.length < sizeLine ∧ (∀ v, valV kvs k = some v → Q v H3) ∧ (valV kvs k = none → ∀ u, NoSeq u = true → Tab P w K enc (upd H3 d u) d (putK kvs k z) → Q z (upd H3 d u))
theorem pe_setdN (hu : X.A.units + 64 < cLine) {o e f : Expr} {apos cpos : Pos} {td ty tx : TE} (ho : PE X o td) (he : PE X e ty) (hf : PE X f tx) (m : M2 X o "setdefault" apos e f cpos) :
    PE X (.Call (.Attribute o "setdefault" apos) [e, f] [] cpos) (tSetdN X.prog X.w X.K enc td ty tx) := by
  refine ⟨fun pins s σ H Q I h => wpAny_Call_method m.base m.few m.line PySem.F.plainAttrs_dict PySem.F.slot_dict_setdefault PySem.F.type_dict_setdefault (thn (ho.run pins s σ H _ I h) fun u s1 ⟨x, H1, I1, rx, d, ex, ⟨xs, hd⟩, q1⟩ => ?_)⟩
  subst ex
  obtain rfl : u = Value.ref d := rx
  obtain ⟨ob, hob, hex⟩ := dn_type I1 hd
  refine ⟨⟨ob, hob, hex.1⟩, fun a e => by cases e; exact ⟨ob, hob, hex.2.1⟩, ?_⟩
  rw [m.trees]
  refine Calls.callWith_builtin rfl (Calls.evalArgs_plain (Calls.spliced_cons (thn (he.run pins s1 σ H1 _ I1 q1) fun iv s2 ⟨y, H2, I2, ry, q2⟩ =>
    Calls.spliced_cons (thn (hf.run pins s2 σ H2 _ I2 q2) fun fv s3 ⟨z, H3, I3, rz, kvs, k, T, hy, hz, q3, q4⟩ => Calls.spliced_nil ?_))))
  obtain ⟨b, rfl, kb⟩ := key_of_dp T.E hy
  obtain rfl : iv = Value.ref b := ry
  obtain ⟨xs, h1, h2, h3, h4⟩ := T.ex
  obtain ⟨z1, z2, ys, r, z3, hm⟩ := dn_at I3 h1 h3
  have hl := congrArg List.length h2
  rw [List.length_map, List.length_map] at hl
  have hr := r.at (nk (enc k))
  rw [at_val T.E k h2] at hr
  refine call_setdefault_heap (hsz := z3) (nroom hu _ _) (kb.is I3) z2 hm (fun p hp => ?_) fun hn h' hm' sb => ?_
  · rw [hp] at hr
    cases q0 : valV kvs k with
    | none => rw [q0] at hr; exact (show False from hr).elim
    | some v0 =>
      rw [q0] at hr
      exact ⟨v0, H3, I3.tok _, hr, q3 v0 q0⟩
  · rw [hn] at hr
    have q0 : valV kvs k = none := by
      cases q : valV kvs k with
      | none => rfl
      | some v => rw [q] at hr; exact (show False from hr).elim
    have tk : TKp X.K H3 (upd H3 d (dn X.prog X.w d (stX xs (nk (enc k)) b z))) := TKp.upd h1 rfl
    have hs := stX_len xs (nk (enc k)) b z
    exact ⟨z, _, dn_write I3 h1 (by omega) z2 (r.st rz) hm' sb, rz, q4 q0 _ rfl ⟨T.E, _, upd_same, (h4.st T.E hy).keep T.E tk⟩⟩

/-! ### dict(pairs) -/
/-- the table of pairs, stored one behind the other -/
def putAll (kvs : List (α × V)) (ps : List (α × V)) : List (α × V) := ps.foldl (fun acc p => putK acc p.1 p.2) kvs
theorem stX_all {K : PySem.W.Frag} {H : Hp} (E : KeyEnc enc) : ∀ {ps : List (α × V)} {zs : List (NestedKey × Addr × V)} {rs : NY} {xs : NX} {ys : NY} {kvs : List (α × V)}, TR K H enc zs ps → RX zs rs → TR K H enc xs kvs → RX xs ys →
    ∃ xs', TR K H enc xs' (putAll kvs ps) ∧ RX xs' (storedAllH ys rs) ∧ xs'.length ≤ xs.length + ps.length
  | [], _, _, xs, ys, kvs, .nil, .nil, t, r => ⟨xs, t, r, Nat.le_refl _⟩
  | p :: ps, z :: zs, q :: rs, xs, ys, kvs, .cons h hs, .cons g gs, t, r => by
    have e1 : q.1 = nk (enc p.1) := g.1.symm.trans h.1
    have t' : TR K H enc (stX xs (nk (enc p.1)) z.2.1 z.2.2) (putK kvs p.1 z.2.2) := t.st E h.2.2
    have r' : RX (stX xs (nk (enc p.1)) z.2.1 z.2.2) (storedH ys q.1 q.2.1 q.2.2) := by
      rw [e1, ← g.2.1]
      exact r.st g.2.2
    rw [h.2.1] at t' r'
    obtain ⟨xs', a, b, c⟩ := stX_all E hs gs t' r'
    refine ⟨xs', a, b, ?_⟩
    have := stX_len xs (nk (enc p.1)) z.2.1 p.2
    rw [List.length_cons]
    omega
def rDictP (P : Program) (w : World) (K : PySem.W.Frag) (enc : α → PyData) : List V → Hp → VK → Prop := fun vs H Q => ∃ (l : Addr) (ks : List α), vs = [V.ref l] ∧ Dp K H (.ref l) (.list (ks.map fun k => .tuple [enc k, .bool true])) ∧
  ∀ p u, H p = none → NoSeq u = true → Tab P w K enc (upd H p u) p (putAll [] (ks.map fun k => (k, V.bl true))) → Q (.ref p) (upd H p u)
theorem cr_dictP (E : KeyEnc enc) (hc : X.calm = true) (hu : X.A.units + 64 < cLine) : CallR X (.type "dict") (rDictP X.prog X.w X.K enc) := by
  intro pins s σ H vs us Q I r h
  obtain ⟨l, ks, rfl, hd, q⟩ := h
  obtain ⟨u, rfl, ru⟩ := vals1 r
  obtain rfl : u = Value.ref l := ru
  cases hd with
  | @lst _ xs _ hs ha =>
    obtain ⟨its, rv, ⟨ol, nl, hol, hcl, hdl, hdat⟩, hz⟩ := I.list hs
    have hlx : xs.length = ks.length := by rw [ha.length, List.length_map]
    have hli : its.length = ks.length := by rw [← rv.length]; exact hlx
    -- each pair
    have pair : ∀ (j : Nat) (k : α), ks[j]? = some k → ∃ T b, its[j]? = some (.ref T) ∧ s.heap.IsTuple T #[.ref b, .bool true] ∧ Dp X.K H (.ref b) (enc k) := fun j k hk => by
      have hj : (ks.map fun k => PyData.tuple [enc k, .bool true])[j]? = some (.tuple [enc k, .bool true]) := by rw [List.getElem?_map, hk]; rfl
      obtain ⟨v, hv, dv⟩ := ha.get' hj
      obtain ⟨uv, huv, ruv⟩ := rv.get hv
      cases dv with
      | @tup T ws _ ht hw =>
        obtain rfl : uv = Value.ref T := ruv
        cases hw with
        | @cons x _ _ _ hx hw =>
          cases hw with
          | @cons y _ _ _ hy hw =>
            cases hw
            cases hy
            obtain ⟨is, ri, ⟨o, ho, hc', n', hd'⟩, _⟩ := I.tuple ht
            obtain ⟨u1, u2, rfl, r1, r2⟩ := vals2 ri
            obtain rfl : u2 = Value.bool true := r2
            obtain ⟨b, rfl, kb⟩ := key_of_dp E hx
            obtain rfl : u1 = Value.ref b := r1
            exact ⟨T, b, huv, ⟨o, ho, hc', n', hd'⟩, hx⟩
    -- as tables
    have tabs : ∀ (n : Nat) (js : List α), js.length = n → ∀ (off : Nat), (∀ (j : Nat) (k : α), js[j]? = some k → ks[off + j]? = some k) → ∃ (zs : NX) (rs : NY), TR X.K H enc zs (js.map fun k => (k, V.bl true)) ∧ RX zs rs ∧ rs.length = js.length ∧ ∀ (j : Nat) (k : α), js[j]? = some k →
        ∃ T b, its[off + j]? = some (.ref T) ∧ s.heap.IsTuple T #[.ref b, .bool true] ∧ rs[j]? = some (nk (enc k), b, .bool true) := by
      intro n
      induction n with
      | zero =>
        intro js hn off _
        rw [List.length_eq_zero_iff] at hn
        subst hn
        exact ⟨[], [], .nil, .nil, rfl, fun j k h => by simp at h⟩
      | succ n ih =>
        intro js hn off hks
        cases js with
        | nil => simp at hn
        | cons k js =>
          obtain ⟨T, b, h1, h2, h3⟩ := pair off k (by have := hks 0 k rfl; simpa using this)
          obtain ⟨zs, rs, t1, t2, t3, t4⟩ := ih js (by simpa using hn) (off + 1) fun j k' h => by
            have := hks (j + 1) k' (by simpa using h)
            rw [show off + 1 + j = off + (j + 1) by omega]
            exact this
          refine ⟨(nk (enc k), b, .bl true) :: zs, (nk (enc k), b, .bool true) :: rs, .cons ⟨rfl, rfl, h3⟩ t1, .cons ⟨rfl, rfl, rfl⟩ t2, by rw [List.length_cons, List.length_cons, t3], fun j k' hj => ?_⟩
          cases j with
          | zero =>
            simp at hj
            subst hj
            exact ⟨T, b, by simpa using h1, h2, rfl⟩
          | succ j =>
            obtain ⟨T', b', g1, g2, g3⟩ := t4 j k' (by simpa using hj)
            rw [show off + 1 + j = off + (j + 1) by omega] at g1
            exact ⟨T', b', g1, g2, by simpa using g3⟩
    obtain ⟨zs, rs, t1, t2, t3, t4⟩ := tabs ks.length ks rfl 0 fun j k h => by simpa using h
    have hlr : rs.length = ks.length := t3
    -- the argument
    let Ts : Nat → Addr := fun j => match its[j]? with | some (.ref T) => T | _ => 0
    have items : PairItems s.heap its.toArray Ts (rs.map fun q => (Value.ref q.2.1, q.2.2)) := by
      refine ⟨by rw [List.size_toArray, List.length_map, hli, hlr], fun j k v hj => ?_⟩
      rw [List.getElem?_map] at hj
      have hjl : j < ks.length := by
        rw [← hlr]
        cases e : rs[j]? with
        | none => rw [e] at hj; cases hj
        | some z => exact (List.getElem?_eq_some_iff.mp e).1
      obtain ⟨T, b, g1, g2, g3⟩ := t4 j _ (List.getElem?_eq_getElem hjl)
      rw [Nat.zero_add] at g1
      rw [g3] at hj
      cases hj
      have eT : Ts j = T := by show (match its[j]? with | some (.ref T) => T | _ => 0) = T; rw [g1]
      rw [eT]
      exact ⟨by simpa using g1, .inl g2⟩
    have PA := PairArg.list (prog := X.prog) (w := X.w) l its.toArray Ts (rs.map fun q => (Value.ref q.2.1, q.2.2))
    have hn : H s.heap.objs.size = none := I.hok.fresh (Nat.le_refl _)
    have his : ∀ x ∈ rs, (nestedKind X.prog X.w).is s.heap x.1 x.2.1 := fun x hx => by
      have hk := t2.keys
      have hm : (x.1, x.2.1) ∈ zs.map (fun z => (z.1, z.2.1)) := by rw [hk]; exact List.mem_map.mpr ⟨x, hx, rfl⟩
      obtain ⟨z, hz, e⟩ := List.mem_map.mp hm
      have := (t1.key E z hz).is I
      rw [show z.1 = x.1 from congrArg Prod.fst e, show z.2.1 = x.2.1 from congrArg Prod.snd e] at this
      exact this
    refine call_dict_pairsH (knd := nestedKind X.prog X.w) (ps := rs) PA (I.ok.hd hc) ?_ ⟨⟨ol, nl, hol, hcl, hdl, hdat⟩, items⟩ ⟨by rw [List.length_map], fun i key v hr => ?_⟩ (fun h' hk x hx => ?_) (by rw [List.length_map]; omega) fun h' tk hm' hk => ?_
    · show X.A.units + 1 + 1 + 8 < cLine
      omega
    · have hr' : (rs.map fun q => (Value.ref q.2.1, q.2.2))[i]? = some (key, v) := hr
      rw [List.getElem?_map] at hr'
      cases e : rs[i]? with
      | none => rw [e] at hr'; cases hr'
      | some z =>
        rw [e] at hr'
        cases hr'
        exact ⟨z.1, z.2.1, rfl, rfl⟩
    · exact nestedKind_stays.stays (fun b o vs m eb _ => hk b o (Nat.ne_of_lt (Heap.lt_size eb)) (fun z => nomatch z) eb) (his x hx)
    · obtain ⟨xs', a1, a2, a3⟩ := stX_all E t1 t2 (xs := []) (ys := []) (kvs := []) .nil .nil
      obtain ⟨o, es, ep, ho, hex, hdd, he, _, hnd⟩ := hm'
      have hlen : xs'.length ≤ sizeLine := by
        rw [List.length_map] at a3
        simp only [List.length_nil] at a3
        omega
      have hsys : (s.heap.objs.size == sysModules) = false := beq_eq_false_iff_ne.mpr (Nat.ne_of_gt I.big)
      have keep : ∀ b o, s.heap.get? b = some o → h'.get? b = some o := fun b o e => hk b o (fun z => nomatch z) e
      have tk' : TKp X.K H (upd H s.heap.objs.size (dn X.prog X.w s.heap.objs.size xs')) := .same (Same.new hn)
      exact ⟨.ref s.heap.objs.size, _, I.laid (t' := tk) keep (Nat.le_refl _) (dn_ok ⟨hlen, hsys, _, a2, o, es, ep, ho, hex, hdd, he, hnd⟩), rfl, q _ _ hn rfl ⟨E, _, upd_same, a1.keep E tk'⟩⟩
end
end Z
set_option Elab.async false
set_option linter.all false
set_option maxRecDepth 100000
set_option maxHeartbeats 2000000
/-! ZG: all but some objects stay (But); a def and its promise (Has, OkAt); readings that give a new list (EvN); loops by data. -/
namespace L2
open PySem PySem.Spec
open PyProof.Rows hiding St
/-- what was tracked is as it was, but for S -/
def But (S : List Addr) (H H' : Hp) : Prop := ∀ a o, H a = some o → a ∉ S → H' a = some o
section
variable {K : PySem.W.Frag} {H H1 H2 H' : Hp} {S S' : List Addr} {p : Addr} {o : HO}
theorem But.refl : But S H H := fun _ _ h _ => h
theorem Same.but (e : Same H H') : But S H H' := fun a o h _ => e a o h
theorem But.trans (a : But S H H1) (b : But S H1 H2) : But S H H2 := fun c o h n => b c o (a c o h n) n
theorem But.mono (a : But S H H1) (h : ∀ x ∈ S, x ∈ S') : But S' H H1 := fun c o e n => a c o e fun q => n (h c q)
theorem But.upd (h : But S H H1) (ha : p ∈ S ∨ H p = none) : But S H (upd H1 p o) := fun c u e n => by
  have ne : c ≠ p := fun z => by
    subst z
    rcases ha with q | q
    · exact n q
    · rw [q] at e; cases e
  rw [upd_ne ne]
  exact h c u e n
/-- the addresses that H does not know may be left out -/
theorem But.less (h : But S H H1) (hs : ∀ x ∈ S, x ∈ S' ∨ H x = none) : But S' H H1 := fun c u e n => h c u e fun q => by
  rcases hs c q with z | z
  · exact n z
  · rw [z] at e; cases e
theorem But.same (h : But S H H1) (hs : ∀ x ∈ S, H x = none) : Same H H1 := fun c u e => h c u e fun q => by rw [hs c q] at e; cases e
theorem But.tk (h : But S H H') (l : ∀ a ∈ S, ∀ o, H a = some o → Loose o = true) : TKp K H H' := fun a xs q => q.elim (fun q => .inl (by
  have ne : ∀ {x : HO}, H a = some x → Loose x = false → a ∉ S := fun {x} e f z => by
    rw [l a z x e] at f; cases f
  rcases q with q | ⟨ob, q⟩
  · exact .inl (h a _ q (ne q rfl))
  · exact .inr ⟨ob, h a _ q (ne q rfl)⟩)) .inr
theorem But.seqL {a : Addr} {xs : List V} (h : But S H H') (n : a ∉ S) (q : SqL K H a xs) : SqL K H' a xs := q.elim (fun q => .inl (q.elim (fun q => .inl (h a _ q n)) fun ⟨ob, q⟩ => .inr ⟨ob, h a _ q n⟩)) .inr
theorem SqL.lst {a : Addr} {xs : List V} (q : H a = some (.lst xs)) : SqL K H a xs := .inl (.inl q)
end
end L2
namespace Z
open PySem PySem.Spec L2
open PyProof.Rows hiding St

/-! ### defs -/
section
variable {P : Program} {w : World} {K : PySem.W.Frag} {mg : Str → Option Value} {base : Heap} {k : Nat} {x : Str} {st : Stmt} {N ps : List Str} {sp : Sp}
structure Has (K : PySem.W.Frag) (mg : Str → Option Value) (x : Str) (st : Stmt) (ps : List Str) : Prop where
  ex : ∃ f fd, Fun K x x st f fd ∧ mg x = some (.ref f) ∧ Binds K fd ps []
structure OkAt (P : Program) (w : World) (K : PySem.W.Frag) (mg : Str → Option Value) (base : Heap) (k : Nat) (x : Str) (ps : List Str) (sp : Sp) : Prop where
  ex : ∃ f fd, FnOk P w K mg base CX0 k f fd ps sp ∧ mg x = some (.ref f) ∧ PySem.W.keepIn K (.ref f) = true ∧ Binds K fd ps []
theorem Has.ok (h : Has K mg x st ps) (S : FnScope N ps (defScope st)) (len : ∀ vs H Q E, sp vs H Q E → vs.length = ps.length)
    (body : ∀ (f cdv : Value) (A : Around) (outer : List Env) (s : Shared) (H : Hp) (vs : List V) (Q : VK) (E : XK) (f : Addr), Room k (A.deeper (envOfC x (defScope st) s.heap.objs.size f cdv)) → sp vs H Q E →
      ∃ t, PSs (cxOf CX0 P w K mg base N x (defScope st) f cdv A outer s H E).nox (defBody st) t ∧ t { nx := fun _ H' => Q .non H', rt := Q } (start N vs) H) : OkAt P w K mg base (k + 1) x ps sp := by
  obtain ⟨f, fd, F, m, b⟩ := h.ex
  exact ⟨f, fd, F.ok S len fun cdv A outer s H vs Q E hr q => body (.ref f) cdv A outer s H vs Q E f hr q, m, F.kp, b⟩
theorem OkAt.imp {sp' : Sp} (G : OkAt P w K mg base k x ps sp) (h : ∀ vs H Q E, sp' vs H Q E → sp vs H Q E) : OkAt P w K mg base k x ps sp' := by
  obtain ⟨f, fd, F, m, kp, b⟩ := G.ex
  exact ⟨f, fd, F.imp h, m, kp, b⟩
theorem OkAt.up {k' : Nat} (G : OkAt P w K mg base k x ps sp) (h : k ≤ k') : OkAt P w K mg base k' x ps sp := by
  obtain ⟨f, fd, F, m, kp, b⟩ := G.ex
  exact ⟨f, fd, F.mono h, m, kp, b⟩
end
section
variable {X : Cx} {k : Nat} {x : Str} {ps : List Str} {sp : Sp} {e : Expr} {es : List Expr} {p pos : Pos} {t : TA}
theorem pe_callO (G : OkAt X.prog X.w X.K X.mg X.base k x ps sp) (hr : Room k X.A) (hg : Gl X x) (ha : PA X (e :: es) t) (hdb : (x == ("__debug__" : Str)) = false := by decide)
    (he : starEach (e :: es) X.env = (false, eval e X.env) :: starEach es X.env := by rfl) (hpl : (backTo pos (starEach es X.env)).any (·.1) = false := by rfl) :
    PE X (.Call (.Name x p) (e :: es) [] pos) (tCall sp [] E0 t) := by
  obtain ⟨f, fd, F, m, kp, b⟩ := G.ex
  exact pe_call F hr hg m kp b .nil pass0 ha hdb he hpl
theorem ps_never {st : Stmt} : PS X st tNever := ⟨fun _ _ _ _ _ _ h => h.elim⟩
end
/-- a def that makes a new list -/
def NewSp (K : PySem.W.Frag) (R : List PyData → List PyData → Prop) : Sp := fun vs H Q _ => ∃ ds rs, DpAll K H vs ds ∧ R ds rs ∧ ∀ p xs H', H p = none → Same H H' → H' p = some (.lst xs) → DpAll K H' xs rs → Q (.ref p) H'
theorem dp_len {K : PySem.W.Frag} {H : Hp} {vs : List V} {ds : List PyData} {n : Nat} (h : DpAll K H vs ds) (e : ds.length = n) : vs.length = n := h.length.trans e

/-! ### a new list -/
def EvN (K : PySem.W.Frag) (te : TE) (σ : St) (H : Hp) (ds : List PyData) : Prop := ∀ H1, Same H H1 → ∀ Q : VK, (∀ p xs H2, H1 p = none → Same H1 H2 → H2 p = some (.lst xs) → DpAll K H2 xs ds → Q (.ref p) H2) → te σ H1 Q
section
variable {K : PySem.W.Frag} {σ : St} {H H' : Hp} {ta tb te tl : TE} {tA : TA} {e z : PyData} {ds es : List PyData}
theorem EvN.d (h : EvN K te σ H ds) : Evd K te σ H (.list ds) := fun H1 s Q q => h H1 s Q fun p xs H2 hp s2 e d2 => q _ H2 s2 (.lst (.inl (.inl e)) d2)
theorem EvN.mono (s : Same H H') (h : EvN K te σ H ds) : EvN K te σ H' ds := fun H1 a Q q => h H1 (s.trans a) Q q
theorem EvN.is (h : EvN K te σ H ds) (q : ds = es) : EvN K te σ H es := q ▸ h
theorem en_lst (h : EvA K tA σ H ds) (hl : ds.length ≤ sizeLine := by first | decide | (simp only [List.length_cons, List.length_nil]; decide)) : EvN K (tLst tA) σ H ds := fun H1 s Q q =>
  h H1 s _ fun xs H2 s2 hx => ⟨by rw [hx.length]; exact hl, fun p hp => q p xs _ (s2.free hp) (s2.trans (Same.new hp)) upd_same (hx.same (Same.new hp))⟩
theorem en_call {R : List PyData → List PyData → Prop} {E : XK} {as : List PyData} (h : EvA K tA σ H as) (hr : R as ds) : EvN K (tCall (NewSp K R) [] E tA) σ H ds := fun H1 s Q q =>
  h H1 s _ fun xs H2 s2 hx => ⟨as, ds, by rw [List.append_nil]; exact hx, hr, fun p ys H3 hp s3 e3 d3 => q p ys H3 (s2.free hp) (s2.trans s3) e3 d3⟩
theorem en_catL (h1 : Evd K ta σ H (.list ds)) (h2 : Evd K tb σ H (.list es)) (hl : ds.length + es.length ≤ sizeLine) : EvN K (tOp (rCatL K) ta tb) σ H (ds ++ es) := fun H1 s Q q =>
  h1 H1 s _ fun x H2 s2 hx => h2 H2 (s.trans s2) _ fun y H3 s3 hy => by
    have hx' := Dp.same s3 hx
    cases hx' with
    | @lst a xs _ hs ha =>
      cases hy with
      | @lst b ys _ hs' ha' =>
        exact ⟨a, b, xs, ys, rfl, rfl, hs, hs', by rw [ha.length, ha'.length]; exact hl, fun p hp => q p _ _ ((s2.trans s3).free hp) ((s2.trans s3).trans (Same.new hp)) upd_same ((ha.append ha').same (Same.new hp))⟩
theorem en_sortD (h : Evd K ta σ H (.list ds)) (al : PySem.W.AllAlike ds) (so : PySem.W.Sortable ds) (dp : ∀ d ∈ ds, d.depth ≤ 8) : EvN K (tCB (rSortD K) (tCons ta tNil)) σ H (sortD ds) := fun H1 s Q q =>
  h H1 s _ fun x H2 s2 hx => by
    cases hx with
    | @lst a xs _ hs ha =>
      exact ⟨a, ds, rfl, .lst hs ha, al, so, dp, fun p ys hp hy => q p ys _ (s2.free hp) (s2.trans (Same.new hp)) upd_same (hy.same (Same.new hp))⟩
/-- xs[lo:hi] of a list -/
theorem en_lc {wi : TI} {g : TG} {tt : TT} {vs : List Nat} (rows : List (PyData × Bool × PyData)) (hlen : rows.length < sizeLine) (hf : ∀ r ∈ rows, flat r.2.2 = true)
    (hw : ∀ H1, Same H H1 → ∀ R : It → Hp → Prop, (∀ J H2, Same H1 H2 → (∀ H3, Same H2 H3 → (∀ i, i < rows.length → J.go i H3) ∧ J.stop rows.length H3 ∧ ∀ i x H', J.yld i H3 x H' → ∀ r, rows[i]? = some r → Same H3 H' ∧ Dp K H' x r.1 ∧ TKp K H3 H' ∧ ∀ a o, H3 a = some o → H' a = some o) → R J H2) → wi σ H1 R)
    (ht : ∀ r ∈ rows, Turn1 K g tt te vs σ H r.1 r.2.1 r.2.2) : EvN K (tLc wi g tt te vs) σ H (kept rows) := fun H1 s Q q =>
  hw H1 s _ fun J H2 s2 hJ => lc_rows J rows hlen hf (H1 := H2) (fun H3 s3 => hJ H3 s3) (fun r hr v H3 s3 hv => ht r hr v H3 ((s.trans s2).trans s3) hv) fun p xs' H3 hp s3 e3 d3 => q p xs' H3 (s2.free hp) (s2.trans s3) e3 d3
/-- what is walked -/
theorem w_list (rows : List (PyData × Bool × PyData)) (hds : rows.map (·.1) = ds) (hl : Evd K tl σ H (.list ds)) : ∀ H1, Same H H1 → ∀ R : It → Hp → Prop, (∀ J H2, Same H1 H2 → (∀ H3, Same H2 H3 → (∀ i, i < rows.length → J.go i H3) ∧ J.stop rows.length H3 ∧ ∀ i x H', J.yld i H3 x H' → ∀ r, rows[i]? = some r → Same H3 H' ∧ Dp K H' x r.1 ∧ TKp K H3 H' ∧ ∀ a o, H3 a = some o → H' a = some o) → R J H2) → iList K tl σ H1 R := fun H1 s R q =>
  hl H1 s _ fun x H2 s2 hx => by
    cases hx with
    | @lst a xs _ hs ha =>
      subst hds
      have hlx : xs.length = rows.length := by rw [ha.length, List.length_map]
      refine ⟨a, rfl, ⟨xs, hs⟩, q _ H2 s2 fun H3 s3 => ?_⟩
      have hs3 : SqL K H3 a xs := LKp.same s3 _ _ hs
      refine ⟨fun i hi => ⟨xs, xs[i]'(by omega), hs3, by simp⟩, ⟨xs, hs3, by omega⟩, fun i x H' hy r hr => ?_⟩
      obtain ⟨rfl, f⟩ := hy
      obtain ⟨d, hd, dp⟩ := (ha.same s3).get (f xs hs3)
      have ed : d = r.1 := by
        rw [List.getElem?_map, hr] at hd
        exact (Option.some.inj hd).symm
      subst ed
      exact ⟨Same.refl _, dp, TKp.refl, fun _ _ e => e⟩
theorem w_tup (rows : List (PyData × Bool × PyData)) (hds : rows.map (·.1) = ds) (hl : Evd K tl σ H (.tuple ds)) : ∀ H1, Same H H1 → ∀ R : It → Hp → Prop, (∀ J H2, Same H1 H2 → (∀ H3, Same H2 H3 → (∀ i, i < rows.length → J.go i H3) ∧ J.stop rows.length H3 ∧ ∀ i x H', J.yld i H3 x H' → ∀ r, rows[i]? = some r → Same H3 H' ∧ Dp K H' x r.1 ∧ TKp K H3 H' ∧ ∀ a o, H3 a = some o → H' a = some o) → R J H2) → iTup K tl σ H1 R := fun H1 s R q =>
  hl H1 s _ fun x H2 s2 hx => by
    cases hx with
    | @tup a xs _ hs ha =>
      subst hds
      have hlx : xs.length = rows.length := by rw [ha.length, List.length_map]
      refine ⟨a, rfl, ⟨xs, hs⟩, q _ H2 s2 fun H3 s3 => ?_⟩
      have hs3 : SqT K H3 a xs := TKp.same s3 _ _ hs
      refine ⟨fun i hi => ⟨xs, xs[i]'(by omega), hs3, by simp⟩, ⟨xs, hs3, by omega⟩, fun i x H' hy r hr => ?_⟩
      obtain ⟨rfl, f⟩ := hy
      obtain ⟨d, hd, dp⟩ := (ha.same s3).get (f xs hs3)
      have ed : d = r.1 := by
        rw [List.getElem?_map, hr] at hd
        exact (Option.some.inj hd).symm
      subst ed
      exact ⟨Same.refl _, dp, TKp.refl, fun _ _ e => e⟩
section
variable {α : Type} {xs : List α} {enc : α → PyData} {p : α → Bool} {f : α → PyData} {g : TG} {tt : TT} {vs : List Nat}
theorem kept_map : kept (xs.map fun x => (enc x, p x, f x)) = (xs.filter p).map f := by
  unfold kept
  rw [List.filter_map, List.map_map]
  rfl
theorem en_listF (hlen : xs.length < sizeLine) (hf : ∀ x ∈ xs, flat (f x) = true) (hl : Evd K tl σ H (.list (xs.map enc))) (ht : ∀ x ∈ xs, Turn1 K g tt te vs σ H (enc x) (p x) (f x)) : EvN K (tLc (iList K tl) g tt te vs) σ H ((xs.filter p).map f) :=
  (en_lc (xs.map fun x => (enc x, p x, f x)) (by rw [List.length_map]; exact hlen) (fun r hr => by obtain ⟨x, hx, rfl⟩ := List.mem_map.mp hr; exact hf x hx) (w_list _ (by rw [List.map_map]; rfl) hl)
    (fun r hr => by obtain ⟨x, hx, rfl⟩ := List.mem_map.mp hr; exact ht x hx)).is kept_map
theorem en_tupF (hlen : xs.length < sizeLine) (hf : ∀ x ∈ xs, flat (f x) = true) (hl : Evd K tl σ H (.tuple (xs.map enc))) (ht : ∀ x ∈ xs, Turn1 K g tt te vs σ H (enc x) (p x) (f x)) : EvN K (tLc (iTup K tl) g tt te vs) σ H ((xs.filter p).map f) :=
  (en_lc (xs.map fun x => (enc x, p x, f x)) (by rw [List.length_map]; exact hlen) (fun r hr => by obtain ⟨x, hx, rfl⟩ := List.mem_map.mp hr; exact hf x hx) (w_tup _ (by rw [List.map_map]; rfl) hl)
    (fun r hr => by obtain ⟨x, hx, rfl⟩ := List.mem_map.mp hr; exact ht x hx)).is kept_map
end
end

/-! ### loops -/
section
variable {K : PySem.W.Frag} {σ : St} {H : Hp} {te : TE} {g : TG} {tb : TS} {D : Ends} {ds : List PyData}
/-- for x in a tuple of flat data -/
theorem st_forT (h : Evd K te σ H (.tuple ds)) (fl : flatAll ds = true)
    (k : ∀ H1, Same H H1 → ∃ I : Nat → St → Hp → Prop, I 0 σ H1 ∧ (∀ i σ' H', I i σ' H' → TKp K H1 H') ∧
      (∀ i d v σ' H', ds[i]? = some d → I i σ' H' → Dp K H' v d → g v σ' H' fun σ2 H2 => tb { D with nx := I (i + 1), ct := I (i + 1), bk := D.nx } σ2 H2) ∧ ∀ σ' H', I ds.length σ' H' → D.nx σ' H') : tFor (iTup K te) g tb D σ H :=
  h H (Same.refl _) _ fun x H1 s hx => by
    cases hx with
    | @tup a xs _ hs ha =>
      obtain ⟨I, i0, tk, turn, fin⟩ := k H1 s
      refine ⟨a, rfl, ⟨xs, hs⟩, for_tup (K := K) (a := a) (xs := xs) I i0 (fun i σ' H' _ q => tk i σ' H' q a xs hs) (fun i v σ' H' hv q => ?_) (by rw [ha.length]; exact fin)⟩
      obtain ⟨d, hd, dv⟩ := (DpAll.keepT (tk i σ' H' q) _ _ fl ha).get hv
      exact turn i d v σ' H' hd q dv
/-- for x in a list of flat data -/
theorem st_forL (h : Evd K te σ H (.list ds)) (fl : flatAll ds = true)
    (k : ∀ a xs H1, Same H H1 → SqL K H1 a xs → ∃ I : Nat → St → Hp → Prop, I 0 σ H1 ∧ (∀ i σ' H', I i σ' H' → TKp K H1 H' ∧ SqL K H' a xs) ∧
      (∀ i d v σ' H', ds[i]? = some d → I i σ' H' → Dp K H' v d → g v σ' H' fun σ2 H2 => tb { D with nx := I (i + 1), ct := I (i + 1), bk := D.nx } σ2 H2) ∧ ∀ σ' H', I ds.length σ' H' → D.nx σ' H') : tFor (iList K te) g tb D σ H :=
  h H (Same.refl _) _ fun x H1 s hx => by
    cases hx with
    | @lst a xs _ hs ha =>
      obtain ⟨I, i0, tk, turn, fin⟩ := k a xs H1 s hs
      refine ⟨a, rfl, ⟨xs, hs⟩, for_list (K := K) (a := a) (xs := xs) I i0 (fun i σ' H' _ q => (tk i σ' H' q).2) (fun i v σ' H' hv q => ?_) (by rw [ha.length]; exact fin)⟩
      obtain ⟨d, hd, dv⟩ := (DpAll.keepT (tk i σ' H' q).1 _ _ fl ha).get hv
      exact turn i d v σ' H' hd q dv
/-- for x in a new list of flat data -/
theorem st_forN (h : EvN K te σ H ds) (fl : flatAll ds = true)
    (k : ∀ p xs H1, H p = none → Same H H1 → H1 p = some (.lst xs) → ∃ I : Nat → St → Hp → Prop, I 0 σ H1 ∧ (∀ i σ' H', I i σ' H' → TKp K H1 H' ∧ H' p = some (.lst xs)) ∧
      (∀ i d v σ' H', ds[i]? = some d → I i σ' H' → Dp K H' v d → g v σ' H' fun σ2 H2 => tb { D with nx := I (i + 1), ct := I (i + 1), bk := D.nx } σ2 H2) ∧ ∀ σ' H', I ds.length σ' H' → D.nx σ' H') : tFor (iList K te) g tb D σ H :=
  h H (Same.refl _) _ fun p xs H1 hp s e ha => by
    obtain ⟨I, i0, tk, turn, fin⟩ := k p xs H1 hp s e
    refine ⟨p, rfl, ⟨xs, SqL.lst e⟩, for_list (K := K) (a := p) (xs := xs) I i0 (fun i σ' H' _ q => SqL.lst (tk i σ' H' q).2) (fun i v σ' H' hv q => ?_) (by rw [ha.length]; exact fin)⟩
    obtain ⟨d, hd, dv⟩ := (DpAll.keepT (tk i σ' H' q).1 _ _ fl ha).get hv
    exact turn i d v σ' H' hd q dv
/-- for k in range(n) -/
theorem st_forR {ta : TA} {n : Int} (h : EvA K ta σ H [.int n]) (h1 : -(2 ^ 62) ≤ n) (h2 : n < 2 ^ 62)
    (k : ∀ H1, Same H H1 → ∃ I : Nat → St → Hp → Prop, I 0 σ H1 ∧ (∀ i σ' H', i < n.toNat → I i σ' H' → g (.int (0 + i)) σ' H' fun σ2 H2 => tb { D with nx := I (i + 1), ct := I (i + 1), bk := D.nx } σ2 H2) ∧ ∀ σ' H', I n.toNat σ' H' → D.nx σ' H') : tFor (iRng1 ta) g tb D σ H :=
  h H (Same.refl _) _ fun vs H1 s hv => by
    cases hv with
    | cons a b =>
      cases b
      cases a
      obtain ⟨I, i0, turn, fin⟩ := k H1 s
      exact ⟨n, rfl, h1, h2, for_range (lo := 0) (n := n.toNat) I i0 turn fin⟩
theorem TKp.updX {H' : Hp} {p : Addr} {u : HO} (h : ∀ xs, ¬ Rd H p (.tup xs)) : TKp K H (upd H p u) := fun a xs q => q.elim (fun q => .inl (by
  have ne : a ≠ p := fun z => by subst z; exact h xs q
  rcases q with q | ⟨ob, q⟩
  · exact .inl (by rw [upd_ne ne]; exact q)
  · exact .inr ⟨ob, by rw [upd_ne ne]; exact q⟩)) .inr
/-- for k in d (locked) -/
theorem st_forK {α : Type} {enc : α → PyData} {P : Program} {w : World} {i : Nat} {d : Addr} {kvs : List (α × V)} (hσ : σ[i]? = some (some (.ref d))) (T : Tab P w K enc H d kvs)
    (k : ∀ Hl, TKp K H Hl → But [d] H Hl → ∃ I : Nat → St → Hp → Prop, I 0 σ Hl ∧ (∀ i σ' H', I i σ' H' → TKp K Hl H' ∧ ∀ o, Hl d = some o → H' d = some o) ∧
      (∀ i q v σ' H' R B, kvs[i]? = some q → I i σ' H' → Dp K H' v (enc q.1) → g v σ' H' fun σ2 H2 => tb { nx := I (i + 1), rt := R, bk := B, ct := I (i + 1) } σ2 H2) ∧
      ∀ σ' H' u, I kvs.length σ' H' → NoSeq u = true → TKp K H' (upd H' d u) → D.nx σ' (upd H' d u)) : tLock (tFor (iKeysN P w (tVar i)) g tb) D σ H := by
  obtain ⟨xs, h1, h2⟩ := T.rel
  refine ⟨d, dn P w d xs, h1, trivial, fun od => ?_⟩
  have tk0 : TKp K H (upd H d (.frz od (dn P w d xs))) := TKp.upd h1 rfl
  obtain ⟨I, i0, tk, turn, fin⟩ := k (upd H d (.frz od (dn P w d xs))) tk0 (But.upd But.refl (.inl List.mem_cons_self))
  have hl : xs.length = kvs.length := Paired.length h2
  have loc : ∀ {j σ' H'}, I j σ' H' → H' d = some (.frz od (dn P w d xs)) := fun {j σ' H'} q => (tk j σ' H' q).2 _ upd_same
  refine ⟨.ref d, hσ, d, od, xs, rfl, upd_same, fun j m σ' H' => m = xs.length - j ∧ j ≤ xs.length ∧ I j σ' H', ⟨xs.length, by omega, Nat.zero_le _, i0⟩, ?_⟩
  rintro j m σ' H' ⟨rfl, hj, q⟩
  by_cases z : j < xs.length
  · refine .inr ⟨⟨loc q, z⟩, I (j + 1), fun σ2 H2 q2 => ⟨xs.length - (j + 1), by omega, by omega, by omega, q2⟩, ?_⟩
    rintro x H2 ⟨rfl, y, hy, rfl⟩
    obtain ⟨r, hr, e1, e2, dp⟩ := paired_get h2 hy
    exact turn j r _ σ' H2 _ _ hr q (Dp.keepT (tk0.trans (tk _ _ _ q).1) _ _ (T.E.flat _) dp)
  · have ej : j = kvs.length := by omega
    have e := loc q
    subst ej
    refine .inl ⟨⟨e, by omega⟩, e, fin σ' H' _ q rfl (TKp.updX (H' := H') fun ys r => ?_)⟩
    rcases r with r | ⟨ob, r⟩
    · rw [e] at r; cases r
    · rw [e] at r; cases r
end
/-- while: at most n turns -/
def runW {S : Type} (cond : S → Bool) (step : S → S) : Nat → S → Option S
  | 0, s => if cond s = true then none else some s
  | n + 1, s => if cond s = true then runW cond step n (step s) else some s
theorem st_while {S : Type} {σ : St} {H : Hp} {tc : TT} {tb : TS} {D : Ends} {cond : S → Bool} {step : S → S} {n : Nat} {s0 r : S} (I : S → St → Hp → Prop) (hr : runW cond step n s0 = some r) (h0 : I s0 σ H)
    (hs : ∀ s n σ' H', I s σ' H' → runW cond step n s = some r → EvT tc σ' H' (cond s) ∧ (cond s = true → ∀ H1, Same H' H1 → tb { D with nx := I (step s), ct := I (step s), bk := D.nx } σ' H1) ∧ (s = r → ∀ H1, Same H' H1 → D.nx σ' H1)) : tWhile tc tb D σ H := by
  refine ⟨fun m σ' H' => ∃ s, I s σ' H' ∧ runW cond step m s = some r, ⟨n, s0, h0, hr⟩, ?_⟩
  rintro m σ' H' ⟨s, hi, hm⟩
  obtain ⟨e, t, f⟩ := hs s m σ' H' hi hm
  refine e H' (Same.refl _) _ fun H1 s1 => ?_
  cases hc : cond s with
  | true =>
    refine iteT ?_
    cases m with
    | zero => rw [runW, if_pos hc] at hm; cases hm
    | succ m =>
      rw [runW, if_pos hc] at hm
      exact ⟨I (step s), fun σ2 H2 q => ⟨m, Nat.lt_succ_self _, step s, q, hm⟩, t hc H1 s1⟩
  | false =>
    refine iteF (f ?_ H1 s1)
    have nc : ¬ cond s = true := by rw [hc]; decide
    cases m with
    | zero => rw [runW, if_neg nc] at hm; exact Option.some.inj hm
    | succ m => rw [runW, if_neg nc] at hm; exact Option.some.inj hm

/-! ### lists that change -/
section
variable {K : PySem.W.Frag} {σ : St} {H : Hp} {te tl : TE} {D : Ends} {d : PyData} {l : Addr} {xs : List V}
theorem at_end {H1 : Hp} (h : H1 l = some (.lst xs)) : tyV K "list" (.ref l) H1 := .inl ⟨rfl, xs, .inl (.inl h)⟩
/-- l.append(e) -/
theorem st_app (hl : Evr tl σ H (.ref l)) (h : H l = some (.lst xs)) (hz : xs.length < sizeLine) (he : Evd K te σ H d) (q : ∀ v H1, Same H H1 → Dp K H1 v d → D.nx σ (upd H1 l (.lst (xs ++ [v])))) :
    tDrop (tBM K "list" rAppend tl (tCons te tNil)) D σ H :=
  hl H (Same.refl _) _ fun H1 s1 => ⟨at_end (s1 _ _ h), he H1 s1 _ fun v H2 s2 hv => ⟨l, xs, v, rfl, rfl, s2 _ _ (s1 _ _ h), hz, q v H2 (s1.trans s2) hv⟩⟩
/-- x = l.pop() -/
theorem st_pop {j : Nat} {y : V} (hl : Evr tl σ H (.ref l)) (h : H l = some (.lst (xs ++ [y]))) (q : ∀ H1, Same H H1 → D.nx (σ.set j (some y)) (upd H1 l (.lst xs))) : tAsg (tBM0 K "list" rPop tl) (gName j) D σ H :=
  hl H (Same.refl _) _ fun H1 s1 => ⟨at_end (s1 _ _ h), l, xs ++ [y], y, rfl, rfl, s1 _ _ h, by simp, by rw [List.dropLast_concat]; exact q H1 s1⟩
/-- x = e, e by its very value -/
theorem st_setR {j : Nat} {v : V} (h : Evr te σ H v) (q : ∀ H1, Same H H1 → D.nx (σ.set j (some v)) H1) : tAsg te (gName j) D σ H := h H (Same.refl _) _ q
theorem st_setN {j : Nat} {ds : List PyData} (h : EvN K te σ H ds) (q : ∀ p ys H1, H p = none → Same H H1 → H1 p = some (.lst ys) → DpAll K H1 ys ds → D.nx (σ.set j (some (.ref p))) H1) : tAsg te (gName j) D σ H := h H (Same.refl _) _ q
/-- x = [] -/
theorem st_nil {j : Nat} (q : ∀ p H1, H p = none → H1 = upd H p (.lst []) → D.nx (σ.set j (some (.ref p))) H1) : tAsg (tLst tNil) (gName j) D σ H := ⟨by decide, fun p hp => q p _ hp rfl⟩
end

/-! ### tables -/
section
variable {α : Type} [DecidableEq α] {P : Program} {w : World} {K : PySem.W.Frag} {enc : α → PyData} {σ : St} {H : Hp} {tk td te : TE} {D : Ends} {d : Addr} {k : α} {kvs : List (α × V)}
theorem ev_inN (hk : Evd K tk σ H (enc k)) (hd : Evr td σ H (.ref d)) (T : Tab P w K enc H d kvs) : Evd K (tOp (rInN P w K enc) tk td) σ H (.bool (valV kvs k).isSome) := fun H1 s Q q =>
  hk H1 s _ fun x H2 s2 hx => hd H2 (s.trans s2) _ fun H3 s3 => ⟨d, kvs, k, rfl, T.same ((s.trans s2).trans s3), Dp.same s3 hx, q _ H3 (s2.trans s3) (.bl _)⟩
theorem ev_notInN (hk : Evd K tk σ H (enc k)) (hd : Evr td σ H (.ref d)) (T : Tab P w K enc H d kvs) : Evd K (tOp (rNotInN P w K enc) tk td) σ H (.bool (!(valV kvs k).isSome)) := fun H1 s Q q =>
  hk H1 s _ fun x H2 s2 hx => hd H2 (s.trans s2) _ fun H3 s3 => ⟨d, kvs, k, rfl, T.same ((s.trans s2).trans s3), Dp.same s3 hx, q _ H3 (s2.trans s3) (.bl _)⟩
theorem er_getN {v : V} (hk : Evd K tk σ H (enc k)) (hd : Evr td σ H (.ref d)) (T : Tab P w K enc H d kvs) (hv : valV kvs k = some v) : Evr (tGetN P w K enc td tk) σ H v := fun H1 s Q q =>
  hd H1 s _ fun H2 s2 => hk H2 (s.trans s2) _ fun x H3 s3 hx => ⟨d, kvs, k, v, rfl, T.same ((s.trans s2).trans s3), hx, hv, q H3 (s2.trans s3)⟩
/-- d[k] = e -/
theorem st_put {x : PyData} (he : Evd K te σ H x) (hd : Evr td σ H (.ref d)) (hk : Evd K tk σ H (enc k)) (T : Tab P w K enc H d kvs) (hz : kvs.length < sizeLine)
    (q : ∀ v H1 u, Same H H1 → Dp K H1 v x → NoSeq u = true → Tab P w K enc (upd H1 d u) d (putK kvs k v) → D.nx σ (upd H1 d u)) : tAsg te (gSub td tk (tSetN P w K enc)) D σ H :=
  he H (Same.refl _) _ fun v H1 s1 hv => hd H1 s1 _ fun H2 s2 => hk H2 (s1.trans s2) _ fun y H3 s3 hy =>
    ⟨d, kvs, k, rfl, T.same ((s1.trans s2).trans s3), hy, hz, fun u hu T' => q v H3 u ((s1.trans s2).trans s3) (Dp.same (s2.trans s3) hv) hu T'⟩
/-- d[k] = e, e a new list -/
theorem st_putN {ds : List PyData} (he : EvN K te σ H ds) (hd : Evr td σ H (.ref d)) (hk : Evd K tk σ H (enc k)) (T : Tab P w K enc H d kvs) (hz : kvs.length < sizeLine)
    (q : ∀ p ys H1 u, H p = none → Same H H1 → H1 p = some (.lst ys) → DpAll K H1 ys ds → NoSeq u = true → Tab P w K enc (upd H1 d u) d (putK kvs k (.ref p)) → D.nx σ (upd H1 d u)) : tAsg te (gSub td tk (tSetN P w K enc)) D σ H :=
  he H (Same.refl _) _ fun p ys H1 hp s1 e1 d1 => hd H1 s1 _ fun H2 s2 => hk H2 (s1.trans s2) _ fun y H3 s3 hy =>
    ⟨d, kvs, k, rfl, T.same ((s1.trans s2).trans s3), hy, hz, fun u hu T' => q p ys H3 u hp ((s1.trans s2).trans s3) (s3 _ _ (s2 _ _ e1)) (d1.same (s2.trans s3)) hu T'⟩
/-- del d[k] -/
theorem st_del (hd : Evr td σ H (.ref d)) (hk : Evd K tk σ H (enc k)) (T : Tab P w K enc H d kvs) (hv : (valV kvs k).isSome = true)
    (q : ∀ H1 u, Same H H1 → NoSeq u = true → Tab P w K enc (upd H1 d u) d (dropK kvs k) → D.nx σ (upd H1 d u)) : sDelN P w K enc td tk D σ H :=
  hd H (Same.refl _) _ fun H1 s1 => hk H1 s1 _ fun y H2 s2 hy => ⟨d, kvs, k, rfl, T.same (s1.trans s2), hy, hv, fun u hu T' => q H2 u (s1.trans s2) hu T'⟩
/-- x = {} -/
theorem st_new {j : Nat} (E : KeyEnc enc) (q : ∀ p u, H p = none → NoSeq u = true → Tab P w K enc (upd H p u) p [] → D.nx (σ.set j (some (.ref p))) (upd H p u)) : tAsg (tNewN P w) (gName j) D σ H := fun p hp => q p _ hp rfl (tab_new E)
/-- keys only -/
def setK (ks : List α) : List (α × V) := ks.map fun k => (k, V.bl true)
def memK (ks : List α) (k : α) : Bool := ks.any fun a => decide (a = k)
theorem memK_iff {ks : List α} {k : α} : memK ks k = true ↔ k ∈ ks := by
  unfold memK
  rw [List.any_eq_true]
  constructor
  · rintro ⟨a, h, e⟩
    rw [← of_decide_eq_true e]
    exact h
  · exact fun h => ⟨k, h, decide_eq_true rfl⟩
def insK (ks : List α) (k : α) : List α := if memK ks k = true then ks else ks ++ [k]
theorem setK_keys (ks : List α) : (setK ks).map (fun p => enc p.1) = ks.map enc := by
  unfold setK
  rw [List.map_map]
  rfl
theorem setK_len (ks : List α) : (setK ks).length = ks.length := List.length_map ..
theorem setK_at (ks : List α) (k : α) : (valV (setK ks) k).isSome = memK ks k := by
  rw [← valV_any]
  unfold setK memK
  rw [List.any_map]
  rfl
theorem setK_put (ks : List α) (k : α) : putK (setK ks) k (V.bl true) = setK (insK ks k) := by
  unfold putK insK
  rw [valV_any, setK_at]
  split
  · unfold setK
    rw [List.map_map]
    apply List.map_congr_left
    intro a _
    show (if a = k then (a, V.bl true) else (a, V.bl true)) = (a, V.bl true)
    split <;> rfl
  · unfold setK
    rw [List.map_append]
    rfl
theorem setK_drop (ks : List α) (k : α) : dropK (setK ks) k = setK (ks.filter fun a => decide (a ≠ k)) := by
  unfold dropK setK
  rw [List.filter_map]
  rfl
theorem setK_putAll (ks js : List α) : putAll (setK js) (ks.map fun k => (k, V.bl true)) = setK (ks.foldl insK js) := by
  induction ks generalizing js with
  | nil => rfl
  | cons k t ih =>
    show putAll (putK (setK js) k (V.bl true)) (t.map fun k => (k, V.bl true)) = setK (t.foldl insK (insK js k))
    rw [setK_put, ih]
theorem insK_len (ks : List α) (k : α) : ks.length ≤ (insK ks k).length ∧ (insK ks k).length ≤ ks.length + 1 := by
  unfold insK
  split
  · omega
  · rw [List.length_append, List.length_singleton]; omega
end
end Z
set_option Elab.async false
set_option linter.all false
set_option maxRecDepth 100000
set_option maxHeartbeats 2000000
/-! ZH: cells (pairs of ints) and bodies (tuples of cells) as data: keys, order, equality, sorting. -/
namespace Z
open PySem PySem.Spec L2
open PyProof.Rows hiding St
abbrev Cell := Int × Int
abbrev Body := List Cell
def cellD (c : Cell) : PyData := .tuple [.int c.1, .int c.2]
def bodyD (b : Body) : PyData := .tuple (b.map cellD)
def cellLt (a b : Cell) : Bool := decide (a.1 < b.1 ∨ (a.1 = b.1 ∧ a.2 < b.2))
def cellLe (a b : Cell) : Bool := !cellLt b a
def bodyLt : Body → Body → Bool
  | [], [] => false
  | [], _ :: _ => true
  | _ :: _, [] => false
  | x :: xs, y :: ys => if x = y then bodyLt xs ys else cellLt x y
def bodyLe (a b : Body) : Bool := !bodyLt b a
/-! ### insertion sort -/
section
variable {α β : Type}
def insS (le : α → α → Bool) (x : α) : List α → List α
  | [] => [x]
  | y :: ys => if le x y = true then x :: y :: ys else y :: insS le x ys
def isort (le : α → α → Bool) : List α → List α
  | [] => []
  | x :: xs => insS le x (isort le xs)
theorem isort_eq {le : α → α → Bool} (trans : ∀ a b c, le a b = true → le b c = true → le a c = true) (total : ∀ a b, (le a b || le b a) = true) : ∀ xs : List α, isort le xs = xs.mergeSort le
  | [] => by simp [isort]
  | x :: xs => by
    obtain ⟨l1, l2, h1, h2, h3⟩ := List.mergeSort_cons trans total x xs
    have hs : (l1 ++ x :: l2).Pairwise (fun a b => le a b = true) := by
      rw [← h1]
      exact List.pairwise_mergeSort trans total _
    rw [isort, isort_eq trans total xs, h2, h1]
    clear h1 h2
    induction l1 with
    | nil =>
      cases l2 with
      | nil => rfl
      | cons y ys =>
        have : le x y = true := by
          have := List.pairwise_cons.mp hs
          exact this.1 y List.mem_cons_self
        show (if le x y = true then _ else _) = _
        rw [if_pos this]
        rfl
    | cons y ys ih =>
      have hy := h3 y List.mem_cons_self
      have ny : ¬ le x y = true := by
        intro z
        rw [z] at hy
        cases hy
      show (if le x y = true then _ else _) = _
      rw [if_neg ny]
      exact congrArg (y :: ·) (ih (fun b hb => h3 b (List.mem_cons_of_mem _ hb)) (List.pairwise_cons.mp hs).2)
theorem insS_map {le : α → α → Bool} {le' : β → β → Bool} {f : α → β} (h : ∀ a b, le' (f a) (f b) = le a b) (x : α) : ∀ xs : List α, insS le' (f x) (xs.map f) = (insS le x xs).map f
  | [] => rfl
  | y :: ys => by
    show (if le' (f x) (f y) = true then _ else _) = List.map f (if le x y = true then _ else _)
    rw [h]
    split
    · rfl
    · rw [insS_map h x ys]; rfl
theorem isort_map {le : α → α → Bool} {le' : β → β → Bool} {f : α → β} (h : ∀ a b, le' (f a) (f b) = le a b) : ∀ xs : List α, isort le' (xs.map f) = (isort le xs).map f
  | [] => rfl
  | x :: xs => by
    show insS le' (f x) (isort le' (xs.map f)) = (insS le x (isort le xs)).map f
    rw [isort_map h xs, insS_map h]
theorem mem_insS {le : α → α → Bool} {x y : α} : ∀ {xs : List α}, y ∈ insS le x xs ↔ y = x ∨ y ∈ xs
  | [] => by simp [insS]
  | z :: zs => by
    unfold insS
    split
    · simp
    · rw [List.mem_cons, mem_insS, List.mem_cons]
      constructor
      · rintro (h | h | h)
        · exact .inr (.inl h)
        · exact .inl h
        · exact .inr (.inr h)
      · rintro (h | h | h)
        · exact .inr (.inl h)
        · exact .inl h
        · exact .inr (.inr h)
theorem mem_isort {le : α → α → Bool} {y : α} : ∀ {xs : List α}, y ∈ isort le xs ↔ y ∈ xs
  | [] => by simp [isort]
  | x :: xs => by
    unfold isort
    rw [mem_insS, mem_isort, List.mem_cons]
theorem insS_length {le : α → α → Bool} {x : α} : ∀ {xs : List α}, (insS le x xs).length = xs.length + 1
  | [] => rfl
  | z :: zs => by
    unfold insS
    split
    · rfl
    · rw [List.length_cons, insS_length, List.length_cons]
theorem isort_length {le : α → α → Bool} : ∀ {xs : List α}, (isort le xs).length = xs.length
  | [] => rfl
  | x :: xs => by
    unfold isort
    rw [insS_length, isort_length, List.length_cons]
theorem sortD_map {le : α → α → Bool} {enc : α → PyData} (h : ∀ a b, PySem.W.dataLe false (fun d => d) (enc a) (enc b) = le a b) (xs : List α) : sortD (xs.map enc) = (isort le xs).map enc := by
  have T := PySem.W.sortLe_total (PyProof.Rows.listOrd PyProof.Rows.itemOrd) false (fun d : PyData => PySem.W.keyToks d)
  unfold sortD
  rw [← isort_eq (le := PySem.W.dataLe false fun d => d) (fun a b c => T.trans a b c) (fun a b => by rcases T.total a b with z | z <;> simp [PySem.W.dataLe, z]), isort_map h]
end
/-! ### cells -/
theorem cell_flat (c : Cell) : flat (cellD c) = true := rfl
theorem cell_lt (a b : Cell) : PySem.W.dataLt (cellD a) (cellD b) = cellLt a b := PySem.W.dataLt_ii ..
theorem cell_le (a b : Cell) : PySem.W.dataLe false (fun d => d) (cellD a) (cellD b) = cellLe a b := by
  show (!PySem.W.dataLt (cellD b) (cellD a)) = _
  rw [cell_lt]
  rfl
theorem cell_eqv (a b : Cell) : PyData.eqv (cellD a) (cellD b) = decide (a = b) := by
  obtain ⟨x, y⟩ := a
  obtain ⟨z, u⟩ := b
  show ((x == z) && ((y == u) && true)) = _
  by_cases h1 : x = z <;> by_cases h2 : y = u <;> simp [h1, h2]
theorem cell_shaped (c : Cell) : SeqAt.shaped (cellD c) = true := by
  simp [SeqAt.shaped, cellD, PyData.canLay0, PyData.canLayAll0, PyData.depth, PyData.depthAll]
theorem cell_alike (a b : Cell) : PySem.W.alike (cellD a) (cellD b) = true := by simp [cellD, PySem.W.alike, PySem.W.alikeAll]
theorem cell_depth (a : Cell) : (cellD a).depth = 1 := by simp [cellD, PyData.depth, PyData.depthAll]
theorem nk_cell (c : Cell) : nk (cellD c) = .tup [.num c.1, .num c.2] := rfl
theorem cellK : KeyEnc cellD where
  flat := cell_flat
  dep := fun a => by rw [nk_cell]; simp [NestedKey.depth, NestedKey.depthAll]
  inj := fun a b h => by
    rw [nk_cell, nk_cell] at h
    injection h with h
    injection h with h1 h2
    injection h2 with h2 _
    injection h1 with h1
    injection h2 with h2
    exact Prod.ext h1 h2
  tup := fun a => ⟨_, rfl⟩
theorem cellS : SortEnc cellD := ⟨cell_alike, fun _ => ⟨_, _, rfl⟩, fun a => by rw [cell_depth]; decide⟩
theorem sort_cells (cs : List Cell) : sortD (cs.map cellD) = (isort cellLe cs).map cellD := sortD_map cell_le cs
/-! ### bodies -/
theorem flatAll_cells (b : Body) : flatAll (b.map cellD) = true := flatAll_map cell_flat b
theorem body_flat (b : Body) : flat (bodyD b) = true := flatAll_cells b
theorem flatAll_bodies (b : List Body) : flatAll (b.map bodyD) = true := flatAll_map body_flat b
theorem body_rows : ∀ a b : Body, PyProof.Rows.lexLt PyProof.Rows.itemOrd (PySem.W.keyToksAll (a.map cellD)) (PySem.W.keyToksAll (b.map cellD)) = bodyLt a b
  | [], [] => PyProof.Rows.lex_irrefl _
  | [], y :: ys => by
    show PySem.W.rowLt [] _ = true
    unfold PySem.W.rowLt
    simp only [List.map_cons, PySem.W.keyToksAll]
    rfl
  | x :: xs, [] => by
    show PySem.W.rowLt _ [] = false
    unfold PySem.W.rowLt
    simp only [List.map_cons, PySem.W.keyToksAll]
    rfl
  | x :: xs, y :: ys => by
    rw [List.map_cons, List.map_cons, PySem.W.dataLt_cons (cell_alike x y), cell_eqv, body_rows xs ys, cell_lt, bodyLt]
    by_cases h : x = y <;> simp [h]
theorem body_lt (a b : Body) : PySem.W.dataLt (bodyD a) (bodyD b) = bodyLt a b := by
  unfold bodyD
  rw [PySem.W.dataLt_tuple]
  exact body_rows a b
theorem body_le (a b : Body) : PySem.W.dataLe false (fun d => d) (bodyD a) (bodyD b) = bodyLe a b := by
  show (!PySem.W.dataLt (bodyD b) (bodyD a)) = _
  rw [body_lt]
  rfl
theorem eqvAll_cells : ∀ a b : Body, PyData.eqvAll (a.map cellD) (b.map cellD) = decide (a = b)
  | [], [] => rfl
  | [], _ :: _ => rfl
  | _ :: _, [] => rfl
  | x :: xs, y :: ys => by
    rw [List.map_cons, List.map_cons, PySem.W.eqv_all_cons, cell_eqv, eqvAll_cells xs ys]
    by_cases h1 : x = y <;> by_cases h2 : xs = ys <;> simp [h1, h2]
theorem body_eqv (a b : Body) : PyData.eqv (bodyD a) (bodyD b) = decide (a = b) := by
  show PyData.eqvAll _ _ = _
  exact eqvAll_cells a b
theorem canLay_map {α : Type} {f : α → PyData} (h : ∀ x, (f x).canLay0 = true) : ∀ xs : List α, PyData.canLayAll0 (xs.map f) = true
  | [] => rfl
  | x :: xs => by
    rw [List.map_cons, PyData.canLayAll0, h x, canLay_map h xs]
    rfl
theorem depth_map {α : Type} {f : α → PyData} {n : Nat} (h : ∀ x, (f x).depth ≤ n) : ∀ xs : List α, PyData.depthAll (xs.map f) ≤ n
  | [] => Nat.zero_le _
  | x :: xs => by
    rw [List.map_cons, PyData.depthAll]
    exact Nat.max_le.mpr ⟨h x, depth_map h xs⟩
theorem shaped_tup {α : Type} {f : α → PyData} {n : Nat} (h : ∀ x, (f x).canLay0 = true) (hd : ∀ x, (f x).depth ≤ n) (hn : n + 1 ≤ 64) (xs : List α) : SeqAt.shaped (.tuple (xs.map f)) = true := by
  unfold SeqAt.shaped
  rw [PyData.canLay0, canLay_map h, PyData.depth]
  have := depth_map hd xs
  simp only [Bool.true_and, decide_eq_true_eq]
  omega
theorem shaped_lst {α : Type} {f : α → PyData} {n : Nat} (h : ∀ x, (f x).canLay0 = true) (hd : ∀ x, (f x).depth ≤ n) (hn : n + 1 ≤ 64) (xs : List α) : SeqAt.shaped (.list (xs.map f)) = true := by
  unfold SeqAt.shaped
  rw [PyData.canLay0, canLay_map h, PyData.depth]
  have := depth_map hd xs
  simp only [Bool.true_and, decide_eq_true_eq]
  omega
theorem cell_lay (c : Cell) : (cellD c).canLay0 = true := SeqAt.canLay_of_shaped (cell_shaped c)
theorem body_shaped (b : Body) : SeqAt.shaped (bodyD b) = true := shaped_tup cell_lay (fun x => Nat.le_of_eq (cell_depth x)) (by decide) b
theorem cells_shaped (b : Body) : SeqAt.shaped (.list (b.map cellD)) = true := shaped_lst cell_lay (fun x => Nat.le_of_eq (cell_depth x)) (by decide) b
theorem body_depth (b : Body) : (bodyD b).depth ≤ 2 := by
  unfold bodyD
  rw [PyData.depth]
  have := depth_map (f := cellD) (n := 1) (fun x => Nat.le_of_eq (cell_depth x)) b
  omega
theorem alike_cells : ∀ a b : Body, PySem.W.alikeAll (a.map cellD) (b.map cellD) = true
  | [], _ => by simp [PySem.W.alikeAll]
  | _ :: _, [] => by simp [PySem.W.alikeAll]
  | x :: xs, y :: ys => by
    rw [List.map_cons, List.map_cons, PySem.W.alikeAll, cell_alike, alike_cells xs ys]
    rfl
theorem body_alike (a b : Body) : PySem.W.alike (bodyD a) (bodyD b) = true := by
  show PySem.W.alikeAll _ _ = true
  exact alike_cells a b
theorem nkAll_cells (b : Body) : nkAll (b.map cellD) = b.map fun c => NestedKey.tup [.num c.1, .num c.2] := by
  induction b with
  | nil => rfl
  | cons x xs ih => rw [List.map_cons, List.map_cons, nkAll, ih]; rfl
theorem bodyK : KeyEnc bodyD where
  flat := body_flat
  dep := fun a => by
    show (NestedKey.tup (nkAll (a.map cellD))).depth ≤ 8
    rw [nkAll_cells, NestedKey.depth]
    have : NestedKey.depthAll (a.map fun c => NestedKey.tup [.num c.1, .num c.2]) ≤ 1 := by
      induction a with
      | nil => exact Nat.zero_le _
      | cons x xs ih =>
        rw [List.map_cons, NestedKey.depthAll]
        exact Nat.max_le.mpr ⟨by simp [NestedKey.depth, NestedKey.depthAll], ih⟩
    omega
  inj := fun a b h => by
    have h' : NestedKey.tup (nkAll (a.map cellD)) = NestedKey.tup (nkAll (b.map cellD)) := h
    rw [nkAll_cells, nkAll_cells] at h'
    injection h' with h'
    clear h
    induction a generalizing b with
    | nil => cases b with
      | nil => rfl
      | cons _ _ => simp at h'
    | cons x xs ih => cases b with
      | nil => simp at h'
      | cons y ys =>
        rw [List.map_cons, List.map_cons] at h'
        injection h' with h1 h2
        rw [ih ys h2]
        congr 1
        injection h1 with h1
        injection h1 with h3 h4
        injection h4 with h4 _
        injection h3 with h3
        injection h4 with h4
        exact Prod.ext h3 h4
  tup := fun a => ⟨_, rfl⟩
theorem sort_bodies (bs : List Body) : sortD (bs.map bodyD) = (isort bodyLe bs).map bodyD := sortD_map body_le bs
/-- what sorted asks of bodies -/
theorem bodies_ok {bs : List Body} (h : ∀ b ∈ bs, b ≠ []) : PySem.W.AllAlike (bs.map bodyD) ∧ PySem.W.Sortable (bs.map bodyD) ∧ ∀ d ∈ bs.map bodyD, d.depth ≤ 8 := by
  refine ⟨.of body_alike, .inl fun d hd => ?_, fun d hd => ?_⟩
  · obtain ⟨b, hb, rfl⟩ := List.mem_map.mp hd
    cases b with
    | nil => exact absurd rfl (h _ hb)
    | cons x xs => exact ⟨_, _, rfl⟩
  · obtain ⟨b, hb, rfl⟩ := List.mem_map.mp hd
    have := body_depth b
    omega
theorem cells_ok (cs : List Cell) : PySem.W.AllAlike (cs.map cellD) ∧ PySem.W.Sortable (cs.map cellD) ∧ ∀ d ∈ cs.map cellD, d.depth ≤ 8 := cellS.all cs
/-! ### in -/
theorem any_cells (cs : List Cell) (c : Cell) : ((cs.map cellD).any fun z => PyData.eqv z (cellD c)) = memK cs c := by
  unfold memK
  rw [List.any_map]
  congr 1
  funext a
  exact cell_eqv a c
/-! ### sorted(d), list(d) -/
section
variable {P : Program} {w : World} {K : PySem.W.Frag} {σ : St} {H : Hp} {td : TE} {d : Addr}
theorem en_sortedN {α : Type} [DecidableEq α] {enc : α → PyData} {kvs : List (α × V)} (hd : Evr td σ H (.ref d)) (T : Tab P w K enc H d kvs) (ok : PySem.W.AllAlike (kvs.map fun p => enc p.1) ∧ PySem.W.Sortable (kvs.map fun p => enc p.1) ∧ ∀ d ∈ kvs.map fun p => enc p.1, d.depth ≤ 8) :
    EvN K (tCB (rSortedN P w K enc) (tCons td tNil)) σ H (sortD (kvs.map fun p => enc p.1)) := fun H1 s Q q =>
  hd H1 s _ fun H2 s2 => ⟨d, kvs, rfl, T.same (s.trans s2), ok, fun p ys hp hy => q p ys _ (s2.free hp) (s2.trans (Same.new hp)) upd_same (hy.same (Same.new hp))⟩
theorem en_listN {α : Type} [DecidableEq α] {enc : α → PyData} {kvs : List (α × V)} (hd : Evr td σ H (.ref d)) (T : Tab P w K enc H d kvs) :
    EvN K (tCB (rListN P w K enc) (tCons td tNil)) σ H (kvs.map fun p => enc p.1) := fun H1 s Q q =>
  hd H1 s _ fun H2 s2 => ⟨d, kvs, rfl, T.same (s.trans s2), fun p ys hp hy => q p ys _ (s2.free hp) (s2.trans (Same.new hp)) upd_same (hy.same (Same.new hp))⟩
end
end Z
set_option Elab.async false
set_option linter.all false
set_option maxRecDepth 100000
set_option maxHeartbeats 4000000
/-! ZI: the program's text by places; what the module's names hold; the simple defs. -/
namespace Z
open PySem PySem.Spec L2
open PyProof.Rows hiding St
def top (i : Nat) : Stmt := PySem.Challenge.pw_slideinto_k41_whole_farthest.main.body.getD i (.Pass ⟨0, 0, 0, 0⟩)
theorem zb_len : bootBuiltins "len" = some (.builtin "len") := by decide +kernel
theorem zb_tuple : bootBuiltins "tuple" = some (.type "tuple") := by decide +kernel
theorem zb_int : bootBuiltins "int" = some (.type "int") := by decide +kernel
theorem zb_bool : bootBuiltins "bool" = some (.type "bool") := by decide +kernel
theorem zb_list : bootBuiltins "list" = some (.type "list") := by decide +kernel
theorem zb_dict : bootBuiltins "dict" = some (.type "dict") := by decide +kernel
theorem zb_set : bootBuiltins "set" = some (.type "set") := by decide +kernel
theorem zb_sorted : bootBuiltins "sorted" = some (.builtin "sorted") := by decide +kernel
theorem zb_isinstance : bootBuiltins "isinstance" = some (.builtin "isinstance") := by decide +kernel
theorem zb_abs : bootBuiltins "abs" = some (.builtin "abs") := by decide +kernel
theorem zb_min : bootBuiltins "min" = some (.builtin "min") := by decide +kernel
theorem zb_max : bootBuiltins "max" = some (.builtin "max") := by decide +kernel
theorem zb_repr : bootBuiltins "repr" = some (.builtin "repr") := by decide +kernel
def rLen (K : PySem.W.Frag) : List V → Hp → VK → Prop := fun xs H Q => ∃ p ys, xs = [.ref p] ∧ (SqL K H p ys ∨ SqT K H p ys) ∧ Q (.int ys.length) H
def rTupOf (K : PySem.W.Frag) : List V → Hp → VK → Prop := fun xs H Q => ∃ p ys, xs = [.ref p] ∧ ((SqL K H p ys ∧ ∀ l, H l = none → Q (.ref l) (upd H l (.tup ys))) ∨ (SqT K H p ys ∧ Q (.ref p) H))
def around : List Cell := [(-1, -1), (-1, 0), (-1, 1), (0, -1), (0, 1), (1, -1), (1, 0), (1, 1)]
structure Glo (K : PySem.W.Frag) (mg : Str → Option Value) (tM : Tok) (aR : Addr) : Prop where
  len : mg "len" = none
  tuple : mg "tuple" = none
  int : mg "int" = none
  bool : mg "bool" = none
  list : mg "list" = none
  dict : mg "dict" = none
  set : mg "set" = none
  sorted : mg "sorted" = none
  isinstance : mg "isinstance" = none
  abs : mg "abs" = none
  min : mg "min" = none
  max : mg "max" = none
  repr : mg "repr" = none
  range : mg "range" = none
  mostM : mg "MOST" = some (.int 7 tM)
  aroundM : mg "AROUND" = some (.ref aR)
  aroundD : ∀ H, Dp K H (.ref aR) (.tuple (around.map cellD))
section
variable {P : Program} {w : World} {K : PySem.W.Frag} {mg : Str → Option Value} {base : Heap} {tM : Tok} {aR : Addr}
theorem hu65 {k : Nat} {A : Around} (r : Room k A) : A.units + 65 < cLine := by have := r.un; omega
/-- data in, data out -/
abbrev Pu (K : PySem.W.Frag) (R : List PyData → PyData → Prop) : Sp := PureSp K R
theorem pu_len {R : List PyData → PyData → Prop} {n : Nat} (h : ∀ ds r, R ds r → ds.length = n) : ∀ vs H Q E, PureSp K R vs H Q E → vs.length = n := fun vs H Q E ⟨ds, r, hv, hr, _⟩ => hv.length.trans (h ds r hr)
theorem nw_len {R : List PyData → List PyData → Prop} {n : Nat} (h : ∀ ds r, R ds r → ds.length = n) : ∀ vs H Q E, NewSp K R vs H Q E → vs.length = n := fun vs H Q E ⟨ds, r, hv, hr, _⟩ => hv.length.trans (h ds r hr)

theorem al_start (N : List Str) {vs : List V} {ds : List PyData} {H : Hp} (h : DpAll K H vs ds) : Al K H (ds.map .dat ++ List.replicate (N.length - ds.length) .no) (L2.start N vs) := by
  unfold L2.start
  rw [h.length]
  exact Al.start h
/-! ### is_whole, is_cell, check_cell -/
abbrev s_is_whole : Stmt := top 6
theorem sc_is_whole : FnScope ["value"] ["value"] (defScope s_is_whole) := ⟨rfl, rfl, rfl, by decide +kernel, rfl, by decide +kernel, by decide +kernel⟩
/-- a value without parts -/
def Scal : PyData → Prop
  | .none => True
  | .bool _ => True
  | .int _ => True
  | .str _ => True
  | _ => False
def isInt : PyData → Bool
  | .int _ => true
  | .bool _ => true
  | _ => false
def isBool : PyData → Bool
  | .bool _ => true
  | _ => false
def whole : PyData → Bool
  | .int _ => true
  | _ => false
theorem whole_eq (d : PyData) : whole d = (isInt d && !isBool d) := by cases d <;> rfl
abbrev R_is_whole : List PyData → PyData → Prop := fun ds r => ∃ d, ds = [d] ∧ Scal d ∧ r = .bool (whole d)
theorem ev_isi {te : TE} {σ : St} {H : Hp} {d : PyData} {T : String} {b : Bool} (h : Evd K te σ H d)
    (ht : ∀ v H1, Dp K H1 v d → ∃ t, TyX K H1 v t ∧ PySem.W.kitOne K t (.type T) = some b) : Evd K (tCB (rIsi K) (tCons te (tCons (tC (.ty T)) tNil))) σ H (.bool b) := fun H1 s Q q =>
  h H1 s _ fun v H2 s2 hv => by
    obtain ⟨t, h1, h2⟩ := ht v H2 hv
    exact ⟨v, .ty T, t, .type T, b, rfl, .ty T, h1, h2, q _ H2 s2 (.bl _)⟩
theorem ty_int {d : PyData} (hs : Scal d) : ∀ v H1, Dp K H1 v d → ∃ t, TyX K H1 v t ∧ PySem.W.kitOne K t (.type "int") = some (isInt d) := fun v H1 hv => by
  cases hv with
  | non => exact ⟨_, .base .non, kit_ty (by decide +kernel)⟩
  | bl b => exact ⟨_, .base (.bl b), kit_ty (by show kitB "bool" "int" = some true; decide +kernel)⟩
  | int i => exact ⟨_, .base (.int i), kit_ty (by show kitB "int" "int" = some true; decide +kernel)⟩
  | str x => exact ⟨_, .base (.str x), kit_ty (by show kitB "str" "int" = some false; decide +kernel)⟩
  | lst _ _ => exact hs.elim
  | tup _ _ => exact hs.elim
theorem ty_bool {d : PyData} (hs : Scal d) : ∀ v H1, Dp K H1 v d → ∃ t, TyX K H1 v t ∧ PySem.W.kitOne K t (.type "bool") = some (isBool d) := fun v H1 hv => by
  cases hv with
  | non => exact ⟨_, .base .non, kit_ty (by decide +kernel)⟩
  | bl b => exact ⟨_, .base (.bl b), kit_ty (by show kitB "bool" "bool" = some true; decide +kernel)⟩
  | int i => exact ⟨_, .base (.int i), kit_ty (by show kitB "int" "bool" = some false; decide +kernel)⟩
  | str x => exact ⟨_, .base (.str x), kit_ty (by show kitB "str" "bool" = some false; decide +kernel)⟩
  | lst _ _ => exact hs.elim
  | tup _ _ => exact hs.elim
theorem ok_is_whole (T : Glo K mg tM aR) (h : Has K mg "is_whole" s_is_whole ["value"]) : OkAt P w K mg base 1 "is_whole" ["value"] (Pu K R_is_whole) := by
  refine h.ok sc_is_whole (pu_len fun ds r ⟨d, e, _⟩ => by rw [e]; rfl) (fun _ cdv A outer s H vs Q E f hr q => ?_)
  obtain ⟨ds, r, hv, ⟨d, rfl, hs, rfl⟩, k⟩ := q
  have hu := hr.units
  have hu5 := hu65 hr
  refine ⟨_, (pss_one (ps_ret (pe_and (pe_callB (show CallR _ _ (rIsi K) from call_isi) (by rfl) T.isinstance zb_isinstance (pa_cons (pv 0) (pa_cons (pe_bltn (v := .ty "int") rfl T.int zb_int rfl) pa_nil))) (pe_one (pe_not (pe_callB (show CallR _ _ (rIsi K) from call_isi) (by rfl) T.isinstance zb_isinstance (pa_cons (pv 0) (pa_cons (pe_bltn (v := .ty "bool") rfl T.bool zb_bool rfl) pa_nil)))))))), ?_⟩
  have A0 : Al K H [.dat d] (L2.start ["value"] vs) := al_start ["value"] hv
  rw [whole_eq] at k
  exact st_ret (ev_andV (ev_isi (ev_var A0 rfl) (ty_int hs)) fun _ => ev_notV (ev_isi (ev_var A0 rfl) (ty_bool hs))) fun v H1 s1 hv => k v H1 s1 hv
abbrev s_is_cell : Stmt := top 8
theorem sc_is_cell : FnScope ["value"] ["value"] (defScope s_is_cell) := ⟨rfl, rfl, rfl, by decide +kernel, rfl, by decide +kernel, by decide +kernel⟩
abbrev R_is_cell : List PyData → PyData → Prop := fun ds r => ∃ c, ds = [cellD c] ∧ r = .bool true
theorem ty_tup {ds : List PyData} : ∀ v H1, Dp K H1 v (.tuple ds) → ∃ t, TyX K H1 v t ∧ PySem.W.kitOne K t (.type "tuple") = some true := fun v H1 hv => by
  have e : PySem.W.kitOne K (.type "tuple") (.type "tuple") = some true := kit_ty (by decide +kernel)
  cases hv with
  | @tup a xs _ hs ha =>
    refine ⟨.type "tuple", ?_, e⟩
    rcases hs with (hs | ⟨o, hs⟩) | ⟨o, its, n, h1, h2, _⟩
    · exact .base (.tup hs)
    · exact .fTuple hs
    · exact .kTuple h1 h2
theorem rd_eqI {i j : Int} : RD K rEq (.int i) (.int j) (.bool (decide (i = j))) := fun x y H hx hy Q q => by
  cases hx
  cases hy
  refine ⟨rfl, ?_⟩
  have e : decide (V.int i = V.int j) = decide (i = j) := by
    by_cases h : i = j
    · subst h; simp
    · rw [decide_eq_false h, decide_eq_false fun z => h (by injection z)]
  rw [e]
  exact q _ H (Same.refl _) (.bl _)
theorem rd_neI {i j : Int} : RD K rNe (.int i) (.int j) (.bool (!decide (i = j))) := fun x y H hx hy Q q => by
  cases hx
  cases hy
  refine ⟨rfl, ?_⟩
  have e : decide (V.int i = V.int j) = decide (i = j) := by
    by_cases h : i = j
    · subst h; simp
    · rw [decide_eq_false h, decide_eq_false fun z => h (by injection z)]
  rw [e]
  exact q _ H (Same.refl _) (.bl _)
/-- c[0], c[1] -/
theorem ev_fst {te : TE} {σ : St} {H : Hp} {c : Cell} (h : Evd K te σ H (cellD c)) : Evd K (tOp (rIxT K) te (tC (.int 0))) σ H (.int c.1) := ev_op h ev_int (rd_ixT rfl)
theorem ev_snd {te : TE} {σ : St} {H : Hp} {c : Cell} (h : Evd K te σ H (cellD c)) : Evd K (tOp (rIxT K) te (tC (.int 1))) σ H (.int c.2) := ev_op h ev_int (rd_ixT rfl)
theorem ev_cell {ta tb : TE} {σ : St} {H : Hp} {i j : Int} (h1 : Evd K ta σ H (.int i)) (h2 : Evd K tb σ H (.int j)) : Evd K (tTup (tCons ta (tCons tb tNil))) σ H (cellD (i, j)) := ev_tup (ea_cons h1 (ea_cons h2 ea_nil))
theorem ok_is_cell (T : Glo K mg tM aR) (h : Has K mg "is_cell" s_is_cell ["value"]) (G_is_whole : OkAt P w K mg base 1 "is_whole" ["value"] (Pu K R_is_whole)) : OkAt P w K mg base 2 "is_cell" ["value"] (Pu K R_is_cell) := by
  refine h.ok sc_is_cell (pu_len fun ds r ⟨d, e, _⟩ => by rw [e]; rfl) (fun _ cdv A outer s H vs Q E f hr q => ?_)
  obtain ⟨ds, r, hv, ⟨c, rfl, rfl⟩, k⟩ := q
  have hu := hr.units
  have hu5 := hu65 hr
  refine ⟨_, (pss_one (ps_ret (pe_and (pe_callB (show CallR _ _ (rIsi K) from call_isi) (by rfl) T.isinstance zb_isinstance (pa_cons (pv 0) (pa_cons (pe_bltn (v := .ty "tuple") rfl T.tuple zb_tuple rfl) pa_nil))) (pe_and (pe_cmpR op_eq (pe_callB (show CallR _ _ (rLen K) from call_len_seq) (by rfl) T.len zb_len (pa_cons (pv 0) pa_nil)) pe_int (nomark _)) (pe_and (pe_callO G_is_whole (hr.mono (by decide)) rfl (pa_cons (pe_ix (show IxR _ (rIxT K) from ix_tup) (pv 0) pe_int (fun _ _ => rfl)) pa_nil)) (pe_one (pe_callO G_is_whole (hr.mono (by decide)) rfl (pa_cons (pe_ix (show IxR _ (rIxT K) from ix_tup) (pv 0) pe_int (fun _ _ => rfl)) pa_nil)))))))), ?_⟩
  have A0 : Al K H [.dat (cellD c)] (L2.start ["value"] vs) := al_start ["value"] hv
  have W : ∀ i : Int, R_is_whole [.int i] (.bool true) := fun i => ⟨_, rfl, trivial, rfl⟩
  refine st_ret (ev_andV (b := true) (c := true) (ev_isi (ev_var A0 rfl) ty_tup) fun _ => ev_andV (b := true) (c := true) (ev_op (ev_cb (ea_cons (ev_var A0 rfl) ea_nil) rc_lenT) ev_int rd_eqI) fun _ => ev_andV (b := true) (c := true) ?_ fun _ => ?_) k
  · exact ev_call (ea_cons (ev_fst (ev_var A0 rfl)) ea_nil) (W _)
  · exact ev_call (ea_cons (ev_snd (ev_var A0 rfl)) ea_nil) (W _)
abbrev s_check_cell : Stmt := top 10
theorem sc_check_cell : FnScope ["value"] ["value"] (defScope s_check_cell) := ⟨rfl, rfl, rfl, by decide +kernel, rfl, by decide +kernel, by decide +kernel⟩
abbrev R_check_cell : List PyData → PyData → Prop := fun ds r => ∃ c, ds = [cellD c] ∧ r = .none
theorem ok_check_cell (h : Has K mg "check_cell" s_check_cell ["value"]) (G_is_cell : OkAt P w K mg base 2 "is_cell" ["value"] (Pu K R_is_cell)) : OkAt P w K mg base 3 "check_cell" ["value"] (Pu K R_check_cell) := by
  refine h.ok sc_check_cell (pu_len fun ds r ⟨d, e, _⟩ => by rw [e]; rfl) (fun _ cdv A outer s H vs Q E f hr q => ?_)
  obtain ⟨ds, r, hv, ⟨c, rfl, rfl⟩, k⟩ := q
  have hu := hr.units
  have hu5 := hu65 hr
  refine ⟨_, (pss_one (ps_if (pt_not (pt_val (pe_callO G_is_cell (hr.mono (by decide)) rfl (pa_cons (pv 0) pa_nil)))) pss_never pss_nil)), ?_⟩
  have A0 : Al K H [.dat (cellD c)] (L2.start ["value"] vs) := al_start ["value"] hv
  exact st_ifF (et_not (a := true) (et_B (ev_call (ea_cons (ev_var A0 rfl) ea_nil) ⟨c, rfl, rfl⟩))) fun H1 s1 => k _ H1 s1 .non
/-! ### beside -/
abbrev s_beside : Stmt := top 11
theorem sc_beside : FnScope ["cell", "column", "row"] ["cell"] (defScope s_beside) := ⟨rfl, rfl, rfl, by decide +kernel, rfl, by decide +kernel, by decide +kernel⟩
def nb (c : Cell) : Body := [(c.1 - 1, c.2), (c.1, c.2 - 1), (c.1 + 1, c.2), (c.1, c.2 + 1)]
abbrev R_beside : List PyData → PyData → Prop := fun ds r => ∃ c, ds = [cellD c] ∧ r = bodyD (nb c)
theorem ok_beside (h : Has K mg "beside" s_beside ["cell"]) (G_check_cell : OkAt P w K mg base 3 "check_cell" ["value"] (Pu K R_check_cell)) : OkAt P w K mg base 4 "beside" ["cell"] (Pu K R_beside) := by
  refine h.ok sc_beside (pu_len fun ds r ⟨d, e, _⟩ => by rw [e]; rfl) (fun _ cdv A outer s H vs Q E f hr q => ?_)
  obtain ⟨ds, r, hv, ⟨c, rfl, rfl⟩, k⟩ := q
  have hu := hr.units
  have hu5 := hu65 hr
  refine ⟨_, (pss_cons (ps_expr (pe_callO G_check_cell (hr.mono (by decide)) rfl (pa_cons (pv 0) pa_nil)))
      (pss_cons (ps_asg (pv 0) (show PG _ _ (gTup K 2 (gCons (gName 1) (gCons (gName 2) gNil))) from pg_tup rfl (pgs_cons (pg_name (i := 1) sc_beside.nd rfl (Or.inl rfl)) (pgs_cons (pg_name (i := 2) sc_beside.nd rfl (Or.inl rfl)) pgs_nil))))
      (pss_one (ps_ret (pe_tup (pa_cons (pe_tup (pa_cons (pe_op op_sub (pv 1) pe_int) (pa_cons (pv 2) pa_nil))) (pa_cons (pe_tup (pa_cons (pv 1) (pa_cons (pe_op op_sub (pv 2) pe_int) pa_nil))) (pa_cons (pe_tup (pa_cons (pe_op op_add (pv 1) pe_int) (pa_cons (pv 2) pa_nil))) (pa_cons (pe_tup (pa_cons (pv 1) (pa_cons (pe_op op_add (pv 2) pe_int) pa_nil))) pa_nil))))))))), ?_⟩
  have A0 : Al K H [.dat (cellD c), .no, .no] (L2.start ["cell", "column", "row"] vs) := al_start ["cell", "column", "row"] hv
  refine st_drop (ev_call (ea_cons (ev_var A0 rfl) ea_nil) ⟨c, rfl, rfl⟩) fun H1 s1 => ?_
  refine st_pair (ev_var (A0.same s1) rfl) fun x y H2 s2 hx hy => ?_
  have A1 := ((A0.same (s1.trans s2)).put hx 1).put hy 2
  have e1 : ∀ {te : TE}, te = tVar 1 → Evd K te _ H2 (.int c.1) := fun e => e ▸ ev_var A1 rfl
  refine st_ret (ev_tup (ea_cons (ev_cell (ev_op (ev_var A1 rfl) ev_int rd_I0) (ev_var A1 rfl)) (ea_cons (ev_cell (ev_var A1 rfl) (ev_op (ev_var A1 rfl) ev_int rd_I0))
    (ea_cons (ev_cell (ev_op (ev_var A1 rfl) ev_int rd_I0) (ev_var A1 rfl)) (ea_cons (ev_cell (ev_var A1 rfl) (ev_op (ev_var A1 rfl) ev_int rd_I0)) ea_nil))))) fun v H3 s3 hv => k v H3 ((s1.trans s2).trans s3) hv
end
end Z
set_option Elab.async false
set_option linter.all false
set_option maxRecDepth 100000
set_option maxHeartbeats 4000000
/-! ZJ: own lists and tables in a loop; taken_part, parts_of, hangs. -/
namespace Z
open PySem PySem.Spec L2
open PyProof.Rows hiding St
/-- the list at l holds ds -/
def OwnL (K : PySem.W.Frag) (H : Hp) (l : Addr) (ds : List PyData) : Prop := ∃ xs, H l = some (.lst xs) ∧ DpAll K H xs ds
section
variable {K : PySem.W.Frag} {H H' : Hp} {l p : Addr} {ds es : List PyData} {o u : HO} {σ : St} {v : V} {d : PyData}
theorem OwnL.at (h : OwnL K H l ds) : ∃ xs, H l = some (.lst xs) := ⟨_, h.choose_spec.1⟩
theorem OwnL.keep (h : OwnL K H l ds) (fl : flatAll ds = true) (tk : TKp K H H') (q : ∀ o, H l = some o → H' l = some o) : OwnL K H' l ds := by
  obtain ⟨xs, e, a⟩ := h
  exact ⟨xs, q _ e, DpAll.keepT tk _ _ fl a⟩
theorem OwnL.same (h : OwnL K H l ds) (s : Same H H') : OwnL K H' l ds := by
  obtain ⟨xs, e, a⟩ := h
  exact ⟨xs, s _ _ e, a.same s⟩
theorem OwnL.upd (h : OwnL K H l ds) (fl : flatAll ds = true) (hp : H p = some o) (lo : Loose o = true) (ne : l ≠ p) : OwnL K (L2.upd H p u) l ds :=
  h.keep fl (.upd hp lo) fun _ e => by rw [upd_ne ne]; exact e
theorem OwnL.put {xs : List V} (hl : ∃ ys, H l = some (.lst ys)) (a : DpAll K H xs ds) (fl : flatAll ds = true) : OwnL K (L2.upd H l (.lst xs)) l ds := by
  obtain ⟨ys, e⟩ := hl
  exact ⟨xs, upd_same, DpAll.keepT (.upd e rfl) _ _ fl a⟩
theorem OwnL.new {xs : List V} (hl : H l = some (.lst xs)) (a : DpAll K H xs ds) : OwnL K H l ds := ⟨xs, hl, a⟩
theorem DpAll.snoc_inv : ∀ {vs : List V} {ds : List PyData}, DpAll K H vs (ds ++ [d]) → ∃ xs y, vs = xs ++ [y] ∧ DpAll K H xs ds ∧ Dp K H y d
  | _, [], h => by
    cases h with
    | @cons y _ _ _ h1 h2 => cases h2; exact ⟨[], y, rfl, .nil, h1⟩
  | _, _ :: ds, h => by
    cases h with
    | @cons x vs _ _ h1 h2 =>
      obtain ⟨xs, y, e, a, b⟩ := DpAll.snoc_inv (ds := ds) h2
      exact ⟨x :: xs, y, by rw [e]; rfl, .cons h1 a, b⟩
theorem OwnL.dp (h : OwnL K H l ds) : Dp K H (.ref l) (.list ds) := by
  obtain ⟨xs, e, a⟩ := h
  exact .lst (.inl (.inl e)) a
/-- a list's truth -/
theorem et_own {i : Nat} {es : List Slot} (A : Al K H es σ) (hi : es[i]? = some (.raw (.ref l))) (h : OwnL K H l ds) : EvT (fun σ H Q => tVar i σ H fun x H' => ∃ k, TruV K x H' k ∧ Q k H') σ H (!ds.isEmpty) :=
  et_list (ev_raw A hi h.dp)
/-- l.append(x), the list's data -/
theorem st_appD {tl te : TE} {D : Ends} (hl : Evr tl σ H (.ref l)) (h : OwnL K H l ds) (fl : flatAll ds = true) (fd : flat d = true) (hz : ds.length < sizeLine) (he : Evd K te σ H d)
    (q : ∀ H1 xs, Same H H1 → H1 l = H l → OwnL K (L2.upd H1 l (.lst xs)) l (ds ++ [d]) → D.nx σ (L2.upd H1 l (.lst xs))) : tDrop (tBM K "list" rAppend tl (tCons te tNil)) D σ H := by
  obtain ⟨xs, e, a⟩ := h
  refine st_app hl e (by rw [a.length]; exact hz) he fun v H1 s hv => q H1 _ s (by rw [e, s _ _ e]) (OwnL.put ⟨xs, s _ _ e⟩ ((a.same s).append (.one hv)) ?_)
  have : ∀ {ds : List PyData}, flatAll ds = true → flatAll (ds ++ [d]) = true := fun {ds} h => by
    induction ds with
    | nil => simp [flatAll, fd]
    | cons x xs ih =>
      simp only [flatAll, Bool.and_eq_true, List.cons_append] at h ⊢
      exact ⟨h.1, ih h.2⟩
  exact this fl
/-- x = l.pop() -/
theorem st_popD {j : Nat} {tl : TE} {D : Ends} (hl : Evr tl σ H (.ref l)) (h : OwnL K H l (ds ++ [d])) (fl : flatAll ds = true) (fd : flat d = true)
    (q : ∀ H1 xs v, Same H H1 → H1 l = H l → OwnL K (L2.upd H1 l (.lst xs)) l ds → Dp K (L2.upd H1 l (.lst xs)) v d → D.nx (σ.set j (some v)) (L2.upd H1 l (.lst xs))) : tAsg (tBM0 K "list" rPop tl) (gName j) D σ H := by
  obtain ⟨xs, e, a⟩ := h
  obtain ⟨ys, y, rfl, a1, b1⟩ := DpAll.snoc_inv a
  refine st_pop hl e fun H1 s => q H1 ys y s (by rw [e, s _ _ e]) (OwnL.put ⟨_, s _ _ e⟩ (a1.same s) fl) (Dp.keepT (.upd (s _ _ e) rfl) _ _ fd (Dp.same s b1))
/-- a, b = two new lists -/
theorem st_parNN {i j : Nat} {ta tb : TE} {D : Ends} (h1 : EvN K ta σ H ds) (h2 : EvN K tb σ H es)
    (q : ∀ p r H1, H p = none → H r = none → p ≠ r → Same H H1 → OwnL K H1 p ds → OwnL K H1 r es → D.nx ((σ.set i (some (.ref p))).set j (some (.ref r))) H1) : tPar i j (tCons ta (tCons tb tNil)) D σ H :=
  h1 H (Same.refl _) _ fun p xs H1 hp s1 e1 d1 => h2 H1 s1 _ fun r ys H2 hr s2 e2 d2 => by
    refine ⟨.ref p, .ref r, rfl, q p r H2 hp (s1.free hr) (fun z => ?_) (s1.trans s2) ⟨xs, s2 _ _ e1, d1.same s2⟩ ⟨ys, e2, d2⟩⟩
    subst z
    rw [e1] at hr
    cases hr
end
section
variable {P : Program} {w : World} {K : PySem.W.Frag} {mg : Str → Option Value} {base : Heap} {tM : Tok} {aR : Addr}
theorem tab_loose {α : Type} {enc : α → PyData} {H : Hp} {d : Addr} {kvs : List (α × V)} (T : Tab P w K enc H d kvs) : ∃ o, H d = some o ∧ Loose o = true := by
  obtain ⟨o, e, n⟩ := T.there
  exact ⟨o, e, loose_of n⟩
theorem tab_ne {α : Type} {enc : α → PyData} {H : Hp} {d l : Addr} {kvs : List (α × V)} {ds : List PyData} (T : Tab P w K enc H d kvs) (h : OwnL K H l ds) : l ≠ d := fun z => by
  obtain ⟨o, e, n⟩ := T.there
  obtain ⟨xs, e2, _⟩ := h
  subst z
  rw [e] at e2
  cases e2
  cases n
/-! ### taken_part -/
abbrev s_taken_part : Stmt := top 12
theorem sc_taken_part : FnScope ["left", "cell", "found", "todo", "one", "other"] ["left", "cell"] (defScope s_taken_part) := ⟨rfl, rfl, rfl, by decide +kernel, rfl, by decide +kernel, by decide +kernel⟩
abbrev TP := List Cell × List Cell × List Cell
def tpAdd (s : List Cell × List Cell) (o : Cell) : List Cell × List Cell := if memK s.1 o = true then (s.1.filter fun a => decide (a ≠ o), o :: s.2) else s
def tpStep (s : TP) : TP := match s.2.2 with
  | [] => s
  | one :: rest => let z := (nb one).foldl tpAdd (s.1, rest); (z.1, one :: s.2.1, z.2)
def tpCond (s : TP) : Bool := !s.2.2.isEmpty
def tpRun (n : Nat) (ks : List Cell) (c : Cell) : Option TP := runW tpCond tpStep n (ks.filter (fun a => decide (a ≠ c)), [], [c])
def sp_taken_part (P : Program) (w : World) (K : PySem.W.Frag) : Sp := fun vs H Q _ => ∃ (d : Addr) (v : V) (ks : List Cell) (c : Cell) (n : Nat) (r : TP), vs = [.ref d, v] ∧ Tab P w K cellD H d (setK ks) ∧ Dp K H v (cellD c) ∧ memK ks c = true ∧ tpRun n ks c = some r ∧ ks.length ≤ 1000 ∧
  ∀ v' H', But [d] H H' → Tab P w K cellD H' d (setK r.1) → Dp K H' v' (bodyD (isort cellLe r.2.1.reverse)) → Q v' H'
theorem filter_lt {ks : List Cell} {c : Cell} (h : memK ks c = true) : (ks.filter fun a => decide (a ≠ c)).length < ks.length := by
  have hm : c ∈ ks := memK_iff.mp h
  exact List.length_filter_lt_length_iff_exists.mpr ⟨c, hm, by simp⟩
theorem tpAdd_len (s : List Cell × List Cell) (o : Cell) : (tpAdd s o).1.length + (tpAdd s o).2.length ≤ s.1.length + s.2.length := by
  unfold tpAdd
  split
  · rename_i h
    have := filter_lt h
    simp only [List.length_cons]
    omega
  · omega
theorem tpFold_len : ∀ (os : List Cell) (s : List Cell × List Cell), (os.foldl tpAdd s).1.length + (os.foldl tpAdd s).2.length ≤ s.1.length + s.2.length
  | [], s => Nat.le_refl _
  | o :: os, s => Nat.le_trans (tpFold_len os (tpAdd s o)) (tpAdd_len s o)
theorem take_succ_foldl {α β : Type} {f : β → α → β} {b : β} {xs : List α} {i : Nat} {x : α} (h : xs[i]? = some x) : (xs.take (i + 1)).foldl f b = f ((xs.take i).foldl f b) x := by
  rw [List.take_add_one, h, List.foldl_append]
  rfl
theorem map_at {α β : Type} {f : α → β} {xs : List α} {i : Nat} {y : β} (h : (xs.map f)[i]? = some y) : ∃ x, xs[i]? = some x ∧ y = f x := by
  rw [List.getElem?_map] at h
  cases e : xs[i]? with
  | none => rw [e] at h; cases h
  | some x => rw [e] at h; exact ⟨x, rfl, (Option.some.inj h).symm⟩
theorem small {n : Nat} (h : n ≤ 1000) : n < sizeLine := Nat.lt_of_le_of_lt h (by decide)
theorem cells_flat (cs : List Cell) : flatAll (cs.map cellD) = true := flatAll_map cell_flat cs
theorem ok_taken_part (T : Glo K mg tM aR) (h : Has K mg "taken_part" s_taken_part ["left", "cell"]) (G_beside : OkAt P w K mg base 4 "beside" ["cell"] (Pu K R_beside)) : OkAt P w K mg base 5 "taken_part" ["left", "cell"] (sp_taken_part P w K) := by
  refine h.ok sc_taken_part (fun vs H Q E h => by obtain ⟨d, v, ks, c, n, r, rfl, _⟩ := h; rfl) (fun _ cdv A outer s H vs Q E f hr q => ?_)
  obtain ⟨d, v, ks, c, n, r, rfl, T0, hv, hc, run, hlen, k⟩ := q
  have hu := hr.units
  have hu5 := hu65 hr
  refine ⟨_, (pss_cons (ps_delN cellK hu (pv 0) (pv 1))
      (pss_cons (ps_par (i := 2) (j := 3) rfl sc_taken_part.nd rfl rfl (by decide) rfl rfl (pa_cons (pe_lst pa_nil) (pa_cons (pe_lst (pa_cons (pv 1) pa_nil)) pa_nil)) rfl)
      (pss_cons (ps_while PassesOwn.never (pt_truth (pv 3) (fun _ => rfl))
      (pss_cons (ps_set (i := 4) sc_taken_part.nd rfl (Or.inl rfl) (pe_bm0 PySem.F.plainAttrs_list PySem.F.slot_list_pop PySem.F.type_list_pop mt_pop (pv 3)))
      (pss_cons (ps_expr (pe_bm PySem.F.plainAttrs_list PySem.F.slot_list_append PySem.F.type_list_append mt_append (pv 2) (pa_cons (pv 4) pa_nil)))
      (pss_one (ps_for PassesOwn.never rfl (show PI _ _ _ (iTup K _) from pi_tup (pe_callO G_beside (hr.mono (by decide)) rfl (pa_cons (pv 4) pa_nil))) (pg_name (i := 5) sc_taken_part.nd rfl (Or.inl rfl))
      (pss_one (ps_if (pt_cmpR (show OpR _ _ (rInN P w K cellD) from op_inN cellK hu) (pv 5) (pv 0) rfl) (pss_cons (ps_delN cellK hu (pv 0) (pv 5))
      (pss_one (ps_expr (pe_bm PySem.F.plainAttrs_list PySem.F.slot_list_append PySem.F.type_list_append mt_append (pv 3) (pa_cons (pv 5) pa_nil))))) pss_nil)))))))
      (pss_one (ps_ret (pe_callTy (show CallR _ _ (rTupOf K) from call_tuple_of) (by rfl) T.tuple zb_tuple (pa_cons (pe_callB (show CallR _ _ (rSortD K) from cr_sortD hu) (by rfl) T.sorted zb_sorted (pa_cons (pv 2) pa_nil)) pa_nil))))))), ?_⟩
  have A0 : Al K H [.raw (.ref d), .dat (cellD c), .no, .no, .no, .no] (L2.start ["left", "cell", "found", "todo", "one", "other"] [.ref d, v]) := .cons rfl (.cons ⟨v, rfl, hv⟩ (Al.no 4))
  -- del left[cell]
  refine st_del (er_var A0 rfl) (ev_var A0 rfl) T0 (by rw [setK_at]; exact hc) fun H1 u s1 hu1 T1 => ?_
  rw [setK_drop] at T1
  obtain ⟨od, hod, lod⟩ := tab_loose T0
  have tk1 : TKp K H1 (upd H1 d u) := TKp.upd (s1 _ _ hod) lod
  have b1 : But [d] H (upd H1 d u) := (Same.but s1).upd (.inl List.mem_cons_self)
  have A1 := (A0.same s1).keepT tk1 rfl
  -- found, todo = [], [cell]
  refine st_parNN (en_lst ea_nil) (en_lst (ea_cons (ev_var A1 rfl) ea_nil)) fun fo to H2 hfo hto nft s2 of2 ot2 => ?_
  have b2 := b1.trans (Same.but s2)
  have T2 := T1.same s2
  have hn0 : ∀ {a : Addr}, upd H1 d u a = none → H a = none := fun {a} e => by
    have nd : a ≠ d := fun z => by subst z; rw [upd_same] at e; cases e
    rw [upd_ne nd] at e
    exact s1.free e
  have hf0 := hn0 hfo
  have ht0 := hn0 hto
  have A2 := ((A1.same s2).putR (v := .ref fo) 2).putR (v := .ref to) 3
  have nfd : fo ≠ d := tab_ne T2 of2
  have ntd : to ≠ d := tab_ne T2 ot2
  -- while
  let I : TP → St → Hp → Prop := fun s σ' H' => Al K H' [.raw (.ref d), .no, .raw (.ref fo), .raw (.ref to), .no, .no] σ' ∧ Tab P w K cellD H' d (setK s.1) ∧ OwnL K H' fo (s.2.1.reverse.map cellD) ∧ OwnL K H' to (s.2.2.reverse.map cellD) ∧ But [d, fo, to] H H' ∧
    s.1.length + s.2.2.length + s.2.1.length ≤ ks.length
  dsimp only [tSeq]
  refine st_while (S := TP) (cond := tpCond) (step := tpStep) (r := r) (n := n) I run ?_ ?_
  · refine ⟨A2.weak rfl fun i e q => ?_, T2, of2, ot2, b2.mono (by simp), ?_⟩
    · match i, q with
      | 0, q => exact .inr q
      | 1, q => exact .inl (by simpa using q.symm)
      | 2, q => exact .inr q
      | 3, q => exact .inr q
      | 4, q => exact .inl (by simpa using q.symm)
      | 5, q => exact .inl (by simpa using q.symm)
      | i + 6, q => simp at q
    · have := filter_lt hc
      simp only [List.length_cons, List.length_nil]
      omega
  · rintro ⟨l, fd, td⟩ m σ' H' ⟨A3, T3, of3, ot3, b3, hl3⟩ run3
    refine ⟨?_, fun hc3 H4 s4 => ?_, fun er H4 s4 => ?_⟩
    · have e : tpCond (l, fd, td) = !(td.reverse.map cellD).isEmpty := by
        show (!td.isEmpty) = _
        cases td <;> simp
      rw [e]
      exact et_own A3 rfl ot3
    · cases td with
      | nil => cases hc3
      | cons one rest =>
        simp only at T3 of3 ot3 hl3
        have ot4 : OwnL K H4 to (rest.reverse.map cellD ++ [cellD one]) := by
          have := ot3.same s4
          rw [List.reverse_cons, List.map_append] at this
          exact this
        have A4 := A3.same s4
        have T4 := T3.same s4
        have of4 := of3.same s4
        -- one = todo.pop()
        refine st_popD (er_var A4 rfl) ot4 (cells_flat _) (cell_flat _) fun H5 xs v5 s5 e5 ot5 hv5 => ?_
        obtain ⟨x4, hx4, _⟩ := id ot4
        have q5 := s5 _ _ hx4
        have tk5 : TKp K H5 (upd H5 to (.lst xs)) := TKp.upd q5 rfl
        have A5 := ((A4.same s5).keepT tk5 rfl).put hv5 4
        have T5 := (T4.same s5).upd (o := .lst xs) (Ne.symm ntd) q5 rfl
        have of5 := (of4.same s5).upd (u := .lst xs) (cells_flat _) q5 rfl nft
        have b5 : But [d, fo, to] H (upd H5 to (.lst xs)) := ((b3.trans (Same.but s4)).trans (Same.but s5)).upd (.inl (by simp))
        generalize upd H5 to (.lst xs) = H6 at A5 T5 of5 b5 ot5 hv5
        -- found.append(one)
        simp only [List.length_cons] at hl3
        refine st_appD (er_var A5 rfl) of5 (cells_flat _) (cell_flat _) (by rw [List.length_map, List.length_reverse]; exact small (by omega)) (ev_var A5 rfl) fun H7 ys s7 e7 of7 => ?_
        obtain ⟨x6, hx6, _⟩ := id of5
        have q7 := s7 _ _ hx6
        have tk7 : TKp K H7 (upd H7 fo (.lst ys)) := TKp.upd q7 rfl
        have A7 := (A5.same s7).keepT tk7 rfl
        have T7 := (T5.same s7).upd (o := .lst ys) (Ne.symm nfd) q7 rfl
        have ot7 := (ot5.same s7).upd (u := .lst ys) (cells_flat _) q7 rfl (Ne.symm nft)
        have b7 : But [d, fo, to] H (upd H7 fo (.lst ys)) := (b5.trans (Same.but s7)).upd (.inl (by simp))
        generalize upd H7 fo (.lst ys) = H8 at A7 T7 of7 ot7 b7
        -- for other in beside(one)
        refine st_forT (ds := (nb one).map cellD) (ev_call (ea_cons (ev_var A7 rfl) ea_nil) ⟨one, rfl, rfl⟩) (cells_flat _) fun H9 s9 => ?_
        have T9 := T7.same s9
        have of9 := of7.same s9
        have ot9 := ot7.same s9
        let J : Nat → St → Hp → Prop := fun i σ2 H' => Al K H' [.raw (.ref d), .no, .raw (.ref fo), .raw (.ref to), .no, .no] σ2 ∧ Tab P w K cellD H' d (setK (((nb one).take i).foldl tpAdd (l, rest)).1) ∧ OwnL K H' fo ((one :: fd).reverse.map cellD) ∧
          OwnL K H' to ((((nb one).take i).foldl tpAdd (l, rest)).2.reverse.map cellD) ∧ But [d, fo, to] H9 H'
        refine ⟨J, ⟨(A7.same s9).weak rfl fun i e q => ?_, T9, by rw [List.reverse_cons, List.map_append]; exact of9, ot9, But.refl⟩, fun i σ2 H' ⟨_, _, _, _, b⟩ => ?_, fun i x v9 σ2 H' hx ⟨A10, T10, of10, ot10, b10⟩ hv9 => ?_, fun σ2 H' ⟨A10, T10, of10, ot10, b10⟩ => ?_⟩
        · match i, q with
          | 0, q => exact .inr q
          | 1, q => exact .inl (by simpa using q.symm)
          | 2, q => exact .inr q
          | 3, q => exact .inr q
          | 4, q => exact .inl (by simpa using q.symm)
          | 5, q => exact .inl (by simpa using q.symm)
          | i + 6, q => simp at q
        · refine b.tk fun a ha o ho => ?_
          simp only [List.mem_cons, List.not_mem_nil, or_false] at ha
          rcases ha with rfl | rfl | rfl
          · obtain ⟨o', e', l'⟩ := tab_loose T9
            rw [e'] at ho; cases ho; exact l'
          · obtain ⟨x', e', _⟩ := of9
            rw [e'] at ho; cases ho; rfl
          · obtain ⟨x', e', _⟩ := ot9
            rw [e'] at ho; cases ho; rfl
        · obtain ⟨other, ho, rfl⟩ := map_at hx
          have A11 := A10.put hv9 5
          have stp := take_succ_foldl (f := tpAdd) (b := (l, rest)) ho
          have len9 := tpFold_len ((nb one).take i) (l, rest)
          simp only at len9
          generalize ((nb one).take i).foldl tpAdd (l, rest) = z at T10 ot10 stp len9
          show tIfS _ _ _ _ _ _
          refine st_if (et_test (ev_inN (ev_var A11 rfl) (er_var A11 rfl) T10)) (fun hb H12 s12 => ?_) fun hb H12 s12 => ?_
          · rw [setK_at] at hb
            have ez : tpAdd z other = (z.1.filter fun a => decide (a ≠ other), other :: z.2) := by
              unfold tpAdd
              rw [if_pos hb]
            have T12 := T10.same s12
            -- del left[other]
            refine st_del (er_var (A11.same s12) rfl) (ev_var (A11.same s12) rfl) T12 (by rw [setK_at]; exact hb) fun H13 u3 s13 hu3 T13 => ?_
            rw [setK_drop] at T13
            obtain ⟨od3, hod3, lod3⟩ := tab_loose T12
            have q13 := s13 _ _ hod3
            have tk13 : TKp K H13 (upd H13 d u3) := TKp.upd q13 lod3
            have A13 := ((A11.same s12).same s13).keepT tk13 rfl
            have of13 := ((of10.same s12).same s13).upd (u := u3) (cells_flat _) q13 lod3 nfd
            have ot13 := ((ot10.same s12).same s13).upd (u := u3) (cells_flat _) q13 lod3 ntd
            have b13 : But [d, fo, to] H9 (upd H13 d u3) := ((b10.trans (Same.but s12)).trans (Same.but s13)).upd (.inl (by simp))
            generalize upd H13 d u3 = H14 at T13 A13 of13 ot13 b13
            -- todo.append(other)
            refine st_appD (er_var A13 rfl) ot13 (cells_flat _) (cell_flat _) (by rw [List.length_map, List.length_reverse]; exact small (by omega)) (ev_var A13 rfl) fun H15 ys5 s15 e15 ot15 => ?_
            obtain ⟨x14, hx14, _⟩ := id ot13
            have q15 := s15 _ _ hx14
            have tk15 : TKp K H15 (upd H15 to (.lst ys5)) := TKp.upd q15 rfl
            have A15 := (A13.same s15).keepT tk15 rfl
            refine ⟨A15.weak rfl fun i e q => ?_, ?_, (of13.same s15).upd (cells_flat _) q15 rfl nft, ?_, (b13.trans (Same.but s15)).upd (.inl (by simp))⟩
            · match i, q with
              | 0, q => exact .inr q
              | 1, q => exact .inl (by simpa using q.symm)
              | 2, q => exact .inr q
              | 3, q => exact .inr q
              | 4, q => exact .inl (by simpa using q.symm)
              | 5, q => exact .inl (by simpa using q.symm)
              | i + 6, q => simp at q
            · rw [stp, ez]
              exact (T13.same s15).upd (Ne.symm ntd) q15 rfl
            · rw [stp, ez, List.reverse_cons, List.map_append]
              exact ot15
          · rw [setK_at] at hb
            have ez : tpAdd z other = z := by
              unfold tpAdd
              rw [if_neg (by rw [hb]; decide)]
            refine ⟨(A11.same s12).weak rfl fun i e q => ?_, by rw [stp, ez]; exact T10.same s12, of10.same s12, by rw [stp, ez]; exact ot10.same s12, b10.trans (Same.but s12)⟩
            match i, q with
            | 0, q => exact .inr q
            | 1, q => exact .inl (by simpa using q.symm)
            | 2, q => exact .inr q
            | 3, q => exact .inr q
            | 4, q => exact .inl (by simpa using q.symm)
            | 5, q => exact .inl (by simpa using q.symm)
            | i + 6, q => simp at q
        · have e4 : ((nb one).map cellD).length = (nb one).length := List.length_map ..
          rw [e4, List.take_length] at T10 ot10
          have len9 := tpFold_len (nb one) (l, rest)
          refine ⟨A10, T10, of10, ot10, (b7.trans (Same.but s9)).trans b10, ?_⟩
          show ((nb one).foldl tpAdd (l, rest)).1.length + ((nb one).foldl tpAdd (l, rest)).2.length + (fd.length + 1) ≤ ks.length
          simp only at len9
          omega
    · subst er
      simp only at T3 of3 ot3
      have al := cells_ok fd.reverse
      refine st_ret (ev_cb (ea_cons (en_sortD (ev_of (er_var (A3.same s4) rfl) (of3.same s4).dp) al.1 al.2.1 al.2.2).d ea_nil) rc_tup) fun v5 H5 s5 hv5 => ?_
      rw [sort_cells] at hv5
      refine k v5 H5 (((b3.trans (Same.but s4)).trans (Same.but s5)).less fun x hx => ?_) ((T3.same s4).same s5) hv5
      simp only [List.mem_cons, List.not_mem_nil, or_false] at hx
      rcases hx with rfl | rfl | rfl
      · exact .inl List.mem_cons_self
      · exact .inr hf0
      · exact .inr ht0
end
end Z
set_option Elab.async false
set_option linter.all false
set_option maxRecDepth 100000
set_option maxHeartbeats 4000000
/-! ZK: new dicts (EvD); parts_of, hangs, is_free, free_squares, frame_of, moved, shape_of, squares_of. -/
namespace Z
open PySem PySem.Spec L2
open PyProof.Rows hiding St
/-- a slot kept, a slot forgotten -/
inductive Wk : List Slot → List Slot → Prop where
  | nil : Wk [] []
  | keep {e : Slot} {a b : List Slot} : Wk a b → Wk (e :: a) (e :: b)
  | drop {e : Slot} {a b : List Slot} : Wk a b → Wk (e :: a) (.no :: b)
theorem Al.wk {K : PySem.W.Frag} {H : Hp} : ∀ {a b : List Slot} {σ : St}, Al K H a σ → Wk a b → Al K H b σ
  | _, _, _, .nil, .nil => .nil
  | _, _, _, .cons h t, .keep w => .cons h (Al.wk t w)
  | _, _, _, .cons _ t, .drop w => .cons trivial (Al.wk t w)
section
variable {α : Type} [DecidableEq α] {P : Program} {w : World} {K : PySem.W.Frag} {enc : α → PyData} {σ : St} {H H' : Hp} {te tl : TE} {ks : List α}
/-- a new dict, keys only -/
def EvD (P : Program) (w : World) (K : PySem.W.Frag) (enc : α → PyData) (te : TE) (σ : St) (H : Hp) (ks : List α) : Prop := ∀ H1, Same H H1 → ∀ Q : VK, (∀ p H2, H1 p = none → Same H1 H2 → Tab P w K enc H2 p (setK ks) → Q (.ref p) H2) → te σ H1 Q
theorem ed_new (E : KeyEnc enc) : EvD P w K enc (tNewN P w) σ H ([] : List α) := fun H1 s Q q p hp => q p _ hp (Same.new hp) (tab_new E)
theorem ed_one (E : KeyEnc enc) {tk : TE} {k : α} (h : Evd K tk σ H (enc k)) : EvD P w K enc (tDisp1 P w K enc tk (tC (.bl true))) σ H [k] := fun H1 s Q q p hp =>
  h _ (s.trans (Same.new hp)) _ fun x H2 s2 hx => ⟨k, s2 _ _ upd_same, hx, fun u hu T => q p _ hp ((But.same (S := [p]) (((Same.but (Same.new hp)).trans (Same.but s2)).upd (.inl List.mem_cons_self)) fun a ha => by rw [List.mem_singleton] at ha; rw [ha]; exact hp)) T⟩
theorem ed_pairs (E : KeyEnc enc) {tp : TE} (h : Evd K tp σ H (.list (ks.map fun k => .tuple [enc k, .bool true]))) : EvD P w K enc (tCB (rDictP P w K enc) (tCons tp tNil)) σ H (ks.foldl insK []) := fun H1 s Q q =>
  h H1 s _ fun x H2 s2 hx => by
    cases hx with
    | @lst a xs _ hs ha =>
      refine ⟨a, ks, rfl, .lst hs ha, fun p u hp hu T => q p _ (s2.free hp) (s2.trans (Same.new hp)) ?_⟩
      rw [← setK_putAll]
      exact T
theorem foldl_insK_len : ∀ (ks js : List α), (ks.foldl insK js).length ≤ js.length + ks.length
  | [], _ => Nat.le_refl _
  | k :: ks, js => by
    have h1 := foldl_insK_len ks (insK js k)
    have h2 := (insK_len js k).2
    rw [List.foldl_cons, List.length_cons]
    omega
/-- {x: True for x in ..} -/
theorem ed_dc (E : KeyEnc enc) {wi : TI} {g : TG} {tk : TE} {vs : List Nat} {xs : List α} (hlen : xs.length < sizeLine)
    (hw : ∀ H1, Same H H1 → ∀ R : It → Hp → Prop, (∀ J H2, Same H1 H2 → (∀ H3, Same H2 H3 → (∀ i, i < xs.length → J.go i H3) ∧ J.stop xs.length H3 ∧ ∀ i x H', J.yld i H3 x H' → ∀ r, xs[i]? = some r → Same H3 H' ∧ Dp K H' x (enc r) ∧ TKp K H3 H' ∧ ∀ a o, H3 a = some o → H' a = some o) → R J H2) → wi σ H1 R)
    (ht : ∀ x ∈ xs, Turn1 K g tYes tk vs σ H (enc x) true (enc x)) : EvD P w K enc (tDcN P w K enc wi g tYes tk (tC (.bl true)) vs) σ H (xs.foldl insK []) := fun H1 s Q q =>
  hw H1 s _ fun J H2 s2 hJ D hD => by
    refine ⟨fun i m H => i + m = xs.length ∧ Same H2 H ∧ Tab P w K enc H D (setK ((xs.take i).foldl insK [])), ⟨xs.length, by omega, Same.new hD, tab_new E⟩, ?_⟩
    rintro i m H4 ⟨em, sm, T⟩
    obtain ⟨go, stop, yl⟩ := hJ H4 sm
    by_cases hi : i < xs.length
    · refine .inr ⟨go i hi, fun H' => Same H2 H' ∧ Tab P w K enc H' D (setK ((xs.take (i + 1)).foldl insK [])), fun H' ⟨a, b⟩ => ⟨m - 1, by omega, by omega, a, b⟩, fun x H' hy => ?_⟩
      obtain ⟨r, hr⟩ : ∃ r, xs[i]? = some r := ⟨_, List.getElem?_eq_getElem hi⟩
      obtain ⟨s3, hx, _, _⟩ := yl i x H' hy r hr
      obtain ⟨σ2, hw2, hg, htt, hte⟩ := ht r (List.mem_of_getElem? hr) x H' (((s.trans s2).trans sm).trans s3) hx
      refine hg _ ⟨hw2, htt H' (Same.refl _) _ fun H5 s5 => iteT (hte rfl H5 s5 _ fun y H6 s6 hy6 => ?_)⟩
      have T6 := ((T.same s3).same s5).same s6
      have hl := foldl_insK_len (xs.take i) ([] : List α)
      have hl2 : (xs.take i).length ≤ i := List.length_take_le ..
      rw [List.length_nil] at hl
      refine ⟨_, r, T6, hy6, by rw [setK_len]; omega, fun o ho T7 => ⟨Same.mut (((sm.trans s3).trans s5).trans s6) hD, ?_⟩⟩
      rw [take_succ_foldl hr, ← setK_put]
      exact T7
    · have e : i = xs.length := by omega
      subst e
      rw [List.take_length] at T
      exact .inl ⟨stop, q D H4 (s2.free hD) (s2.trans sm) T⟩
theorem wd_list {xs : List α} (hl : Evd K tl σ H (.list (xs.map enc))) : ∀ H1, Same H H1 → ∀ R : It → Hp → Prop, (∀ J H2, Same H1 H2 → (∀ H3, Same H2 H3 → (∀ i, i < xs.length → J.go i H3) ∧ J.stop xs.length H3 ∧ ∀ i x H', J.yld i H3 x H' → ∀ r, xs[i]? = some r → Same H3 H' ∧ Dp K H' x (enc r) ∧ TKp K H3 H' ∧ ∀ a o, H3 a = some o → H' a = some o) → R J H2) → iList K tl σ H1 R := fun H1 s R q =>
  w_list (K := K) (xs.map fun x => (enc x, true, PyData.none)) (by rw [List.map_map]; rfl) hl H1 s R fun J H2 s2 h => q J H2 s2 fun H3 s3 => by
    obtain ⟨a, b, c⟩ := h H3 s3
    rw [List.length_map] at a b
    exact ⟨a, b, fun i x H' hy r hr => c i x H' hy (enc r, true, .none) (by rw [List.getElem?_map, hr]; rfl)⟩
theorem wd_tup {xs : List α} (hl : Evd K tl σ H (.tuple (xs.map enc))) : ∀ H1, Same H H1 → ∀ R : It → Hp → Prop, (∀ J H2, Same H1 H2 → (∀ H3, Same H2 H3 → (∀ i, i < xs.length → J.go i H3) ∧ J.stop xs.length H3 ∧ ∀ i x H', J.yld i H3 x H' → ∀ r, xs[i]? = some r → Same H3 H' ∧ Dp K H' x (enc r) ∧ TKp K H3 H' ∧ ∀ a o, H3 a = some o → H' a = some o) → R J H2) → iTup K tl σ H1 R := fun H1 s R q =>
  w_tup (K := K) (xs.map fun x => (enc x, true, PyData.none)) (by rw [List.map_map]; rfl) hl H1 s R fun J H2 s2 h => q J H2 s2 fun H3 s3 => by
    obtain ⟨a, b, c⟩ := h H3 s3
    rw [List.length_map] at a b
    exact ⟨a, b, fun i x H' hy r hr => c i x H' hy (enc r, true, .none) (by rw [List.getElem?_map, hr]; rfl)⟩
theorem st_setD {D : Ends} {j : Nat} (h : EvD P w K enc te σ H ks) (q : ∀ p H1, H p = none → Same H H1 → Tab P w K enc H1 p (setK ks) → D.nx (σ.set j (some (.ref p))) H1) : tAsg te (gName j) D σ H := h H (Same.refl _) _ q
/-- a, b = a new dict, a new list -/
theorem st_parDN {D : Ends} {i j : Nat} {tb : TE} {ds : List PyData} (h1 : EvD P w K enc te σ H ks) (h2 : EvN K tb σ H ds)
    (q : ∀ p r H1, H p = none → H r = none → Same H H1 → Tab P w K enc H1 p (setK ks) → OwnL K H1 r ds → D.nx ((σ.set i (some (.ref p))).set j (some (.ref r))) H1) : tPar i j (tCons te (tCons tb tNil)) D σ H :=
  h1 H (Same.refl _) _ fun p H1 hp s1 T1 => h2 H1 s1 _ fun r ys H2 hr s2 e2 d2 => ⟨.ref p, .ref r, rfl, q p r H2 hp (s1.free hr) (s1.trans s2) (T1.same s2) ⟨ys, e2, d2⟩⟩
end
section
variable {P : Program} {w : World} {K : PySem.W.Frag} {mg : Str → Option Value} {base : Heap} {tM : Tok} {aR : Addr}
/-! ### parts_of -/
abbrev s_parts_of : Stmt := top 13
theorem sc_parts_of : FnScope ["cells", "cell", "left", "found"] ["cells"] (defScope s_parts_of) := ⟨rfl, rfl, rfl, by decide +kernel, rfl, by decide +kernel, by decide +kernel⟩
abbrev PP := List Cell × List Body
/-- fuel for the parts -/
def ppGo : List Cell → PP → Option PP
  | [], s => some s
  | c :: cs, s => if memK s.1 c = true then (match tpRun 9 s.1 c with
    | none => none
    | some r => ppGo cs (r.1, isort cellLe r.2.1.reverse :: s.2)) else ppGo cs s
def partsM (cs : List Cell) : Option (List Body) := (ppGo (isort cellLe (cs.foldl insK [])) (cs.foldl insK [], [])).map fun s => s.2.reverse
abbrev R_parts_of : List PyData → PyData → Prop := fun ds r => ∃ cs ps, ds = [.list (cs.map cellD)] ∧ cs.length ≤ 1000 ∧ partsM cs = some ps ∧ r = .tuple (ps.map bodyD)
theorem tpRun_le {n : Nat} {ks : List Cell} {c : Cell} {r : TP} (h : tpRun n ks c = some r) (hk : memK ks c = true) : r.1.length ≤ ks.length := by
  have main : ∀ (n : Nat) (s : TP), runW tpCond tpStep n s = some r → r.1.length + r.2.2.length + r.2.1.length ≤ s.1.length + s.2.2.length + s.2.1.length := by
    intro n
    induction n with
    | zero =>
      intro s h
      unfold runW at h
      split at h
      · cases h
      · cases h; omega
    | succ n ih =>
      intro s h
      unfold runW at h
      split at h
      · have h1 := ih _ h
        obtain ⟨l, fd, td⟩ := s
        cases td with
        | nil => exact h1
        | cons one rest =>
          have := tpFold_len (nb one) (l, rest)
          simp only [tpStep, List.length_cons] at h1 this ⊢
          omega
      · cases h; omega
  have h1 := main n _ h
  have h2 := filter_lt hk
  simp only [List.length_cons, List.length_nil] at h1
  omega
theorem ok_parts_of (T : Glo K mg tM aR) (h : Has K mg "parts_of" s_parts_of ["cells"]) (G_check_cell : OkAt P w K mg base 3 "check_cell" ["value"] (Pu K R_check_cell))
    (G_taken_part : OkAt P w K mg base 5 "taken_part" ["left", "cell"] (sp_taken_part P w K)) : OkAt P w K mg base 6 "parts_of" ["cells"] (Pu K R_parts_of) := by
  refine h.ok sc_parts_of (pu_len fun ds r ⟨d, _, e, _⟩ => by rw [e]; rfl) (fun _ cdv A outer s H vs Q E f hr q => ?_)
  obtain ⟨ds, r, hv, ⟨cs, ps, rfl, hlen, hps, rfl⟩, k⟩ := q
  have hu := hr.units
  have hu5 := hu65 hr
  refine ⟨_, (pss_cons (ps_for PassesOwn.never rfl (show PI _ _ _ (iList K _) from pi_list (pv 0)) (pg_name (i := 1) sc_parts_of.nd rfl (Or.inl rfl))
      (pss_one (ps_expr (pe_callO G_check_cell (hr.mono (by decide)) rfl (pa_cons (pv 1) pa_nil)))))
      (pss_cons (ps_par (i := 2) (j := 3) rfl sc_parts_of.nd rfl rfl (by decide) rfl rfl (pa_cons (pe_dcN (own := [("cell", 1)]) (g := gName 1) cellK hu rfl sc_parts_of.nd (show PI _ _ _ (iList K _) from pi_list (pv 0)) (blkOk_by (N := ["cells", "cell", "left", "found"]) (sc := defScope s_parts_of) (by decide +kernel)) (fun _ _ _ _ _ => (pg_name (i := 1) sc_parts_of.nd rfl (Or.inl rfl))) (fun _ _ _ _ _ => pts_nil) (fun _ _ _ _ _ => (pv 1)) (fun _ _ _ _ _ => pe_bl)) (pa_cons (pe_lst pa_nil) pa_nil)) rfl)
      (pss_cons (ps_for PassesOwn.never rfl (show PI _ _ _ (iList K _) from pi_list (pe_callB (show CallR _ _ (rSortD K) from cr_sortD hu) (by rfl) T.sorted zb_sorted (pa_cons (pe_callTy (show CallR _ _ (rListN P w K cellD) from cr_listN rfl) (by rfl) T.list zb_list (pa_cons (pv 2) pa_nil)) pa_nil))) (pg_name (i := 1) sc_parts_of.nd rfl (Or.inl rfl))
      (pss_one (ps_if (pt_cmpR (show OpR _ _ (rInN P w K cellD) from op_inN cellK hu) (pv 1) (pv 2) rfl) (pss_one (ps_expr (pe_bm PySem.F.plainAttrs_list PySem.F.slot_list_append PySem.F.type_list_append mt_append (pv 3) (pa_cons (pe_callO G_taken_part (hr.mono (by decide)) rfl (pa_cons (pv 2) (pa_cons (pv 1) pa_nil))) pa_nil)))) pss_nil)))
      (pss_one (ps_ret (pe_callTy (show CallR _ _ (rTupOf K) from call_tuple_of) (by rfl) T.tuple zb_tuple (pa_cons (pv 3) pa_nil))))))), ?_⟩
  have A0 : Al K H [.dat (.list (cs.map cellD)), .no, .no, .no] (L2.start ["cells", "cell", "left", "found"] vs) := al_start ["cells", "cell", "left", "found"] hv
  dsimp only [tSeq]
  -- the checks
  refine st_forL (ev_var A0 rfl) (cells_flat _) fun a xs H1 s1 hsq => ⟨fun i σ' H' => Same H1 H' ∧ Al K H' [.dat (.list (cs.map cellD)), .no, .no, .no] σ', ⟨Same.refl _, A0.same s1⟩, fun i σ' H' ⟨b, _⟩ => ⟨TKp.same b, LKp.same b _ _ hsq⟩, fun i x v σ' H' hx ⟨b, A1⟩ hv1 => ?_, fun σ' H2 ⟨b, A2⟩ => ?_⟩
  · obtain ⟨c, hc, rfl⟩ := map_at hx
    have A2 := A1.put hv1 1
    exact st_drop (ev_call (ea_cons (ev_var A2 rfl) ea_nil) ⟨c, rfl, rfl⟩) fun H3 s3 => ⟨b.trans s3, (A2.same s3).wk (by repeat (first | exact Wk.nil | apply Wk.keep | apply Wk.drop))⟩
  · have s2 := s1.trans b
    refine st_parDN (ed_dc cellK (Nat.lt_of_le_of_lt hlen (by decide)) (wd_list (ev_var A2 rfl)) fun x _ => turn_name A2 (wipe_set1 _ _) fun σ2 H3 s3 A3 => ⟨et_yes, fun _ => ev_var A3 rfl⟩) (en_lst ea_nil) fun d fo H3 hd hfo s3 T3 of3 => ?_
    have hd0 := s2.free hd
    have hf0 := s2.free hfo
    have A3 := ((A2.same s3).putR (v := .ref d) 2).putR (v := .ref fo) 3
    have nfd : fo ≠ d := tab_ne T3 of3
    have b3 : But [d, fo] H H3 := (Same.but (s2.trans s3))
    unfold partsM at hps
    have lks := foldl_insK_len cs ([] : List Cell)
    rw [List.length_nil] at lks
    generalize cs.foldl insK [] = ks at T3 hps lks
    obtain ⟨fin, hfin, rfl⟩ := Option.map_eq_some_iff.mp hps
    dsimp only [tSeq]
    have e1 : (setK ks).map (fun p => cellD p.1) = ks.map cellD := setK_keys ks
    have al := cells_ok ks
    -- for cell in sorted(list(left))
    refine st_forN (ds := (isort cellLe ks).map cellD) ((en_sortD (ds := ks.map cellD) (e1 ▸ (en_listN (er_var A3 rfl) T3).d) al.1 al.2.1 al.2.2).is (sort_cells ks)) (cells_flat _) fun p xs H4 hp s4 hxs => ?_
    have npd : p ≠ d := fun z => by
      subst z
      obtain ⟨o, e, _⟩ := T3.there
      rw [e] at hp; cases hp
    have npf : p ≠ fo := fun z => by
      subst z
      obtain ⟨y, e, _⟩ := of3
      rw [e] at hp; cases hp
    have T4 := T3.same s4
    have of4 := of3.same s4
    let J : Nat → St → Hp → Prop := fun i σ2 H' => ∃ s : PP, ppGo ((isort cellLe ks).drop i) s = some fin ∧ Al K H' [.no, .no, .raw (.ref d), .raw (.ref fo)] σ2 ∧ Tab P w K cellD H' d (setK s.1) ∧ OwnL K H' fo (s.2.reverse.map bodyD) ∧ But [d, fo] H4 H' ∧ s.2.length ≤ i ∧ s.1.length ≤ ks.length
    refine ⟨J, ⟨(ks, []), hfin, (A3.same s4).wk (by repeat (first | exact Wk.nil | apply Wk.keep | apply Wk.drop)), T4, of4, But.refl, Nat.zero_le _, Nat.le_refl _⟩, fun i σ2 H' ⟨_, _, _, _, _, b, _⟩ => ⟨?_, b _ _ hxs (by simp [npd, npf])⟩, fun i x v4 σ2 H' hx ⟨s, hs, A5, T5, of5, b5, l5, l6⟩ hv4 => ?_, fun σ2 H' ⟨s, hs, A5, T5, of5, b5, _⟩ => ?_⟩
    · refine b.tk fun a ha o ho => ?_
      simp only [List.mem_cons, List.not_mem_nil, or_false] at ha
      rcases ha with rfl | rfl
      · obtain ⟨o', e', l'⟩ := tab_loose T4
        rw [e'] at ho; cases ho; exact l'
      · obtain ⟨x', e', _⟩ := of4
        rw [e'] at ho; cases ho; rfl
    · obtain ⟨c, hc, rfl⟩ := map_at hx
      have hi : i < ks.length := by
        have := (List.getElem?_eq_some_iff.mp hc).1
        rw [isort_length] at this
        exact this
      have A6 := A5.put hv4 1
      have ed : (isort cellLe ks).drop i = c :: (isort cellLe ks).drop (i + 1) := by
        obtain ⟨h1, h2⟩ := List.getElem?_eq_some_iff.mp hc
        rw [List.drop_eq_getElem_cons h1, h2]
      rw [ed, ppGo] at hs
      show tIfS _ _ _ _ _ _
      refine st_if (et_test (ev_inN (ev_var A6 rfl) (er_var A6 rfl) T5)) (fun hb H7 s7 => ?_) fun hb H7 s7 => ?_
      · rw [setK_at] at hb
        rw [if_pos hb] at hs
        cases hrun : tpRun 9 s.1 c with
        | none => rw [hrun] at hs; cases hs
        | some r =>
          rw [hrun] at hs
          -- found.append(taken_part(left, cell))
          have T7 := T5.same s7
          have of7 := of5.same s7
          have A7 := A6.same s7
          obtain ⟨y7, hy7, dy7⟩ := id of7
          obtain ⟨v7, ev7, dv7⟩ := A7.get (i := 1) rfl
          refine ⟨.ref fo, A7.getR rfl, at_end hy7, .ref d, A7.getR rfl, v7, ev7, d, v7, s.1, c, 9, r, rfl, T7, dv7, hb, hrun, by omega, fun v8 H8 b8 T8 hv8 => ?_⟩
          have q8 : H8 fo = some (.lst y7) := b8 _ _ hy7 (by simp [nfd])
          have tk7 : TKp K H7 H8 := b8.tk fun a ha o ho => by
            rw [List.mem_singleton] at ha
            subst ha
            obtain ⟨o', e', l'⟩ := tab_loose T7
            rw [e'] at ho; cases ho; exact l'
          have dy8 := DpAll.keepT tk7 _ _ (flatAll_bodies _) dy7
          refine ⟨fo, y7, v8, rfl, rfl, q8, by rw [dy8.length, List.length_map, List.length_reverse]; exact small (by omega), ?_⟩
          have tk8 : TKp K H8 (upd H8 fo (.lst (y7 ++ [v8]))) := TKp.upd q8 rfl
          refine ⟨_, hs, ((A7.keepT tk7 rfl).keepT tk8 rfl).wk (by repeat (first | exact Wk.nil | apply Wk.keep | apply Wk.drop)), T8.upd (Ne.symm nfd) q8 rfl, ?_, (((b5.trans (Same.but s7)).trans (b8.mono (by simp))).upd (.inl (by simp))), by simp only [List.length_cons]; omega, ?_⟩
          · rw [List.reverse_cons, List.map_append]
            exact OwnL.put ⟨_, q8⟩ (dy8.append (.one hv8)) (by rw [← List.map_singleton, ← List.map_append]; exact flatAll_bodies _)
          · exact Nat.le_trans (tpRun_le hrun hb) l6
      · rw [setK_at] at hb
        rw [if_neg (by rw [hb]; decide)] at hs
        exact ⟨s, hs, (A6.same s7).wk (by repeat (first | exact Wk.nil | apply Wk.keep | apply Wk.drop)), T5.same s7, of5.same s7, b5.trans (Same.but s7), by omega, l6⟩
    · rw [List.length_map] at hs
      rw [List.drop_of_length_le (Nat.le_refl _)] at hs
      cases hs
      refine st_ret (ev_cb (ea_cons (ev_of (er_var A5 rfl) of5.dp) ea_nil) rc_tup) fun v5 H5 s5 hv5 => k v5 H5 ((((Same.but ((s2.trans s3).trans s4)).trans b5).trans (Same.but s5)).same fun x hx => ?_) hv5
      simp only [List.mem_cons, List.not_mem_nil, or_false] at hx
      rcases hx with rfl | rfl
      · exact hd0
      · exact hf0
/-! ### hangs, is_free, free_squares -/
abbrev s_hangs : Stmt := top 14
theorem sc_hangs : FnScope ["cells"] ["cells"] (defScope s_hangs) := ⟨rfl, rfl, rfl, by decide +kernel, rfl, by decide +kernel, by decide +kernel⟩
def hangsM (cs : List Cell) : Option Bool := (partsM cs).map fun ps => decide (ps.length = 1)
abbrev R_hangs : List PyData → PyData → Prop := fun ds r => ∃ cs b, ds = [.list (cs.map cellD)] ∧ cs.length ≤ 1000 ∧ hangsM cs = some b ∧ r = .bool b
theorem ok_hangs (T : Glo K mg tM aR) (h : Has K mg "hangs" s_hangs ["cells"]) (G_parts_of : OkAt P w K mg base 6 "parts_of" ["cells"] (Pu K R_parts_of)) : OkAt P w K mg base 7 "hangs" ["cells"] (Pu K R_hangs) := by
  refine h.ok sc_hangs (pu_len fun ds r ⟨d, _, e, _⟩ => by rw [e]; rfl) (fun _ cdv A outer s H vs Q E f hr q => ?_)
  obtain ⟨ds, r, hv, ⟨cs, b, rfl, hlen, hb, rfl⟩, k⟩ := q
  have hu := hr.units
  have hu5 := hu65 hr
  refine ⟨_, (pss_one (ps_ret (pe_cmpR op_eq (pe_callB (show CallR _ _ (rLen K) from call_len_seq) (by rfl) T.len zb_len (pa_cons (pe_callO G_parts_of (hr.mono (by decide)) rfl (pa_cons (pv 0) pa_nil)) pa_nil)) pe_int (nomark _)))), ?_⟩
  have A0 : Al K H [.dat (.list (cs.map cellD))] (L2.start ["cells"] vs) := al_start ["cells"] hv
  obtain ⟨ps, hps, rfl⟩ := Option.map_eq_some_iff.mp hb
  have e : decide (((ps.map bodyD).length : Int) = 1) = decide (ps.length = 1) := by
    rw [List.length_map]
    by_cases z : ps.length = 1
    · rw [z]; rfl
    · rw [decide_eq_false z, decide_eq_false (by omega)]
  refine st_ret (ev_op (ev_cb (ea_cons (ev_call (z := .tuple (ps.map bodyD)) (ea_cons (ev_var A0 rfl) ea_nil) ⟨cs, ps, rfl, hlen, hps, rfl⟩) ea_nil) rc_lenT) ev_int rd_eqI) fun v H1 s1 hv => ?_
  rw [e] at hv
  exact k v H1 s1 hv
abbrev s_is_free : Stmt := top 15
theorem sc_is_free : FnScope ["body", "cell", "one"] ["body", "cell"] (defScope s_is_free) := ⟨rfl, rfl, rfl, by decide +kernel, rfl, by decide +kernel, by decide +kernel⟩
def freeM (b : Body) (c : Cell) : Option Bool := hangsM (b.filter fun a => !decide (a = c))
abbrev R_is_free : List PyData → PyData → Prop := fun ds r => ∃ b c k, ds = [bodyD b, cellD c] ∧ b.length ≤ 1000 ∧ freeM b c = some k ∧ r = .bool k
theorem rd_neC {a b : Cell} : RD K (rNeD K) (cellD a) (cellD b) (.bool (!decide (a = b))) := rd_ne (cell_shaped a) (cell_shaped b) (by rw [cell_eqv])
theorem rd_eqC {a b : Cell} : RD K (rEqD K) (cellD a) (cellD b) (.bool (decide (a = b))) := rd_eq (cell_shaped a) (cell_shaped b) (by rw [cell_eqv])
theorem ok_is_free (T : Glo K mg tM aR) (h : Has K mg "is_free" s_is_free ["body", "cell"]) (G_hangs : OkAt P w K mg base 7 "hangs" ["cells"] (Pu K R_hangs)) : OkAt P w K mg base 8 "is_free" ["body", "cell"] (Pu K R_is_free) := by
  refine h.ok sc_is_free (pu_len fun ds r ⟨_, _, _, e, _⟩ => by rw [e]; rfl) (fun _ cdv A outer s H vs Q E f hr q => ?_)
  obtain ⟨ds, r, hv, ⟨b, c, kk, rfl, hlen, hb, rfl⟩, k⟩ := q
  have hu := hr.units
  have hu5 := hu65 hr
  refine ⟨_, (pss_one (ps_ret (pe_callO G_hangs (hr.mono (by decide)) rfl (pa_cons (pe_lc (own := [("one", 2)]) (g := gName 2) rfl sc_is_free.nd (show PI _ _ _ (iTup K _) from pi_tup (pv 0)) (blkOk_by (N := ["body", "cell", "one"]) (sc := defScope s_is_free) (by decide +kernel)) (fun _ _ _ _ _ => (pg_name (i := 2) sc_is_free.nd rfl (Or.inl rfl))) (fun _ _ _ _ _ => (pts_one (pt_cmpR (show OpR _ _ (rNeD K) from op_neD hu) (pv 2) (pv 1) (nomark _)))) (fun _ _ _ _ _ => (pv 2))) pa_nil)))), ?_⟩
  have A0 : Al K H [.dat (bodyD b), .dat (cellD c), .no] (L2.start ["body", "cell", "one"] vs) := al_start ["body", "cell", "one"] hv
  refine st_ret (ev_call (ea_cons ((en_tupF (xs := b) (enc := cellD) (p := fun a => !decide (a = c)) (f := cellD) (Nat.lt_of_le_of_lt hlen (by decide)) (fun x _ => cell_flat x) (ev_var A0 rfl) fun x _ => turn_name A0 (wipe_set1 _ _) fun σ2 H1 s1 A1 =>
    ⟨et_test (ev_op (ev_var A1 rfl) (ev_var A1 rfl) rd_neC), fun _ => ev_var A1 rfl⟩).d) ea_nil) ⟨_, kk, rfl, Nat.le_trans (List.length_filter_le _ _) hlen, hb, rfl⟩) k
abbrev s_free_squares : Stmt := top 16
theorem sc_free_squares : FnScope ["body", "cell"] ["body"] (defScope s_free_squares) := ⟨rfl, rfl, rfl, by decide +kernel, rfl, by decide +kernel, by decide +kernel⟩
def mapO {α β : Type} (f : α → Option β) : List α → Option (List β)
  | [] => some []
  | x :: xs => match f x with
    | none => none
    | some y => match mapO f xs with
      | none => none
      | some ys => some (y :: ys)
def filO {α : Type} (f : α → Option Bool) : List α → Option (List α)
  | [] => some []
  | x :: xs => match f x with
    | none => none
    | some y => match filO f xs with
      | none => none
      | some ys => some (if y = true then x :: ys else ys)
theorem filO_get {α : Type} {f : α → Option Bool} : ∀ {xs ys : List α}, filO f xs = some ys → (∀ x ∈ xs, f x = some ((f x).getD false)) ∧ ys = xs.filter fun x => (f x).getD false
  | [], ys, h => by
    cases h
    exact ⟨fun x hx => (nomatch hx), rfl⟩
  | x :: xs, ys, h => by
    unfold filO at h
    cases hx : f x with
    | none => rw [hx] at h; cases h
    | some b =>
      rw [hx] at h
      cases hy : filO f xs with
      | none => simp only [hy] at h; cases h
      | some zs =>
        simp only [hy] at h
        cases h
        obtain ⟨h1, h2⟩ := filO_get hy
        refine ⟨fun z hz => ?_, ?_⟩
        · rcases List.mem_cons.mp hz with rfl | hz
          · rw [hx]; rfl
          · exact h1 z hz
        · have e : (f x).getD false = b := by rw [hx]; rfl
          cases b with
          | true => rw [List.filter_cons_of_pos (by rw [e]), if_pos rfl, h2]
          | false => rw [List.filter_cons_of_neg (by rw [e]; decide), if_neg (by decide), h2]
theorem mapO_get {α β : Type} {f : α → Option β} : ∀ {xs : List α} {ys : List β} {d : β}, mapO f xs = some ys → (∀ x ∈ xs, f x = some ((f x).getD d)) ∧ ys = xs.map fun x => (f x).getD d
  | [], ys, d, h => by
    cases h
    exact ⟨fun x hx => (nomatch hx), rfl⟩
  | x :: xs, ys, d, h => by
    unfold mapO at h
    cases hx : f x with
    | none => rw [hx] at h; cases h
    | some b =>
      rw [hx] at h
      cases hy : mapO f xs with
      | none => simp only [hy] at h; cases h
      | some zs =>
        simp only [hy] at h
        cases h
        obtain ⟨h1, h2⟩ := mapO_get (d := d) hy
        refine ⟨fun z hz => ?_, ?_⟩
        · rcases List.mem_cons.mp hz with rfl | hz
          · rw [hx]; rfl
          · exact h1 z hz
        · rw [List.map_cons, hx, ← h2]; rfl
def freesM (b : Body) : Option (List Cell) := filO (freeM b) b
abbrev R_free_squares : List PyData → PyData → Prop := fun ds r => ∃ b cs, ds = [bodyD b] ∧ b.length ≤ 1000 ∧ freesM b = some cs ∧ r = bodyD cs
theorem ok_free_squares (T : Glo K mg tM aR) (h : Has K mg "free_squares" s_free_squares ["body"]) (G_is_free : OkAt P w K mg base 8 "is_free" ["body", "cell"] (Pu K R_is_free)) : OkAt P w K mg base 9 "free_squares" ["body"] (Pu K R_free_squares) := by
  refine h.ok sc_free_squares (pu_len fun ds r ⟨_, _, e, _⟩ => by rw [e]; rfl) (fun _ cdv A outer s H vs Q E f hr q => ?_)
  obtain ⟨ds, r, hv, ⟨b, cs, rfl, hlen, hb, rfl⟩, k⟩ := q
  have hu := hr.units
  have hu5 := hu65 hr
  refine ⟨_, (pss_one (ps_ret (pe_callTy (show CallR _ _ (rTupOf K) from call_tuple_of) (by rfl) T.tuple zb_tuple (pa_cons (pe_lc (own := [("cell", 1)]) (g := gName 1) rfl sc_free_squares.nd (show PI _ _ _ (iTup K _) from pi_tup (pv 0)) (blkOk_by (N := ["body", "cell"]) (sc := defScope s_free_squares) (by decide +kernel)) (fun _ _ _ _ _ => (pg_name (i := 1) sc_free_squares.nd rfl (Or.inl rfl))) (fun _ _ _ _ _ => (pts_one (pt_val (pe_callO G_is_free (hr.mono (by decide)) rfl (pa_cons (pv 0) (pa_cons (pv 1) pa_nil)))))) (fun _ _ _ _ _ => (pv 1))) pa_nil)))), ?_⟩
  have A0 : Al K H [.dat (bodyD b), .no] (L2.start ["body", "cell"] vs) := al_start ["body", "cell"] hv
  obtain ⟨h1, rfl⟩ := filO_get hb
  exact st_ret (ev_cb (ea_cons (en_tupF (xs := b) (enc := cellD) (p := fun a => (freeM b a).getD false) (f := cellD) (Nat.lt_of_le_of_lt hlen (by decide)) (fun x _ => cell_flat x) (ev_var A0 rfl) fun x hx => turn_name A0 (wipe_set1 _ _) fun σ2 H1 s1 A1 =>
    ⟨et_B (ev_call (ea_cons (ev_var A1 rfl) (ea_cons (ev_var A1 rfl) ea_nil)) ⟨b, x, _, rfl, hlen, h1 x hx, rfl⟩), fun _ => ev_var A1 rfl⟩).d ea_nil) rc_tup) k
/-! ### frame_of, moved, shape_of -/
abbrev s_frame_of : Stmt := top 17
theorem sc_frame_of : FnScope ["body", "columns", "rows", "cell"] ["body"] (defScope s_frame_of) := ⟨rfl, rfl, rfl, by decide +kernel, rfl, by decide +kernel, by decide +kernel⟩
def minI (d : Int) (xs : List Int) : Int := xs.foldl (fun a b => if b < a then b else a) d
def maxI (d : Int) (xs : List Int) : Int := xs.foldl (fun a b => if a < b then b else a) d
theorem minI_spec : ∀ (xs : List Int) (d : Int), (minI d xs = d ∨ minI d xs ∈ xs) ∧ minI d xs ≤ d ∧ ∀ y ∈ xs, minI d xs ≤ y
  | [], d => ⟨.inl rfl, Int.le_refl _, fun y hy => nomatch hy⟩
  | x :: xs, d => by
    obtain ⟨h1, h2, h3⟩ := minI_spec xs (if x < d then x else d)
    show (minI (if x < d then x else d) xs = d ∨ minI (if x < d then x else d) xs ∈ x :: xs) ∧ minI (if x < d then x else d) xs ≤ d ∧ ∀ y ∈ x :: xs, minI (if x < d then x else d) xs ≤ y
    generalize minI (if x < d then x else d) xs = m at h1 h2 h3 ⊢
    by_cases z : x < d
    · rw [if_pos z] at h1 h2
      refine ⟨h1.elim (fun q => .inr (by rw [q]; exact List.mem_cons_self)) fun q => .inr (List.mem_cons_of_mem _ q), by omega, fun y hy => ?_⟩
      rcases List.mem_cons.mp hy with rfl | hy
      · exact h2
      · exact h3 y hy
    · rw [if_neg z] at h1 h2
      refine ⟨h1.elim .inl fun q => .inr (List.mem_cons_of_mem _ q), h2, fun y hy => ?_⟩
      rcases List.mem_cons.mp hy with rfl | hy
      · omega
      · exact h3 y hy
theorem maxI_spec : ∀ (xs : List Int) (d : Int), (maxI d xs = d ∨ maxI d xs ∈ xs) ∧ d ≤ maxI d xs ∧ ∀ y ∈ xs, y ≤ maxI d xs
  | [], d => ⟨.inl rfl, Int.le_refl _, fun y hy => nomatch hy⟩
  | x :: xs, d => by
    obtain ⟨h1, h2, h3⟩ := maxI_spec xs (if d < x then x else d)
    show (maxI (if d < x then x else d) xs = d ∨ maxI (if d < x then x else d) xs ∈ x :: xs) ∧ d ≤ maxI (if d < x then x else d) xs ∧ ∀ y ∈ x :: xs, y ≤ maxI (if d < x then x else d) xs
    generalize maxI (if d < x then x else d) xs = m at h1 h2 h3 ⊢
    by_cases z : d < x
    · rw [if_pos z] at h1 h2
      refine ⟨h1.elim (fun q => .inr (by rw [q]; exact List.mem_cons_self)) fun q => .inr (List.mem_cons_of_mem _ q), by omega, fun y hy => ?_⟩
      rcases List.mem_cons.mp hy with rfl | hy
      · exact h2
      · exact h3 y hy
    · rw [if_neg z] at h1 h2
      refine ⟨h1.elim .inl fun q => .inr (List.mem_cons_of_mem _ q), h2, fun y hy => ?_⟩
      rcases List.mem_cons.mp hy with rfl | hy
      · omega
      · exact h3 y hy
def minL (xs : List Int) : Int := minI (xs.headD 0) xs
def maxL (xs : List Int) : Int := maxI (xs.headD 0) xs
theorem headD_mem {xs : List Int} (h : xs ≠ []) : xs.headD 0 ∈ xs := by
  cases xs with
  | nil => exact absurd rfl h
  | cons x xs => exact List.mem_cons_self
theorem rc_minL {xs : List Int} (h : xs ≠ []) : RC K (rMin K) [.list (xs.map .int)] (.int (minL xs)) := by
  obtain ⟨h1, h2, h3⟩ := minI_spec xs (xs.headD 0)
  refine rc_min (List.length_pos_iff.mpr h) ?_ h3
  rcases h1 with q | q
  · unfold minL; rw [q]; exact headD_mem h
  · exact q
theorem rc_maxL {xs : List Int} (h : xs ≠ []) : RC K (rMax K) [.list (xs.map .int)] (.int (maxL xs)) := by
  obtain ⟨h1, h2, h3⟩ := maxI_spec xs (xs.headD 0)
  refine rc_max (List.length_pos_iff.mpr h) ?_ h3
  rcases h1 with q | q
  · unfold maxL; rw [q]; exact headD_mem h
  · exact q
def frameM (b : Body) : List Int := [minL (b.map (·.1)), minL (b.map (·.2)), maxL (b.map (·.1)), maxL (b.map (·.2))]
abbrev R_frame_of : List PyData → PyData → Prop := fun ds r => ∃ b, ds = [bodyD b] ∧ b.length ≤ 1000 ∧ b ≠ [] ∧ r = .tuple ((frameM b).map .int)
theorem en_col {tl : TE} {σ : St} {H : Hp} {b : Body} {es : List Slot} {i : Nat} (hlen : b.length ≤ 1000) (A : Al K H es σ) (h : Evd K tl σ H (bodyD b)) (hi : ((wipeE es [i]).set i (.dat (cellD (0, 0))))[i]? = some (.dat (cellD (0, 0)))) :
    EvN K (tLc (iTup K tl) (gName i) tYes (tOp (rIxT K) (tVar i) (tC (.int 0))) [i]) σ H ((b.map (·.1)).map .int) ∧ EvN K (tLc (iTup K tl) (gName i) tYes (tOp (rIxT K) (tVar i) (tC (.int 1))) [i]) σ H ((b.map (·.2)).map .int) := by
  have hget : ∀ c : Cell, ((wipeE es [i]).set i (.dat (cellD c)))[i]? = some (.dat (cellD c)) := fun c => by
    have hl : i < (wipeE es [i]).length := by
      rw [List.getElem?_eq_some_iff] at hi
      obtain ⟨h1, _⟩ := hi
      rw [List.length_set] at h1
      exact h1
    rw [List.getElem?_set]
    simp [hl]
  have ef : ∀ (f : Cell → Int), ((b.filter fun _ => true).map fun c => PyData.int (f c)) = (b.map f).map .int := fun f => by
    rw [List.filter_eq_self.mpr (fun _ _ => rfl), List.map_map]; rfl
  refine ⟨(en_tupF (xs := b) (enc := cellD) (p := fun _ => true) (f := fun c => .int c.1) (Nat.lt_of_le_of_lt hlen (by decide)) (fun x _ => rfl) h fun x _ => turn_name A (wipe_set1 _ _) fun σ2 H1 s1 A1 => ⟨et_yes, fun _ => ev_fst (ev_var A1 (hget x))⟩).is (ef _),
    (en_tupF (xs := b) (enc := cellD) (p := fun _ => true) (f := fun c => .int c.2) (Nat.lt_of_le_of_lt hlen (by decide)) (fun x _ => rfl) h fun x _ => turn_name A (wipe_set1 _ _) fun σ2 H1 s1 A1 => ⟨et_yes, fun _ => ev_snd (ev_var A1 (hget x))⟩).is (ef _)⟩
theorem ok_frame_of (T : Glo K mg tM aR) (h : Has K mg "frame_of" s_frame_of ["body"]) : OkAt P w K mg base 1 "frame_of" ["body"] (Pu K R_frame_of) := by
  refine h.ok sc_frame_of (pu_len fun ds r ⟨_, e, _⟩ => by rw [e]; rfl) (fun _ cdv A outer s H vs Q E f hr q => ?_)
  obtain ⟨ds, r, hv, ⟨b, rfl, hlen, hne, rfl⟩, k⟩ := q
  have hu := hr.units
  have hu5 := hu65 hr
  refine ⟨_, (pss_cons (ps_par (i := 1) (j := 2) rfl sc_frame_of.nd rfl rfl (by decide) rfl rfl (pa_cons (pe_lc (own := [("cell", 3)]) (g := gName 3) rfl sc_frame_of.nd (show PI _ _ _ (iTup K _) from pi_tup (pv 0)) (blkOk_by (N := ["body", "columns", "rows", "cell"]) (sc := defScope s_frame_of) (by decide +kernel)) (fun _ _ _ _ _ => (pg_name (i := 3) sc_frame_of.nd rfl (Or.inl rfl))) (fun _ _ _ _ _ => pts_nil) (fun _ _ _ _ _ => (pe_ix (show IxR _ (rIxT K) from ix_tup) (pv 3) pe_int (fun _ _ => rfl)))) (pa_cons (pe_lc (own := [("cell", 3)]) (g := gName 3) rfl sc_frame_of.nd (show PI _ _ _ (iTup K _) from pi_tup (pv 0)) (blkOk_by (N := ["body", "columns", "rows", "cell"]) (sc := defScope s_frame_of) (by decide +kernel)) (fun _ _ _ _ _ => (pg_name (i := 3) sc_frame_of.nd rfl (Or.inl rfl))) (fun _ _ _ _ _ => pts_nil) (fun _ _ _ _ _ => (pe_ix (show IxR _ (rIxT K) from ix_tup) (pv 3) pe_int (fun _ _ => rfl)))) pa_nil)) rfl)
      (pss_one (ps_ret (pe_tup (pa_cons (pe_callB (show CallR _ _ (rMin K) from cr_min rfl) (by rfl) T.min zb_min (pa_cons (pv 1) pa_nil)) (pa_cons (pe_callB (show CallR _ _ (rMin K) from cr_min rfl) (by rfl) T.min zb_min (pa_cons (pv 2) pa_nil)) (pa_cons (pe_callB (show CallR _ _ (rMax K) from cr_max rfl) (by rfl) T.max zb_max (pa_cons (pv 1) pa_nil)) (pa_cons (pe_callB (show CallR _ _ (rMax K) from cr_max rfl) (by rfl) T.max zb_max (pa_cons (pv 2) pa_nil)) pa_nil)))))))), ?_⟩
  have A0 : Al K H [.dat (bodyD b), .no, .no, .no] (L2.start ["body", "columns", "rows", "cell"] vs) := al_start ["body", "columns", "rows", "cell"] hv
  have cl := en_col (i := 3) hlen A0 (ev_var (i := 0) A0 rfl) rfl
  refine st_par (ea_cons cl.1.d (ea_cons cl.2.d ea_nil)) fun x y H1 s1 hx hy => ?_
  have A1 := ((A0.same s1).put hx 1).put hy 2
  have n1 : b.map (·.1) ≠ [] := fun z => hne (List.map_eq_nil_iff.mp z)
  have n2 : b.map (·.2) ≠ [] := fun z => hne (List.map_eq_nil_iff.mp z)
  exact st_ret (ev_tup (ea_cons (ev_cb (ea_cons (ev_var A1 rfl) ea_nil) (rc_minL n1)) (ea_cons (ev_cb (ea_cons (ev_var A1 rfl) ea_nil) (rc_minL n2)) (ea_cons (ev_cb (ea_cons (ev_var A1 rfl) ea_nil) (rc_maxL n1)) (ea_cons (ev_cb (ea_cons (ev_var A1 rfl) ea_nil) (rc_maxL n2)) ea_nil))))) fun v H2 s2 hv => k v H2 (s1.trans s2) hv
abbrev s_moved : Stmt := top 18
theorem sc_moved : FnScope ["body", "by", "column", "row"] ["body", "by"] (defScope s_moved) := ⟨rfl, rfl, rfl, by decide +kernel, rfl, by decide +kernel, by decide +kernel⟩
def movedM (b : Body) (y : Cell) : Body := b.map fun c => (c.1 + y.1, c.2 + y.2)
abbrev R_moved : List PyData → PyData → Prop := fun ds r => ∃ b y, ds = [bodyD b, cellD y] ∧ b.length ≤ 1000 ∧ r = bodyD (movedM b y)
theorem ok_moved (T : Glo K mg tM aR) (h : Has K mg "moved" s_moved ["body", "by"]) (G_check_cell : OkAt P w K mg base 3 "check_cell" ["value"] (Pu K R_check_cell)) : OkAt P w K mg base 4 "moved" ["body", "by"] (Pu K R_moved) := by
  refine h.ok sc_moved (pu_len fun ds r ⟨_, _, e, _⟩ => by rw [e]; rfl) (fun _ cdv A outer s H vs Q E f hr q => ?_)
  obtain ⟨ds, r, hv, ⟨b, y, rfl, hlen, rfl⟩, k⟩ := q
  have hu := hr.units
  have hu5 := hu65 hr
  refine ⟨_, (pss_cons (ps_expr (pe_callO G_check_cell (hr.mono (by decide)) rfl (pa_cons (pv 1) pa_nil)))
      (pss_one (ps_ret (pe_callTy (show CallR _ _ (rTupOf K) from call_tuple_of) (by rfl) T.tuple zb_tuple (pa_cons (pe_lc (own := [("column", 2), ("row", 3)]) (g := gTup K 2 (gCons (gName 2) (gCons (gName 3) gNil))) rfl sc_moved.nd (show PI _ _ _ (iTup K _) from pi_tup (pv 0)) (blkOk_by (N := ["body", "by", "column", "row"]) (sc := defScope s_moved) (by decide +kernel)) (fun _ _ _ _ _ => (show PG _ _ (gTup K 2 (gCons (gName 2) (gCons (gName 3) gNil))) from pg_tup rfl (pgs_cons (pg_name (i := 2) sc_moved.nd rfl (Or.inl rfl)) (pgs_cons (pg_name (i := 3) sc_moved.nd rfl (Or.inl rfl)) pgs_nil)))) (fun _ _ _ _ _ => pts_nil) (fun _ _ _ _ _ => (pe_tup (pa_cons (pe_op op_add (pv 2) (pe_ix (show IxR _ (rIxT K) from ix_tup) (pv 1) pe_int (fun _ _ => rfl))) (pa_cons (pe_op op_add (pv 3) (pe_ix (show IxR _ (rIxT K) from ix_tup) (pv 1) pe_int (fun _ _ => rfl))) pa_nil))))) pa_nil))))), ?_⟩
  have A0 : Al K H [.dat (bodyD b), .dat (cellD y), .no, .no] (L2.start ["body", "by", "column", "row"] vs) := al_start ["body", "by", "column", "row"] hv
  refine st_drop (ev_call (ea_cons (ev_var A0 rfl) ea_nil) ⟨y, rfl, rfl⟩) fun H1 s1 => ?_
  have A1 := A0.same s1
  have ef : ((b.filter fun _ => true).map fun c => cellD (c.1 + y.1, c.2 + y.2)) = (movedM b y).map cellD := by
    rw [List.filter_eq_self.mpr (fun _ _ => rfl)]
    unfold movedM
    rw [List.map_map]; rfl
  refine st_ret (ev_cb (ea_cons ((en_tupF (xs := b) (enc := cellD) (p := fun _ => true) (f := fun c => cellD (c.1 + y.1, c.2 + y.2)) (Nat.lt_of_le_of_lt hlen (by decide)) (fun x _ => cell_flat _) (ev_var A1 rfl) fun x _ => turn_pair A1 (wipe_set2 _ _ _) fun σ2 H2 s2 A2 =>
    ⟨et_yes, fun _ => ev_cell (ev_op (ev_var A2 rfl) (ev_fst (ev_var A2 rfl)) rd_I0) (ev_op (ev_var A2 rfl) (ev_snd (ev_var A2 rfl)) rd_I0)⟩).is ef).d ea_nil) rc_tup) fun v H2 s2 hv => k v H2 (s1.trans s2) hv
abbrev s_shape_of : Stmt := top 19
theorem sc_shape_of : FnScope ["body", "frame"] ["body"] (defScope s_shape_of) := ⟨rfl, rfl, rfl, by decide +kernel, rfl, by decide +kernel, by decide +kernel⟩
def shapeM (b : Body) : Body := movedM b (-minL (b.map (·.1)), -minL (b.map (·.2)))
abbrev R_shape_of : List PyData → PyData → Prop := fun ds r => ∃ b, ds = [bodyD b] ∧ b.length ≤ 1000 ∧ b ≠ [] ∧ r = bodyD (shapeM b)
theorem ok_shape_of (T : Glo K mg tM aR) (h : Has K mg "shape_of" s_shape_of ["body"]) (G_frame_of : OkAt P w K mg base 1 "frame_of" ["body"] (Pu K R_frame_of)) (G_moved : OkAt P w K mg base 4 "moved" ["body", "by"] (Pu K R_moved)) : OkAt P w K mg base 5 "shape_of" ["body"] (Pu K R_shape_of) := by
  refine h.ok sc_shape_of (pu_len fun ds r ⟨_, e, _⟩ => by rw [e]; rfl) (fun _ cdv A outer s H vs Q E f hr q => ?_)
  obtain ⟨ds, r, hv, ⟨b, rfl, hlen, hne, rfl⟩, k⟩ := q
  have hu := hr.units
  have hu5 := hu65 hr
  refine ⟨_, (pss_cons (ps_set (i := 1) sc_shape_of.nd rfl (Or.inl rfl) (pe_callO G_frame_of (hr.mono (by decide)) rfl (pa_cons (pv 0) pa_nil)))
      (pss_one (ps_ret (pe_callO G_moved (hr.mono (by decide)) rfl (pa_cons (pv 0) (pa_cons (pe_tup (pa_cons (pe_un un_neg (pe_ix (show IxR _ (rIxT K) from ix_tup) (pv 1) pe_int (fun _ _ => rfl))) (pa_cons (pe_un un_neg (pe_ix (show IxR _ (rIxT K) from ix_tup) (pv 1) pe_int (fun _ _ => rfl))) pa_nil))) pa_nil)))))), ?_⟩
  have A0 : Al K H [.dat (bodyD b), .no] (L2.start ["body", "frame"] vs) := al_start ["body", "frame"] hv
  refine st_set (ev_call (z := .tuple ((frameM b).map .int)) (ea_cons (ev_var A0 rfl) ea_nil) ⟨b, rfl, hlen, hne, rfl⟩) fun x H1 s1 hx => ?_
  have A1 := (A0.same s1).put hx 1
  exact st_ret (ev_call (ea_cons (ev_var A1 rfl) (ea_cons (ev_cell (ev_un (ev_op (ev_var A1 rfl) ev_int (rd_ixT (z := .int (minL (b.map (·.1)))) rfl)) ru_U) (ev_un (ev_op (ev_var A1 rfl) ev_int (rd_ixT (z := .int (minL (b.map (·.2)))) rfl)) ru_U)) ea_nil)) ⟨b, _, rfl, hlen, rfl⟩) fun v H2 s2 hv => k v H2 (s1.trans s2) hv
end
end Z
set_option Elab.async false
set_option linter.all false
set_option maxRecDepth 100000
set_option maxHeartbeats 4000000
/-! ZL: sorted(tuple); supports_of, squares_of, kind_of, moves_of, done, followers. -/
namespace Z
open PySem PySem.Spec L2
open PyProof.Rows hiding St
/-! ### sorted(tuple) -/
def rSortT (K : PySem.W.Frag) : List V → Hp → VK → Prop := fun vs H Q => ∃ a ds, vs = [V.ref a] ∧ Dp K H (.ref a) (.tuple ds) ∧ PySem.W.AllAlike ds ∧ PySem.W.Sortable ds ∧ (∀ d ∈ ds, d.depth ≤ 8) ∧
  ∀ p ys, H p = none → DpAll K H ys (sortD ds) → Q (.ref p) (upd H p (.lst ys))
theorem cr_sortT {X : Cx} (hu : X.A.units + 64 < cLine) : CallR X (.builtin "sorted") (rSortT X.K) := by
  intro pins s σ H vs us Q I r h
  obtain ⟨a, ds, rfl, hd, a1, a2, a3, q⟩ := h
  obtain ⟨u, rfl, ru⟩ := vals1 r
  obtain rfl : u = Value.ref a := ru
  cases hd with
  | @tup _ xs _ hs ha =>
    obtain ⟨its, rv, ⟨o, ho, hc, n, hdd⟩, hz⟩ := I.tuple hs
    refine sorted_via I hu (Pv := fun vs => vs = its) (fun R hR => ?_) fun vs hv => ⟨ds, by rw [hv]; exact std_each rv ha, a1, a2, a3, ?_, q⟩
    · exact wpAny_collect_seq (hsz := by rw [List.size_toArray, ← rv.length]; exact hz) a (.inr rfl) ho hc hdd fun h' k => hR _ _ k rfl rfl rfl
    · rw [← ha.length]; exact hz
section
variable {P : Program} {w : World} {K : PySem.W.Frag} {mg : Str → Option Value} {base : Heap} {tM : Tok} {aR : Addr}
section
variable {σ : St} {H H' : Hp} {ta tb te tl : TE} {ds : List PyData}
theorem en_sortT (h : Evd K ta σ H (.tuple ds)) (al : PySem.W.AllAlike ds) (so : PySem.W.Sortable ds) (dp : ∀ d ∈ ds, d.depth ≤ 8) : EvN K (tCB (rSortT K) (tCons ta tNil)) σ H (sortD ds) := fun H1 s Q q =>
  h H1 s _ fun x H2 s2 hx => by
    cases hx with
    | @tup a xs _ hs ha =>
      exact ⟨a, ds, rfl, .tup hs ha, al, so, dp, fun p ys hp hy => q p ys _ (s2.free hp) (s2.trans (Same.new hp)) upd_same (hy.same (Same.new hp))⟩
/-- some table of keys -/
def EvK (P : Program) (w : World) (K : PySem.W.Frag) (te : TE) (σ : St) (H : Hp) (ks : List Cell) : Prop := ∀ H1, Same H H1 → ∀ Q : VK, (∀ p H2, Same H1 H2 → Tab P w K cellD H2 p (setK ks) → Q (.ref p) H2) → te σ H1 Q
theorem EvD.k {ks : List Cell} (h : EvD P w K cellD te σ H ks) : EvK P w K te σ H ks := fun H1 s Q q => h H1 s Q fun p H2 _ s2 T => q p H2 s2 T
theorem ek_var {ks : List Cell} {i : Nat} {d : Addr} {es : List Slot} (A : Al K H es σ) (hi : es[i]? = some (.raw (.ref d))) (T : Tab P w K cellD H d (setK ks)) : EvK P w K (tVar i) σ H ks := fun H1 s Q q => er_var A hi H1 s Q fun H2 s2 => q d H2 s2 (T.same (s.trans s2))
/-- a def that makes a new dict (keys only) -/
def NewDSp (P : Program) (w : World) (K : PySem.W.Frag) (R : List PyData → List Cell → Prop) : Sp := fun vs H Q _ => ∃ ds ks, DpAll K H vs ds ∧ R ds ks ∧ ∀ p H', H p = none → Same H H' → Tab P w K cellD H' p (setK ks) → Q (.ref p) H'
theorem ed_call {R : List PyData → List Cell → Prop} {E : XK} {tA : TA} {as : List PyData} {ks : List Cell} (h : EvA K tA σ H as) (hr : R as ks) : EvD P w K cellD (tCall (NewDSp P w K R) [] E tA) σ H ks := fun H1 s Q q =>
  h H1 s _ fun xs H2 s2 hx => ⟨as, ks, by rw [List.append_nil]; exact hx, hr, fun p H3 hp s3 T => q p H3 (s2.free hp) (s2.trans s3) T⟩
end
theorem rd_isN {d : PyData} {b : Bool} (hb : (match d with | .none => true | _ => false) = b) : RD K (fun x y H Q => y = V.non ∧ Q (.bl (decide (x = V.non))) H) d .none (.bool b) := fun x y H hx hy Q q => ⟨dp_non hy, by
  have e : decide (x = V.non) = b := by subst hb; cases hx <;> rfl
  rw [e]
  exact q _ H (Same.refl _) (.bl _)⟩
/-! ### squares_of -/
abbrev s_squares_of : Stmt := top 23
theorem sc_squares_of : FnScope ["body", "cell"] ["body"] (defScope s_squares_of) := ⟨rfl, rfl, rfl, by decide +kernel, rfl, by decide +kernel, by decide +kernel⟩
def sq (b : Body) : List Cell := b.foldl insK []
abbrev R_squares_of : List PyData → List Cell → Prop := fun ds ks => ∃ b, ds = [bodyD b] ∧ b.length ≤ 1000 ∧ ks = sq b
theorem ok_squares_of (h : Has K mg "squares_of" s_squares_of ["body"]) : OkAt P w K mg base 1 "squares_of" ["body"] (NewDSp P w K R_squares_of) := by
  refine h.ok sc_squares_of (fun vs H Q E ⟨ds, r, hv, ⟨b, e, _⟩, _⟩ => hv.length.trans (by rw [e]; rfl)) (fun _ cdv A outer s H vs Q E f hr q => ?_)
  obtain ⟨ds, r, hv, ⟨b, rfl, hlen, rfl⟩, k⟩ := q
  have hu := hr.units
  have hu5 := hu65 hr
  refine ⟨_, (pss_one (ps_ret (pe_dcN (own := [("cell", 1)]) (g := gName 1) cellK hu rfl sc_squares_of.nd (show PI _ _ _ (iTup K _) from pi_tup (pv 0)) (blkOk_by (N := ["body", "cell"]) (sc := defScope s_squares_of) (by decide +kernel)) (fun _ _ _ _ _ => (pg_name (i := 1) sc_squares_of.nd rfl (Or.inl rfl))) (fun _ _ _ _ _ => pts_nil) (fun _ _ _ _ _ => (pv 1)) (fun _ _ _ _ _ => pe_bl)))), ?_⟩
  have A0 : Al K H [.dat (bodyD b), .no] (L2.start ["body", "cell"] vs) := al_start ["body", "cell"] hv
  exact ed_dc cellK (xs := b) (Nat.lt_of_le_of_lt hlen (by decide)) (wd_tup (ev_var A0 rfl)) (fun x _ => turn_name A0 (wipe_set1 _ _) fun σ2 H1 s1 A1 => ⟨et_yes, fun _ => ev_var A1 rfl⟩) H (Same.refl _) _ fun p H2 hp s2 T => k p H2 hp s2 T
/-! ### supports_of -/
abbrev s_supports_of : Stmt := top 22
theorem sc_supports_of : FnScope ["squares", "start", "end", "across", "up", "sides", "a", "b", "side", "common", "corners", "cell"] ["squares", "start", "end"] (defScope s_supports_of) := ⟨rfl, rfl, rfl, by decide +kernel, rfl, by decide +kernel, by decide +kernel⟩
def absI (i : Int) : Int := if i < 0 then -i else i
def sideD (p : Cell × Cell) : PyData := .tuple [cellD p.1, cellD p.2]
def sidesM (s e : Cell) (u a : Int) : List (Cell × Cell) := [(u, a), (-u, -a)].map fun p => ((s.1 + p.1, s.2 + p.2), (e.1 + p.1, e.2 + p.2))
def suppM (ks : List Cell) (s e : Cell) : List Body :=
  if (!memK ks s || memK ks e) = true then [] else
  if decide (absI (e.1 - s.1) + absI (e.2 - s.2) = 1) = true then isort bodyLe (((sidesM s e (e.2 - s.2) (e.1 - s.1)).filter fun p => memK ks p.1 && memK ks p.2).map fun p => isort cellLe [p.1, p.2]) else
  if (decide (absI (e.1 - s.1) = 1) && decide (absI (e.2 - s.2) = 1)) = true then
    match [(s.1 + (e.1 - s.1), s.2), (s.1, s.2 + (e.2 - s.2))].filter (memK ks) with
    | [c] => [[c]]
    | _ => []
  else []
def sp_supports_of (P : Program) (w : World) (K : PySem.W.Frag) : Sp := fun vs H Q _ => ∃ (d : Addr) (v1 v2 : V) (ks : List Cell) (s e : Cell), vs = [.ref d, v1, v2] ∧ Tab P w K cellD H d (setK ks) ∧ Dp K H v1 (cellD s) ∧ Dp K H v2 (cellD e) ∧
  ∀ v H', Same H H' → Dp K H' v (.tuple ((suppM ks s e).map bodyD)) → Q v H'
theorem ev_supp {σ : St} {H : Hp} {td ts te : TE} {ks : List Cell} {s e : Cell} (hd : EvK P w K td σ H ks) (h1 : Evd K ts σ H (cellD s)) (h2 : Evd K te σ H (cellD e)) :
    Evd K (tCall (sp_supports_of P w K) [] E0 (tCons td (tCons ts (tCons te tNil)))) σ H (.tuple ((suppM ks s e).map bodyD)) := fun H1 s1 Q q =>
  hd H1 s1 _ fun p H2 s2 T => h1 H2 (s1.trans s2) _ fun v1 H3 s3 hv1 => h2 H3 ((s1.trans s2).trans s3) _ fun v2 H4 s4 hv2 =>
    ⟨p, v1, v2, ks, s, e, rfl, T.same (s3.trans s4), Dp.same s4 hv1, hv2, fun v H5 s5 hv => q v H5 (((s2.trans s3).trans s4).trans s5) hv⟩
theorem ok_supports_of (T : Glo K mg tM aR) (h : Has K mg "supports_of" s_supports_of ["squares", "start", "end"]) : OkAt P w K mg base 1 "supports_of" ["squares", "start", "end"] (sp_supports_of P w K) := by
  refine h.ok sc_supports_of (fun vs H Q E h => by obtain ⟨d, v, v2, ks, c, n, rfl, _⟩ := h; rfl) (fun _ cdv A outer s H vs Q E f hr q => ?_)
  obtain ⟨d, v1, v2, ks, st, en, rfl, T0, hv1, hv2, k⟩ := q
  have hu := hr.units
  have hu5 := hu65 hr
  refine ⟨_, (pss_cons (ps_par (i := 3) (j := 4) rfl sc_supports_of.nd rfl rfl (by decide) rfl rfl (pa_cons (pe_op op_sub (pe_ix (show IxR _ (rIxT K) from ix_tup) (pv 2) pe_int (fun _ _ => rfl)) (pe_ix (show IxR _ (rIxT K) from ix_tup) (pv 1) pe_int (fun _ _ => rfl))) (pa_cons (pe_op op_sub (pe_ix (show IxR _ (rIxT K) from ix_tup) (pv 2) pe_int (fun _ _ => rfl)) (pe_ix (show IxR _ (rIxT K) from ix_tup) (pv 1) pe_int (fun _ _ => rfl))) pa_nil)) rfl)
      (pss_cons (ps_if (PW.pt (pw_or (pt_cmpR (show OpR _ _ (rNotInN P w K cellD) from op_notInN cellK hu) (pv 1) (pv 0) rfl) (pw_or1 (pt_cmpR (show OpR _ _ (rInN P w K cellD) from op_inN cellK hu) (pv 2) (pv 0) rfl)))) (pss_one (ps_ret (pe_tup pa_nil))) pss_nil)
      (pss_cons (ps_if (pt_cmpR op_eq (pe_op op_add (pe_callB call_abs (by rfl) T.abs zb_abs (pa_cons (pv 3) pa_nil)) (pe_callB call_abs (by rfl) T.abs zb_abs (pa_cons (pv 4) pa_nil))) pe_int (nomark _)) (pss_cons (ps_setLc (i := 5) (own := [("a", 6), ("b", 7)]) (g := gTup K 2 (gCons (gName 6) (gCons (gName 7) gNil))) rfl sc_supports_of.nd rfl rfl (sw_true rfl rfl rfl (by decide +kernel)) (show PI _ _ _ (iTup K _) from pi_tup (pe_tup (pa_cons (pe_tup (pa_cons (pv 4) (pa_cons (pv 3) pa_nil))) (pa_cons (pe_tup (pa_cons (pe_un un_neg (pv 4)) (pa_cons (pe_un un_neg (pv 3)) pa_nil))) pa_nil)))) (blkOk_by (N := ["squares", "start", "end", "across", "up", "sides", "a", "b", "side", "common", "corners", "cell"]) (sc := defScope s_supports_of) (by decide +kernel)) (fun _ _ _ _ _ => (show PG _ _ (gTup K 2 (gCons (gName 6) (gCons (gName 7) gNil))) from pg_tup rfl (pgs_cons (pg_name (i := 6) sc_supports_of.nd rfl (Or.inl rfl)) (pgs_cons (pg_name (i := 7) sc_supports_of.nd rfl (Or.inl rfl)) pgs_nil)))) (fun _ _ _ _ _ => pts_nil) (fun _ _ _ _ _ => (pe_tup (pa_cons (pe_tup (pa_cons (pe_op op_add (pe_ix (show IxR _ (rIxT K) from ix_tup) (pv 1) pe_int (fun _ _ => rfl)) (pv 6)) (pa_cons (pe_op op_add (pe_ix (show IxR _ (rIxT K) from ix_tup) (pv 1) pe_int (fun _ _ => rfl)) (pv 7)) pa_nil))) (pa_cons (pe_tup (pa_cons (pe_op op_add (pe_ix (show IxR _ (rIxT K) from ix_tup) (pv 2) pe_int (fun _ _ => rfl)) (pv 6)) (pa_cons (pe_op op_add (pe_ix (show IxR _ (rIxT K) from ix_tup) (pv 2) pe_int (fun _ _ => rfl)) (pv 7)) pa_nil))) pa_nil)))))
      (pss_one (ps_ret (pe_callTy (show CallR _ _ (rTupOf K) from call_tuple_of) (by rfl) T.tuple zb_tuple (pa_cons (pe_callB (show CallR _ _ (rSortD K) from cr_sortD hu) (by rfl) T.sorted zb_sorted (pa_cons (pe_lc (own := [("side", 8)]) (g := gName 8) rfl sc_supports_of.nd (show PI _ _ _ (iList K _) from pi_list (pv 5)) (blkOk_by (N := ["squares", "start", "end", "across", "up", "sides", "a", "b", "side", "common", "corners", "cell"]) (sc := defScope s_supports_of) (by decide +kernel)) (fun _ _ _ _ _ => (pg_name (i := 8) sc_supports_of.nd rfl (Or.inl rfl))) (fun _ _ _ _ _ => (pts_one (PW.pt (pw_and (pt_cmpR (show OpR _ _ (rInN P w K cellD) from op_inN cellK hu) (pe_ix (show IxR _ (rIxT K) from ix_tup) (pv 8) pe_int (fun _ _ => rfl)) (pv 0) rfl) (pw_and1 (pt_cmpR (show OpR _ _ (rInN P w K cellD) from op_inN cellK hu) (pe_ix (show IxR _ (rIxT K) from ix_tup) (pv 8) pe_int (fun _ _ => rfl)) (pv 0) rfl)))))) (fun _ _ _ _ _ => (pe_callTy (show CallR _ _ (rTupOf K) from call_tuple_of) (by rfl) T.tuple zb_tuple (pa_cons (pe_callB (show CallR _ _ (rSortT K) from cr_sortT hu) (by rfl) T.sorted zb_sorted (pa_cons (pv 8) pa_nil)) pa_nil)))) pa_nil)) pa_nil))))) pss_nil)
      (pss_cons (ps_if (PW.pt (pw_and (pt_cmpR op_eq (pe_callB call_abs (by rfl) T.abs zb_abs (pa_cons (pv 3) pa_nil)) pe_int (nomark _)) (pw_and1 (pt_cmpR op_eq (pe_callB call_abs (by rfl) T.abs zb_abs (pa_cons (pv 4) pa_nil)) pe_int (nomark _))))) (pss_cons (ps_set (i := 9) sc_supports_of.nd rfl (Or.inl rfl) (pe_lst (pa_cons (pe_tup (pa_cons (pe_op op_add (pe_ix (show IxR _ (rIxT K) from ix_tup) (pv 1) pe_int (fun _ _ => rfl)) (pv 3)) (pa_cons (pe_ix (show IxR _ (rIxT K) from ix_tup) (pv 1) pe_int (fun _ _ => rfl)) pa_nil))) (pa_cons (pe_tup (pa_cons (pe_ix (show IxR _ (rIxT K) from ix_tup) (pv 1) pe_int (fun _ _ => rfl)) (pa_cons (pe_op op_add (pe_ix (show IxR _ (rIxT K) from ix_tup) (pv 1) pe_int (fun _ _ => rfl)) (pv 4)) pa_nil))) pa_nil))))
      (pss_cons (ps_setLc (i := 10) (own := [("cell", 11)]) (g := gName 11) rfl sc_supports_of.nd rfl rfl (sw_true rfl rfl rfl (by decide +kernel)) (show PI _ _ _ (iList K _) from pi_list (pv 9)) (blkOk_by (N := ["squares", "start", "end", "across", "up", "sides", "a", "b", "side", "common", "corners", "cell"]) (sc := defScope s_supports_of) (by decide +kernel)) (fun _ _ _ _ _ => (pg_name (i := 11) sc_supports_of.nd rfl (Or.inl rfl))) (fun _ _ _ _ _ => (pts_one (pt_cmpR (show OpR _ _ (rInN P w K cellD) from op_inN cellK hu) (pv 11) (pv 0) rfl))) (fun _ _ _ _ _ => (pv 11)))
      (pss_one (ps_if (pt_cmpR op_eq (pe_callB (show CallR _ _ (rLen K) from call_len_seq) (by rfl) T.len zb_len (pa_cons (pv 10) pa_nil)) pe_int (nomark _)) (pss_one (ps_ret (pe_tup (pa_cons (pe_tup (pa_cons (pe_ix (show IxR _ (rIxL K) from ix_list) (pv 10) pe_int (fun _ _ => rfl)) pa_nil)) pa_nil)))) pss_nil)))) pss_nil)
      (pss_one (ps_ret (pe_tup pa_nil))))))), ?_⟩
  have A0 : Al K H [.raw (.ref d), .dat (cellD st), .dat (cellD en), .no, .no, .no, .no, .no, .no, .no, .no, .no] (L2.start ["squares", "start", "end", "across", "up", "sides", "a", "b", "side", "common", "corners", "cell"] [.ref d, v1, v2]) := .cons rfl (.cons ⟨v1, rfl, hv1⟩ (.cons ⟨v2, rfl, hv2⟩ (Al.no 9)))
  dsimp only [tSeq]
  refine st_par (ea_cons (ev_op (ev_fst (ev_var A0 rfl)) (ev_fst (ev_var A0 rfl)) rd_I0) (ea_cons (ev_op (ev_snd (ev_var A0 rfl)) (ev_snd (ev_var A0 rfl)) rd_I0) ea_nil)) fun x y H1 s1 hx hy => ?_
  have A1 := ((A0.same s1).put hx 3).put hy 4
  have T1 := T0.same s1
  unfold suppM at k
  refine st_if (et_or (et_test (ev_notInN (ev_var A1 rfl) (er_var A1 rfl) T1)) fun _ => et_test (ev_inN (ev_var A1 rfl) (er_var A1 rfl) T1)) (fun hb H2 s2 => ?_) fun hb H2 s2 => ?_
  · rw [setK_at, setK_at] at hb
    rw [if_pos hb] at k
    exact st_ret (ev_tup ea_nil) fun v H3 s3 hv => k v H3 ((s1.trans s2).trans s3) hv
  rw [setK_at, setK_at] at hb
  rw [if_neg (by rw [hb]; decide)] at k
  have A2 := A1.same s2
  have T2 := T1.same s2
  clear hb
  refine st_if (et_test (ev_op (ev_op (ev_cb (ea_cons (ev_var A2 rfl) ea_nil) rc_abs) (ev_cb (ea_cons (ev_var A2 rfl) ea_nil) rc_abs) rd_I0) ev_int rd_eqI)) (fun hb H3 s3 => ?_) fun hb H3 s3 => ?_
  · rw [if_pos (show decide (absI (en.1 - st.1) + absI (en.2 - st.2) = 1) = true from hb)] at k
    have A3 := A2.same s3
    have T3 := T2.same s3
    have c1 : Evd K (tTup (tCons (tTup (tCons (tVar 4) (tCons (tVar 3) tNil))) (tCons (tTup (tCons (tUn (rU fun i => .int (-i)) (tVar 4)) (tCons (tUn (rU fun i => .int (-i)) (tVar 3)) tNil))) tNil))) _ H3 (.tuple ([(en.2 - st.2, en.1 - st.1), (-(en.2 - st.2), -(en.1 - st.1))].map cellD)) :=
      ev_tup (ea_cons (ev_cell (ev_var A3 rfl) (ev_var A3 rfl)) (ea_cons (ev_cell (ev_un (ev_var A3 rfl) ru_U) (ev_un (ev_var A3 rfl) ru_U)) ea_nil)) (hl := by show 2 ≤ sizeLine; decide)
    refine st_setN ((en_tupF (xs := [(en.2 - st.2, en.1 - st.1), (-(en.2 - st.2), -(en.1 - st.1))]) (enc := cellD) (p := fun _ => true) (f := fun p => sideD ((st.1 + p.1, st.2 + p.2), (en.1 + p.1, en.2 + p.2))) (by show 2 < sizeLine; decide) (fun x _ => rfl) c1
      fun x _ => turn_pair A3 (wipe_set2 _ _ _) fun σ2 H4 s4 A4 => ⟨et_yes, fun _ => ev_tup (ea_cons (ev_cell (ev_op (ev_fst (ev_var A4 rfl)) (ev_var A4 rfl) rd_I0) (ev_op (ev_snd (ev_var A4 rfl)) (ev_var A4 rfl) rd_I0)) (ea_cons (ev_cell (ev_op (ev_fst (ev_var A4 rfl)) (ev_var A4 rfl) rd_I0) (ev_op (ev_snd (ev_var A4 rfl)) (ev_var A4 rfl) rd_I0)) ea_nil))⟩).is
      (es := (sidesM st en (en.2 - st.2) (en.1 - st.1)).map sideD) (by rw [List.filter_eq_self.mpr (fun _ _ => rfl)]; unfold sidesM; rw [List.map_map]; rfl)) fun p ys H4 hp s4 e4 d4 => ?_
    have A4 := (A3.same s4).put (v := .ref p) (d := .list ((sidesM st en (en.2 - st.2) (en.1 - st.1)).map sideD)) (.lst (.inl (.inl e4)) d4) 5
    have T4 := T3.same s4
    have ls : (sidesM st en (en.2 - st.2) (en.1 - st.1)).length < sizeLine := by
      show 2 < sizeLine
      decide
    generalize sidesM st en (en.2 - st.2) (en.1 - st.1) = ss at A4 k ls
    have lc := (en_listF (xs := ss) (enc := sideD) (p := fun p => memK ks p.1 && memK ks p.2) (f := fun p => bodyD (isort cellLe [p.1, p.2])) (tl := tVar 5) (g := gName 8) (vs := [8]) (tt := tAnd (tTest (tOp (rInN P w K cellD) (tOp (rIxT K) (tVar 8) (tC (.int 0))) (tVar 0))) (tTest (tOp (rInN P w K cellD) (tOp (rIxT K) (tVar 8) (tC (.int 1))) (tVar 0))))
      (te := tCB (rTupOf K) (tCons (tCB (rSortT K) (tCons (tVar 8) tNil)) tNil)) ls (fun x _ => body_flat _) (ev_var A4 rfl) fun x _ => turn_name A4 (wipe_set1 _ _) fun σ2 H5 s5 A5 => ⟨?_, fun _ => ?_⟩)
    · have al := cells_ok (isort bodyLe []).flatten
      have bo : ∀ b ∈ (ss.filter fun p => memK ks p.1 && memK ks p.2).map fun p => isort cellLe [p.1, p.2], b ≠ [] := fun b hb => by
        obtain ⟨p, _, rfl⟩ := List.mem_map.mp hb
        intro z
        have := congrArg List.length z
        rw [isort_length] at this
        cases this
      have lc2 := lc.is (es := ((ss.filter fun p => memK ks p.1 && memK ks p.2).map fun p => isort cellLe [p.1, p.2]).map bodyD) (by rw [List.map_map]; rfl)
      obtain ⟨a1, a2, a3⟩ := bodies_ok bo
      refine st_ret (ev_cb (ea_cons ((en_sortD lc2.d a1 a2 a3).is (sort_bodies _)).d ea_nil) rc_tup) fun v H5 s5 hv => k v H5 ((((s1.trans s2).trans s3).trans s4).trans s5) hv
    · have T5 := T4.same s5
      have e5 := et_and (et_test (ev_inN (k := x.1) (ev_op (ev_var (i := 8) A5 rfl) ev_int (rd_ixT (i := 0) rfl)) (er_var (i := 0) A5 rfl) T5)) fun _ => et_test (ev_inN (k := x.2) (ev_op (ev_var (i := 8) A5 rfl) ev_int (rd_ixT (i := 1) rfl)) (er_var (i := 0) A5 rfl) T5)
      rw [setK_at, setK_at] at e5
      exact e5
    · have al := cells_ok [x.1, x.2]
      exact ev_cb (ea_cons ((en_sortT (ds := [x.1, x.2].map cellD) (ev_var A5 rfl) al.1 al.2.1 al.2.2).is (sort_cells _)).d ea_nil) rc_tup
  · rw [if_neg (show ¬ decide (absI (en.1 - st.1) + absI (en.2 - st.2) = 1) = true from fun z => by rw [show decide (absI (en.1 - st.1) + absI (en.2 - st.2) = 1) = false from hb] at z; cases z)] at k
    have A3 := A2.same s3
    have T3 := T2.same s3
    clear hb
    refine st_if (et_and (et_test (ev_op (ev_cb (ea_cons (ev_var A3 rfl) ea_nil) rc_abs) ev_int rd_eqI)) fun _ => et_test (ev_op (ev_cb (ea_cons (ev_var A3 rfl) ea_nil) rc_abs) ev_int rd_eqI)) (fun hb H4 s4 => ?_) fun hb H4 s4 => ?_
    · rw [if_pos (show (decide (absI (en.1 - st.1) = 1) && decide (absI (en.2 - st.2) = 1)) = true from hb)] at k
      have A4 := A3.same s4
      have T4 := T3.same s4
      refine st_setN (ds := [(st.1 + (en.1 - st.1), st.2), (st.1, st.2 + (en.2 - st.2))].map cellD) (en_lst (ea_cons (ev_cell (ev_op (ev_fst (ev_var A4 rfl)) (ev_var A4 rfl) rd_I0) (ev_snd (ev_var A4 rfl))) (ea_cons (ev_cell (ev_fst (ev_var A4 rfl)) (ev_op (ev_snd (ev_var A4 rfl)) (ev_var A4 rfl) rd_I0)) ea_nil)) (hl := by show 2 ≤ sizeLine; decide)) fun p ys H5 hp s5 e5 d5 => ?_
      generalize hcm : [(st.1 + (en.1 - st.1), st.2), (st.1, st.2 + (en.2 - st.2))] = cm at d5 k
      have A5 := (A4.same s5).put (v := .ref p) (d := .list (cm.map cellD)) (.lst (.inl (.inl e5)) d5) 9
      have T5 := T4.same s5
      have lcm : cm.length < sizeLine := by rw [← hcm]; show 2 < sizeLine; decide
      refine st_setN (en_listF (xs := cm) (enc := cellD) (p := memK ks) (f := cellD) lcm (fun x _ => cell_flat x) (ev_var A5 rfl) fun x _ => turn_name A5 (wipe_set1 _ _) fun σ2 H6 s6 A6 => ⟨by
        have := et_test (ev_inN (ev_var (i := 11) A6 rfl) (er_var (i := 0) A6 rfl) (T5.same s6))
        rw [setK_at] at this
        exact this, fun _ => ev_var A6 rfl⟩) fun p2 ys2 H6 hp2 s6 e6 d6 => ?_
      generalize cm.filter (memK ks) = cn at d6 k
      have A6 := (A5.same s6).put (v := .ref p2) (d := .list (cn.map cellD)) (.lst (.inl (.inl e6)) d6) 10
      refine st_if (et_test (ev_op (ev_cb (ea_cons (ev_var A6 rfl) ea_nil) rc_len) ev_int rd_eqI)) (fun hb2 H7 s7 => ?_) fun hb2 H7 s7 => ?_
      · have hl : cn.length = 1 := by
          have := of_decide_eq_true hb2
          rw [List.length_map] at this
          omega
        match cn, hl with
        | [c], _ =>
          have A7 := A6.same s7
          exact st_ret (ev_tup (ea_cons (ev_tup (ea_cons (ev_op (ev_var A7 rfl) ev_int (rd_ixL (i := 0) (z := cellD c) rfl)) ea_nil)) ea_nil)) fun v H8 s8 hv => k v H8 (((((((s1.trans s2).trans s3).trans s4).trans s5).trans s6).trans s7).trans s8) hv
      · have hl : cn.length ≠ 1 := fun z => by
          have := of_decide_eq_false hb2
          rw [List.length_map] at this
          omega
        have e : (match cn with | [c] => [[c]] | _ => ([] : List Body)) = [] := by
          match cn, hl with
          | [], _ => rfl
          | [c], z => exact absurd rfl z
          | _ :: _ :: _, _ => rfl
        rw [e] at k
        exact st_ret (σ := []) (ev_tup ea_nil) fun v H8 s8 hv => k v H8 (((((((s1.trans s2).trans s3).trans s4).trans s5).trans s6).trans s7).trans s8) hv
    · rw [if_neg (show ¬ (decide (absI (en.1 - st.1) = 1) && decide (absI (en.2 - st.2) = 1)) = true from fun z => by rw [show (decide (absI (en.1 - st.1) = 1) && decide (absI (en.2 - st.2) = 1)) = false from hb] at z; cases z)] at k
      exact st_ret (σ := []) (ev_tup ea_nil) fun v H5 s5 hv => k v H5 ((((s1.trans s2).trans s3).trans s4).trans s5) hv
/-! ### kind_of -/
abbrev s_kind_of : Stmt := top 24
theorem sc_kind_of : FnScope ["body", "start", "end"] ["body", "start", "end"] (defScope s_kind_of) := ⟨rfl, rfl, rfl, by decide +kernel, rfl, by decide +kernel, by decide +kernel⟩
def kindM (b : Body) (s e : Cell) : Option (Option Bool) :=
  if (suppM (sq b) s e).isEmpty = true then some none else
  match freeM b s with
  | none => none
  | some false => some none
  | some true => some (some (decide (s.1 = e.1) || decide (s.2 = e.2)))
def kindD : Option Bool → PyData
  | none => .none
  | some true => .str "slide"
  | some false => .str "turn"
abbrev R_kind_of : List PyData → PyData → Prop := fun ds r => ∃ b s e k, ds = [bodyD b, cellD s, cellD e] ∧ b.length ≤ 1000 ∧ kindM b s e = some k ∧ r = kindD k
theorem bodies_shaped (bs : List Body) : SeqAt.shaped (.tuple (bs.map bodyD)) = true := shaped_tup (n := 2) (fun b => SeqAt.canLay_of_shaped (body_shaped b)) body_depth (by decide) bs
theorem eqv_nil (ds : List PyData) : PyData.eqv (.tuple ds) (.tuple []) = ds.isEmpty := by cases ds <;> rfl
theorem isEmpty_map {α β : Type} {f : α → β} (xs : List α) : (xs.map f).isEmpty = xs.isEmpty := by cases xs <;> rfl
theorem ok_kind_of (T : Glo K mg tM aR) (h : Has K mg "kind_of" s_kind_of ["body", "start", "end"]) (G_check_cell : OkAt P w K mg base 3 "check_cell" ["value"] (Pu K R_check_cell)) (G_supports_of : OkAt P w K mg base 1 "supports_of" ["squares", "start", "end"] (sp_supports_of P w K))
    (G_squares_of : OkAt P w K mg base 1 "squares_of" ["body"] (NewDSp P w K R_squares_of)) (G_is_free : OkAt P w K mg base 8 "is_free" ["body", "cell"] (Pu K R_is_free)) : OkAt P w K mg base 9 "kind_of" ["body", "start", "end"] (Pu K R_kind_of) := by
  refine h.ok sc_kind_of (pu_len fun ds r ⟨_, _, _, _, e, _⟩ => by rw [e]; rfl) (fun _ cdv A outer s H vs Q E f hr q => ?_)
  obtain ⟨ds, r, hv, ⟨b, st, en, kk, rfl, hlen, hk, rfl⟩, k⟩ := q
  have hu := hr.units
  have hu5 := hu65 hr
  refine ⟨_, (pss_cons (ps_expr (pe_callO G_check_cell (hr.mono (by decide)) rfl (pa_cons (pv 1) pa_nil)))
      (pss_cons (ps_expr (pe_callO G_check_cell (hr.mono (by decide)) rfl (pa_cons (pv 2) pa_nil)))
      (pss_cons (ps_if (PW.pt (pw_or (pt_cmpR (show OpR _ _ (rEqD K) from op_eqD hu) (pe_callO G_supports_of (hr.mono (by decide)) rfl (pa_cons (pe_callO G_squares_of (hr.mono (by decide)) rfl (pa_cons (pv 0) pa_nil)) (pa_cons (pv 1) (pa_cons (pv 2) pa_nil)))) (pe_tup pa_nil) (nomark _)) (pw_or1 (pt_not (pt_val (pe_callO G_is_free (hr.mono (by decide)) rfl (pa_cons (pv 0) (pa_cons (pv 1) pa_nil)))))))) (pss_one (ps_ret pe_non)) pss_nil)
      (pss_one (ps_ret (pe_ifExp (PW.pt (pw_or (pt_cmpR op_eq (pe_ix (show IxR _ (rIxT K) from ix_tup) (pv 1) pe_int (fun _ _ => rfl)) (pe_ix (show IxR _ (rIxT K) from ix_tup) (pv 2) pe_int (fun _ _ => rfl)) (nomark _)) (pw_or1 (pt_cmpR op_eq (pe_ix (show IxR _ (rIxT K) from ix_tup) (pv 1) pe_int (fun _ _ => rfl)) (pe_ix (show IxR _ (rIxT K) from ix_tup) (pv 2) pe_int (fun _ _ => rfl)) (nomark _))))) pe_str pe_str)))))), ?_⟩
  have A0 : Al K H [.dat (bodyD b), .dat (cellD st), .dat (cellD en)] (L2.start ["body", "start", "end"] vs) := al_start ["body", "start", "end"] hv
  dsimp only [tSeq]
  refine st_drop (ev_call (ea_cons (ev_var A0 rfl) ea_nil) ⟨st, rfl, rfl⟩) fun H1 s1 => ?_
  refine st_drop (ev_call (ea_cons (ev_var (A0.same s1) rfl) ea_nil) ⟨en, rfl, rfl⟩) fun H2 s2 => ?_
  have A2 := A0.same (s1.trans s2)
  unfold kindM at hk
  have tst : ∀ {b2 : Bool}, ((suppM (sq b) st en).isEmpty = false → freeM b st = some b2) → EvT (tOr (tTest (tOp (rEqD K) (tCall (sp_supports_of P w K) [] E0 (tCons (tCall (NewDSp P w K R_squares_of) [] E0 (tCons (tVar 0) tNil)) (tCons (tVar 1) (tCons (tVar 2) tNil)))) (tTup tNil)))
      (tNot (tB (tCall (Pu K R_is_free) [] E0 (tCons (tVar 0) (tCons (tVar 1) tNil)))))) (L2.start ["body", "start", "end"] vs) H2 ((suppM (sq b) st en).isEmpty || !b2) := fun {b2} hf => by
    refine et_or (et_test (ev_op (ev_supp (ed_call (ea_cons (ev_var A2 rfl) ea_nil) ⟨b, rfl, hlen, rfl⟩).k (ev_var A2 rfl) (ev_var A2 rfl)) (ev_tup ea_nil) (rd_eq (bodies_shaped _) rfl (by rw [eqv_nil, isEmpty_map])))) fun hb => ?_
    exact et_not (et_B (ev_call (ea_cons (ev_var A2 rfl) (ea_cons (ev_var A2 rfl) ea_nil)) ⟨b, st, b2, rfl, hlen, hf hb, rfl⟩))
  by_cases he : (suppM (sq b) st en).isEmpty = true
  · rw [if_pos he] at hk
    cases hk
    have t1 := tst (b2 := true) fun z => by rw [he] at z; cases z
    rw [he] at t1
    refine st_ifT t1 fun H3 s3 => ?_
    exact st_ret ev_non fun v H4 s4 hv => k v H4 (((s1.trans s2).trans s3).trans s4) hv
  · rw [if_neg he] at hk
    have he' : (suppM (sq b) st en).isEmpty = false := by cases z : (suppM (sq b) st en).isEmpty; rfl; exact absurd z he
    cases hf : freeM b st with
    | none => rw [hf] at hk; cases hk
    | some fr =>
      rw [hf] at hk
      have t1 := tst (b2 := fr) fun _ => hf
      rw [he'] at t1
      cases fr with
      | false =>
        cases hk
        refine st_ifT t1 fun H3 s3 => ?_
        exact st_ret ev_non fun v H4 s4 hv => k v H4 (((s1.trans s2).trans s3).trans s4) hv
      | true =>
        cases hk
        refine st_ifF t1 fun H3 s3 => ?_
        have A3 := A2.same s3
        have t2 := et_or (et_test (ev_op (ev_fst (ev_var (i := 1) A3 rfl)) (ev_fst (ev_var (i := 2) A3 rfl)) rd_eqI)) fun _ => et_test (ev_op (ev_snd (ev_var (i := 1) A3 rfl)) (ev_snd (ev_var (i := 2) A3 rfl)) rd_eqI)
        cases hb : (decide (st.1 = en.1) || decide (st.2 = en.2)) with
        | true =>
          rw [hb] at t2 k
          exact st_ret (ev_ifT t2 ev_str) fun v H4 s4 hv => k v H4 (((s1.trans s2).trans s3).trans s4) hv
        | false =>
          rw [hb] at t2 k
          exact st_ret (ev_ifF t2 ev_str) fun v H4 s4 hv => k v H4 (((s1.trans s2).trans s3).trans s4) hv
/-! ### done -/
abbrev s_done : Stmt := top 26
theorem sc_done : FnScope ["body", "start", "end", "kind", "cell"] ["body", "start", "end"] (defScope s_done) := ⟨rfl, rfl, rfl, by decide +kernel, rfl, by decide +kernel, by decide +kernel⟩
def doneM (b : Body) (s e : Cell) : Option Body := if memK b s = true then (match kindM b s e with
  | some (some _) => some (isort cellLe (b.filter (fun a => !decide (a = s)) ++ [e]))
  | _ => none) else none
abbrev R_done : List PyData → PyData → Prop := fun ds r => ∃ b s e d, ds = [bodyD b, cellD s, cellD e] ∧ b.length ≤ 900 ∧ doneM b s e = some d ∧ r = bodyD d
theorem ok_done (T : Glo K mg tM aR) (h : Has K mg "done" s_done ["body", "start", "end"]) (G_kind_of : OkAt P w K mg base 9 "kind_of" ["body", "start", "end"] (Pu K R_kind_of)) : OkAt P w K mg base 10 "done" ["body", "start", "end"] (Pu K R_done) := by
  refine h.ok sc_done (pu_len fun ds r ⟨_, _, _, _, e, _⟩ => by rw [e]; rfl) (fun _ cdv A outer s H vs Q E f hr q => ?_)
  obtain ⟨ds, r, hv, ⟨b, st, en, dd, rfl, hlen, hd, rfl⟩, k⟩ := q
  have hu := hr.units
  have hu5 := hu65 hr
  refine ⟨_, (pss_cons (ps_set (i := 3) sc_done.nd rfl (Or.inl rfl) (pe_callO G_kind_of (hr.mono (by decide)) rfl (pa_cons (pv 0) (pa_cons (pv 1) (pa_cons (pv 2) pa_nil)))))
      (pss_cons (ps_if (pt_cmpR (show OpR _ _ (rNotInT K) from op_notInT hu5) (pv 1) (pv 0) rfl) pss_never pss_nil)
      (pss_cons (ps_if (pt_cmpR op_isN (pv 3) pe_non (nomark _)) pss_never pss_nil)
      (pss_one (ps_ret (pe_callTy (show CallR _ _ (rTupOf K) from call_tuple_of) (by rfl) T.tuple zb_tuple (pa_cons (pe_callB (show CallR _ _ (rSortD K) from cr_sortD hu) (by rfl) T.sorted zb_sorted (pa_cons (pe_op (show OpR _ _ (rCatL K) from op_catL) (pe_lc (own := [("cell", 4)]) (g := gName 4) rfl sc_done.nd (show PI _ _ _ (iTup K _) from pi_tup (pv 0)) (blkOk_by (N := ["body", "start", "end", "kind", "cell"]) (sc := defScope s_done) (by decide +kernel)) (fun _ _ _ _ _ => (pg_name (i := 4) sc_done.nd rfl (Or.inl rfl))) (fun _ _ _ _ _ => (pts_one (pt_cmpR (show OpR _ _ (rNeD K) from op_neD hu) (pv 4) (pv 1) (nomark _)))) (fun _ _ _ _ _ => (pv 4))) (pe_lst (pa_cons (pv 2) pa_nil))) pa_nil)) pa_nil))))))), ?_⟩
  have A0 : Al K H [.dat (bodyD b), .dat (cellD st), .dat (cellD en), .no, .no] (L2.start ["body", "start", "end", "kind", "cell"] vs) := al_start ["body", "start", "end", "kind", "cell"] hv
  dsimp only [tSeq]
  unfold doneM at hd
  split at hd
  · rename_i hm
    split at hd
    · rename_i kk hk
      cases hd
      refine st_set (ev_call (z := kindD (some kk)) (ea_cons (ev_var A0 rfl) (ea_cons (ev_var A0 rfl) (ea_cons (ev_var A0 rfl) ea_nil))) ⟨b, st, en, _, rfl, by omega, hk, rfl⟩) fun x H1 s1 hx => ?_
      have A1 := (A0.same s1).put hx 3
      refine st_ifF (et_test (ev_op (ev_var A1 rfl) (ev_var A1 rfl) (rd_notInT (cell_shaped _) (body_shaped _) (by rw [any_cells, hm]; rfl)))) fun H2 s2 => ?_
      refine st_ifF (et_test (ev_op (ev_var (i := 3) (A1.same s2) rfl) ev_non (rd_isN (b := false) (by cases kk <;> rfl)))) fun H3 s3 => ?_
      have A3 := (A1.same s2).same s3
      have lc := en_tupF (xs := b) (enc := cellD) (p := fun a => !decide (a = st)) (f := cellD) (tl := tVar 0) (g := gName 4) (vs := [4]) (tt := tTest (tOp (rNeD K) (tVar 4) (tVar 1))) (te := tVar 4) (Nat.lt_of_le_of_lt hlen (by decide)) (fun x _ => cell_flat x) (ev_var A3 rfl) fun x _ => turn_name A3 (wipe_set1 _ _) fun σ2 H4 s4 A4 =>
        ⟨et_test (ev_op (ev_var A4 rfl) (ev_var A4 rfl) rd_neC), fun _ => ev_var A4 rfl⟩
      have cat := (en_catL lc.d (en_lst (ea_cons (ev_var (i := 2) A3 rfl) ea_nil)).d (by
        have := List.length_filter_le (fun a => !decide (a = st)) b
        rw [List.length_map, List.length_singleton]
        have : (1000 : Nat) ≤ sizeLine := by decide
        omega)).is (es := (b.filter (fun a => !decide (a = st)) ++ [en]).map cellD) (by rw [List.map_append]; rfl)
      have al := cells_ok (b.filter (fun a => !decide (a = st)) ++ [en])
      exact st_ret (ev_cb (ea_cons ((en_sortD cat.d al.1 al.2.1 al.2.2).is (sort_cells _)).d ea_nil) rc_tup) fun v H4 s4 hv => k v H4 (((s1.trans s2).trans s3).trans s4) hv
    · cases hd
  · cases hd
/-! ### moves_of -/
abbrev s_moves_of : Stmt := top 25
theorem sc_moves_of : FnScope ["body", "squares", "found", "start", "across", "up", "end"] ["body"] (defScope s_moves_of) := ⟨rfl, rfl, rfl, by decide +kernel, rfl, by decide +kernel, by decide +kernel⟩
abbrev Move := Cell × Cell
def mvAdd (ks : List Cell) (s : Cell) (acc : List Move) (a : Cell) : List Move := if (suppM ks s (s.1 + a.1, s.2 + a.2)).isEmpty = true then acc else acc ++ [(s, (s.1 + a.1, s.2 + a.2))]
def movesM (b : Body) : Option (List Move) := match freesM b with
  | none => none
  | some fs => some (fs.foldl (fun acc s => around.foldl (mvAdd (sq b) s) acc) [])
abbrev R_moves_of : List PyData → PyData → Prop := fun ds r => ∃ b ms, ds = [bodyD b] ∧ b.length ≤ 1000 ∧ movesM b = some ms ∧ r = .tuple (ms.map sideD)
theorem mvAdd_len (ks : List Cell) (s : Cell) (acc : List Move) (a : Cell) : (mvAdd ks s acc a).length ≤ acc.length + 1 := by
  unfold mvAdd
  split
  · omega
  · rw [List.length_append, List.length_singleton]; omega
theorem mvFold_len (ks : List Cell) (s : Cell) : ∀ (as : List Cell) (acc : List Move), (as.foldl (mvAdd ks s) acc).length ≤ acc.length + as.length
  | [], acc => Nat.le_refl _
  | a :: as, acc => by
    have h1 := mvFold_len ks s as (mvAdd ks s acc a)
    have h2 := mvAdd_len ks s acc a
    rw [List.foldl_cons, List.length_cons]
    omega
theorem mvFold2_len (ks : List Cell) : ∀ (ss : List Cell) (acc : List Move), (ss.foldl (fun acc s => around.foldl (mvAdd ks s) acc) acc).length ≤ acc.length + 8 * ss.length
  | [], acc => Nat.le_refl _
  | s :: ss, acc => by
    have h1 := mvFold2_len ks ss (around.foldl (mvAdd ks s) acc)
    have h2 : (around.foldl (mvAdd ks s) acc).length ≤ acc.length + 8 := mvFold_len ks s around acc
    rw [List.foldl_cons, List.length_cons]
    omega
theorem side_flat (m : Move) : flat (sideD m) = true := rfl
theorem moves_flat (ms : List Move) : flatAll (ms.map sideD) = true := flatAll_map side_flat ms
theorem st_parDN' {σ : St} {H : Hp} {D : Ends} {i j : Nat} {ta tb : TE} {ks : List Cell} {ds : List PyData} (h1 : EvD P w K cellD ta σ H ks) (h2 : EvN K tb σ H ds)
    (q : ∀ p r H1, H p = none → H r = none → Same H H1 → Tab P w K cellD H1 p (setK ks) → OwnL K H1 r ds → D.nx ((σ.set i (some (.ref p))).set j (some (.ref r))) H1) : tPar i j (tCons ta (tCons tb tNil)) D σ H := st_parDN h1 h2 q
theorem ok_moves_of (T : Glo K mg tM aR) (h : Has K mg "moves_of" s_moves_of ["body"]) (G_supports_of : OkAt P w K mg base 1 "supports_of" ["squares", "start", "end"] (sp_supports_of P w K))
    (G_squares_of : OkAt P w K mg base 1 "squares_of" ["body"] (NewDSp P w K R_squares_of)) (G_free_squares : OkAt P w K mg base 9 "free_squares" ["body"] (Pu K R_free_squares)) : OkAt P w K mg base 10 "moves_of" ["body"] (Pu K R_moves_of) := by
  refine h.ok sc_moves_of (pu_len fun ds r ⟨_, _, e, _⟩ => by rw [e]; rfl) (fun _ cdv A outer s H vs Q E f hr q => ?_)
  obtain ⟨ds, r, hv, ⟨b, ms, rfl, hlen, hm, rfl⟩, k⟩ := q
  have hu := hr.units
  have hu5 := hu65 hr
  refine ⟨_, (pss_cons (ps_par (i := 1) (j := 2) rfl sc_moves_of.nd rfl rfl (by decide) rfl rfl (pa_cons (pe_callO G_squares_of (hr.mono (by decide)) rfl (pa_cons (pv 0) pa_nil)) (pa_cons (pe_lst pa_nil) pa_nil)) rfl)
      (pss_cons (ps_for PassesOwn.never rfl (show PI _ _ _ (iTup K _) from pi_tup (pe_callO G_free_squares (hr.mono (by decide)) rfl (pa_cons (pv 0) pa_nil))) (pg_name (i := 3) sc_moves_of.nd rfl (Or.inl rfl))
      (pss_one (ps_for PassesOwn.never rfl (show PI _ _ _ (iTup K _) from pi_tup (pe_glob (v := .ref aR) rfl T.aroundM rfl)) (show PG _ _ (gTup K 2 (gCons (gName 4) (gCons (gName 5) gNil))) from pg_tup rfl (pgs_cons (pg_name (i := 4) sc_moves_of.nd rfl (Or.inl rfl)) (pgs_cons (pg_name (i := 5) sc_moves_of.nd rfl (Or.inl rfl)) pgs_nil)))
      (pss_cons (ps_set (i := 6) sc_moves_of.nd rfl (Or.inl rfl) (pe_tup (pa_cons (pe_op op_add (pe_ix (show IxR _ (rIxT K) from ix_tup) (pv 3) pe_int (fun _ _ => rfl)) (pv 4)) (pa_cons (pe_op op_add (pe_ix (show IxR _ (rIxT K) from ix_tup) (pv 3) pe_int (fun _ _ => rfl)) (pv 5)) pa_nil))))
      (pss_one (ps_if (pt_cmpR (show OpR _ _ (rNeD K) from op_neD hu) (pe_callO G_supports_of (hr.mono (by decide)) rfl (pa_cons (pv 1) (pa_cons (pv 3) (pa_cons (pv 6) pa_nil)))) (pe_tup pa_nil) (nomark _)) (pss_one (ps_expr (pe_bm PySem.F.plainAttrs_list PySem.F.slot_list_append PySem.F.type_list_append mt_append (pv 2) (pa_cons (pe_tup (pa_cons (pv 3) (pa_cons (pv 6) pa_nil))) pa_nil)))) pss_nil))))))
      (pss_one (ps_ret (pe_callTy (show CallR _ _ (rTupOf K) from call_tuple_of) (by rfl) T.tuple zb_tuple (pa_cons (pv 2) pa_nil)))))), ?_⟩
  have A0 : Al K H [.dat (bodyD b), .no, .no, .no, .no, .no, .no] (L2.start ["body", "squares", "found", "start", "across", "up", "end"] vs) := al_start ["body", "squares", "found", "start", "across", "up", "end"] hv
  dsimp only [tSeq]
  unfold movesM at hm
  cases hf : freesM b with
  | none => rw [hf] at hm; cases hm
  | some fs =>
    rw [hf] at hm
    cases hm
    have lfs : fs.length ≤ 1000 := by
      obtain ⟨_, e⟩ := filO_get hf
      rw [e]
      exact Nat.le_trans (List.length_filter_le _ _) hlen
    refine st_parDN (ed_call (ea_cons (ev_var A0 rfl) ea_nil) ⟨b, rfl, hlen, rfl⟩) (en_lst ea_nil) fun d fo H1 hd hfo s1 T1 of1 => ?_
    have nfd : fo ≠ d := tab_ne T1 of1
    have A1 := ((A0.same s1).putR (v := .ref d) 1).putR (v := .ref fo) 2
    refine st_forT (ds := fs.map cellD) (ev_call (ea_cons (ev_var A1 rfl) ea_nil) ⟨b, fs, rfl, hlen, hf, rfl⟩) (cells_flat _) fun H2 s2 => ?_
    have T2 := T1.same s2
    have of2 := of1.same s2
    let I : Nat → St → Hp → Prop := fun i σ' H' => Al K H' [.dat (bodyD b), .raw (.ref d), .raw (.ref fo), .no, .no, .no, .no] σ' ∧ Tab P w K cellD H' d (setK (sq b)) ∧ OwnL K H' fo (((fs.take i).foldl (fun acc s => around.foldl (mvAdd (sq b) s) acc) []).map sideD) ∧ But [fo] H2 H'
    have lo2 : ∀ {H' : Hp}, But [fo] H2 H' → TKp K H2 H' := fun {H'} bb => bb.tk fun a ha o ho => by
      rw [List.mem_singleton] at ha
      subst ha
      obtain ⟨x', e', _⟩ := of2
      rw [e'] at ho; cases ho; rfl
    refine ⟨I, ⟨(A1.same s2).wk (by repeat (first | exact Wk.nil | apply Wk.keep | apply Wk.drop)), T2, of2, But.refl⟩, fun i σ' H' ⟨_, _, _, bb⟩ => lo2 bb, fun i x v3 σ' H' hx ⟨A3, T3, of3, b3⟩ hv3 => ?_, fun σ' H' ⟨A3, T3, of3, b3⟩ => ?_⟩
    · obtain ⟨c, hc, rfl⟩ := map_at hx
      have hi : i < fs.length := (List.getElem?_eq_some_iff.mp hc).1
      have stp := take_succ_foldl (f := fun acc s => around.foldl (mvAdd (sq b) s) acc) (b := ([] : List Move)) hc
      have len3 := mvFold2_len (sq b) (fs.take i) []
      have ltk : (fs.take i).length ≤ i := List.length_take_le ..
      rw [List.length_nil] at len3
      have A4 := A3.put hv3 3
      refine st_forT (ds := around.map cellD) (ev_ref (T.aroundD _)) (cells_flat _) fun H5 s5 => ?_
      have of5 := of3.same s5
      have T5 := T3.same s5
      generalize (fs.take i).foldl (fun acc s => around.foldl (mvAdd (sq b) s) acc) [] = acc at of5 stp len3
      have lo5 : ∀ {H' : Hp}, But [fo] H5 H' → TKp K H5 H' := fun {H'} bb => bb.tk fun a ha o ho => by
        rw [List.mem_singleton] at ha
        subst ha
        obtain ⟨x', e', _⟩ := of5
        rw [e'] at ho; cases ho; rfl
      let J : Nat → St → Hp → Prop := fun j σ2 H' => Al K H' [.dat (bodyD b), .raw (.ref d), .raw (.ref fo), .dat (cellD c), .no, .no, .no] σ2 ∧ Tab P w K cellD H' d (setK (sq b)) ∧ OwnL K H' fo (((around.take j).foldl (mvAdd (sq b) c) acc).map sideD) ∧ But [fo] H5 H'
      refine ⟨J, ⟨(A4.same s5).wk (by repeat (first | exact Wk.nil | apply Wk.keep | apply Wk.drop)), T5, of5, But.refl⟩, fun j σ2 H' ⟨_, _, _, bb⟩ => lo5 bb, fun j y v5 σ2 H' hy ⟨A6, T6, of6, b6⟩ hv5 => ?_, fun σ2 H' ⟨A6, T6, of6, b6⟩ => ?_⟩
      · obtain ⟨a, ha, rfl⟩ := map_at hy
        have hj : j < 8 := (List.getElem?_eq_some_iff.mp ha).1
        have stp6 := take_succ_foldl (f := mvAdd (sq b) c) (b := acc) ha
        have len6 := mvFold_len (sq b) c (around.take j) acc
        have ltk6 : (around.take j).length ≤ j := List.length_take_le ..
        generalize (around.take j).foldl (mvAdd (sq b) c) acc = acc6 at of6 stp6 len6
        refine g_pair (d1 := .int a.1) (d2 := .int a.2) hv5 fun p1 p2 hp1 hp2 => ?_
        have A7 := (A6.put hp1 4).put hp2 5
        dsimp only [tSeq]
        refine st_set (ev_cell (ev_op (ev_fst (ev_var A7 rfl)) (ev_var A7 rfl) rd_I0) (ev_op (ev_snd (ev_var A7 rfl)) (ev_var A7 rfl) rd_I0)) fun x7 H7 s7 hx7 => ?_
        have A8 := (A7.same s7).put hx7 6
        have T8 := T6.same s7
        have of8 := of6.same s7
        have tst := et_test (ev_op (ev_supp (ek_var (i := 1) A8 rfl T8) (ev_var (i := 3) A8 rfl) (ev_var (i := 6) A8 rfl)) (ev_tup ea_nil) (rd_ne (bodies_shaped _) rfl (by rw [eqv_nil, isEmpty_map])))
        refine st_if tst (fun hb H9 s9 => ?_) fun hb H9 s9 => ?_
        · have hb' : ¬ (suppM (sq b) c (c.1 + a.1, c.2 + a.2)).isEmpty = true := fun z => by rw [z] at hb; cases hb
          have e6 : mvAdd (sq b) c acc6 a = acc6 ++ [(c, (c.1 + a.1, c.2 + a.2))] := by
            unfold mvAdd
            rw [if_neg hb']
          have A9 := A8.same s9
          have of9 := of8.same s9
          refine st_appD (er_var A9 rfl) of9 (moves_flat _) (d := sideD (c, (c.1 + a.1, c.2 + a.2))) rfl (by
            rw [List.length_map]
            have : (10000 : Nat) < sizeLine := by decide
            omega) (ev_tup (ea_cons (ev_var A9 rfl) (ea_cons (ev_var A9 rfl) ea_nil))) fun H10 xs s10 e10 of10 => ?_
          obtain ⟨x9, hx9, _⟩ := id of9
          have q10 := s10 _ _ hx9
          have tk10 : TKp K H10 (upd H10 fo (.lst xs)) := TKp.upd q10 rfl
          refine ⟨((A9.same s10).keepT tk10 (by simp [flatE, body_flat, cell_flat, flat, flatAll])).wk (by repeat (first | exact Wk.nil | apply Wk.keep | apply Wk.drop)), ((T8.same s9).same s10).upd (Ne.symm nfd) q10 rfl, ?_, (((b6.trans (Same.but s7)).trans (Same.but s9)).trans (Same.but s10)).upd (.inl (by simp))⟩
          rw [stp6, e6, List.map_append]
          exact of10
        · have hb' : (suppM (sq b) c (c.1 + a.1, c.2 + a.2)).isEmpty = true := by
            cases z : (suppM (sq b) c (c.1 + a.1, c.2 + a.2)).isEmpty
            · rw [z] at hb; cases hb
            · rfl
          have e6 : mvAdd (sq b) c acc6 a = acc6 := by
            unfold mvAdd
            rw [if_pos hb']
          refine ⟨(A8.same s9).wk (by repeat (first | exact Wk.nil | apply Wk.keep | apply Wk.drop)), T8.same s9, by rw [stp6, e6]; exact of8.same s9, (b6.trans (Same.but s7)).trans (Same.but s9)⟩
      · have e8 : (around.map cellD).length = around.length := rfl
        rw [e8, List.take_length] at of6
        refine ⟨A6.wk (by repeat (first | exact Wk.nil | apply Wk.keep | apply Wk.drop)), T6, by rw [stp]; exact of6, (b3.trans (Same.but s5)).trans b6⟩
    · rw [List.length_map, List.take_length] at of3
      refine st_ret (ev_cb (ea_cons (ev_of (er_var A3 rfl) of3.dp) ea_nil) rc_tup) fun v5 H5 s5 hv5 => k v5 H5 ((((Same.but (s1.trans s2)).trans b3).trans (Same.but s5)).same fun x hx => ?_) hv5
      rw [List.mem_singleton] at hx
      rw [hx]
      exact hfo
/-! ### followers -/
abbrev s_followers : Stmt := top 31
theorem sc_followers : FnScope ["body", "move"] ["body"] (defScope s_followers) := ⟨rfl, rfl, rfl, by decide +kernel, rfl, by decide +kernel, by decide +kernel⟩
def follow1 (b : Body) (m : Move) : Option Body := (doneM b m.1 m.2).map shapeM
def followM (b : Body) : Option (List (Move × Body)) := match movesM b with
  | none => none
  | some ms => mapO (fun m => (follow1 b m).map fun s => (m, s)) ms
def folD (p : Move × Body) : PyData := .tuple [sideD p.1, bodyD p.2]
abbrev R_followers : List PyData → List PyData → Prop := fun ds rs => ∃ b fs, ds = [bodyD b] ∧ b.length ≤ 900 ∧ followM b = some fs ∧ rs = fs.map folD
theorem ok_followers (T : Glo K mg tM aR) (h : Has K mg "followers" s_followers ["body"]) (G_done : OkAt P w K mg base 10 "done" ["body", "start", "end"] (Pu K R_done)) (G_shape_of : OkAt P w K mg base 5 "shape_of" ["body"] (Pu K R_shape_of))
    (G_moves_of : OkAt P w K mg base 10 "moves_of" ["body"] (Pu K R_moves_of)) : OkAt P w K mg base 11 "followers" ["body"] (NewSp K R_followers) := by
  refine h.ok sc_followers (nw_len fun ds r ⟨_, _, e, _⟩ => by rw [e]; rfl) (fun _ cdv A outer s H vs Q E f hr q => ?_)
  obtain ⟨ds, r, hv, ⟨b, fs, rfl, hlen, hf, rfl⟩, k⟩ := q
  have hu := hr.units
  have hu5 := hu65 hr
  refine ⟨_, (pss_one (ps_ret (pe_lc (own := [("move", 1)]) (g := gName 1) rfl sc_followers.nd (show PI _ _ _ (iTup K _) from pi_tup (pe_callO G_moves_of (hr.mono (by decide)) rfl (pa_cons (pv 0) pa_nil))) (blkOk_by (N := ["body", "move"]) (sc := defScope s_followers) (by decide +kernel)) (fun _ _ _ _ _ => (pg_name (i := 1) sc_followers.nd rfl (Or.inl rfl))) (fun _ _ _ _ _ => pts_nil) (fun _ _ _ _ _ => (pe_tup (pa_cons (pv 1) (pa_cons (pe_callO G_shape_of (hr.mono (by decide)) rfl (pa_cons (pe_callO G_done (hr.mono (by decide)) rfl (pa_cons (pv 0) (pa_cons (pe_ix (show IxR _ (rIxT K) from ix_tup) (pv 1) pe_int (fun _ _ => rfl)) (pa_cons (pe_ix (show IxR _ (rIxT K) from ix_tup) (pv 1) pe_int (fun _ _ => rfl)) pa_nil)))) pa_nil)) pa_nil))))))), ?_⟩
  have A0 : Al K H [.dat (bodyD b), .no] (L2.start ["body", "move"] vs) := al_start ["body", "move"] hv
  unfold followM at hf
  cases hm : movesM b with
  | none => rw [hm] at hf; cases hf
  | some ms =>
    rw [hm] at hf
    have hf' : mapO (fun m => (follow1 b m).map fun s => (m, s)) ms = some fs := hf
    obtain ⟨h1, rfl⟩ := mapO_get (d := (((0, 0), (0, 0)), [])) hf'
    have lms : ms.length < sizeLine := by
      unfold movesM at hm
      cases hfr : freesM b with
      | none => rw [hfr] at hm; cases hm
      | some fr =>
        rw [hfr] at hm
        cases hm
        have h2 := mvFold2_len (sq b) fr []
        obtain ⟨_, e⟩ := filO_get hfr
        have h3 : fr.length ≤ b.length := by rw [e]; exact List.length_filter_le _ _
        rw [List.length_nil] at h2
        have : (10000 : Nat) < sizeLine := by decide
        omega
    refine (en_tupF (xs := ms) (enc := sideD) (p := fun _ => true) (f := fun m => folD (((follow1 b m).map fun s => (m, s)).getD (((0, 0), (0, 0)), []))) lms (fun m _ => ?_) (ev_call (ea_cons (ev_var A0 rfl) ea_nil) ⟨b, ms, rfl, by omega, hm, rfl⟩) fun m hm' => turn_name A0 (wipe_set1 _ _) fun σ2 H1 s1 A1 => ⟨et_yes, fun _ => ?_⟩).is
      (es := (ms.map fun m => ((follow1 b m).map fun s => (m, s)).getD (((0, 0), (0, 0)), [])).map folD) (by rw [List.filter_eq_self.mpr (fun _ _ => rfl), List.map_map]; rfl) H (Same.refl _) _ fun p xs H2 hp s2 e2 d2 => k p xs H2 hp s2 e2 d2
    · show flat (.tuple [sideD _, bodyD _]) = true
      simp only [flat, flatAll, Bool.and_true, Bool.and_eq_true]
      exact ⟨rfl, body_flat _⟩
    · have hx := h1 m hm'
      cases hd : doneM b m.1 m.2 with
      | none =>
        unfold follow1 at hx
        rw [hd] at hx
        cases hx
      | some dd =>
        have e : ((follow1 b m).map fun s => (m, s)).getD (((0, 0), (0, 0)), []) = (m, shapeM dd) := by
          unfold follow1
          rw [hd]
          rfl
        rw [e]
        have ld : dd.length ≤ 1000 ∧ dd ≠ [] := by
          unfold doneM at hd
          split at hd
          · split at hd
            · cases hd
              have h2 := List.length_filter_le (fun a => !decide (a = m.1)) b
              refine ⟨?_, fun z => ?_⟩
              · rw [isort_length, List.length_append, List.length_singleton]; omega
              · have := congrArg List.length z
                rw [isort_length, List.length_append, List.length_singleton, List.length_nil] at this
                omega
            · cases hd
          · cases hd
        refine ev_tup (ea_cons (ev_var A1 rfl) (ea_cons (ev_call (ea_cons (ev_call (z := bodyD dd) (ea_cons (ev_var A1 rfl) (ea_cons (ev_op (ev_var A1 rfl) ev_int (rd_ixT (i := 0) (z := cellD m.1) rfl)) (ea_cons (ev_op (ev_var A1 rfl) ev_int (rd_ixT (i := 1) (z := cellD m.2) rfl)) ea_nil))) ⟨b, m.1, m.2, dd, rfl, hlen, hd, rfl⟩) ea_nil) ⟨dd, rfl, ld.1, ld.2, rfl⟩) ea_nil)) (hl := by show 2 ≤ sizeLine; decide)
end
end Z
set_option Elab.async false
set_option linter.all false
set_option maxRecDepth 100000
set_option maxHeartbeats 4000000
/-! ZM: is_between, check_number (no error), all_shapes. -/
namespace Z
open PySem PySem.Spec L2
open PyProof.Rows hiding St
section
variable {P : Program} {w : World} {K : PySem.W.Frag} {mg : Str → Option Value} {base : Heap} {tM : Tok} {aR : Addr}
theorem ev_chain {σ : St} {H : Hp} {ta tb tc : TE} {i j k : Int} (ha : Evd K ta σ H (.int i)) (hb : Evd K tb σ H (.int j)) (hc : Evd K tc σ H (.int k)) :
    Evd K (tChain (rI0 fun i j => .bl (decide (i ≤ j))) (rI0 fun i j => .bl (decide (i ≤ j))) ta tb tc) σ H (.bool (decide (i ≤ j) && decide (j ≤ k))) := fun H1 s Q q =>
  ha H1 s _ fun x H2 s2 hx => hb H2 (s.trans s2) _ fun y H3 s3 hy => ⟨i, j, dp_int hx, dp_int hy, _, rfl, by
    by_cases h : i ≤ j
    · rw [decide_eq_true h]
      refine iteT (hc H3 ((s.trans s2).trans s3) _ fun z H4 s4 hz => ⟨j, k, dp_int hy, dp_int hz, ?_⟩)
      have := q (.bl (decide (j ≤ k))) H4 ((s2.trans s3).trans s4)
      rw [decide_eq_true h, Bool.true_and] at this
      exact this (.bl _)
    · rw [decide_eq_false h]
      refine iteF ?_
      have := q (.bl false) H3 (s2.trans s3)
      rw [decide_eq_false h, Bool.false_and] at this
      exact this (.bl _)⟩
abbrev s_is_between : Stmt := top 7
theorem sc_is_between : FnScope ["value", "low", "high"] ["value", "low", "high"] (defScope s_is_between) := ⟨rfl, rfl, rfl, by decide +kernel, rfl, by decide +kernel, by decide +kernel⟩
def betw (d : PyData) (lo hi : Int) : Bool := match d with
  | .int i => decide (lo ≤ i) && decide (i ≤ hi)
  | _ => false
abbrev R_is_between : List PyData → PyData → Prop := fun ds r => ∃ d lo hi, ds = [d, .int lo, .int hi] ∧ Scal d ∧ r = .bool (betw d lo hi)
theorem ok_is_between (T : Glo K mg tM aR) (h : Has K mg "is_between" s_is_between ["value", "low", "high"]) (G_is_whole : OkAt P w K mg base 1 "is_whole" ["value"] (Pu K R_is_whole)) : OkAt P w K mg base 2 "is_between" ["value", "low", "high"] (Pu K R_is_between) := by
  refine h.ok sc_is_between (pu_len fun ds r ⟨_, _, _, e, _⟩ => by rw [e]; rfl) (fun _ cdv A outer s H vs Q E f hr q => ?_)
  obtain ⟨ds, r, hv, ⟨d, lo, hi, rfl, hs, rfl⟩, k⟩ := q
  have hu := hr.units
  have hu5 := hu65 hr
  refine ⟨_, (pss_one (ps_ret (pe_and (pe_callO G_is_whole (hr.mono (by decide)) rfl (pa_cons (pv 0) pa_nil)) (pe_one (pe_chain op_le op_le (pv 1) (pv 0) (pv 2)))))), ?_⟩
  have A0 : Al K H [.dat d, .dat (.int lo), .dat (.int hi)] (L2.start ["value", "low", "high"] vs) := al_start ["value", "low", "high"] hv
  have e : betw d lo hi = (whole d && (match d with | .int i => decide (lo ≤ i) && decide (i ≤ hi) | _ => false)) := by cases d <;> simp [betw, whole]
  rw [e] at k
  refine st_ret (ev_andV (ev_call (ea_cons (ev_var (i := 0) A0 rfl) ea_nil) ⟨d, rfl, hs, rfl⟩) fun hw => ?_) k
  cases d with
  | int i => exact ev_chain (ev_var (i := 1) A0 rfl) (ev_var (i := 0) A0 rfl) (ev_var (i := 2) A0 rfl)
  | _ => cases hw
abbrev s_check_number : Stmt := top 29
theorem sc_check_number : FnScope ["n", "most"] ["n", "most"] (defScope s_check_number) := ⟨rfl, rfl, rfl, by decide +kernel, rfl, by decide +kernel, by decide +kernel⟩
abbrev R_check_number : List PyData → PyData → Prop := fun ds r => ∃ n m : Int, ds = [.int n, .int m] ∧ 1 ≤ n ∧ n ≤ m ∧ r = .none
theorem ok_check_number (h : Has K mg "check_number" s_check_number ["n", "most"]) (G_is_between : OkAt P w K mg base 2 "is_between" ["value", "low", "high"] (Pu K R_is_between)) : OkAt P w K mg base 3 "check_number" ["n", "most"] (Pu K R_check_number) := by
  refine h.ok sc_check_number (pu_len fun ds r ⟨_, _, e, _⟩ => by rw [e]; rfl) (fun _ cdv A outer s H vs Q E f hr q => ?_)
  obtain ⟨ds, r, hv, ⟨n, m, rfl, h1, h2, rfl⟩, k⟩ := q
  have hu := hr.units
  have hu5 := hu65 hr
  refine ⟨_, (pss_one (ps_if (pt_not (pt_val (pe_callO G_is_between (hr.mono (by decide)) rfl (pa_cons (pv 0) (pa_cons pe_int (pa_cons (pv 1) pa_nil)))))) pss_never pss_nil)), ?_⟩
  have A0 : Al K H [.dat (.int n), .dat (.int m)] (L2.start ["n", "most"] vs) := al_start ["n", "most"] hv
  have e : betw (.int n) 1 m = true := by
    show (decide (1 ≤ n) && decide (n ≤ m)) = true
    rw [decide_eq_true h1, decide_eq_true h2]
    rfl
  exact st_ifF (et_not (a := true) (et_B ((ev_call (R := R_is_between) (z := .bool (betw (.int n) 1 m)) (ea_cons (ev_var (i := 0) A0 rfl) (ea_cons ev_int (ea_cons (ev_var (i := 1) A0 rfl) ea_nil))) ⟨.int n, 1, m, rfl, trivial, rfl⟩).is (by rw [e])))) fun H1 s1 => k _ H1 s1 .non
/-! ### all_shapes -/
def grow1 (b : Body) (acc : List Body) (o : Cell) : List Body := if memK b o = true then acc else insK acc (shapeM (isort cellLe (b ++ [o])))
def growC (b : Body) (acc : List Body) (c : Cell) : List Body := (nb c).foldl (grow1 b) acc
def growB (acc : List Body) (b : Body) : List Body := b.foldl (growC b) acc
def lapM (found : List Body) : List Body := found.foldl growB []
def lapsM : Nat → List Body
  | 0 => [[(0, 0)]]
  | k + 1 => lapM (lapsM k)
def shapesM (n : Nat) : List Body := isort bodyLe (lapsM (n - 1))
/-- what is asked of the bodies -/
def okB (bs : List Body) : Bool := decide (bs.length ≤ 900) && bs.all fun b => !b.isEmpty && decide (b.length ≤ 100)
theorem okB_of {bs : List Body} (h : okB bs = true) : bs.length ≤ 900 ∧ ∀ b ∈ bs, b ≠ [] ∧ b.length ≤ 100 := by
  unfold okB at h
  rw [Bool.and_eq_true, List.all_eq_true] at h
  refine ⟨of_decide_eq_true h.1, fun b hb => ?_⟩
  have := h.2 b hb
  rw [Bool.and_eq_true] at this
  refine ⟨fun z => ?_, of_decide_eq_true this.2⟩
  rw [z] at this
  cases this.1
theorem mono_foldl {α β : Type} {f : List β → α → List β} (h : ∀ a x, a.length ≤ (f a x).length) : ∀ (xs : List α) (a : List β), a.length ≤ (xs.foldl f a).length
  | [], a => Nat.le_refl _
  | x :: xs, a => Nat.le_trans (h a x) (mono_foldl h xs (f a x))
theorem mono_take {α β : Type} {f : List β → α → List β} (h : ∀ a x, a.length ≤ (f a x).length) (xs : List α) (i : Nat) (a : List β) : ((xs.take i).foldl f a).length ≤ (xs.foldl f a).length := by
  have e : xs.foldl f a = (xs.drop i).foldl f ((xs.take i).foldl f a) := by rw [← List.foldl_append, List.take_append_drop]
  rw [e]
  exact mono_foldl h _ _
theorem grow1_mono (b : Body) (acc : List Body) (o : Cell) : acc.length ≤ (grow1 b acc o).length := by
  unfold grow1
  split
  · exact Nat.le_refl _
  · exact (insK_len _ _).1
theorem growC_mono (b : Body) (acc : List Body) (c : Cell) : acc.length ≤ (growC b acc c).length := mono_foldl (grow1_mono b) _ _
theorem growB_mono (acc : List Body) (b : Body) : acc.length ≤ (growB acc b).length := mono_foldl (growC_mono b) _ _
abbrev s_all_shapes : Stmt := top 30
theorem sc_all_shapes : FnScope ["n", "found", "lap", "more", "body", "cell", "other"] ["n"] (defScope s_all_shapes) := ⟨rfl, rfl, rfl, by decide +kernel, rfl, by decide +kernel, by decide +kernel⟩
abbrev R_all_shapes : List PyData → PyData → Prop := fun ds r => ∃ n : Nat, ds = [.int n] ∧ 1 ≤ n ∧ n ≤ 7 ∧ (∀ k, k ≤ n - 1 → okB (lapsM k) = true) ∧ r = .tuple ((shapesM n).map bodyD)
theorem setK_get {α : Type} [DecidableEq α] {ks : List α} {j : Nat} {q : α × V} (h : (setK ks)[j]? = some q) : ks[j]? = some q.1 := by
  unfold setK at h
  obtain ⟨x, hx, rfl⟩ := map_at h
  exact hx
theorem ok_all_shapes (T : Glo K mg tM aR) (h : Has K mg "all_shapes" s_all_shapes ["n"]) (G_check_number : OkAt P w K mg base 3 "check_number" ["n", "most"] (Pu K R_check_number)) (G_beside : OkAt P w K mg base 4 "beside" ["cell"] (Pu K R_beside))
    (G_shape_of : OkAt P w K mg base 5 "shape_of" ["body"] (Pu K R_shape_of)) : OkAt P w K mg base 6 "all_shapes" ["n"] (Pu K R_all_shapes) := by
  refine h.ok sc_all_shapes (pu_len fun ds r ⟨_, e, _⟩ => by rw [e]; rfl) (fun _ cdv A outer s H vs Q E f hr q => ?_)
  obtain ⟨ds, r, hv, ⟨n, rfl, hn1, hn7, hok, rfl⟩, k⟩ := q
  have hu := hr.units
  have hu5 := hu65 hr
  refine ⟨_, (pss_cons (ps_expr (pe_callO G_check_number (hr.mono (by decide)) rfl (pa_cons (pv 0) (pa_cons (pe_glob (v := .int 7) rfl T.mostM ⟨_, rfl⟩) pa_nil))))
      (pss_cons (ps_set (i := 1) sc_all_shapes.nd rfl (Or.inl rfl) (pe_disp1 bodyK hu (pe_tup (pa_cons (pe_tup (pa_cons pe_int (pa_cons pe_int pa_nil))) pa_nil)) pe_bl))
      (pss_cons (ps_for PassesOwn.never rfl (pi_range1 rfl T.range (pa_cons (pe_op op_sub (pv 0) pe_int) pa_nil)) (pg_name (i := 2) sc_all_shapes.nd rfl (Or.inl rfl))
      (pss_cons (ps_set (i := 3) sc_all_shapes.nd rfl (Or.inl rfl) pe_newN)
      (pss_cons (ps_lock (ps_for PassesOwn.never rfl (show PI _ _ _ (iKeysN P w _) from pi_keysN (pv 1)) (pg_name (i := 4) sc_all_shapes.nd rfl (Or.inl rfl))
      (pss_one (ps_for PassesOwn.never rfl (show PI _ _ _ (iTup K _) from pi_tup (pv 4)) (pg_name (i := 5) sc_all_shapes.nd rfl (Or.inl rfl))
      (pss_one (ps_for PassesOwn.never rfl (show PI _ _ _ (iTup K _) from pi_tup (pe_callO G_beside (hr.mono (by decide)) rfl (pa_cons (pv 5) pa_nil))) (pg_name (i := 6) sc_all_shapes.nd rfl (Or.inl rfl))
      (pss_one (ps_if (pt_cmpR (show OpR _ _ (rNotInT K) from op_notInT hu5) (pv 6) (pv 4) rfl) (pss_one (ps_asg pe_bl (pg_sub (pv 3) (pe_callO G_shape_of (hr.mono (by decide)) rfl (pa_cons (pe_callTy (show CallR _ _ (rTupOf K) from call_tuple_of) (by rfl) T.tuple zb_tuple (pa_cons (pe_callB (show CallR _ _ (rSortT K) from cr_sortT hu) (by rfl) T.sorted zb_sorted (pa_cons (pe_op (show OpR _ _ (rCatT K) from op_catT) (pv 4) (pe_tup (pa_cons (pv 6) pa_nil))) pa_nil)) pa_nil)) pa_nil)) (show PSet _ (tSetN P w K bodyD) from set_N bodyK hu)))) pss_nil))))))))
      (pss_one (ps_set (i := 1) sc_all_shapes.nd rfl (Or.inl rfl) (pv 3))))))
      (pss_one (ps_ret (pe_callTy (show CallR _ _ (rTupOf K) from call_tuple_of) (by rfl) T.tuple zb_tuple (pa_cons (pe_callB (show CallR _ _ (rSortedN P w K bodyD) from cr_sortedN rfl hu) (by rfl) T.sorted zb_sorted (pa_cons (pv 1) pa_nil)) pa_nil))))))), ?_⟩
  have A0 : Al K H [.dat (.int n), .no, .no, .no, .no, .no, .no] (L2.start ["n", "found", "lap", "more", "body", "cell", "other"] vs) := al_start ["n", "found", "lap", "more", "body", "cell", "other"] hv
  dsimp only [tSeq]
  refine st_drop (ev_call (ea_cons (ev_var (i := 0) A0 rfl) (ea_cons (d := .int 7) ev_int ea_nil)) ⟨n, 7, rfl, by omega, by omega, rfl⟩) fun H1 s1 => ?_
  have A1 := A0.same s1
  have c00 : Evd K (tTup (tCons (tTup (tCons (tC (.int 0)) (tCons (tC (.int 0)) tNil))) tNil)) (L2.start ["n", "found", "lap", "more", "body", "cell", "other"] vs) H1 (bodyD [(0, 0)]) := ev_tup (ea_cons (ev_cell ev_int ev_int) ea_nil)
  refine st_setD (ed_one bodyK c00) fun d0 H2 hd0 s2 T2 => ?_
  have A2 := (A1.same s2).putR (v := .ref d0) 1
  refine st_forR (n := (n : Int) - 1) (ea_cons (ev_op (ev_var (i := 0) A2 rfl) ev_int rd_I0) ea_nil) (by omega) (by omega) fun H3 s3 => ?_
  have s03 := (s1.trans s2).trans s3
  have en : ((n : Int) - 1).toNat = n - 1 := by omega
  rw [en]
  let I : Nat → St → Hp → Prop := fun i σ' H' => ∃ d, H d = none ∧ Same H H' ∧ Al K H' [.dat (.int n), .raw (.ref d), .no, .no, .no, .no, .no] σ' ∧ Tab P w K bodyD H' d (setK (lapsM i))
  refine ⟨I, ⟨d0, s1.free hd0, s03, (A2.same s3).wk (by repeat (first | exact Wk.nil | apply Wk.keep | apply Wk.drop)), T2.same s3⟩, fun i σ' H' hi ⟨d, hd, sm, A3, T3⟩ => ?_, fun σ' H' ⟨d, hd, sm, A3, T3⟩ => ?_⟩
  · obtain ⟨hl1, hb1⟩ := okB_of (hok i (by omega))
    obtain ⟨hl2, hb2⟩ := okB_of (hok (i + 1) (by omega))
    show tSeq _ _ _ _ _
    dsimp only [tSeq]
    have A4 := A3.putR (v := .int (0 + (i : Int))) 2
    refine st_setD (ed_new (K := K) bodyK) fun m H4 hm s4 T4 => ?_
    have T3' := T3.same s4
    have nmd : m ≠ d := fun z => by
      subst z
      obtain ⟨o, e, _⟩ := T3.there
      rw [e] at hm; cases hm
    have A5 := (A4.same s4).putR (v := .ref m) 3
    have hm0 := sm.free hm
    refine st_forK (A5.getR (i := 1) rfl) T3' fun Hl tkl bl => ?_
    have Tm : Tab P w K bodyD Hl m (setK ([] : List Body)) := T4.keep tkl fun o e => bl _ _ e (by simp [nmd])
    have b0l : But [d, m] H Hl := ((Same.but (sm.trans s4)).trans (bl.mono (by simp)))
    let J : Nat → St → Hp → Prop := fun j σ2 H2 => Al K H2 [.dat (.int n), .raw (.ref d), .no, .raw (.ref m), .no, .no, .no] σ2 ∧ Tab P w K bodyD H2 m (setK (((lapsM i).take j).foldl growB [])) ∧ But [m] Hl H2
    have tkm : ∀ {Ha Hb : Hp} {kvs : List (Body × V)}, Tab P w K bodyD Ha m kvs → But [m] Ha Hb → TKp K Ha Hb := fun {Ha Hb kvs} Ta bb => bb.tk fun a ha o ho => by
      rw [List.mem_singleton] at ha
      subst ha
      obtain ⟨x', e', l'⟩ := tab_loose Ta
      rw [e'] at ho; cases ho; exact l'
    refine ⟨J, ⟨((A5.keepT tkl rfl)).wk (by repeat (first | exact Wk.nil | apply Wk.keep | apply Wk.drop)), Tm, But.refl⟩, fun j σ2 H2 ⟨_, _, bb⟩ => ⟨tkm Tm bb, fun o e => bb _ _ e (by simp [Ne.symm nmd])⟩, fun j q v5 σ2 H5 R B hq ⟨A6, T6, b6⟩ hv5 => ?_, fun σ2 H5 u ⟨A6, T6, b6⟩ hu6 tk6 => ?_⟩
    · have hb := setK_get hq
      obtain ⟨b, w0⟩ := q
      simp only at hb hv5
      have hbm : b ∈ lapsM i := List.mem_of_getElem? hb
      obtain ⟨hbn, hbl⟩ := hb1 b hbm
      have stp := take_succ_foldl (f := growB) (b := ([] : List Body)) hb
      have bnd : ((((lapsM i).take (j + 1)).foldl growB [])).length ≤ 900 := Nat.le_trans (mono_take growB_mono _ _ _) hl2
      rw [stp] at bnd
      generalize ((lapsM i).take j).foldl growB [] = acc at T6 stp bnd
      have A7 := A6.put hv5 4
      -- for cell in body
      refine st_forT (ds := b.map cellD) (ev_var (i := 4) A7 rfl) (cells_flat _) fun H8 s8 => ?_
      have T8 := T6.same s8
      let L : Nat → St → Hp → Prop := fun c σ3 H3 => Al K H3 [.dat (.int n), .raw (.ref d), .no, .raw (.ref m), .dat (bodyD b), .no, .no] σ3 ∧ Tab P w K bodyD H3 m (setK ((b.take c).foldl (growC b) acc)) ∧ But [m] H8 H3
      refine ⟨L, ⟨(A7.same s8).wk (by repeat (first | exact Wk.nil | apply Wk.keep | apply Wk.drop)), T8, But.refl⟩, fun c σ3 H3 ⟨_, _, bb⟩ => tkm T8 bb, fun c x v9 σ3 H9 hx ⟨A9, T9, b9⟩ hv9 => ?_, fun σ3 H9 ⟨A9, T9, b9⟩ => ?_⟩
      · obtain ⟨cc, hc, rfl⟩ := map_at hx
        have stp9 := take_succ_foldl (f := growC b) (b := acc) hc
        have bnd9 : (((b.take (c + 1)).foldl (growC b) acc)).length ≤ 900 := Nat.le_trans (mono_take (growC_mono b) _ _ _) bnd
        rw [stp9] at bnd9
        generalize (b.take c).foldl (growC b) acc = acc9 at T9 stp9 bnd9
        have A10 := A9.put hv9 5
        -- for other in beside(cell)
        refine st_forT (ds := (nb cc).map cellD) (ev_call (ea_cons (ev_var (i := 5) A10 rfl) ea_nil) ⟨cc, rfl, rfl⟩) (cells_flat _) fun H11 s11 => ?_
        have T11 := T9.same s11
        let M : Nat → St → Hp → Prop := fun o σ4 H4 => Al K H4 [.dat (.int n), .raw (.ref d), .no, .raw (.ref m), .dat (bodyD b), .no, .no] σ4 ∧ Tab P w K bodyD H4 m (setK (((nb cc).take o).foldl (grow1 b) acc9)) ∧ But [m] H11 H4
        refine ⟨M, ⟨(A10.same s11).wk (by repeat (first | exact Wk.nil | apply Wk.keep | apply Wk.drop)), T11, But.refl⟩, fun o σ4 H4 ⟨_, _, bb⟩ => tkm T11 bb, fun o y v12 σ4 H12 hy ⟨A12, T12, b12⟩ hv12 => ?_, fun σ4 H12 ⟨A12, T12, b12⟩ => ?_⟩
        · obtain ⟨oo, ho, rfl⟩ := map_at hy
          have stp12 := take_succ_foldl (f := grow1 b) (b := acc9) ho
          have bnd12 : ((((nb cc).take o).foldl (grow1 b) acc9)).length ≤ 900 := Nat.le_trans (mono_take (grow1_mono b) _ _ _) bnd9
          generalize ((nb cc).take o).foldl (grow1 b) acc9 = acc12 at T12 stp12 bnd12
          have A13 := A12.put hv12 6
          refine st_if (et_test (ev_op (ev_var (i := 6) A13 rfl) (ev_var (i := 4) A13 rfl) (rd_notInT (cell_shaped _) (body_shaped _) rfl))) (fun hb13 H14 s14 => ?_) fun hb13 H14 s14 => ?_
          · rw [any_cells] at hb13
            have nm : ¬ memK b oo = true := fun z => by rw [z] at hb13; cases hb13
            have e12 : grow1 b acc12 oo = insK acc12 (shapeM (isort cellLe (b ++ [oo]))) := by
              unfold grow1
              rw [if_neg nm]
            have A14 := A13.same s14
            have al := cells_ok (b ++ [oo])
            have lz : (b ++ [oo]).length ≤ 1000 := by rw [List.length_append, List.length_singleton]; omega
            have key : Evd K (tCall (Pu K R_shape_of) [] E0 (tCons (tCB (rTupOf K) (tCons (tCB (rSortT K) (tCons (tOp (rCatT K) (tVar 4) (tTup (tCons (tVar 6) tNil))) tNil)) tNil)) tNil)) (σ4.set 6 (some v12)) H14 (bodyD (shapeM (isort cellLe (b ++ [oo])))) := by
              refine ev_call (ea_cons (ev_cb (z := bodyD (isort cellLe (b ++ [oo]))) (ea_cons ((en_sortT (ds := (b ++ [oo]).map cellD) ?_ al.1 al.2.1 al.2.2).is (sort_cells _)).d ea_nil) rc_tup) ea_nil) ⟨_, rfl, by rw [isort_length]; exact lz, fun z => ?_, rfl⟩
              · rw [List.map_append]
                refine ev_op (ev_var (i := 4) A14 rfl) (ev_tup (ds := [oo].map cellD) (ea_cons (ev_var (i := 6) A14 rfl) ea_nil) (by show 1 ≤ sizeLine; decide)) (rd_catT ?_ (fun z => hbn (List.map_eq_nil_iff.mp z)) (by simp))
                rw [List.length_map, List.length_map, List.length_singleton]
                have : (1000 : Nat) ≤ sizeLine := by decide
                omega
              · have := congrArg List.length z
                rw [isort_length, List.length_append, List.length_singleton, List.length_nil] at this
                omega
            refine st_put ev_bl (er_var (i := 3) A14 rfl) key (T12.same s14) (by rw [setK_len]; exact small (by omega)) fun v15 H15 u15 s15 hv15 hu15 T15 => ?_
            cases hv15
            rw [setK_put, ← e12, ← stp12] at T15
            obtain ⟨od, hod, lod⟩ := tab_loose (T12.same s14)
            have q15 := s15 _ _ hod
            have tk15 : TKp K H15 (upd H15 m u15) := TKp.upd q15 lod
            exact ⟨((A14.same s15).keepT tk15 (by simp [flatE, body_flat, cell_flat, flat, flatAll])).wk (by repeat (first | exact Wk.nil | apply Wk.keep | apply Wk.drop)), T15, ((b12.trans (Same.but s14)).trans (Same.but s15)).upd (.inl (by simp))⟩
          · rw [any_cells] at hb13
            have nm : memK b oo = true := by cases z : memK b oo; rw [z] at hb13; cases hb13; rfl
            have e12 : grow1 b acc12 oo = acc12 := by
              unfold grow1
              rw [if_pos nm]
            exact ⟨(A13.same s14).wk (by repeat (first | exact Wk.nil | apply Wk.keep | apply Wk.drop)), by rw [stp12, e12]; exact T12.same s14, b12.trans (Same.but s14)⟩
        · rw [List.length_map, List.take_length] at T12
          refine ⟨A12.wk (by repeat (first | exact Wk.nil | apply Wk.keep | apply Wk.drop)), by rw [stp9]; exact T12, (b9.trans (Same.but s11)).trans b12⟩
      · rw [List.length_map, List.take_length] at T9
        exact ⟨A9.wk (by repeat (first | exact Wk.nil | apply Wk.keep | apply Wk.drop)), by rw [stp]; exact T9, (b6.trans (Same.but s8)).trans b9⟩
    · rw [setK_len, List.take_length] at T6
      have A7 := A6.keepT tk6 rfl
      have T7 := T6.keep tk6 fun o e => by rw [upd_ne nmd]; exact e
      refine st_setR (er_var (i := 3) A7 rfl) fun H8 s8 => ⟨m, hm0, ?_, ((A7.same s8).putR (v := .ref m) 1).wk (by repeat (first | exact Wk.nil | apply Wk.keep | apply Wk.drop)), T7.same s8⟩
      refine ((((b0l.trans (b6.mono (by simp))).upd (.inl (by simp))).trans (Same.but s8))).same fun x hx => ?_
      simp only [List.mem_cons, List.not_mem_nil, or_false] at hx
      rcases hx with rfl | rfl
      · exact hd
      · exact hm0
  · obtain ⟨hl1, hb1⟩ := okB_of (hok (n - 1) (Nat.le_refl _))
    have e1 : (setK (lapsM (n - 1))).map (fun p => bodyD p.1) = (lapsM (n - 1)).map bodyD := setK_keys _
    have bo := bodies_ok fun b hb => (hb1 b hb).1
    refine st_ret (ev_cb (ea_cons ((en_sortedN (er_var (i := 1) A3 rfl) T3 (by rw [e1]; exact bo)).is (by rw [e1]; exact sort_bodies _)).d ea_nil) rc_tup) fun v5 H5 s5 hv5 => k v5 H5 (sm.trans s5) hv5
end
end Z
set_option Elab.async false
set_option linter.all false
set_option maxRecDepth 100000
set_option maxHeartbeats 4000000
/-! ZN: lists of lists, tables of lists; waves. -/
namespace Z
open PySem PySem.Spec L2
open PyProof.Rows hiding St
theorem paired_get' {α β : Type} {F : α → β → Prop} {xs : List α} {ys : List β} (h : Paired F xs ys) {i : Nat} {y : β} (e : ys[i]? = some y) : ∃ x, xs[i]? = some x ∧ F x y := by
  induction h generalizing i with
  | nil => simp at e
  | cons r t ih =>
    cases i with
    | zero => simp at e; subst e; exact ⟨_, rfl, r⟩
    | succ i =>
      obtain ⟨x, h1, h2⟩ := ih (i := i) (by simpa using e)
      exact ⟨x, by simpa using h1, h2⟩
theorem paired_mono {α β : Type} {F G : α → β → Prop} (h : ∀ a b, F a b → G a b) : ∀ {xs : List α} {ys : List β}, Paired F xs ys → Paired G xs ys
  | _, _, .nil => .nil
  | _, _, .cons r t => .cons (h _ _ r) (paired_mono h t)
theorem atI_last {α : Type} (xs : List α) (x : α) : atI (xs ++ [x]) (-1) = some x := by
  unfold atI ixN
  have h1 : ¬ (0 : Int) ≤ -1 := by decide
  have h2 : -(((xs ++ [x]).length : Nat) : Int) ≤ -1 := by rw [List.length_append, List.length_singleton]; omega
  have h3 : (-1 + (((xs ++ [x]).length : Nat) : Int)).toNat = xs.length := by rw [List.length_append, List.length_singleton]; omega
  rw [if_neg h1, if_pos h2, h3]
  simp
theorem cut_last (xs : List V) (x : V) : cutV (xs ++ [x]) none (some (-1)) = xs := by
  unfold cutV HT.sIx
  have h : ((-1 : Int) + (((xs ++ [x]).length : Nat) : Int)).toNat = xs.length := by rw [List.length_append, List.length_singleton]; omega
  show List.take ((if (-1 : Int) < 0 then ((-1 : Int) + (((xs ++ [x]).length : Nat) : Int)).toNat else _) - 0) (List.drop 0 (xs ++ [x])) = xs
  rw [if_pos (by decide), h]
  simp
section
variable {P : Program} {w : World} {K : PySem.W.Frag} {mg : Str → Option Value} {base : Heap} {tM : Tok} {aR : Addr} {H H' : Hp} {σ : St}
theorem OwnL.but {S : List Addr} {l : Addr} {ds : List PyData} (h : OwnL K H l ds) (fl : flatAll ds = true) (b : But S H H') (n : l ∉ S) (tk : TKp K H H') : OwnL K H' l ds := h.keep fl tk fun o e => b _ _ e n
/-- at a: a list of bodies -/
def RowAt (K : PySem.W.Frag) (H : Hp) (v : V) (r : List Body) : Prop := ∃ a, v = .ref a ∧ OwnL K H a (r.map bodyD)
/-- at f: a list of lists of bodies -/
def LL (K : PySem.W.Frag) (H : Hp) (f : Addr) (rows : List (List Body)) : Prop := ∃ xs, H f = some (.lst xs) ∧ Paired (fun v r => ∃ a, v = .ref a ∧ a ≠ f ∧ OwnL K H a (r.map bodyD)) xs rows
theorem LL.same {f : Addr} {rows : List (List Body)} (h : LL K H f rows) (s : Same H H') : LL K H' f rows := by
  obtain ⟨xs, e, p⟩ := h
  exact ⟨xs, s _ _ e, paired_mono (fun v r ⟨a, h1, h2, h3⟩ => ⟨a, h1, h2, h3.same s⟩) p⟩
theorem LL.but {α : Type} {enc : α → PyData} {s f : Addr} {kvs : List (α × V)} {rows : List (List Body)} (h : LL K H f rows) (T : Tab P w K enc H s kvs) (b : But [s] H H') (tk : TKp K H H') : LL K H' f rows := by
  obtain ⟨xs, e, p⟩ := h
  have nf : f ≠ s := fun z => by
    obtain ⟨o, e2, n⟩ := T.there
    subst z
    rw [e] at e2; cases e2; cases n
  exact ⟨xs, b _ _ e (by simp [nf]), paired_mono (fun v r ⟨a, h1, h2, h3⟩ => ⟨a, h1, h2, h3.but (flatAll_bodies _) b (by simp [tab_ne T h3]) tk⟩) p⟩
theorem LL.snoc {f p : Addr} {rows : List (List Body)} {r : List Body} {xs : List V} (h : LL K H f rows) (e : H f = some (.lst xs)) (n : p ≠ f) (hp : OwnL K H p (r.map bodyD)) : LL K (upd H f (.lst (xs ++ [.ref p]))) f (rows ++ [r]) := by
  obtain ⟨ys, e2, q⟩ := h
  rw [e] at e2
  cases e2
  refine ⟨_, upd_same, Paired.snoc (paired_mono (fun v r ⟨a, h1, h2, h3⟩ => ⟨a, h1, h2, h3.upd (flatAll_bodies _) e rfl h2⟩) q) ⟨p, rfl, n, hp.upd (flatAll_bodies _) e rfl n⟩⟩
theorem LL.last {f : Addr} {rows : List (List Body)} {r : List Body} (h : LL K H f (rows ++ [r])) : ∃ xs a, H f = some (.lst (xs ++ [.ref a])) ∧ xs.length = rows.length ∧ a ≠ f ∧ OwnL K H a (r.map bodyD) ∧ Paired (fun v r => ∃ a, v = .ref a ∧ a ≠ f ∧ OwnL K H a (r.map bodyD)) xs rows := by
  obtain ⟨xs, e, p⟩ := h
  have hs : ∀ {xs : List V} {rows : List (List Body)}, Paired (fun v r => ∃ a, v = .ref a ∧ a ≠ f ∧ OwnL K H a (r.map bodyD)) xs (rows ++ [r]) → ∃ ys a, xs = ys ++ [.ref a] ∧ a ≠ f ∧ OwnL K H a (r.map bodyD) ∧ Paired (fun v r => ∃ a, v = .ref a ∧ a ≠ f ∧ OwnL K H a (r.map bodyD)) ys rows := by
    intro xs rows p
    induction rows generalizing xs with
    | nil =>
      cases p with
      | cons h t =>
        cases t
        obtain ⟨a, rfl, h2, h3⟩ := h
        exact ⟨[], a, rfl, h2, h3, .nil⟩
    | cons q rows ih =>
      cases p with
      | cons h t =>
        obtain ⟨ys, a, rfl, h2, h3, h4⟩ := ih t
        exact ⟨_ :: ys, a, rfl, h2, h3, .cons h h4⟩
  obtain ⟨ys, a, rfl, h2, h3, h4⟩ := hs p
  exact ⟨ys, a, e, h4.length, h2, h3, h4⟩
/-- f[-1] -/
theorem er_last {tl : TE} {f : Addr} {xs : List V} {v : V} (hl : Evr tl σ H (.ref f)) (h : H f = some (.lst (xs ++ [v]))) : Evr (tOp (rIxL K) tl (tUn (rU fun i => .int (-i)) (tC (.int 1)))) σ H v := fun H1 s Q q =>
  hl H1 s _ fun H2 s2 => ⟨1, rfl, f, xs ++ [v], -1, v, rfl, rfl, .inl (.inl (s2 _ _ (s _ _ h))), atI_last _ _, q H2 s2⟩
/-- the truth of a list of bodies -/
theorem et_row {te : TE} {a : Addr} {ds : List PyData} (h : Evr te σ H (.ref a)) (o : OwnL K H a ds) : EvT (fun σ H Q => te σ H fun x H' => ∃ k, TruV K x H' k ∧ Q k H') σ H (!ds.isEmpty) := et_list (ev_of h o.dp)
/-- a table of lists of bodies -/
abbrev NX2 := List (Body × List Body)
def NxTab (P : Program) (w : World) (K : PySem.W.Frag) (H : Hp) (d : Addr) (nx : NX2) : Prop := ∃ kvs, Tab P w K bodyD H d kvs ∧ Paired (fun kv r => kv.1 = r.1 ∧ RowAt K H kv.2 r.2) kvs nx
theorem NxTab.same {d : Addr} {nx : NX2} (h : NxTab P w K H d nx) (s : Same H H') : NxTab P w K H' d nx := by
  obtain ⟨kvs, T, p⟩ := h
  exact ⟨kvs, T.same s, paired_mono (fun kv r ⟨h1, a, h2, h3⟩ => ⟨h1, a, h2, h3.same s⟩) p⟩
def lookM (nx : NX2) (b : Body) : Option (List Body) := (nx.find? fun p => decide (p.1 = b)).map (·.2)
theorem NxTab.look {d : Addr} {nx : NX2} {b : Body} {os : List Body} (h : NxTab P w K H d nx) (e : lookM nx b = some os) : ∃ kvs a, Tab P w K bodyD H d kvs ∧ valV kvs b = some (.ref a) ∧ OwnL K H a (os.map bodyD) := by
  obtain ⟨kvs, T, p⟩ := h
  refine ⟨kvs, ?_⟩
  have main : ∀ {kvs : List (Body × V)} {nx : NX2}, Paired (fun kv r => kv.1 = r.1 ∧ RowAt K H kv.2 r.2) kvs nx → lookM nx b = some os → ∃ a, valV kvs b = some (.ref a) ∧ OwnL K H a (os.map bodyD) := by
    intro kvs nx p
    induction p with
    | nil => intro e; cases e
    | @cons kv r kvs nx h t ih =>
      intro e
      unfold lookM at e ih
      obtain ⟨h1, a, h2, h3⟩ := h
      by_cases z : r.1 = b
      · rw [List.find?_cons, decide_eq_true z] at e
        cases e
        exact ⟨a, by rw [valV_pos (h1.trans z), h2], h3⟩
      · rw [List.find?_cons, decide_eq_false z] at e
        rw [valV_neg fun q => z (h1.symm.trans q)]
        exact ih e
  obtain ⟨a, h1, h2⟩ := main p e
  exact ⟨a, T, h1, h2⟩
/-! ### waves -/
def addW (s : List Body × List Body) (o : Body) : List Body × List Body := if memK s.1 o = true then s else (s.1 ++ [o], s.2 ++ [o])
def layerM (nx : NX2) : List Body → List Body × List Body → Option (List Body × List Body)
  | [], s => some s
  | one :: rest, s => match lookM nx one with
    | none => none
    | some os => layerM nx rest (os.foldl addW s)
abbrev WS := List Body × List (List Body)
def wvCond (s : WS) : Bool := match s.2 with
  | [] => true
  | last :: _ => !last.isEmpty
def wvStep (nx : NX2) (s : WS) : WS := match s.2 with
  | [] => s
  | last :: _ => match layerM nx last (s.1, []) with
    | none => s
    | some z => (z.1, isort bodyLe z.2 :: s.2)
def wavesM (nx : NX2) (b : Body) : Option (List (List Body)) := match runW wvCond (wvStep nx) 70 ([b], [[b]]) with
  | none => none
  | some s => if (decide (s.1.length ≤ 900) && decide (s.2.length ≤ 900)) = true then some s.2.tail.reverse else none
theorem runW_stuck {S : Type} {cond : S → Bool} {step : S → S} {s : S} (hc : cond s = true) (hs : step s = s) : ∀ n, runW cond step n s = none
  | 0 => by unfold runW; rw [if_pos hc]
  | n + 1 => by unfold runW; rw [if_pos hc, hs]; exact runW_stuck hc hs n
theorem addW_len (s : List Body × List Body) (o : Body) : s.1.length ≤ (addW s o).1.length ∧ (addW s o).2.length + s.1.length = s.2.length + (addW s o).1.length := by
  unfold addW
  split
  · exact ⟨Nat.le_refl _, rfl⟩
  · simp only [List.length_append, List.length_singleton]
    omega
theorem addF_len : ∀ (os : List Body) (s : List Body × List Body), s.1.length ≤ (os.foldl addW s).1.length ∧ (os.foldl addW s).2.length + s.1.length = s.2.length + (os.foldl addW s).1.length
  | [], s => ⟨Nat.le_refl _, rfl⟩
  | o :: os, s => by
    have h1 := addF_len os (addW s o)
    have h2 := addW_len s o
    rw [List.foldl_cons]
    omega
theorem layer_len {nx : NX2} : ∀ {bs : List Body} {s z : List Body × List Body}, layerM nx bs s = some z → s.1.length ≤ z.1.length ∧ z.2.length + s.1.length = s.2.length + z.1.length
  | [], s, z, h => by cases h; exact ⟨Nat.le_refl _, rfl⟩
  | b :: bs, s, z, h => by
    unfold layerM at h
    cases hl : lookM nx b with
    | none => rw [hl] at h; cases h
    | some os =>
      rw [hl] at h
      have h1 := layer_len h
      have h2 := addF_len os s
      omega
theorem wvStep_len (nx : NX2) (s : WS) : s.1.length ≤ (wvStep nx s).1.length ∧ s.2.length ≤ (wvStep nx s).2.length := by
  unfold wvStep
  split
  · exact ⟨Nat.le_refl _, Nat.le_refl _⟩
  · split
    · exact ⟨Nat.le_refl _, Nat.le_refl _⟩
    · rename_i hz
      have := layer_len hz
      simp only [List.length_cons] at this ⊢
      omega
theorem wvRun_len {nx : NX2} : ∀ {n : Nat} {s r : WS}, runW wvCond (wvStep nx) n s = some r → s.1.length ≤ r.1.length ∧ s.2.length ≤ r.2.length
  | 0, s, r, h => by
    unfold runW at h
    split at h
    · cases h
    · cases h; exact ⟨Nat.le_refl _, Nat.le_refl _⟩
  | n + 1, s, r, h => by
    unfold runW at h
    split at h
    · have h1 := wvRun_len h
      have h2 := wvStep_len nx s
      omega
    · cases h; exact ⟨Nat.le_refl _, Nat.le_refl _⟩
def okN (nx : NX2) : Bool := nx.all fun p => p.2.all fun o => !o.isEmpty
def rowsD (rows : List (List Body)) : PyData := .list (rows.map fun r => .list (r.map bodyD))
def sp_waves (P : Program) (w : World) (K : PySem.W.Frag) : Sp := fun vs H Q _ => ∃ (d : Addr) (v : V) (nx : NX2) (b : Body) (rows : List (List Body)), vs = [.ref d, v] ∧ NxTab P w K H d nx ∧ Dp K H v (bodyD b) ∧ okN nx = true ∧ b ≠ [] ∧ wavesM nx b = some rows ∧
  ∀ v' H', Same H H' → Dp K H' v' (rowsD rows) → Q v' H'
theorem layer_ne {nx : NX2} (h : okN nx = true) : ∀ {bs : List Body} {s z : List Body × List Body}, layerM nx bs s = some z → (∀ o ∈ s.2, o ≠ []) → ∀ o ∈ z.2, o ≠ []
  | [], s, z, e, hs => by cases e; exact hs
  | b :: bs, s, z, e, hs => by
    unfold layerM at e
    cases hl : lookM nx b with
    | none => rw [hl] at e; cases e
    | some os =>
      rw [hl] at e
      refine layer_ne h e ?_
      have hos : ∀ o ∈ os, o ≠ [] := fun o ho z => by
        unfold lookM at hl
        obtain ⟨p, hp, rfl⟩ := Option.map_eq_some_iff.mp hl
        have hm := List.mem_of_find?_eq_some hp
        unfold okN at h
        rw [List.all_eq_true] at h
        have := h p hm
        rw [List.all_eq_true] at this
        have := this o ho
        rw [z] at this
        cases this
      clear e hl
      induction os generalizing s with
      | nil => exact hs
      | cons o os ih =>
        refine ih (s := addW s o) ?_ fun x hx => hos x (List.mem_cons_of_mem _ hx)
        unfold addW
        split
        · exact hs
        · intro x hx
          rcases List.mem_append.mp hx with q | q
          · exact hs x q
          · rw [List.mem_singleton] at q
            rw [q]
            exact hos o List.mem_cons_self
theorem par_open {i j : Nat} {ta : TE} {tr : TA} {D : Ends} (h : ta σ H fun x H1 => tr σ H1 fun xs H2 => ∃ v w, x :: xs = [v, w] ∧ D.nx ((σ.set i (some v)).set j (some w)) H2) : tPar i j (tCons ta tr) D σ H := h
theorem cons_open {ta : TE} {tr : TA} {Q : List V → Hp → Prop} (h : ta σ H fun x H1 => tr σ H1 fun xs H2 => Q (x :: xs) H2) : tCons ta tr σ H Q := h
theorem lst_open {tA : TA} {Q : VK} (h : tA σ H fun xs H1 => xs.length ≤ sizeLine ∧ ∀ p, H1 p = none → Q (.ref p) (upd H1 p (.lst xs))) : tLst tA σ H Q := h
/-- seen, found = {body: True}, [[body]] -/
theorem wv_init {D : Ends} {b : Body} {es : List Slot} (A0 : Al K H es σ) (hb : es[1]? = some (.dat (bodyD b)))
    (q : ∀ sd fo H1, H sd = none → H fo = none → Same H H1 → Tab P w K bodyD H1 sd (setK [b]) → LL K H1 fo [[b]] → D.nx ((σ.set 2 (some (.ref sd))).set 3 (some (.ref fo))) H1) :
    tPar 2 3 (tCons (tDisp1 P w K bodyD (tVar 1) (tC (.bl true))) (tCons (tLst (tCons (tLst (tCons (tVar 1) tNil)) tNil)) tNil)) D σ H :=
  by
    refine par_open ?_
    refine ed_one bodyK (ev_var (i := 1) A0 hb) H (Same.refl _) _ fun sd H1 hsd s1 T1 => ?_
    refine cons_open (lst_open (cons_open ?_))
    refine en_lst (ea_cons (ev_var (i := 1) (A0.same s1) hb) ea_nil) (by show 1 ≤ sizeLine; decide) H1 (Same.refl _) _ fun a0 ys0 H2 ha0 s2 e2 d2 => ?_
    refine ⟨by show 1 ≤ sizeLine; decide, fun fo hfo => ⟨.ref sd, .ref fo, rfl, ?_⟩⟩
    have n0f : a0 ≠ fo := ne_of_none e2 hfo
    have s23 : Same H2 (upd H2 fo (.lst [.ref a0])) := Same.new hfo
    exact q sd fo _ hsd ((s1.trans s2).free hfo) ((s1.trans s2).trans s23) ((T1.same s2).same s23) ⟨_, upd_same, .cons ⟨a0, rfl, n0f, OwnL.same ⟨ys0, e2, d2⟩ s23⟩ .nil⟩
/-- for x in an own list -/
theorem st_forO {te : TE} {g : TG} {tb : TS} {D : Ends} {a : Addr} {ds : List PyData} (h : Evr te σ H (.ref a)) (o : OwnL K H a ds) (fl : flatAll ds = true)
    (k : ∀ H1, Same H H1 → ∃ I : Nat → St → Hp → Prop, I 0 σ H1 ∧ (∀ i σ' H', I i σ' H' → TKp K H1 H' ∧ ∀ x, H1 a = some x → H' a = some x) ∧
      (∀ i d v σ' H', ds[i]? = some d → I i σ' H' → Dp K H' v d → g v σ' H' fun σ2 H2 => tb { D with nx := I (i + 1), ct := I (i + 1), bk := D.nx } σ2 H2) ∧ ∀ σ' H', I ds.length σ' H' → D.nx σ' H') : tFor (iList K te) g tb D σ H :=
  h H (Same.refl _) _ fun H1 s => by
    obtain ⟨xs, e, ha⟩ := o.same s
    obtain ⟨I, i0, tk, turn, fin⟩ := k H1 s
    refine ⟨a, rfl, ⟨xs, SqL.lst e⟩, for_list (K := K) (a := a) (xs := xs) I i0 (fun i σ' H' _ q => SqL.lst ((tk i σ' H' q).2 _ e)) (fun i v σ' H' hv q => ?_) (by rw [ha.length]; exact fin)⟩
    obtain ⟨d, hd, dv⟩ := (DpAll.keepT (tk i σ' H' q).1 _ _ fl ha).get hv
    exact turn i d v σ' H' hd q dv
abbrev wvBody (P : Program) (w : World) (K : PySem.W.Frag) : TS := tSeq (tAsg (tLst tNil) (gName 4)) (tSeq (tFor (iList K (tOp (rIxL K) (tVar 3) (tUn (rU fun i => .int (-i)) (tC (.int 1))))) (gName 5) (tFor (iList K (tGetN P w K bodyD (tVar 0) (tVar 5))) (gName 6)
  (tIfS (tTest (tOp (rNotInN P w K bodyD) (tVar 6) (tVar 2))) (tSeq (tAsg (tC (.bl true)) (gSub (tVar 2) (tVar 6) (tSetN P w K bodyD))) (tDrop (tBM K "list" rAppend (tVar 4) (tCons (tVar 6) tNil)))) tNext)))
  (tDrop (tBM K "list" rAppend (tVar 3) (tCons (tCB (rSortD K) (tCons (tVar 4) tNil)) tNil))))
theorem layer_take {nx : NX2} : ∀ {bs : List Body} {s z : List Body × List Body}, layerM nx bs s = some z → ∀ i, ∃ y, layerM nx (bs.take i) s = some y ∧ ∀ b, bs[i]? = some b → ∃ os, lookM nx b = some os ∧ layerM nx (bs.take (i + 1)) s = some (os.foldl addW y)
  | [], s, z, h, i => ⟨s, by rw [List.take_nil]; rfl, fun b hb => by simp at hb⟩
  | b :: bs, s, z, h, i => by
    unfold layerM at h
    cases hl : lookM nx b with
    | none => rw [hl] at h; cases h
    | some os =>
      rw [hl] at h
      cases i with
      | zero =>
        refine ⟨s, rfl, fun b' hb => ?_⟩
        simp at hb
        subst hb
        refine ⟨os, hl, ?_⟩
        show layerM nx [b] s = _
        unfold layerM
        rw [hl]
        rfl
      | succ i =>
        obtain ⟨y, h1, h2⟩ := layer_take h i
        refine ⟨y, ?_, fun b' hb => ?_⟩
        · rw [List.take_succ_cons]
          unfold layerM
          rw [hl]
          exact h1
        · obtain ⟨os', h3, h4⟩ := h2 b' (by simpa using hb)
          refine ⟨os', h3, ?_⟩
          rw [List.take_succ_cons]
          unfold layerM
          rw [hl]
          exact h4
theorem layer_rest {nx : NX2} : ∀ {bs cs : List Body} {s y z : List Body × List Body}, layerM nx (bs ++ cs) s = some z → layerM nx bs s = some y → layerM nx cs y = some z
  | [], cs, s, y, z, h, e => by cases e; exact h
  | b :: bs, cs, s, y, z, h, e => by
    unfold layerM at e
    rw [List.cons_append] at h
    unfold layerM at h
    cases hl : lookM nx b with
    | none => rw [hl] at h; cases h
    | some os =>
      rw [hl] at h e
      exact layer_rest h e
theorem wv_turn {D : Ends} {d sd fo : Addr} {nx : NX2} {seen : List Body} {last : List Body} {rest : List (List Body)} {z : List Body × List Body}
    (A5 : Al K H [.raw (.ref d), .no, .raw (.ref sd), .raw (.ref fo), .no, .no, .no] σ) (hnx : NxTab P w K H d nx) (nds : d ≠ sd) (T5 : Tab P w K bodyD H sd (setK seen)) (ll5 : LL K H fo (rest ++ [last])) (hz : layerM nx last (seen, []) = some z)
    (lz : z.1.length ≤ 900) (lr : rest.length ≤ 900) (hok : okN nx = true)
    (post : ∀ σ' H', Al K H' [.raw (.ref d), .no, .raw (.ref sd), .raw (.ref fo), .no, .no, .no] σ' → But [sd, fo] H H' → Tab P w K bodyD H' sd (setK z.1) → LL K H' fo (rest ++ [last] ++ [isort bodyLe z.2]) → D.nx σ' H') : wvBody P w K D σ H := by
  obtain ⟨xs5, a4, ef5, lx5, n4f, own5, pr5⟩ := ll5.last
  have lz2 : z.2.length ≤ 900 := by
    have := (layer_len hz).2
    simp only [List.length_nil] at this
    omega
  dsimp only [wvBody, tSeq]
  refine st_nil fun l H6 hl0 e6 => ?_
  have s6 : Same H H6 := e6 ▸ Same.new hl0
  have A6 := (A5.same s6).putR (v := .ref l) 4
  have T6 := T5.same s6
  have ll6 := ll5.same s6
  have own6 := own5.same s6
  have ef6 := s6 _ _ ef5
  have ol6 : OwnL K H6 l (([] : List Body).map bodyD) := ⟨[], by rw [e6]; exact upd_same, .nil⟩
  have nls : l ≠ sd := tab_ne T6 ol6
  have nlf : l ≠ fo := fun q => by rw [q, ef5] at hl0; cases hl0
  have nla : l ≠ a4 := fun q => by
    obtain ⟨y, e, _⟩ := own5
    rw [q, e] at hl0; cases hl0
  have nas : a4 ≠ sd := tab_ne T6 own6
  have nfs : fo ≠ sd := fun q => by
    obtain ⟨o, e, n⟩ := T6.there
    rw [q, e] at ef6; cases ef6; cases n
  -- for one in found[-1]
  refine st_forO (ds := last.map bodyD) (er_last (er_var (i := 3) A6 rfl) ef6) own6 (flatAll_bodies _) fun H7 s7 => ?_
  have A7 := A6.same s7
  have T7 := T6.same s7
  have ol7 := ol6.same s7
  have own7 := own6.same s7
  have tk7 : ∀ {H' : Hp}, But [sd, l] H7 H' → TKp K H7 H' := fun {H'} bb => bb.tk fun x hx o ho => by
    simp only [List.mem_cons, List.not_mem_nil, or_false] at hx
    rcases hx with rfl | rfl
    · obtain ⟨x', e', l'⟩ := tab_loose T7
      rw [e'] at ho; cases ho; exact l'
    · obtain ⟨x', e', _⟩ := ol7
      rw [e'] at ho; cases ho; rfl
  have s57 := s6.trans s7
  have but0 : ∀ {H' : Hp}, But [sd, l] H7 H' → But [sd] H H' := fun {H'} bb => ((Same.but s57).trans bb).less fun x hx => by
    simp only [List.mem_cons, List.not_mem_nil, or_false] at hx
    rcases hx with rfl | rfl
    · exact .inl (by simp)
    · exact .inr hl0
  have tk0 : ∀ {H' : Hp}, But [sd] H H' → TKp K H H' := fun {H'} bb => bb.tk fun x hx o ho => by
    rw [List.mem_singleton] at hx
    subst hx
    obtain ⟨x', e', l'⟩ := tab_loose T5
    rw [e'] at ho; cases ho; exact l'
  let J : Nat → St → Hp → Prop := fun i σ' H' => ∃ y, layerM nx (last.take i) (seen, []) = some y ∧ Al K H' [.raw (.ref d), .no, .raw (.ref sd), .raw (.ref fo), .raw (.ref l), .no, .no] σ' ∧ Tab P w K bodyD H' sd (setK y.1) ∧ OwnL K H' l (y.2.map bodyD) ∧ But [sd, l] H7 H'
  refine ⟨J, ⟨(seen, []), by cases last <;> rfl, A7.wk (by repeat (first | exact Wk.nil | apply Wk.keep | apply Wk.drop)), T7, ol7, But.refl⟩, fun i σ' H' ⟨y, _, _, _, _, bb⟩ => ⟨tk7 bb, fun o e => bb _ _ e (by simp [nas, Ne.symm nla])⟩, fun i x v σ' H' hx ⟨y, hy, A8, T8, ol8, b8⟩ hv => ?_, fun σ' H' ⟨y, hy, A8, T8, ol8, b8⟩ => ?_⟩
  · obtain ⟨one, ho, rfl⟩ := map_at hx
    obtain ⟨y', h1, h2⟩ := layer_take hz i
    rw [hy] at h1
    cases h1
    obtain ⟨os, hl, hnext⟩ := h2 one ho
    have A9 := A8.put hv 5
    obtain ⟨kvs, ao, Tn0, hvn, ono0⟩ := hnx.look hl
    have naS : ao ≠ sd := tab_ne T5 ono0
    have naL : ao ≠ l := fun q => by
      obtain ⟨y, e, _⟩ := ono0
      rw [q, hl0] at e; cases e
    have Tn := Tn0.keep (tk0 (but0 b8)) fun o e => but0 b8 _ _ e (by simp [nds])
    have ono := ono0.but (flatAll_bodies _) (but0 b8) (by simp [naS]) (tk0 (but0 b8))
    have bnd : (os.foldl addW y).1.length ≤ 900 := by
      have e : last = last.take (i + 1) ++ last.drop (i + 1) := (List.take_append_drop ..).symm
      rw [e] at hz
      have := (layer_len (layer_rest hz hnext)).1
      omega
    have bnd2 : (os.foldl addW y).2.length ≤ 900 := by
      have := (layer_len hnext).2
      simp only [List.length_nil] at this
      omega
    -- for other in nexts[one]
    refine st_forO (ds := os.map bodyD) (er_getN (ev_var (i := 5) A9 rfl) (er_var (i := 0) A9 rfl) Tn hvn) ono (flatAll_bodies _) fun H10 s10 => ?_
    have T10 := T8.same s10
    have ol10 := ol8.same s10
    let L : Nat → St → Hp → Prop := fun j σ2 H2 => Al K H2 [.raw (.ref d), .no, .raw (.ref sd), .raw (.ref fo), .raw (.ref l), .no, .no] σ2 ∧ Tab P w K bodyD H2 sd (setK ((os.take j).foldl addW y).1) ∧ OwnL K H2 l (((os.take j).foldl addW y).2.map bodyD) ∧ But [sd, l] H10 H2
    refine ⟨L, ⟨(A9.same s10).wk (by repeat (first | exact Wk.nil | apply Wk.keep | apply Wk.drop)), T10, ol10, But.refl⟩, fun j σ2 H2 ⟨_, _, _, bb⟩ => ⟨bb.tk fun x hx o ho => ?_, fun o e => bb _ _ e (by simp [naS, naL])⟩, fun j x v2 σ2 H2 hx ⟨A11, T11, ol11, b11⟩ hv2 => ?_, fun σ2 H2 ⟨A11, T11, ol11, b11⟩ => ?_⟩
    · simp only [List.mem_cons, List.not_mem_nil, or_false] at hx
      rcases hx with rfl | rfl
      · obtain ⟨x', e', l'⟩ := tab_loose T10
        rw [e'] at ho; cases ho; exact l'
      · obtain ⟨x', e', _⟩ := ol10
        rw [e'] at ho; cases ho; rfl
    · obtain ⟨other, hoth, rfl⟩ := map_at hx
      have stp := take_succ_foldl (f := addW) (b := y) hoth
      have e0 : os = os.take j ++ os.drop j := (List.take_append_drop ..).symm
      have ml := addF_len (os.drop j) ((os.take j).foldl addW y)
      rw [← List.foldl_append, ← e0] at ml
      generalize (os.take j).foldl addW y = yy at T11 ol11 stp ml
      have A12 := A11.put hv2 6
      refine st_if (et_test (ev_notInN (ev_var (i := 6) A12 rfl) (er_var (i := 2) A12 rfl) T11)) (fun hb H13 s13 => ?_) fun hb H13 s13 => ?_
      · rw [setK_at] at hb
        have nm : ¬ memK yy.1 other = true := fun z => by rw [z] at hb; cases hb
        have ez : addW yy other = (yy.1 ++ [other], yy.2 ++ [other]) := by
          unfold addW
          rw [if_neg nm]
        have ei : insK yy.1 other = yy.1 ++ [other] := by
          unfold insK
          rw [if_neg nm]
        have A13 := A12.same s13
        have T13 := T11.same s13
        have ol13 := ol11.same s13
        dsimp only [tSeq]
        refine st_put ev_bl (er_var (i := 2) A13 rfl) (ev_var (i := 6) A13 rfl) T13 (by rw [setK_len]; exact small (by omega)) fun v14 H14 u14 s14 hv14 hu14 T14 => ?_
        cases hv14
        rw [setK_put, ei] at T14
        obtain ⟨od, hod, lod⟩ := tab_loose T13
        have q14 := s14 _ _ hod
        have tk14 : TKp K H14 (upd H14 sd u14) := TKp.upd q14 lod
        have A14 := (A13.same s14).keepT tk14 (by simp [flatE, body_flat, cell_flat, flat, flatAll])
        have ol14 := (ol13.same s14).upd (u := u14) (flatAll_bodies _) q14 lod nls
        have b14 : But [sd, l] H10 (upd H14 sd u14) := ((b11.trans (Same.but s13)).trans (Same.but s14)).upd (.inl (by simp))
        generalize upd H14 sd u14 = H15 at T14 A14 ol14 b14
        refine st_appD (er_var (i := 4) A14 rfl) ol14 (flatAll_bodies _) (body_flat _) (by rw [List.length_map]; exact small (by omega)) (ev_var (i := 6) A14 rfl) fun H16 ys16 s16 e16 ol16 => ?_
        obtain ⟨x15, hx15, _⟩ := id ol14
        have q16 := s16 _ _ hx15
        have tk16 : TKp K H16 (upd H16 l (.lst ys16)) := TKp.upd q16 rfl
        refine ⟨((A14.same s16).keepT tk16 (by simp [flatE, body_flat, cell_flat, flat, flatAll])).wk (by repeat (first | exact Wk.nil | apply Wk.keep | apply Wk.drop)), ?_, ?_, (b14.trans (Same.but s16)).upd (.inl (by simp))⟩
        · rw [stp, ez]
          exact (T14.same s16).upd (Ne.symm nls) q16 rfl
        · rw [stp, ez, List.map_append]
          exact ol16
      · rw [setK_at] at hb
        have nm : memK yy.1 other = true := by cases z : memK yy.1 other; rw [z] at hb; cases hb; rfl
        have ez : addW yy other = yy := by
          unfold addW
          rw [if_pos nm]
        exact ⟨(A12.same s13).wk (by repeat (first | exact Wk.nil | apply Wk.keep | apply Wk.drop)), by rw [stp, ez]; exact T11.same s13, by rw [stp, ez]; exact ol11.same s13, b11.trans (Same.but s13)⟩
    · rw [List.length_map, List.take_length] at T11 ol11
      exact ⟨os.foldl addW y, hnext, A11.wk (by repeat (first | exact Wk.nil | apply Wk.keep | apply Wk.drop)), T11, ol11, (b8.trans (Same.but s10)).trans b11⟩
  · rw [List.length_map, List.take_length] at hy
    rw [hz] at hy
    cases hy
    have al := bodies_ok (layer_ne hok hz (fun o ho => nomatch ho))
    have llz : LL K H' fo (rest ++ [last]) := ll5.but T5 (but0 b8) (tk0 (but0 b8))
    obtain ⟨xsz, ez, pz⟩ := id llz
    refine ⟨.ref fo, A8.getR (i := 3) rfl, at_end ez, ?_⟩
    show tCB (rSortD K) (tCons (tVar 4) tNil) σ' H' _
    refine (en_sortD (ev_of (er_var (i := 4) A8 rfl) ol8.dp) al.1 al.2.1 al.2.2).is (sort_bodies _) H' (Same.refl _) _ fun p ys H9 hp s9 e9 d9 => ?_
    have llp := llz.same s9
    have ezp := s9 _ _ ez
    have npf : p ≠ fo := fun q => by rw [q, ez] at hp; cases hp
    refine ⟨fo, xsz, .ref p, rfl, rfl, ezp, ?_, ?_⟩
    · rw [pz.length, List.length_append, List.length_singleton]
      exact small (by omega)
    · refine post _ _ ?_ ?_ ?_ (llp.snoc ezp npf ⟨ys, e9, d9⟩)
      · exact ((A8.same s9).keepT (TKp.upd ezp rfl) rfl).wk (by repeat (first | exact Wk.nil | apply Wk.keep | apply Wk.drop))
      · exact ((((but0 b8).mono (by simp)).trans (Same.but s9)).upd (.inl (by simp)))
      · exact (T8.same s9).upd (Ne.symm nfs) ezp rfl
abbrev s_waves : Stmt := top 32
theorem sc_waves : FnScope ["nexts", "body", "seen", "found", "layer", "one", "other"] ["nexts", "body"] (defScope s_waves) := ⟨rfl, rfl, rfl, by decide +kernel, rfl, by decide +kernel, by decide +kernel⟩
/-- the whole loop, by either test -/
theorem wv_loop {D : Ends} {tc : TT} {d sd fo : Addr} {nx : NX2} {b : Body} {r : WS} {H0 : Hp} (hH : Same H0 H) (hs0 : H0 sd = none) (hf0 : H0 fo = none) (hnx : NxTab P w K H0 d nx) (hok : okN nx = true) (hbn : b ≠ [])
    (hrun : runW wvCond (wvStep nx) 70 ([b], [[b]]) = some r) (hl1 : r.1.length ≤ 900) (hl2 : r.2.length ≤ 900)
    (A3 : Al K H [.raw (.ref d), .no, .raw (.ref sd), .raw (.ref fo), .no, .no, .no] σ) (T3 : Tab P w K bodyD H sd (setK [b])) (ll3 : LL K H fo [[b]])
    (tst : ∀ {σ' H' xs a} {last : List Body}, Al K H' [.raw (.ref d), .no, .raw (.ref sd), .raw (.ref fo), .no, .no, .no] σ' → H' fo = some (.lst (xs ++ [.ref a])) → OwnL K H' a (last.map bodyD) → EvT tc σ' H' (!(last.map bodyD).isEmpty))
    (fin : ∀ σ' H', Same H0 H' → Al K H' [.raw (.ref d), .no, .raw (.ref sd), .raw (.ref fo), .no, .no, .no] σ' → LL K H' fo r.2.reverse → D.nx σ' H') : tWhile tc (wvBody P w K) D σ H := by
  have nds : d ≠ sd := fun q => by
    obtain ⟨kvs, Tn, _⟩ := hnx
    obtain ⟨o, e, _⟩ := Tn.there
    rw [q, hs0] at e; cases e
  let I : WS → St → Hp → Prop := fun s σ' H' => Al K H' [.raw (.ref d), .no, .raw (.ref sd), .raw (.ref fo), .no, .no, .no] σ' ∧ Tab P w K bodyD H' sd (setK s.1) ∧ LL K H' fo s.2.reverse ∧ Same H0 H'
  refine st_while (S := WS) (cond := wvCond) (step := wvStep nx) (r := r) (n := 70) (s0 := ([b], [[b]])) I hrun ⟨A3, T3, ll3, hH⟩ ?_
  rintro ⟨seen, fd⟩ m σ' H4 ⟨A4, T4, ll4, sm4⟩ run4
  cases fd with
  | nil => exact absurd run4 (by rw [runW_stuck rfl rfl]; exact fun z => nomatch z)
  | cons last rest =>
    simp only [List.reverse_cons] at ll4
    simp only at T4
    obtain ⟨xs4, a4, ef4, lx4, n4f, own4, pr4⟩ := ll4.last
    have ec : wvCond (seen, last :: rest) = !(last.map bodyD).isEmpty := by
      rw [isEmpty_map]
      rfl
    refine ⟨by rw [ec]; exact tst A4 ef4 own4, fun hc H5 s5 => ?_, fun er H5 s5 => ?_⟩
    · have hly : ∃ z, layerM nx last (seen, []) = some z := by
        cases hz : layerM nx last (seen, []) with
        | some z => exact ⟨z, rfl⟩
        | none =>
          have st : wvStep nx (seen, last :: rest) = (seen, last :: rest) := by
            unfold wvStep
            simp only [hz]
          rw [runW_stuck hc st] at run4
          cases run4
      obtain ⟨z, hz⟩ := hly
      have stp : wvStep nx (seen, last :: rest) = (z.1, isort bodyLe z.2 :: last :: rest) := by
        unfold wvStep
        simp only [hz]
      have lens := wvRun_len run4
      have lz : z.1.length ≤ 900 := by
        cases m with
        | zero =>
          unfold runW at run4
          rw [if_pos hc] at run4
          cases run4
        | succ m =>
          unfold runW at run4
          rw [if_pos hc, stp] at run4
          have := (wvRun_len run4).1
          simp only at this
          omega
      have lr : rest.reverse.length ≤ 900 := by
        have := lens.2
        simp only [List.length_cons] at this
        rw [List.length_reverse]
        omega
      rw [stp]
      refine wv_turn (A4.same s5) ((hnx.same sm4).same s5) nds (T4.same s5) (ll4.same s5) hz lz lr hok fun σ2 H6 A6 b6 T6 ll6 => ⟨A6, T6, ?_, ?_⟩
      · simp only [List.reverse_cons]
        exact ll6
      · refine ((Same.but (sm4.trans s5)).trans b6).same fun x hx => ?_
        simp only [List.mem_cons, List.not_mem_nil, or_false] at hx
        rcases hx with rfl | rfl
        · exact hs0
        · exact hf0
    · refine fin σ' H5 (sm4.trans s5) (A4.same s5) ?_
      rw [← er]
      simp only [List.reverse_cons]
      exact ll4.same s5
theorem dp_rows {f : Addr} : ∀ {xs : List V} {rows : List (List Body)}, Paired (fun v r => ∃ a, v = .ref a ∧ a ≠ f ∧ OwnL K H a (r.map bodyD)) xs rows → DpAll K H xs (rows.map fun r => .list (r.map bodyD))
  | _, _, .nil => .nil
  | _, _, .cons ⟨a, h1, _, h3⟩ t => by
    subst h1
    exact .cons h3.dp (dp_rows t)
/-- return found[:-1] -/
theorem wv_ret {D : Ends} {fo : Addr} {rows : List (List Body)} {last : List Body} {es : List Slot} (A : Al K H es σ) (hi : es[3]? = some (.raw (.ref fo))) (ll : LL K H fo (rows ++ [last])) (q : ∀ v H', Same H H' → Dp K H' v (rowsD rows) → D.rt v H') :
    tRet (tSl (rSlL K) (tVar 3) tNoPart (tPart (tUn (rU fun i => .int (-i)) (tC (.int 1))))) D σ H := by
  obtain ⟨xs, a, e, _, _, own, pr⟩ := ll.last
  refine ⟨.ref fo, A.getR hi, 1, rfl, -1, rfl, fo, xs ++ [.ref a], rfl, SqL.lst e, fun p hp => ?_⟩
  refine q _ _ (Same.new hp) (.lst (xs := xs) (.inl (.inl ?_)) ((dp_rows pr).same (Same.new hp)))
  have ec : cutV (xs ++ [.ref a]) none (some (-1)) = xs := cut_last _ _
  rw [show (-(1 : Int)) = -1 from rfl, ec]
  exact upd_same
theorem tail_rev {α : Type} {l : List α} (h : l ≠ []) : l.reverse = l.tail.reverse ++ [l.head h] := by
  cases l with
  | nil => exact absurd rfl h
  | cons x xs => rw [List.reverse_cons]; rfl
theorem wavesM_run {nx : NX2} {b : Body} {rows : List (List Body)} (h : wavesM nx b = some rows) : ∃ r, runW wvCond (wvStep nx) 70 ([b], [[b]]) = some r ∧ r.1.length ≤ 900 ∧ r.2.length ≤ 900 ∧ ∃ last, r.2.reverse = rows ++ [last] := by
  unfold wavesM at h
  cases hrun : runW wvCond (wvStep nx) 70 ([b], [[b]]) with
  | none => rw [hrun] at h; cases h
  | some r =>
    rw [hrun] at h
    have h' : (if (decide (r.1.length ≤ 900) && decide (r.2.length ≤ 900)) = true then some r.2.tail.reverse else none) = some rows := h
    split at h'
    · rename_i hle
      cases h'
      rw [Bool.and_eq_true] at hle
      have ne : r.2 ≠ [] := fun z => by
        have := (wvRun_len hrun).2
        rw [z] at this
        simp at this
      exact ⟨r, rfl, of_decide_eq_true hle.1, of_decide_eq_true hle.2, _, tail_rev ne⟩
    · cases h'
theorem ok_waves (T : Glo K mg tM aR) (h : Has K mg "waves" s_waves ["nexts", "body"]) : OkAt P w K mg base 1 "waves" ["nexts", "body"] (sp_waves P w K) := by
  refine h.ok sc_waves (fun vs H Q E h => by obtain ⟨d, v, nx, b, rows, rfl, _⟩ := h; rfl) (fun _ cdv A outer s H vs Q E f hr q => ?_)
  obtain ⟨d, v, nx, b, rows, rfl, hnx, hv, hokN, hbn, hrows, k⟩ := q
  have hu := hr.units
  have hu5 := hu65 hr
  refine ⟨_, (pss_cons (ps_par (i := 2) (j := 3) rfl sc_waves.nd rfl rfl (by decide) rfl rfl (pa_cons (pe_disp1 bodyK hu (pv 1) pe_bl) (pa_cons (pe_lst (pa_cons (pe_lst (pa_cons (pv 1) pa_nil)) pa_nil)) pa_nil)) rfl)
      (pss_cons (ps_while PassesOwn.never (pt_truth (pe_ix (show IxR _ (rIxL K) from ix_list) (pv 3) (pe_un un_neg pe_int) (fun _ _ => rfl)) (fun _ => rfl))
      (pss_cons (ps_set (i := 4) sc_waves.nd rfl (Or.inl rfl) (pe_lst pa_nil))
      (pss_cons (ps_for PassesOwn.never rfl (show PI _ _ _ (iList K _) from pi_list (pe_ix (show IxR _ (rIxL K) from ix_list) (pv 3) (pe_un un_neg pe_int) (fun _ _ => rfl))) (pg_name (i := 5) sc_waves.nd rfl (Or.inl rfl))
      (pss_one (ps_for PassesOwn.never rfl (show PI _ _ _ (iList K _) from pi_list (show PE _ _ (tGetN P w K bodyD _ _) from pe_getN bodyK hu (pv 0) (pv 5) (fun _ _ => rfl))) (pg_name (i := 6) sc_waves.nd rfl (Or.inl rfl))
      (pss_one (ps_if (pt_cmpR (show OpR _ _ (rNotInN P w K bodyD) from op_notInN bodyK hu) (pv 6) (pv 2) rfl) (pss_cons (ps_asg pe_bl (pg_sub (pv 2) (pv 6) (show PSet _ (tSetN P w K bodyD) from set_N bodyK hu)))
      (pss_one (ps_expr (pe_bm PySem.F.plainAttrs_list PySem.F.slot_list_append PySem.F.type_list_append mt_append (pv 4) (pa_cons (pv 6) pa_nil))))) pss_nil)))))
      (pss_one (ps_expr (pe_bm PySem.F.plainAttrs_list PySem.F.slot_list_append PySem.F.type_list_append mt_append (pv 3) (pa_cons (pe_callB (show CallR _ _ (rSortD K) from cr_sortD hu) (by rfl) T.sorted zb_sorted (pa_cons (pv 4) pa_nil)) pa_nil)))))))
      (pss_one (ps_ret (pe_slice sl_list (pv 3) po_none (po_some (pe_un un_neg pe_int))))))), ?_⟩
  have A0 : Al K H [.raw (.ref d), .dat (bodyD b), .no, .no, .no, .no, .no] (L2.start ["nexts", "body", "seen", "found", "layer", "one", "other"] [.ref d, v]) := .cons rfl (.cons ⟨v, rfl, hv⟩ (Al.no 5))
  obtain ⟨r, hrun, hl1, hl2, last, hrev⟩ := wavesM_run hrows
  refine wv_init (P := P) (w := w) (K := K) A0 rfl fun sd fo H1 hs0 hf0 s1 T1 ll1 => ?_
  refine wv_loop s1 hs0 hf0 hnx hokN hbn hrun hl1 hl2 ((((A0.same s1).putR (v := .ref sd) 2).putR (v := .ref fo) 3).wk (by repeat (first | exact Wk.nil | apply Wk.keep | apply Wk.drop))) T1 ll1 (fun {σ' H' xs a last} A4 ef own => et_row (er_last (er_var (i := 3) A4 rfl) ef) own) fun σ' H' sm A4 ll4 => ?_
  rw [hrev] at ll4
  exact wv_ret A4 rfl ll4 fun v' H5 s5 hv5 => k v' H5 (sm.trans s5) hv5
end
end Z
set_option Elab.async false
set_option linter.all false
set_option maxRecDepth 100000
set_option maxHeartbeats 4000000
/-! ZO: a dict of lists by comprehension; farthest (a number that is right). -/
namespace Z
open PySem PySem.Spec L2
open PyProof.Rows hiding St
section
variable {P : Program} {w : World} {K : PySem.W.Frag} {mg : Str → Option Value} {base : Heap} {tM : Tok} {aR : Addr} {H H' : Hp} {σ : St}
theorem RowAt.upd {v : V} {r : List Body} {D : Addr} {o u : HO} (h : RowAt K H v r) (hD : H D = some o) (n : NoSeq o = true) : RowAt K (upd H D u) v r := by
  obtain ⟨a, h1, h2⟩ := h
  have ne : a ≠ D := fun z => by
    obtain ⟨xs, e, _⟩ := h2
    rw [z, hD] at e
    cases e
    cases n
  exact ⟨a, h1, h2.upd (flatAll_bodies _) hD (loose_of n) ne⟩
/-- {x: a new list for x in ..} -/
theorem ed_dcL {wi : TI} {g : TG} {tk tv : TE} {vs : List Nat} {xs : List Body} {f : Body → List Body} (hlen : xs.length < sizeLine) (nd : xs.Nodup)
    (hw : ∀ H1, Same H H1 → ∀ R : It → Hp → Prop, (∀ J H2, Same H1 H2 → (∀ H3, Same H2 H3 → (∀ i, i < xs.length → J.go i H3) ∧ J.stop xs.length H3 ∧ ∀ i x H', J.yld i H3 x H' → ∀ r, xs[i]? = some r → Same H3 H' ∧ Dp K H' x (bodyD r) ∧ TKp K H3 H' ∧ ∀ a o, H3 a = some o → H' a = some o) → R J H2) → wi σ H1 R)
    (ht : ∀ x ∈ xs, ∀ v H1, Same H H1 → Dp K H1 v (bodyD x) → ∃ σ2, wipe σ2 vs = wipe σ vs ∧ (∀ Q : St → Hp → Prop, Q σ2 H1 → g v (wipe σ vs) H1 Q) ∧ Evd K tk σ2 H1 (bodyD x) ∧ EvN K tv σ2 H1 ((f x).map bodyD)) :
    ∀ H1, Same H H1 → ∀ Q : VK, (∀ p H2, H1 p = none → Same H1 H2 → NxTab P w K H2 p (xs.map fun x => (x, f x)) → Q (.ref p) H2) → tDcN P w K bodyD wi g tYes tk tv vs σ H1 Q := fun H1 s Q q =>
  hw H1 s _ fun J H2 s2 hJ D hD => by
    refine ⟨fun i m H => i + m = xs.length ∧ Same H2 H ∧ NxTab P w K H D ((xs.take i).map fun x => (x, f x)), ⟨xs.length, by omega, Same.new hD, [], tab_new bodyK, .nil⟩, ?_⟩
    rintro i m H4 ⟨em, sm, kvs, T, pr⟩
    obtain ⟨go, stop, yl⟩ := hJ H4 sm
    by_cases hi : i < xs.length
    · refine .inr ⟨go i hi, fun H' => Same H2 H' ∧ NxTab P w K H' D ((xs.take (i + 1)).map fun x => (x, f x)), fun H' ⟨a, b⟩ => ⟨m - 1, by omega, by omega, a, b⟩, fun x H' hy => ?_⟩
      obtain ⟨r, hr⟩ : ∃ r, xs[i]? = some r := ⟨_, List.getElem?_eq_getElem hi⟩
      obtain ⟨s3, hx, _, _⟩ := yl i x H' hy r hr
      obtain ⟨σ2, hw2, hg, hk, hv⟩ := ht r (List.mem_of_getElem? hr) x H' (((s.trans s2).trans sm).trans s3) hx
      refine hg _ ⟨hw2, et_yes (σ := σ2) (H := H') H' (Same.refl _) _ fun H5 s5 => iteT (hk H5 s5 _ fun y H6 s6 hy6 => hv H6 (s5.trans s6) _ fun p ys H7 hp s7 e7 d7 => ?_)⟩
      have s37 := ((s3.trans s5).trans s6).trans s7
      have T7 := T.same s37
      have hl : kvs.length = i := by
        have := pr.length
        rw [List.length_map, List.length_take] at this
        omega
      refine ⟨kvs, r, T7, Dp.same s7 hy6, by omega, fun o ho T8 => ⟨Same.mut (sm.trans s37) hD, ?_⟩⟩
      have hnew : valV kvs r = none := by
        cases e : valV kvs r with
        | none => rfl
        | some v0 =>
          exfalso
          have hm := valV_in e
          obtain ⟨kv, hkv, ek⟩ := List.mem_map.mp hm
          obtain ⟨j, hj⟩ := List.getElem?_of_mem hkv
          obtain ⟨z, hz, e1, _⟩ := paired_get pr hj
          obtain ⟨x', hx', rfl⟩ := map_at hz
          have hji : j < i := by
            have := (List.getElem?_eq_some_iff.mp hj).1
            omega
          have hxj : xs[j]? = some x' := by
            rw [List.getElem?_take] at hx'
            rw [if_pos hji] at hx'
            exact hx'
          have e2 : x' = r := e1.symm.trans ek
          subst e2
          have := (List.getElem?_inj (by omega) nd).mp (hxj.trans hr.symm)
          omega
      obtain ⟨od, hod, nod⟩ := T7.there
      have st : (xs.take (i + 1)).map (fun x => (x, f x)) = (xs.take i).map (fun x => (x, f x)) ++ [(r, f r)] := by
        rw [List.take_add_one, hr, List.map_append]
        rfl
      rw [st]
      rw [putK_new _ hnew] at T8
      have neP : p ≠ D := fun z => by
        rw [z, hod] at e7
        cases e7
        cases nod
      exact ⟨_, T8, Paired.snoc (paired_mono (fun kv r' ⟨h1, h2⟩ => ⟨h1, RowAt.upd (o := od) (by obtain ⟨a, h3, h4⟩ := h2; exact ⟨a, h3, h4.same s37⟩) hod nod⟩) pr) ⟨rfl, RowAt.upd ⟨p, rfl, ys, e7, d7⟩ hod nod⟩⟩
    · have e : i = xs.length := by omega
      subst e
      rw [List.take_length] at pr
      exact .inl ⟨stop, q D H4 (s2.free hD) (s2.trans sm) ⟨kvs, T, pr⟩⟩
theorem ev_waves {td tb : TE} {d : Addr} {nx : NX2} {b : Body} {rows : List (List Body)} (hd : Evr td σ H (.ref d)) (hnx : NxTab P w K H d nx) (hb : Evd K tb σ H (bodyD b)) (hok : okN nx = true) (hbn : b ≠ []) (hr : wavesM nx b = some rows) :
    Evd K (tCall (sp_waves P w K) [] E0 (tCons td (tCons tb tNil))) σ H (rowsD rows) := fun H1 s Q q =>
  hd H1 s _ fun H2 s2 => hb H2 (s.trans s2) _ fun v H3 s3 hv => ⟨d, v, nx, b, rows, rfl, hnx.same ((s.trans s2).trans s3), hv, hok, hbn, hr, fun v' H4 s4 hv' => q v' H4 ((s2.trans s3).trans s4) hv'⟩
theorem rd_gtB {a b : Body} : RD K (rGtD K) (bodyD a) (bodyD b) (.bool (bodyLt b a)) := rd_gt (body_alike a b) (fun z => nomatch z) (Nat.le_trans (body_depth a) (by decide)) (body_lt b a)
theorem atI_mapLast {α β : Type} {f : α → β} (xs : List α) (x : α) : atI ((xs ++ [x]).map f) (-1) = some (f x) := by
  rw [List.map_append]
  exact atI_last _ _
/-! ### farthest -/
abbrev Best := Option (Int × Body × Body)
def bestD : Best → PyData
  | none => .none
  | some z => .tuple [.int z.1, bodyD z.2.1, bodyD z.2.2]
theorem best_flat (z : Best) : flat (bestD z) = true := by
  cases z with
  | none => rfl
  | some z =>
    show flatAll [PyData.int z.1, bodyD z.2.1, bodyD z.2.2] = true
    simp [flatAll, flat, body_flat]
def othersM (rows : List (List Body)) (last : List Body) (b : Body) : List Body := last.filter fun o => bodyLt b o || decide ((rows.length : Int) = 1)
def better (rows : List (List Body)) (best : Best) : Bool := match best with
  | none => true
  | some z => decide (z.1 < (rows.length : Int) - 1)
def farStep (rows : List (List Body)) (last : List Body) (b : Body) (best : Best) : Best := match othersM rows last b with
  | [] => best
  | o :: _ => if better rows best = true then some ((rows.length : Int) - 1, b, o) else best
def farGo (nx : NX2) : List Body → Best → Option Best
  | [], best => some best
  | b :: bs, best => match wavesM nx b with
    | none => none
    | some rows => match rows.getLast? with
      | none => none
      | some last => farGo nx bs (farStep rows last b best)
def nextsM (bs : List Body) : Option NX2 := mapO (fun b => (followM b).map fun fs => (b, fs.map (·.2))) bs
theorem wvRun_rows {nx : NX2} : ∀ {n : Nat} {s r : WS}, runW wvCond (wvStep nx) n s = some r → (∀ row ∈ s.2, row.length ≤ s.1.length) → ∀ row ∈ r.2, row.length ≤ r.1.length
  | 0, s, r, h, hs => by
    unfold runW at h
    split at h
    · cases h
    · cases h; exact hs
  | n + 1, s, r, h, hs => by
    unfold runW at h
    split at h
    · refine wvRun_rows h ?_
      unfold wvStep
      split
      · exact hs
      · split
        · exact hs
        · rename_i z hz
          have hl := layer_len hz
          simp only [List.length_nil] at hl
          intro row hrow
          rcases List.mem_cons.mp hrow with rfl | hrow
          · rw [isort_length]
            show z.2.length ≤ z.1.length
            omega
          · have := hs row hrow
            show row.length ≤ z.1.length
            omega
    · cases h; exact hs
abbrev s_farthest : Stmt := top 33
theorem sc_farthest : FnScope ["n", "bodies", "nexts", "best", "move", "other", "body", "rows", "others"] ["n"] (defScope s_farthest) := ⟨rfl, rfl, rfl, by decide +kernel, rfl, by decide +kernel, by decide +kernel⟩
abbrev R_farthest : List PyData → PyData → Prop := fun ds r => ∃ (n : Nat) (nx : NX2) (z : Best), ds = [.int n] ∧ 1 ≤ n ∧ n ≤ 5 ∧ (∀ k, k ≤ n - 1 → okB (lapsM k) = true) ∧ (shapesM n).Nodup ∧ nextsM (shapesM n) = some nx ∧ okN nx = true ∧ farGo nx (shapesM n) none = some z ∧ r = bestD z
theorem shapes_ok {n : Nat} (h : okB (lapsM (n - 1)) = true) : (shapesM n).length ≤ 900 ∧ ∀ b ∈ shapesM n, b ≠ [] ∧ b.length ≤ 100 := by
  obtain ⟨h1, h2⟩ := okB_of h
  unfold shapesM
  exact ⟨by rw [isort_length]; exact h1, fun b hb => h2 b (mem_isort.mp hb)⟩
theorem mapO_map {α β : Type} {f : α → Option β} {g : α → β} {xs : List α} {ys : List β} (h : mapO f xs = some ys) (d : β) (hg : ∀ x y, f x = some y → y = g x) : ys = xs.map g := by
  obtain ⟨h1, h2⟩ := mapO_get (d := d) h
  rw [h2]
  exact List.map_congr_left fun x hx => by
    have := h1 x hx
    cases e : f x with
    | none => rw [e] at this; cases this
    | some y => exact hg x y e
theorem ok_farthest (T : Glo K mg tM aR) (h : Has K mg "farthest" s_farthest ["n"]) (G_check_number : OkAt P w K mg base 3 "check_number" ["n", "most"] (Pu K R_check_number)) (G_all_shapes : OkAt P w K mg base 6 "all_shapes" ["n"] (Pu K R_all_shapes))
    (G_followers : OkAt P w K mg base 11 "followers" ["body"] (NewSp K R_followers)) (G_waves : OkAt P w K mg base 1 "waves" ["nexts", "body"] (sp_waves P w K)) : OkAt P w K mg base 12 "farthest" ["n"] (Pu K R_farthest) := by
  refine h.ok sc_farthest (pu_len fun ds r ⟨_, _, _, e, _⟩ => by rw [e]; rfl) (fun _ cdv A outer s H vs Q E f hr q => ?_)
  obtain ⟨ds, r, hv, ⟨n, nx, fin, rfl, hn1, hn5, hok, hnd, hnx, hokN, hfar, rfl⟩, k⟩ := q
  have hu := hr.units
  have hu5 := hu65 hr
  refine ⟨_, (pss_cons (ps_expr (pe_callO G_check_number (hr.mono (by decide)) rfl (pa_cons (pv 0) (pa_cons pe_int pa_nil))))
      (pss_cons (ps_set (i := 1) sc_farthest.nd rfl (Or.inl rfl) (pe_callO G_all_shapes (hr.mono (by decide)) rfl (pa_cons (pv 0) pa_nil)))
      (pss_cons (ps_par (i := 2) (j := 3) rfl sc_farthest.nd rfl rfl (by decide) rfl rfl (pa_cons (pe_dcN (own := [("body", 6)]) (g := gName 6) bodyK hu rfl sc_farthest.nd (show PI _ _ _ (iTup K _) from pi_tup (pv 1)) (blkOk_by (N := ["n", "bodies", "nexts", "best", "move", "other", "body", "rows", "others"]) (sc := defScope s_farthest) (by decide +kernel)) (fun _ _ _ _ _ => (pg_name (i := 6) sc_farthest.nd rfl (Or.inl rfl))) (fun _ _ _ _ _ => pts_nil) (fun _ _ _ _ _ => (pv 6)) (fun _ _ _ _ _ => (pe_lc (own := [("move", 4), ("other", 5)]) (g := gTup K 2 (gCons (gName 4) (gCons (gName 5) gNil))) rfl sc_farthest.nd (show PI _ _ _ (iList K _) from pi_list (pe_callO G_followers (hr.mono (by decide)) rfl (pa_cons (pv 6) pa_nil))) (blkOk_by (by rfl)) (fun _ _ _ _ _ => (show PG _ _ (gTup K 2 (gCons (gName 4) (gCons (gName 5) gNil))) from pg_tup rfl (pgs_cons (pg_name (i := 4) sc_farthest.nd rfl (Or.inl rfl)) (pgs_cons (pg_name (i := 5) sc_farthest.nd rfl (Or.inl rfl)) pgs_nil)))) (fun _ _ _ _ _ => pts_nil) (fun _ _ _ _ _ => (pv 5))))) (pa_cons pe_non pa_nil)) rfl)
      (pss_cons (ps_for PassesOwn.never rfl (show PI _ _ _ (iTup K _) from pi_tup (pv 1)) (pg_name (i := 6) sc_farthest.nd rfl (Or.inr rfl))
      (pss_cons (ps_set (i := 7) sc_farthest.nd rfl (Or.inr rfl) (pe_callO G_waves (hr.mono (by decide)) rfl (pa_cons (pv 2) (pa_cons (pv 6) pa_nil))))
      (pss_cons (ps_setLc (i := 8) (own := [("other", 5)]) (g := gName 5) rfl sc_farthest.nd rfl rfl (sw_true rfl rfl rfl (by decide +kernel)) (show PI _ _ _ (iList K _) from pi_list (pe_ix (show IxR _ (rIxL K) from ix_list) (pv 7) (pe_un un_neg pe_int) (fun _ _ => rfl))) (blkOk_by (N := ["n", "bodies", "nexts", "best", "move", "other", "body", "rows", "others"]) (sc := defScope s_farthest) (by decide +kernel)) (fun _ _ _ _ _ => (pg_name (i := 5) sc_farthest.nd rfl (Or.inl rfl))) (fun _ _ _ _ _ => (pts_one (PW.pt (pw_or (pt_cmpR (show OpR _ _ (rGtD K) from op_gtD hu) (pv 5) (pv 6) (nomark _)) (pw_or1 (pt_cmpR op_eq (pe_callB (show CallR _ _ (rLen K) from call_len_seq) (by rfl) T.len zb_len (pa_cons (pv 7) pa_nil)) pe_int (nomark _))))))) (fun _ _ _ _ _ => (pv 5)))
      (pss_one (ps_if (PW.pt (pw_and (pt_truth (pv 8) (fun _ => rfl)) (pw_and1 (PW.pt (pw_or (pt_cmpR op_isN (pv 3) pe_non (nomark _)) (pw_or1 (pt_cmpR op_gt (pe_op op_sub (pe_callB (show CallR _ _ (rLen K) from call_len_seq) (by rfl) T.len zb_len (pa_cons (pv 7) pa_nil)) pe_int) (pe_ix (show IxR _ (rIxT K) from ix_tup) (pv 3) pe_int (fun _ _ => rfl)) (nomark _)))))))) (pss_one (ps_set (i := 3) sc_farthest.nd rfl (Or.inl rfl) (pe_tup (pa_cons (pe_op op_sub (pe_callB (show CallR _ _ (rLen K) from call_len_seq) (by rfl) T.len zb_len (pa_cons (pv 7) pa_nil)) pe_int) (pa_cons (pv 6) (pa_cons (pe_ix (show IxR _ (rIxL K) from ix_list) (pv 8) pe_int (fun _ _ => rfl)) pa_nil)))))) pss_nil)))))
      (pss_one (ps_ret (pv 3))))))), ?_⟩
  have A0 : Al K H [.dat (.int n), .no, .no, .no, .no, .no, .no, .no, .no] (L2.start ["n", "bodies", "nexts", "best", "move", "other", "body", "rows", "others"] vs) := al_start ["n", "bodies", "nexts", "best", "move", "other", "body", "rows", "others"] hv
  obtain ⟨hsl, hsb⟩ := shapes_ok (hok (n - 1) (Nat.le_refl _))
  have h2 : ∀ b ∈ shapesM n, followM b = some ((followM b).getD []) := fun b hb => by
    obtain ⟨h1, _⟩ := mapO_get (d := (([], []) : Body × List Body)) hnx
    have := h1 b hb
    cases e : followM b with
    | none => rw [e] at this; cases this
    | some fs => rfl
  have enx : nx = (shapesM n).map fun b => (b, ((followM b).getD []).map (·.2)) := mapO_map hnx ([], []) fun b y e => by
    cases e2 : followM b with
    | none => rw [e2] at e; cases e
    | some fs => rw [e2] at e; cases e; rfl
  dsimp only [tSeq]
  refine st_drop (ev_call (ea_cons (ev_var (i := 0) A0 rfl) (ea_cons ev_int ea_nil)) ⟨n, 5, rfl, by omega, by omega, rfl⟩) fun H1 s1 => ?_
  have A1 := A0.same s1
  refine st_set (ev_call (z := .tuple ((shapesM n).map bodyD)) (ea_cons (ev_var (i := 0) A1 rfl) ea_nil) ⟨n, rfl, hn1, by omega, hok, rfl⟩) fun x2 H2 s2 hx2 => ?_
  have A2 := (A1.same s2).put hx2 1
  generalize hbs : shapesM n = bs at *
  -- nexts, best = {..}, None
  dsimp only [tSeq]
  refine par_open ?_
  refine ed_dcL (P := P) (w := w) (K := K) (xs := bs) (f := fun b => ((followM b).getD []).map (·.2)) (small (by omega)) hnd (wd_tup (ev_var (i := 1) A2 rfl)) (fun b hb v H3 s3 hv3 => ?_) H2 (Same.refl _) _ fun d H3 hd s3 hnx3 => ?_
  · obtain ⟨_, hbl⟩ := hsb b hb
    have A3 := ((A2.same s3).wipe [6]).put hv3 6
    refine ⟨_, wipe_set1 _ _ _, fun Q q => q, ev_var (i := 6) A3 rfl, ?_⟩
    have hf := h2 b hb
    have lfs : ((followM b).getD []).length < sizeLine := by
      have : (10000 : Nat) < sizeLine := by decide
      unfold followM at hf ⊢
      cases hm : movesM b with
      | none => simp only [hm] at hf; cases hf
      | some ms =>
        simp only [hm] at hf ⊢
        have hf' := hf
        obtain ⟨_, e⟩ := mapO_get (d := (((0, 0), (0, 0)), [])) hf'
        rw [e, List.length_map]
        unfold movesM at hm
        cases hfr : freesM b with
        | none => rw [hfr] at hm; cases hm
        | some fr =>
          rw [hfr] at hm
          cases hm
          have h2 := mvFold2_len (sq b) fr []
          obtain ⟨_, e⟩ := filO_get hfr
          have h3 : fr.length ≤ b.length := by rw [e]; exact List.length_filter_le _ _
          rw [List.length_nil] at h2
          omega
    exact (en_listF (xs := (followM b).getD []) (enc := folD) (p := fun _ => true) (f := fun p => bodyD p.2) lfs (fun x _ => body_flat _) (en_call (ea_cons (ev_var (i := 6) A3 rfl) ea_nil) ⟨b, _, rfl, by omega, hf, rfl⟩).d fun x _ => turn_pair (d1 := sideD x.1) (d2 := bodyD x.2) A3 (wipe_set2 _ _ _) fun σ2 H4 s4 A4 => ⟨et_yes, fun _ => ev_var (i := 5) A4 rfl⟩).is
      (by rw [List.filter_eq_self.mpr (fun _ _ => rfl), List.map_map]; rfl)
  · rw [← enx] at hnx3
    refine ⟨.ref d, .non, rfl, ?_⟩
    have A3 := ((A2.same s3).putR (v := .ref d) 2).put (d := bestD none) .non 3
    dsimp only [tSeq]
    refine st_forT (ds := bs.map bodyD) (ev_var (i := 1) A3 rfl) (flatAll_bodies _) fun H4 s4 => ?_
    let I : Nat → St → Hp → Prop := fun i σ' H' => ∃ best, farGo nx (bs.drop i) best = some fin ∧ Al K H' [.dat (.int n), .dat (.tuple (bs.map bodyD)), .raw (.ref d), .dat (bestD best), .no, .no, .no, .no, .no] σ' ∧ Same H4 H'
    refine ⟨I, ⟨none, hfar, (A3.same s4).wk (by repeat (first | exact Wk.nil | apply Wk.keep | apply Wk.drop)), Same.refl _⟩, fun i σ' H' ⟨_, _, _, sm⟩ => TKp.same sm, fun i x v σ' H' hx ⟨best, hgo, A5, sm⟩ hv => ?_, fun σ' H' ⟨best, hgo, A5, sm⟩ => ?_⟩
    · obtain ⟨b, hb, rfl⟩ := map_at hx
      obtain ⟨hbn, _⟩ := hsb b (List.mem_of_getElem? hb)
      have ed : bs.drop i = b :: bs.drop (i + 1) := by
        obtain ⟨h1, h2⟩ := List.getElem?_eq_some_iff.mp hb
        rw [List.drop_eq_getElem_cons h1, h2]
      rw [ed, farGo] at hgo
      cases hw : wavesM nx b with
      | none => rw [hw] at hgo; cases hgo
      | some rows =>
        rw [hw] at hgo
        cases hl : rows.getLast? with
        | none => simp only [hl] at hgo; cases hgo
        | some last =>
          simp only [hl] at hgo
          obtain ⟨init, rfl⟩ : ∃ init, rows = init ++ [last] := List.getLast?_eq_some_iff.mp hl
          have A6 := A5.put hv 6
          have nx6 := hnx3.same (s4.trans sm)
          show tSeq _ _ _ _ _
          dsimp only [tSeq]
          refine st_set (ev_waves (er_var (i := 2) A6 rfl) nx6 (ev_var (i := 6) A6 rfl) hokN hbn hw) fun x7 H7 s7 hx7 => ?_
          have A7 := (A6.same s7).put hx7 7
          have lrow : Evd K (tOp (rIxL K) (tVar 7) (tUn (rU fun i => .int (-i)) (tC (.int 1)))) _ H7 (.list (last.map bodyD)) := ev_op (ev_var (i := 7) A7 rfl) (ev_un ev_int ru_U) (rd_ixL (atI_mapLast init last))
          have llen : last.length < sizeLine := by
            obtain ⟨r, hrun, h1, h2, lst, hrev⟩ := wavesM_run hw
            have := wvRun_rows hrun (by simp) last (by
              rw [← List.mem_reverse, hrev]
              simp)
            exact small (by omega)
          refine st_setN (en_listF (xs := last) (enc := bodyD) (p := fun o => bodyLt b o || decide (((init ++ [last]).length : Int) = 1)) (f := bodyD) llen (fun x _ => body_flat x) lrow fun x _ => turn_name A7 (wipe_set1 _ _) fun σ2 H8 s8 A8 => ⟨?_, fun _ => ev_var (i := 5) A8 rfl⟩) fun p8 ys8 H8 hp8 s8 e8 d8 => ?_
          · refine et_or (et_test (ev_op (ev_var (i := 5) A8 rfl) (ev_var (i := 6) A8 rfl) rd_gtB)) fun _ => et_test (K := K) ?_
            have := ev_op (ev_cb (ea_cons (ev_var (i := 7) A8 rfl) ea_nil) (rc_len (ds := (init ++ [last]).map fun r => .list (r.map bodyD)))) (ev_int (i := 1)) rd_eqI
            rw [List.length_map] at this
            exact this
          · have A8 := (A7.same s8).put (v := .ref p8) (d := .list ((othersM (init ++ [last]) last b).map bodyD)) (.lst (.inl (.inl e8)) d8) 8
            have s48 := sm.trans (s7.trans s8)
            have hlen8 : ∀ {H9 : Hp} {σ9 : St}, Al K H9 [.dat (.int n), .dat (.tuple (bs.map bodyD)), .raw (.ref d), .dat (bestD best), .no, .no, .dat (bodyD b), .dat (rowsD (init ++ [last])), .dat (.list ((othersM (init ++ [last]) last b).map bodyD))] σ9 →
                Evd K (tOp (rI0 fun i j => .int (i - j)) (tCB (rLen K) (tCons (tVar 7) tNil)) (tC (.int 1))) σ9 H9 (.int (((init ++ [last]).length : Int) - 1)) := fun {H9 σ9} A9 => by
              have := ev_op (ev_cb (ea_cons (ev_var (i := 7) A9 rfl) ea_nil) (rc_len (ds := (init ++ [last]).map fun r => .list (r.map bodyD)))) (ev_int (i := 1)) (rd_I0 (g := fun i j => i - j))
              rw [List.length_map] at this
              exact this
            have tst : EvT (tAnd (fun σ H Q => tVar 8 σ H fun x H' => ∃ k, TruV K x H' k ∧ Q k H') (tOr (tTest (tOp (fun x y H Q => y = V.non ∧ Q (.bl (decide (x = .non))) H) (tVar 3) (tC .non)))
                (tTest (tOp (rI0 fun i j => .bl (decide (j < i))) (tOp (rI0 fun i j => .int (i - j)) (tCB (rLen K) (tCons (tVar 7) tNil)) (tC (.int 1))) (tOp (rIxT K) (tVar 3) (tC (.int 0))))))) (((σ'.set 6 (some v)).set 7 (some x7)).set 8 (some (.ref p8))) H8 (!((othersM (init ++ [last]) last b).map bodyD).isEmpty && better (init ++ [last]) best) := by
              refine et_and (et_list (ev_var (i := 8) A8 rfl)) fun _ => ?_
              cases best with
              | none => exact (et_or (b := true) (et_test (ev_op (ev_var (i := 3) A8 rfl) ev_non (rd_isN (b := true) rfl))) fun z => nomatch z)
              | some z => exact (et_or (et_test (ev_op (ev_var (i := 3) A8 rfl) ev_non (rd_isN (b := false) rfl))) fun _ => et_test (ev_op (hlen8 A8) (ev_op (ev_var (i := 3) A8 rfl) ev_int (rd_ixT (i := 0) (z := .int z.1) rfl)) rd_B0))
            refine st_if tst (fun hb9 H9 s9 => ?_) fun hb9 H9 s9 => ?_
            · rw [Bool.and_eq_true, isEmpty_map] at hb9
              cases ho : othersM (init ++ [last]) last b with
              | nil => rw [ho] at hb9; cases hb9.1
              | cons o os =>
                have A9 := A8.same s9
                rw [ho] at A9
                have ef : farStep (init ++ [last]) last b best = some (((init ++ [last]).length : Int) - 1, b, o) := by
                  unfold farStep
                  rw [ho]
                  show (if better (init ++ [last]) best = true then _ else _) = _
                  rw [if_pos hb9.2]
                rw [ef] at hgo
                refine st_set (d := bestD (some (((init ++ [last]).length : Int) - 1, b, o))) (ev_tup (ea_cons (hlen8 (A8.same s9)) (ea_cons (ev_var (i := 6) A9 rfl) (ea_cons (ev_op (ev_var (i := 8) A9 rfl) ev_int (rd_ixL (i := 0) (z := bodyD o) (atI_nat (j := 0) rfl))) ea_nil)))) fun x10 H10 s10 hx10 => ?_
                exact ⟨_, hgo, ((A9.same s10).put hx10 3).wk (by repeat (first | exact Wk.nil | apply Wk.keep | apply Wk.drop)), s48.trans (s9.trans s10)⟩
            · have ef : farStep (init ++ [last]) last b best = best := by
                unfold farStep
                cases ho : othersM (init ++ [last]) last b with
                | nil => rfl
                | cons o os =>
                  rw [ho] at hb9
                  have hb' : better (init ++ [last]) best = false := hb9
                  show (if better (init ++ [last]) best = true then _ else _) = _
                  rw [if_neg (by rw [hb']; decide)]
              rw [ef] at hgo
              exact ⟨best, hgo, (A8.same s9).wk (by repeat (first | exact Wk.nil | apply Wk.keep | apply Wk.drop)), s48.trans s9⟩
    · rw [List.length_map, List.drop_of_length_le (Nat.le_refl _)] at hgo
      cases hgo
      exact st_ret (ev_var (i := 3) A5 rfl) fun v5 H5 s5 hv5 => k v5 H5 ((((s1.trans s2).trans s3).trans s4).trans (sm.trans s5)) hv5
end
end Z
set_option Elab.async false
set_option linter.all false
set_option maxRecDepth 100000
set_option maxHeartbeats 4000000
/-! ZP: the law's own defs: _law_nb_beside, _law_nb_both, _law_nb_shape, _law_nb_steps, _law_waves. -/
namespace Z
open PySem PySem.Spec L2
open PyProof.Rows hiding St
section
variable {P : Program} {w : World} {K : PySem.W.Frag} {mg : Str → Option Value} {base : Heap} {tM : Tok} {aR : Addr} {H H' : Hp} {σ : St}
abbrev s__law_nb_beside : Stmt := top 38
theorem sc__law_nb_beside : FnScope ["_law_cell"] ["_law_cell"] (defScope s__law_nb_beside) := ⟨rfl, rfl, rfl, by decide +kernel, rfl, by decide +kernel, by decide +kernel⟩
def lnb (c : Cell) : List Cell := [(c.1 - 1, c.2), (c.1, c.2 - 1), (c.1, c.2 + 1), (c.1 + 1, c.2)]
abbrev R_lnb : List PyData → List PyData → Prop := fun ds rs => ∃ c, ds = [cellD c] ∧ rs = (lnb c).map cellD
theorem ok_lnb (h : Has K mg "_law_nb_beside" s__law_nb_beside ["_law_cell"]) : OkAt P w K mg base 1 "_law_nb_beside" ["_law_cell"] (NewSp K R_lnb) := by
  refine h.ok sc__law_nb_beside (nw_len fun ds r ⟨_, e, _⟩ => by rw [e]; rfl) (fun _ cdv A outer s H vs Q E f hr q => ?_)
  obtain ⟨ds, r, hv, ⟨c, rfl, rfl⟩, k⟩ := q
  have hu := hr.units
  have hu5 := hu65 hr
  refine ⟨_, (pss_one (ps_ret (pe_lst (pa_cons (pe_tup (pa_cons (pe_op op_sub (pe_ix (show IxR _ (rIxT K) from ix_tup) (pv 0) pe_int (fun _ _ => rfl)) pe_int) (pa_cons (pe_ix (show IxR _ (rIxT K) from ix_tup) (pv 0) pe_int (fun _ _ => rfl)) pa_nil))) (pa_cons (pe_tup (pa_cons (pe_ix (show IxR _ (rIxT K) from ix_tup) (pv 0) pe_int (fun _ _ => rfl)) (pa_cons (pe_op op_sub (pe_ix (show IxR _ (rIxT K) from ix_tup) (pv 0) pe_int (fun _ _ => rfl)) pe_int) pa_nil))) (pa_cons (pe_tup (pa_cons (pe_ix (show IxR _ (rIxT K) from ix_tup) (pv 0) pe_int (fun _ _ => rfl)) (pa_cons (pe_op op_add (pe_ix (show IxR _ (rIxT K) from ix_tup) (pv 0) pe_int (fun _ _ => rfl)) pe_int) pa_nil))) (pa_cons (pe_tup (pa_cons (pe_op op_add (pe_ix (show IxR _ (rIxT K) from ix_tup) (pv 0) pe_int (fun _ _ => rfl)) pe_int) (pa_cons (pe_ix (show IxR _ (rIxT K) from ix_tup) (pv 0) pe_int (fun _ _ => rfl)) pa_nil))) pa_nil))))))), ?_⟩
  have A0 : Al K H [.dat (cellD c)] (L2.start ["_law_cell"] vs) := al_start ["_law_cell"] hv
  have x : Evd K (tVar 0) _ H (cellD c) := ev_var A0 rfl
  exact en_lst (ds := (lnb c).map cellD) (ea_cons (ev_cell (ev_op (ev_fst x) ev_int rd_I0) (ev_snd x)) (ea_cons (ev_cell (ev_fst x) (ev_op (ev_snd x) ev_int rd_I0))
    (ea_cons (ev_cell (ev_fst x) (ev_op (ev_snd x) ev_int rd_I0)) (ea_cons (ev_cell (ev_op (ev_fst x) ev_int rd_I0) (ev_snd x)) ea_nil)))) (by show 4 ≤ sizeLine; decide) H (Same.refl _) _ k
abbrev s__law_nb_both : Stmt := top 42
theorem sc__law_nb_both : FnScope ["_law_rest", "_law_cell", "_law_end", "_law_x", "_law_y"] ["_law_rest", "_law_cell", "_law_end", "_law_x", "_law_y"] (defScope s__law_nb_both) := ⟨rfl, rfl, rfl, by decide +kernel, rfl, by decide +kernel, by decide +kernel⟩
def bothM (rest : List Cell) (c e p : Cell) : Bool := memK rest (c.1 + p.1, c.2 + p.2) && memK rest (e.1 + p.1, e.2 + p.2)
abbrev R_both : List PyData → PyData → Prop := fun ds r => ∃ rest c e p, ds = [.list (rest.map cellD), cellD c, cellD e, .int p.1, .int p.2] ∧ r = .bool (bothM rest c e p)
theorem ev_inLC {ta tb : TE} {c : Cell} {rest : List Cell} (h1 : Evd K ta σ H (cellD c)) (h2 : Evd K tb σ H (.list (rest.map cellD))) : Evd K (tOp (rInD K) ta tb) σ H (.bool (memK rest c)) := ev_op h1 h2 (rd_inL (cell_shaped c) (cells_shaped rest) (any_cells rest c))
theorem ok_both (h : Has K mg "_law_nb_both" s__law_nb_both ["_law_rest", "_law_cell", "_law_end", "_law_x", "_law_y"]) : OkAt P w K mg base 1 "_law_nb_both" ["_law_rest", "_law_cell", "_law_end", "_law_x", "_law_y"] (Pu K R_both) := by
  refine h.ok sc__law_nb_both (pu_len fun ds r ⟨_, _, _, _, e, _⟩ => by rw [e]; rfl) (fun _ cdv A outer s H vs Q E f hr q => ?_)
  obtain ⟨ds, r, hv, ⟨rest, c, e, p, rfl, rfl⟩, k⟩ := q
  have hu := hr.units
  have hu5 := hu65 hr
  refine ⟨_, (pss_one (ps_ret (pe_and (pe_cmpR (show OpR _ _ (rInD K) from op_inD hu5) (pe_tup (pa_cons (pe_op op_add (pe_ix (show IxR _ (rIxT K) from ix_tup) (pv 1) pe_int (fun _ _ => rfl)) (pv 3)) (pa_cons (pe_op op_add (pe_ix (show IxR _ (rIxT K) from ix_tup) (pv 1) pe_int (fun _ _ => rfl)) (pv 4)) pa_nil))) (pv 0) rfl) (pe_one (pe_cmpR (show OpR _ _ (rInD K) from op_inD hu5) (pe_tup (pa_cons (pe_op op_add (pe_ix (show IxR _ (rIxT K) from ix_tup) (pv 2) pe_int (fun _ _ => rfl)) (pv 3)) (pa_cons (pe_op op_add (pe_ix (show IxR _ (rIxT K) from ix_tup) (pv 2) pe_int (fun _ _ => rfl)) (pv 4)) pa_nil))) (pv 0) rfl))))), ?_⟩
  have A0 : Al K H [.dat (.list (rest.map cellD)), .dat (cellD c), .dat (cellD e), .dat (.int p.1), .dat (.int p.2)] (L2.start ["_law_rest", "_law_cell", "_law_end", "_law_x", "_law_y"] vs) := al_start ["_law_rest", "_law_cell", "_law_end", "_law_x", "_law_y"] hv
  exact st_ret (ev_andV (ev_inLC (ev_cell (ev_op (ev_fst (ev_var (i := 1) A0 rfl)) (ev_var (i := 3) A0 rfl) rd_I0) (ev_op (ev_snd (ev_var (i := 1) A0 rfl)) (ev_var (i := 4) A0 rfl) rd_I0)) (ev_var (i := 0) A0 rfl)) fun _ =>
    ev_inLC (ev_cell (ev_op (ev_fst (ev_var (i := 2) A0 rfl)) (ev_var (i := 3) A0 rfl) rd_I0) (ev_op (ev_snd (ev_var (i := 2) A0 rfl)) (ev_var (i := 4) A0 rfl) rd_I0)) (ev_var (i := 0) A0 rfl)) k
/-! ### _law_nb_shape -/
abbrev s__law_nb_shape : Stmt := top 43
theorem sc__law_nb_shape : FnScope ["_law_cells", "_law_column", "_law_row", "_law_cell", "_law_x", "_law_y"] ["_law_cells"] (defScope s__law_nb_shape) := ⟨rfl, rfl, rfl, by decide +kernel, rfl, by decide +kernel, by decide +kernel⟩
def lshapeM (b : Body) : Body := isort cellLe (b.map fun c => (c.1 - minL (b.map (·.1)), c.2 - minL (b.map (·.2))))
theorem en_colL {tl : TE} {b : Body} {es : List Slot} {i : Nat} (hlen : b.length ≤ 1000) (A : Al K H es σ) (h : Evd K tl σ H (.list (b.map cellD))) (hi : ((wipeE es [i]).set i (.dat (cellD (0, 0))))[i]? = some (.dat (cellD (0, 0)))) :
    EvN K (tLc (iList K tl) (gName i) tYes (tOp (rIxT K) (tVar i) (tC (.int 0))) [i]) σ H ((b.map (·.1)).map .int) ∧ EvN K (tLc (iList K tl) (gName i) tYes (tOp (rIxT K) (tVar i) (tC (.int 1))) [i]) σ H ((b.map (·.2)).map .int) := by
  have hget : ∀ c : Cell, ((wipeE es [i]).set i (.dat (cellD c)))[i]? = some (.dat (cellD c)) := fun c => by
    have hl : i < (wipeE es [i]).length := by
      rw [List.getElem?_eq_some_iff] at hi
      obtain ⟨h1, _⟩ := hi
      rw [List.length_set] at h1
      exact h1
    rw [List.getElem?_set]
    simp [hl]
  have ef : ∀ (f : Cell → Int), ((b.filter fun _ => true).map fun c => PyData.int (f c)) = (b.map f).map .int := fun f => by
    rw [List.filter_eq_self.mpr (fun _ _ => rfl), List.map_map]; rfl
  refine ⟨(en_listF (xs := b) (enc := cellD) (p := fun _ => true) (f := fun c => .int c.1) (Nat.lt_of_le_of_lt hlen (by decide)) (fun x _ => rfl) h fun x _ => turn_name A (wipe_set1 _ _) fun σ2 H1 s1 A1 => ⟨et_yes, fun _ => ev_fst (ev_var A1 (hget x))⟩).is (ef _),
    (en_listF (xs := b) (enc := cellD) (p := fun _ => true) (f := fun c => .int c.2) (Nat.lt_of_le_of_lt hlen (by decide)) (fun x _ => rfl) h fun x _ => turn_name A (wipe_set1 _ _) fun σ2 H1 s1 A1 => ⟨et_yes, fun _ => ev_snd (ev_var A1 (hget x))⟩).is (ef _)⟩
abbrev R_lshapeT : List PyData → PyData → Prop := fun ds r => ∃ b, ds = [bodyD b] ∧ b.length ≤ 1000 ∧ b ≠ [] ∧ r = bodyD (lshapeM b)
abbrev R_lshapeL : List PyData → PyData → Prop := fun ds r => ∃ b : Body, ds = [.list (b.map cellD)] ∧ b.length ≤ 1000 ∧ b ≠ [] ∧ r = bodyD (lshapeM b)
theorem ok_lshapeT (T : Glo K mg tM aR) (h : Has K mg "_law_nb_shape" s__law_nb_shape ["_law_cells"]) : OkAt P w K mg base 1 "_law_nb_shape" ["_law_cells"] (Pu K R_lshapeT) := by
  refine h.ok sc__law_nb_shape (pu_len fun ds r ⟨_, e, _⟩ => by rw [e]; rfl) (fun _ cdv A outer s H vs Q E f hr q => ?_)
  obtain ⟨ds, r, hv, ⟨b, rfl, hlen, hne, rfl⟩, k⟩ := q
  have hu := hr.units
  have hu5 := hu65 hr
  refine ⟨_, (pss_cons (ps_asg (pe_tup (pa_cons (pe_callB (show CallR _ _ (rMin K) from cr_min rfl) (by rfl) T.min zb_min (pa_cons (pe_lc (own := [("_law_cell", 3)]) (g := gName 3) rfl sc__law_nb_shape.nd (show PI _ _ _ (iTup K _) from pi_tup (pv 0)) (blkOk_by (N := ["_law_cells", "_law_column", "_law_row", "_law_cell", "_law_x", "_law_y"]) (sc := defScope s__law_nb_shape) (by decide +kernel)) (fun _ _ _ _ _ => (pg_name (i := 3) sc__law_nb_shape.nd rfl (Or.inl rfl))) (fun _ _ _ _ _ => pts_nil) (fun _ _ _ _ _ => (pe_ix (show IxR _ (rIxT K) from ix_tup) (pv 3) pe_int (fun _ _ => rfl)))) pa_nil)) (pa_cons (pe_callB (show CallR _ _ (rMin K) from cr_min rfl) (by rfl) T.min zb_min (pa_cons (pe_lc (own := [("_law_cell", 3)]) (g := gName 3) rfl sc__law_nb_shape.nd (show PI _ _ _ (iTup K _) from pi_tup (pv 0)) (blkOk_by (N := ["_law_cells", "_law_column", "_law_row", "_law_cell", "_law_x", "_law_y"]) (sc := defScope s__law_nb_shape) (by decide +kernel)) (fun _ _ _ _ _ => (pg_name (i := 3) sc__law_nb_shape.nd rfl (Or.inl rfl))) (fun _ _ _ _ _ => pts_nil) (fun _ _ _ _ _ => (pe_ix (show IxR _ (rIxT K) from ix_tup) (pv 3) pe_int (fun _ _ => rfl)))) pa_nil)) pa_nil))) (show PG _ _ (gTup K 2 (gCons (gName 1) (gCons (gName 2) gNil))) from pg_tup rfl (pgs_cons (pg_name (i := 1) sc__law_nb_shape.nd rfl (Or.inr rfl)) (pgs_cons (pg_name (i := 2) sc__law_nb_shape.nd rfl (Or.inr rfl)) pgs_nil))))
      (pss_one (ps_ret (pe_callTy (show CallR _ _ (rTupOf K) from call_tuple_of) (by rfl) T.tuple zb_tuple (pa_cons (pe_callB (show CallR _ _ (rSortD K) from cr_sortD hu) (by rfl) T.sorted zb_sorted (pa_cons (pe_lc (own := [("_law_x", 4), ("_law_y", 5)]) (g := gTup K 2 (gCons (gName 4) (gCons (gName 5) gNil))) rfl sc__law_nb_shape.nd (show PI _ _ _ (iTup K _) from pi_tup (pv 0)) (blkOk_by (N := ["_law_cells", "_law_column", "_law_row", "_law_cell", "_law_x", "_law_y"]) (sc := defScope s__law_nb_shape) (by decide +kernel)) (fun _ _ _ _ _ => (show PG _ _ (gTup K 2 (gCons (gName 4) (gCons (gName 5) gNil))) from pg_tup rfl (pgs_cons (pg_name (i := 4) sc__law_nb_shape.nd rfl (Or.inl rfl)) (pgs_cons (pg_name (i := 5) sc__law_nb_shape.nd rfl (Or.inl rfl)) pgs_nil)))) (fun _ _ _ _ _ => pts_nil) (fun _ _ _ _ _ => (pe_tup (pa_cons (pe_op op_sub (pv 4) (pv 1)) (pa_cons (pe_op op_sub (pv 5) (pv 2)) pa_nil))))) pa_nil)) pa_nil))))), ?_⟩
  have A0 : Al K H [.dat (bodyD b), .no, .no, .no, .no, .no] (L2.start ["_law_cells", "_law_column", "_law_row", "_law_cell", "_law_x", "_law_y"] vs) := al_start ["_law_cells", "_law_column", "_law_row", "_law_cell", "_law_x", "_law_y"] hv
  have n1 : b.map (·.1) ≠ [] := fun z => hne (List.map_eq_nil_iff.mp z)
  have n2 : b.map (·.2) ≠ [] := fun z => hne (List.map_eq_nil_iff.mp z)
  have cl := en_col (i := 3) hlen A0 (ev_var (i := 0) A0 rfl) rfl
  refine st_pair (d1 := .int (minL (b.map (·.1)))) (d2 := .int (minL (b.map (·.2)))) (ev_tup (ea_cons (ev_cb (ea_cons cl.1.d ea_nil) (rc_minL n1)) (ea_cons (ev_cb (ea_cons cl.2.d ea_nil) (rc_minL n2)) ea_nil))) fun x y H1 s1 hx hy => ?_
  have A1 := ((A0.same s1).put hx 1).put hy 2
  have al := cells_ok (b.map fun c => (c.1 - minL (b.map (·.1)), c.2 - minL (b.map (·.2))))
  have lc := (en_tupF (xs := b) (enc := cellD) (p := fun _ => true) (f := fun c => cellD (c.1 - minL (b.map (·.1)), c.2 - minL (b.map (·.2)))) (tl := tVar 0) (g := gTup K 2 (gCons (gName 4) (gCons (gName 5) gNil))) (vs := [4, 5]) (tt := tYes) (te := tTup (tCons (tOp (rI0 fun i j => .int (i - j)) (tVar 4) (tVar 1)) (tCons (tOp (rI0 fun i j => .int (i - j)) (tVar 5) (tVar 2)) tNil)))
    (small hlen) (fun x _ => cell_flat _) (ev_var (i := 0) A1 rfl) fun x _ => turn_pair A1 (wipe_set2 _ _ _) fun σ2 H2 s2 A2 =>
    ⟨et_yes, fun _ => ev_cell (ev_op (ev_var (i := 4) A2 rfl) (ev_var (i := 1) A2 rfl) rd_I0) (ev_op (ev_var (i := 5) A2 rfl) (ev_var (i := 2) A2 rfl) rd_I0)⟩).is
    (es := (b.map fun c => (c.1 - minL (b.map (·.1)), c.2 - minL (b.map (·.2)))).map cellD) (by rw [List.filter_eq_self.mpr (fun _ _ => rfl), List.map_map]; rfl)
  exact st_ret (ev_cb (ea_cons ((en_sortD lc.d al.1 al.2.1 al.2.2).is (sort_cells _)).d ea_nil) rc_tup) fun v H2 s2 hv => k v H2 (s1.trans s2) hv
theorem ok_lshapeL (T : Glo K mg tM aR) (h : Has K mg "_law_nb_shape" s__law_nb_shape ["_law_cells"]) : OkAt P w K mg base 1 "_law_nb_shape" ["_law_cells"] (Pu K R_lshapeL) := by
  refine h.ok sc__law_nb_shape (pu_len fun ds r ⟨_, e, _⟩ => by rw [e]; rfl) (fun _ cdv A outer s H vs Q E f hr q => ?_)
  obtain ⟨ds, r, hv, ⟨b, rfl, hlen, hne, rfl⟩, k⟩ := q
  have hu := hr.units
  have hu5 := hu65 hr
  refine ⟨_, (pss_cons (ps_asg (pe_tup (pa_cons (pe_callB (show CallR _ _ (rMin K) from cr_min rfl) (by rfl) T.min zb_min (pa_cons (pe_lc (own := [("_law_cell", 3)]) (g := gName 3) rfl sc__law_nb_shape.nd (show PI _ _ _ (iList K _) from pi_list (pv 0)) (blkOk_by (N := ["_law_cells", "_law_column", "_law_row", "_law_cell", "_law_x", "_law_y"]) (sc := defScope s__law_nb_shape) (by decide +kernel)) (fun _ _ _ _ _ => (pg_name (i := 3) sc__law_nb_shape.nd rfl (Or.inl rfl))) (fun _ _ _ _ _ => pts_nil) (fun _ _ _ _ _ => (pe_ix (show IxR _ (rIxT K) from ix_tup) (pv 3) pe_int (fun _ _ => rfl)))) pa_nil)) (pa_cons (pe_callB (show CallR _ _ (rMin K) from cr_min rfl) (by rfl) T.min zb_min (pa_cons (pe_lc (own := [("_law_cell", 3)]) (g := gName 3) rfl sc__law_nb_shape.nd (show PI _ _ _ (iList K _) from pi_list (pv 0)) (blkOk_by (N := ["_law_cells", "_law_column", "_law_row", "_law_cell", "_law_x", "_law_y"]) (sc := defScope s__law_nb_shape) (by decide +kernel)) (fun _ _ _ _ _ => (pg_name (i := 3) sc__law_nb_shape.nd rfl (Or.inl rfl))) (fun _ _ _ _ _ => pts_nil) (fun _ _ _ _ _ => (pe_ix (show IxR _ (rIxT K) from ix_tup) (pv 3) pe_int (fun _ _ => rfl)))) pa_nil)) pa_nil))) (show PG _ _ (gTup K 2 (gCons (gName 1) (gCons (gName 2) gNil))) from pg_tup rfl (pgs_cons (pg_name (i := 1) sc__law_nb_shape.nd rfl (Or.inr rfl)) (pgs_cons (pg_name (i := 2) sc__law_nb_shape.nd rfl (Or.inr rfl)) pgs_nil))))
      (pss_one (ps_ret (pe_callTy (show CallR _ _ (rTupOf K) from call_tuple_of) (by rfl) T.tuple zb_tuple (pa_cons (pe_callB (show CallR _ _ (rSortD K) from cr_sortD hu) (by rfl) T.sorted zb_sorted (pa_cons (pe_lc (own := [("_law_x", 4), ("_law_y", 5)]) (g := gTup K 2 (gCons (gName 4) (gCons (gName 5) gNil))) rfl sc__law_nb_shape.nd (show PI _ _ _ (iList K _) from pi_list (pv 0)) (blkOk_by (N := ["_law_cells", "_law_column", "_law_row", "_law_cell", "_law_x", "_law_y"]) (sc := defScope s__law_nb_shape) (by decide +kernel)) (fun _ _ _ _ _ => (show PG _ _ (gTup K 2 (gCons (gName 4) (gCons (gName 5) gNil))) from pg_tup rfl (pgs_cons (pg_name (i := 4) sc__law_nb_shape.nd rfl (Or.inl rfl)) (pgs_cons (pg_name (i := 5) sc__law_nb_shape.nd rfl (Or.inl rfl)) pgs_nil)))) (fun _ _ _ _ _ => pts_nil) (fun _ _ _ _ _ => (pe_tup (pa_cons (pe_op op_sub (pv 4) (pv 1)) (pa_cons (pe_op op_sub (pv 5) (pv 2)) pa_nil))))) pa_nil)) pa_nil))))), ?_⟩
  have A0 : Al K H [.dat (.list (b.map cellD)), .no, .no, .no, .no, .no] (L2.start ["_law_cells", "_law_column", "_law_row", "_law_cell", "_law_x", "_law_y"] vs) := al_start ["_law_cells", "_law_column", "_law_row", "_law_cell", "_law_x", "_law_y"] hv
  have n1 : b.map (·.1) ≠ [] := fun z => hne (List.map_eq_nil_iff.mp z)
  have n2 : b.map (·.2) ≠ [] := fun z => hne (List.map_eq_nil_iff.mp z)
  have cl := en_colL (i := 3) hlen A0 (ev_var (i := 0) A0 rfl) rfl
  refine st_pair (d1 := .int (minL (b.map (·.1)))) (d2 := .int (minL (b.map (·.2)))) (ev_tup (ea_cons (ev_cb (ea_cons cl.1.d ea_nil) (rc_minL n1)) (ea_cons (ev_cb (ea_cons cl.2.d ea_nil) (rc_minL n2)) ea_nil))) fun x y H1 s1 hx hy => ?_
  have A1 := ((A0.same s1).put hx 1).put hy 2
  have al := cells_ok (b.map fun c => (c.1 - minL (b.map (·.1)), c.2 - minL (b.map (·.2))))
  have lc := (en_listF (xs := b) (enc := cellD) (p := fun _ => true) (f := fun c => cellD (c.1 - minL (b.map (·.1)), c.2 - minL (b.map (·.2)))) (tl := tVar 0) (g := gTup K 2 (gCons (gName 4) (gCons (gName 5) gNil))) (vs := [4, 5]) (tt := tYes) (te := tTup (tCons (tOp (rI0 fun i j => .int (i - j)) (tVar 4) (tVar 1)) (tCons (tOp (rI0 fun i j => .int (i - j)) (tVar 5) (tVar 2)) tNil)))
    (small hlen) (fun x _ => cell_flat _) (ev_var (i := 0) A1 rfl) fun x _ => turn_pair A1 (wipe_set2 _ _ _) fun σ2 H2 s2 A2 =>
    ⟨et_yes, fun _ => ev_cell (ev_op (ev_var (i := 4) A2 rfl) (ev_var (i := 1) A2 rfl) rd_I0) (ev_op (ev_var (i := 5) A2 rfl) (ev_var (i := 2) A2 rfl) rd_I0)⟩).is
    (es := (b.map fun c => (c.1 - minL (b.map (·.1)), c.2 - minL (b.map (·.2)))).map cellD) (by rw [List.filter_eq_self.mpr (fun _ _ => rfl), List.map_map]; rfl)
  exact st_ret (ev_cb (ea_cons ((en_sortD lc.d al.1 al.2.1 al.2.2).is (sort_cells _)).d ea_nil) rc_tup) fun v H2 s2 hv => k v H2 (s1.trans s2) hv
/-! ### _law_waves -/
abbrev s__law_waves : Stmt := top 47
theorem sc__law_waves : FnScope ["_law_nexts", "_law_shape", "_law_seen", "_law_rows", "_law_more", "_law_one", "_law_other"] ["_law_nexts", "_law_shape"] (defScope s__law_waves) := ⟨rfl, rfl, rfl, by decide +kernel, rfl, by decide +kernel, by decide +kernel⟩
theorem ok_lwaves (T : Glo K mg tM aR) (h : Has K mg "_law_waves" s__law_waves ["_law_nexts", "_law_shape"]) : OkAt P w K mg base 1 "_law_waves" ["_law_nexts", "_law_shape"] (sp_waves P w K) := by
  refine h.ok sc__law_waves (fun vs H Q E h => by obtain ⟨d, v, nx, b, rows, rfl, _⟩ := h; rfl) (fun _ cdv A outer s H vs Q E f hr q => ?_)
  obtain ⟨d, v, nx, b, rows, rfl, hnx, hv, hokN, hbn, hrows, k⟩ := q
  have hu := hr.units
  have hu5 := hu65 hr
  refine ⟨_, (pss_cons (ps_par (i := 2) (j := 3) rfl sc__law_waves.nd rfl rfl (by decide) rfl rfl (pa_cons (pe_disp1 bodyK hu (pv 1) pe_bl) (pa_cons (pe_lst (pa_cons (pe_lst (pa_cons (pv 1) pa_nil)) pa_nil)) pa_nil)) rfl)
      (pss_cons (ps_while PassesOwn.never (pt_cmpR (show OpR _ _ (rNeD K) from op_neD hu) (pe_ix (show IxR _ (rIxL K) from ix_list) (pv 3) (pe_un un_neg pe_int) (fun _ _ => rfl)) (pe_lst pa_nil) (nomark _))
      (pss_cons (ps_set (i := 4) sc__law_waves.nd rfl (Or.inl rfl) (pe_lst pa_nil))
      (pss_cons (ps_for PassesOwn.never rfl (show PI _ _ _ (iList K _) from pi_list (pe_ix (show IxR _ (rIxL K) from ix_list) (pv 3) (pe_un un_neg pe_int) (fun _ _ => rfl))) (pg_name (i := 5) sc__law_waves.nd rfl (Or.inl rfl))
      (pss_one (ps_for PassesOwn.never rfl (show PI _ _ _ (iList K _) from pi_list (show PE _ _ (tGetN P w K bodyD _ _) from pe_getN bodyK hu (pv 0) (pv 5) (fun _ _ => rfl))) (pg_name (i := 6) sc__law_waves.nd rfl (Or.inl rfl))
      (pss_one (ps_if (pt_cmpR (show OpR _ _ (rNotInN P w K bodyD) from op_notInN bodyK hu) (pv 6) (pv 2) rfl) (pss_cons (ps_asg pe_bl (pg_sub (pv 2) (pv 6) (show PSet _ (tSetN P w K bodyD) from set_N bodyK hu)))
      (pss_one (ps_expr (pe_bm PySem.F.plainAttrs_list PySem.F.slot_list_append PySem.F.type_list_append mt_append (pv 4) (pa_cons (pv 6) pa_nil))))) pss_nil)))))
      (pss_one (ps_expr (pe_bm PySem.F.plainAttrs_list PySem.F.slot_list_append PySem.F.type_list_append mt_append (pv 3) (pa_cons (pe_callB (show CallR _ _ (rSortD K) from cr_sortD hu) (by rfl) T.sorted zb_sorted (pa_cons (pv 4) pa_nil)) pa_nil)))))))
      (pss_one (ps_ret (pe_slice sl_list (pv 3) po_none (po_some (pe_un un_neg pe_int))))))), ?_⟩
  have A0 : Al K H [.raw (.ref d), .dat (bodyD b), .no, .no, .no, .no, .no] (L2.start ["_law_nexts", "_law_shape", "_law_seen", "_law_rows", "_law_more", "_law_one", "_law_other"] [.ref d, v]) := .cons rfl (.cons ⟨v, rfl, hv⟩ (Al.no 5))
  obtain ⟨r, hrun, hl1, hl2, last, hrev⟩ := wavesM_run hrows
  refine wv_init (P := P) (w := w) (K := K) A0 rfl fun sd fo H1 hs0 hf0 s1 T1 ll1 => ?_
  refine wv_loop s1 hs0 hf0 hnx hokN hbn hrun hl1 hl2 ((((A0.same s1).putR (v := .ref sd) 2).putR (v := .ref fo) 3).wk (by repeat (first | exact Wk.nil | apply Wk.keep | apply Wk.drop))) T1 ll1 (fun {σ' H' xs a last} A4 ef own =>
    et_test (ev_op (ev_of (er_last (er_var (i := 3) A4 rfl) ef) own.dp) (en_lst ea_nil).d (rd_ne (shaped_lst (n := 2) (fun b => SeqAt.canLay_of_shaped (body_shaped b)) body_depth (by decide) last) rfl (by cases last <;> rfl)))) fun σ' H' sm A4 ll4 => ?_
  rw [hrev] at ll4
  exact wv_ret A4 rfl ll4 fun v' H5 s5 hv5 => k v' H5 (sm.trans s5) hv5
/-! ### _law_nb_steps -/
abbrev s__law_nb_steps : Stmt := top 41
theorem sc__law_nb_steps : FnScope ["_law_rest", "_law_cell", "_law_found", "_law_across", "_law_up", "_law_end", "_law_corners", "_law_one", "_law_sides", "_law_x", "_law_y"] ["_law_rest", "_law_cell"] (defScope s__law_nb_steps) := ⟨rfl, rfl, rfl, by decide +kernel, rfl, by decide +kernel, by decide +kernel⟩
def stAdd (rest : List Cell) (c : Cell) (a : Int) (acc : List Cell) (u : Int) : List Cell :=
  if (memK rest (c.1 + a, c.2 + u) || decide ((a, u) = (0, 0))) = true then acc else
  if (!decide (a = 0) && !decide (u = 0)) = true then
    if decide ((([(c.1 + a, c.2), (c.1, c.2 + u)].filter (memK rest)).length : Int) = 1) = true then acc ++ [(c.1 + a, c.2 + u)] else acc
  else if ([(u, a), (-u, -a)].filter (bothM rest c (c.1 + a, c.2 + u))).isEmpty = true then acc else acc ++ [(c.1 + a, c.2 + u)]
def tri : List Int := [-1, 0, 1]
def stRow (rest : List Cell) (c : Cell) (acc : List Cell) (a : Int) : List Cell := tri.foldl (stAdd rest c a) acc
def stepsM (rest : List Cell) (c : Cell) : List Cell := isort cellLe (tri.foldl (stRow rest c) [])
theorem stAdd_len (rest : List Cell) (c : Cell) (a : Int) (acc : List Cell) (u : Int) : (stAdd rest c a acc u).length ≤ acc.length + 1 := by
  unfold stAdd
  split
  · omega
  · split
    · split
      · rw [List.length_append, List.length_singleton]; omega
      · omega
    · split
      · omega
      · rw [List.length_append, List.length_singleton]; omega
theorem stFold_len (rest : List Cell) (c : Cell) (a : Int) : ∀ (us : List Int) (acc : List Cell), (us.foldl (stAdd rest c a) acc).length ≤ acc.length + us.length
  | [], acc => Nat.le_refl _
  | u :: us, acc => by
    have h1 := stFold_len rest c a us (stAdd rest c a acc u)
    have h2 := stAdd_len rest c a acc u
    rw [List.foldl_cons, List.length_cons]
    omega
theorem stRow_len (rest : List Cell) (c : Cell) : ∀ (as : List Int) (acc : List Cell), (as.foldl (stRow rest c) acc).length ≤ acc.length + 3 * as.length
  | [], acc => Nat.le_refl _
  | a :: as, acc => by
    have h1 := stRow_len rest c as (stRow rest c acc a)
    have h2 : (stRow rest c acc a).length ≤ acc.length + 3 := stFold_len rest c a tri acc
    rw [List.foldl_cons, List.length_cons]
    omega
abbrev R_steps : List PyData → List PyData → Prop := fun ds rs => ∃ rest c, ds = [.list (rest.map cellD), cellD c] ∧ rs = (stepsM rest c).map cellD
theorem en_tri : EvN K (tLst (tCons (tUn (rU fun i => .int (-i)) (tC (.int 1))) (tCons (tC (.int 0)) (tCons (tC (.int 1)) tNil)))) σ H (tri.map .int) := en_lst (ea_cons (ev_un ev_int ru_U) (ea_cons ev_int (ea_cons ev_int ea_nil))) (by show 3 ≤ sizeLine; decide)
theorem ok_steps (T : Glo K mg tM aR) (h : Has K mg "_law_nb_steps" s__law_nb_steps ["_law_rest", "_law_cell"]) (G__law_nb_both : OkAt P w K mg base 1 "_law_nb_both" ["_law_rest", "_law_cell", "_law_end", "_law_x", "_law_y"] (Pu K R_both)) : OkAt P w K mg base 2 "_law_nb_steps" ["_law_rest", "_law_cell"] (NewSp K R_steps) := by
  refine h.ok sc__law_nb_steps (nw_len fun ds r ⟨_, _, e, _⟩ => by rw [e]; rfl) (fun _ cdv A outer s H vs Q E f hr q => ?_)
  obtain ⟨ds, r, hv, ⟨rest, c, rfl, rfl⟩, k⟩ := q
  have hu := hr.units
  have hu5 := hu65 hr
  refine ⟨_, (pss_cons (ps_set (i := 2) sc__law_nb_steps.nd rfl (Or.inl rfl) (pe_lst pa_nil))
      (pss_cons (ps_for PassesOwn.never rfl (show PI _ _ _ (iList K _) from pi_list (pe_lst (pa_cons (pe_un un_neg pe_int) (pa_cons pe_int (pa_cons pe_int pa_nil))))) (pg_name (i := 3) sc__law_nb_steps.nd rfl (Or.inl rfl))
      (pss_one (ps_for PassesOwn.never rfl (show PI _ _ _ (iList K _) from pi_list (pe_lst (pa_cons (pe_un un_neg pe_int) (pa_cons pe_int (pa_cons pe_int pa_nil))))) (pg_name (i := 4) sc__law_nb_steps.nd rfl (Or.inl rfl))
      (pss_cons (ps_set (i := 5) sc__law_nb_steps.nd rfl (Or.inr rfl) (pe_tup (pa_cons (pe_op op_add (pe_ix (show IxR _ (rIxT K) from ix_tup) (pv 1) pe_int (fun _ _ => rfl)) (pv 3)) (pa_cons (pe_op op_add (pe_ix (show IxR _ (rIxT K) from ix_tup) (pv 1) pe_int (fun _ _ => rfl)) (pv 4)) pa_nil))))
      (pss_cons (ps_if (PW.pt (pw_or (pt_cmpR (show OpR _ _ (rInD K) from op_inD hu5) (pv 5) (pv 0) rfl) (pw_or1 (pt_cmpR (show OpR _ _ (rEqD K) from op_eqD hu) (pe_tup (pa_cons (pv 3) (pa_cons (pv 4) pa_nil))) (pe_tup (pa_cons pe_int (pa_cons pe_int pa_nil))) (nomark _))))) (pss_one ps_continue) pss_nil)
      (pss_one (ps_if (PW.pt (pw_and (pt_cmpR op_ne (pv 3) pe_int (nomark _)) (pw_and1 (pt_cmpR op_ne (pv 4) pe_int (nomark _))))) (pss_cons (ps_set (i := 6) sc__law_nb_steps.nd rfl (Or.inl rfl) (pe_lst (pa_cons (pe_tup (pa_cons (pe_op op_add (pe_ix (show IxR _ (rIxT K) from ix_tup) (pv 1) pe_int (fun _ _ => rfl)) (pv 3)) (pa_cons (pe_ix (show IxR _ (rIxT K) from ix_tup) (pv 1) pe_int (fun _ _ => rfl)) pa_nil))) (pa_cons (pe_tup (pa_cons (pe_ix (show IxR _ (rIxT K) from ix_tup) (pv 1) pe_int (fun _ _ => rfl)) (pa_cons (pe_op op_add (pe_ix (show IxR _ (rIxT K) from ix_tup) (pv 1) pe_int (fun _ _ => rfl)) (pv 4)) pa_nil))) pa_nil))))
      (pss_one (ps_if (pt_cmpR op_eq (pe_callB (show CallR _ _ (rLen K) from call_len_seq) (by rfl) T.len zb_len (pa_cons (pe_lc (own := [("_law_one", 7)]) (g := gName 7) rfl sc__law_nb_steps.nd (show PI _ _ _ (iList K _) from pi_list (pv 6)) (blkOk_by (N := ["_law_rest", "_law_cell", "_law_found", "_law_across", "_law_up", "_law_end", "_law_corners", "_law_one", "_law_sides", "_law_x", "_law_y"]) (sc := defScope s__law_nb_steps) (by decide +kernel)) (fun _ _ _ _ _ => (pg_name (i := 7) sc__law_nb_steps.nd rfl (Or.inl rfl))) (fun _ _ _ _ _ => (pts_one (pt_cmpR (show OpR _ _ (rInD K) from op_inD hu5) (pv 7) (pv 0) rfl))) (fun _ _ _ _ _ => (pv 7))) pa_nil)) pe_int (nomark _)) (pss_one (ps_expr (pe_bm PySem.F.plainAttrs_list PySem.F.slot_list_append PySem.F.type_list_append mt_append (pv 2) (pa_cons (pv 5) pa_nil)))) pss_nil))) (pss_cons (ps_set (i := 8) sc__law_nb_steps.nd rfl (Or.inl rfl) (pe_lst (pa_cons (pe_tup (pa_cons (pv 4) (pa_cons (pv 3) pa_nil))) (pa_cons (pe_tup (pa_cons (pe_un un_neg (pv 4)) (pa_cons (pe_un un_neg (pv 3)) pa_nil))) pa_nil))))
      (pss_one (ps_if (pt_cmpR (show OpR _ _ (rNeD K) from op_neD hu) (pe_lc (own := [("_law_x", 9), ("_law_y", 10)]) (g := gTup K 2 (gCons (gName 9) (gCons (gName 10) gNil))) rfl sc__law_nb_steps.nd (show PI _ _ _ (iList K _) from pi_list (pv 8)) (blkOk_by (N := ["_law_rest", "_law_cell", "_law_found", "_law_across", "_law_up", "_law_end", "_law_corners", "_law_one", "_law_sides", "_law_x", "_law_y"]) (sc := defScope s__law_nb_steps) (by decide +kernel)) (fun _ _ _ _ _ => (show PG _ _ (gTup K 2 (gCons (gName 9) (gCons (gName 10) gNil))) from pg_tup rfl (pgs_cons (pg_name (i := 9) sc__law_nb_steps.nd rfl (Or.inl rfl)) (pgs_cons (pg_name (i := 10) sc__law_nb_steps.nd rfl (Or.inl rfl)) pgs_nil)))) (fun _ _ _ _ _ => (pts_one (pt_val (pe_callO G__law_nb_both (hr.mono (by decide)) rfl (pa_cons (pv 0) (pa_cons (pv 1) (pa_cons (pv 5) (pa_cons (pv 9) (pa_cons (pv 10) pa_nil))))))))) (fun _ _ _ _ _ => pe_int)) (pe_lst pa_nil) (nomark _)) (pss_one (ps_expr (pe_bm PySem.F.plainAttrs_list PySem.F.slot_list_append PySem.F.type_list_append mt_append (pv 2) (pa_cons (pv 5) pa_nil)))) pss_nil))))))))))
      (pss_one (ps_ret (pe_callB (show CallR _ _ (rSortD K) from cr_sortD hu) (by rfl) T.sorted zb_sorted (pa_cons (pv 2) pa_nil)))))), ?_⟩
  obtain ⟨v0, v1, rfl, hv0, hv1⟩ : ∃ v0 v1, vs = [v0, v1] ∧ Dp K H v0 (.list (rest.map cellD)) ∧ Dp K H v1 (cellD c) := by
    cases hv with
    | cons h1 h2 =>
      cases h2 with
      | cons h2 h3 => cases h3; exact ⟨_, _, rfl, h1, h2⟩
  have A0 : Al K H [.raw v0, .dat (cellD c), .no, .no, .no, .no, .no, .no, .no, .no, .no] (L2.start ["_law_rest", "_law_cell", "_law_found", "_law_across", "_law_up", "_law_end", "_law_corners", "_law_one", "_law_sides", "_law_x", "_law_y"] [v0, v1]) := .cons rfl (.cons ⟨v1, rfl, hv1⟩ (Al.no 9))
  dsimp only [tSeq]
  refine st_nil fun fo H1 hfo e1 => ?_
  have s1 : Same H H1 := e1 ▸ Same.new hfo
  have of1 : OwnL K H1 fo (([] : List Cell).map cellD) := ⟨[], by rw [e1]; exact upd_same, .nil⟩
  have A1 := (A0.same s1).putR (v := .ref fo) 2
  have sameF : ∀ {H' : Hp}, But [fo] H H' → Same H H' := fun {H'} bb => bb.same fun x hx => by rw [List.mem_singleton] at hx; rw [hx]; exact hfo
  have tkF : ∀ {Ha Hb : Hp} {ds : List PyData}, OwnL K Ha fo ds → But [fo] Ha Hb → TKp K Ha Hb := fun {Ha Hb ds} o bb => bb.tk fun a ha o' ho => by
    rw [List.mem_singleton] at ha
    subst ha
    obtain ⟨x', e', _⟩ := o
    rw [e'] at ho; cases ho; rfl
  refine st_forN (ds := tri.map .int) en_tri rfl fun p xs H2 hp s2 hxs => ?_
  have npf : p ≠ fo := fun z => by
    obtain ⟨y, e, _⟩ := of1
    rw [z, e] at hp; cases hp
  have of2 := of1.same s2
  have b2 : But [fo] H H2 := Same.but (s1.trans s2)
  let I : Nat → St → Hp → Prop := fun i σ' H' => Al K H' [.raw v0, .dat (cellD c), .raw (.ref fo), .no, .no, .no, .no, .no, .no, .no, .no] σ' ∧ OwnL K H' fo (((tri.take i).foldl (stRow rest c) []).map cellD) ∧ But [fo] H2 H'
  refine ⟨I, ⟨(A1.same s2).wk (by repeat (first | exact Wk.nil | apply Wk.keep | apply Wk.drop)), of2, But.refl⟩, fun i σ' H' ⟨_, _, bb⟩ => ⟨tkF of2 bb, bb _ _ hxs (by simp [npf])⟩, fun i x v3 σ' H' hx ⟨A3, of3, b3⟩ hv3 => ?_, fun σ' H' ⟨A3, of3, b3⟩ => ?_⟩
  · obtain ⟨a, ha, rfl⟩ := map_at hx
    have hi : i < 3 := (List.getElem?_eq_some_iff.mp ha).1
    have stp := take_succ_foldl (f := stRow rest c) (b := ([] : List Cell)) ha
    have len3 := stRow_len rest c (tri.take i) []
    have ltk : (tri.take i).length ≤ i := List.length_take_le ..
    rw [List.length_nil] at len3
    generalize (tri.take i).foldl (stRow rest c) [] = acc at of3 stp len3
    have A4 := A3.put hv3 3
    refine st_forN (ds := tri.map .int) en_tri rfl fun p5 xs5 H5 hp5 s5 hxs5 => ?_
    have npf5 : p5 ≠ fo := fun z => by
      obtain ⟨y, e, _⟩ := of3
      rw [z, e] at hp5; cases hp5
    have of5 := of3.same s5
    have b5 : But [fo] H H5 := (b2.trans b3).trans (Same.but s5)
    let J : Nat → St → Hp → Prop := fun j σ2 H' => Al K H' [.raw v0, .dat (cellD c), .raw (.ref fo), .dat (.int a), .no, .no, .no, .no, .no, .no, .no] σ2 ∧ OwnL K H' fo (((tri.take j).foldl (stAdd rest c a) acc).map cellD) ∧ But [fo] H5 H'
    refine ⟨J, ⟨(A4.same s5).wk (by repeat (first | exact Wk.nil | apply Wk.keep | apply Wk.drop)), of5, But.refl⟩, fun j σ2 H' ⟨_, _, bb⟩ => ⟨tkF of5 bb, bb _ _ hxs5 (by simp [npf5])⟩, fun j y v6 σ2 H' hy ⟨A6, of6, b6⟩ hv6 => ?_, fun σ2 H' ⟨A6, of6, b6⟩ => ?_⟩
    · obtain ⟨u, hu6, rfl⟩ := map_at hy
      have hj : j < 3 := (List.getElem?_eq_some_iff.mp hu6).1
      have stp6 := take_succ_foldl (f := stAdd rest c a) (b := acc) hu6
      have len6 := stFold_len rest c a (tri.take j) acc
      have ltk6 : (tri.take j).length ≤ j := List.length_take_le ..
      generalize (tri.take j).foldl (stAdd rest c a) acc = acc6 at of6 stp6 len6
      have bnd : acc6.length ≤ 1000 := by omega
      have A7 := A6.put hv6 4
      dsimp only [tSeq]
      refine st_set (ev_cell (ev_op (ev_fst (ev_var (i := 1) A7 rfl)) (ev_var (i := 3) A7 rfl) rd_I0) (ev_op (ev_snd (ev_var (i := 1) A7 rfl)) (ev_var (i := 4) A7 rfl) rd_I0)) fun x8 H8 s8 hx8 => ?_
      have A8 := (A7.same s8).put hx8 5
      have of8 := of6.same s8
      have b8 : But [fo] H5 H8 := b6.trans (Same.but s8)
      have sm8 : Same H H8 := sameF (b5.trans b8)
      -- the ends of a turn
      have stay : ∀ {σ9 : St} {H9 : Hp}, Same H8 H9 → Al K H9 [.raw v0, .dat (cellD c), .raw (.ref fo), .dat (.int a), .no, .no, .no, .no, .no, .no, .no] σ9 → stAdd rest c a acc6 u = acc6 → J (j + 1) σ9 H9 := fun {σ9 H9} s9 A9 e => ⟨A9, by rw [stp6, e]; exact of8.same s9, b8.trans (Same.but s9)⟩
      have grow : ∀ {σ9 : St} {H9 : Hp} {R : V → Hp → Prop} {B C : St → Hp → Prop}, Same H8 H9 → Al K H9 [.raw v0, .dat (cellD c), .raw (.ref fo), .dat (.int a), .no, .dat (cellD (c.1 + a, c.2 + u)), .no, .no, .no, .no, .no] σ9 → stAdd rest c a acc6 u = acc6 ++ [(c.1 + a, c.2 + u)] →
          tDrop (tBM K "list" rAppend (tVar 2) (tCons (tVar 5) tNil)) { nx := J (j + 1), rt := R, bk := B, ct := C } σ9 H9 := fun {σ9 H9 R B C} s9 A9 e => by
        have of9 := of8.same s9
        refine st_appD (er_var (i := 2) A9 rfl) of9 (cells_flat _) (cell_flat _) (by rw [List.length_map]; exact small bnd) (ev_var (i := 5) A9 rfl) fun H10 ys s10 e10 of10 => ?_
        obtain ⟨z9, hz9, _⟩ := id of9
        have q10 := s10 _ _ hz9
        have tk10 : TKp K H10 (upd H10 fo (.lst ys)) := TKp.upd q10 rfl
        refine ⟨((A9.same s10).keepT tk10 rfl).wk (by repeat (first | exact Wk.nil | apply Wk.keep | apply Wk.drop)), ?_, ((b8.trans (Same.but s9)).trans (Same.but s10)).upd (.inl (by simp))⟩
        rw [stp6, e, List.map_append]
        exact of10
      have hrest : ∀ {σ9 : St} {H9 : Hp} {es : List Slot}, Same H8 H9 → Al K H9 es σ9 → es[0]? = some (.raw v0) → Evd K (tVar 0) σ9 H9 (.list (rest.map cellD)) := fun {σ9 H9 es} s9 A9 e => ev_raw A9 e (Dp.same (sm8.trans s9) hv0)
      refine st_if (et_or (et_test (ev_inLC (ev_var (i := 5) A8 rfl) (hrest (Same.refl _) A8 rfl))) fun _ => et_test (ev_op (ev_cell (ev_var (i := 3) A8 rfl) (ev_var (i := 4) A8 rfl)) (ev_cell ev_int ev_int) rd_eqC)) (fun hb H9 s9 => ?_) fun hb H9 s9 => ?_
      · exact stay s9 ((A8.same s9).wk (by repeat (first | exact Wk.nil | apply Wk.keep | apply Wk.drop))) (by unfold stAdd; rw [if_pos hb])
      have nb : ¬ (memK rest (c.1 + a, c.2 + u) || decide ((a, u) = (0, 0))) = true := fun z => by rw [hb] at z; cases z
      have A9 := A8.same s9
      refine st_if (et_and (et_test (ev_op (ev_var (i := 3) A9 rfl) ev_int rd_neI)) fun _ => et_test (ev_op (ev_var (i := 4) A9 rfl) ev_int rd_neI)) (fun hb2 H10 s10 => ?_) fun hb2 H10 s10 => ?_
      · dsimp only [tSeq]
        have A10 := A9.same s10
        refine st_setN (ds := [(c.1 + a, c.2), (c.1, c.2 + u)].map cellD) (en_lst (ea_cons (ev_cell (ev_op (ev_fst (ev_var (i := 1) A10 rfl)) (ev_var (i := 3) A10 rfl) rd_I0) (ev_snd (ev_var (i := 1) A10 rfl))) (ea_cons (ev_cell (ev_fst (ev_var (i := 1) A10 rfl)) (ev_op (ev_snd (ev_var (i := 1) A10 rfl)) (ev_var (i := 4) A10 rfl) rd_I0)) ea_nil)) (by show 2 ≤ sizeLine; decide)) fun p11 ys11 H11 hp11 s11 e11 d11 => ?_
        have A11 := (A10.same s11).put (v := .ref p11) (d := .list ([(c.1 + a, c.2), (c.1, c.2 + u)].map cellD)) (.lst (.inl (.inl e11)) d11) 6
        have lcn := en_listF (xs := [(c.1 + a, c.2), (c.1, c.2 + u)]) (enc := cellD) (p := memK rest) (f := cellD) (tl := tVar 6) (g := gName 7) (vs := [7]) (tt := tTest (tOp (rInD K) (tVar 7) (tVar 0))) (te := tVar 7) (by show 2 < sizeLine; decide) (fun x _ => cell_flat x) (ev_var (i := 6) A11 rfl) fun x _ => turn_name A11 (wipe_set1 _ _) fun σ3 H12 s12 A12 =>
          ⟨et_test (ev_inLC (ev_var (i := 7) A12 rfl) (hrest (((s9.trans s10).trans s11).trans s12) A12 rfl)), fun _ => ev_var (i := 7) A12 rfl⟩
        have tst := et_test (ev_op (ev_cb (ea_cons lcn.d ea_nil) rc_len) (ev_int (i := 1)) rd_eqI)
        rw [List.length_map] at tst
        refine st_if tst (fun hb3 H12 s12 => ?_) fun hb3 H12 s12 => ?_
        · refine grow (((s9.trans s10).trans s11).trans s12) ((A11.same s12).wk (by repeat (first | exact Wk.nil | apply Wk.keep | apply Wk.drop))) ?_
          unfold stAdd
          rw [if_neg nb, if_pos hb2, if_pos hb3]
        · refine stay (((s9.trans s10).trans s11).trans s12) ((A11.same s12).wk (by repeat (first | exact Wk.nil | apply Wk.keep | apply Wk.drop))) ?_
          unfold stAdd
          rw [if_neg nb, if_pos hb2, if_neg (fun z => by rw [hb3] at z; cases z)]
      · dsimp only [tSeq]
        have nb2 : ¬ (!decide (a = 0) && !decide (u = 0)) = true := fun z => by rw [hb2] at z; cases z
        have A10 := A9.same s10
        refine st_setN (ds := [(u, a), (-u, -a)].map cellD) (en_lst (ea_cons (ev_cell (ev_var (i := 4) A10 rfl) (ev_var (i := 3) A10 rfl)) (ea_cons (ev_cell (ev_un (ev_var (i := 4) A10 rfl) ru_U) (ev_un (ev_var (i := 3) A10 rfl) ru_U)) ea_nil)) (by show 2 ≤ sizeLine; decide)) fun p11 ys11 H11 hp11 s11 e11 d11 => ?_
        have A11 := (A10.same s11).put (v := .ref p11) (d := .list ([(u, a), (-u, -a)].map cellD)) (.lst (.inl (.inl e11)) d11) 8
        have lcn := en_listF (xs := [(u, a), (-u, -a)]) (enc := cellD) (p := bothM rest c (c.1 + a, c.2 + u)) (f := fun _ => PyData.int 1) (tl := tVar 8) (g := gTup K 2 (gCons (gName 9) (gCons (gName 10) gNil))) (vs := [9, 10])
          (tt := tB (tCall (Pu K R_both) [] E0 (tCons (tVar 0) (tCons (tVar 1) (tCons (tVar 5) (tCons (tVar 9) (tCons (tVar 10) tNil))))))) (te := tC (.int 1)) (by show 2 < sizeLine; decide) (fun x _ => rfl) (ev_var (i := 8) A11 rfl) fun x _ => turn_pair A11 (wipe_set2 _ _ _) fun σ3 H12 s12 A12 =>
          ⟨et_B (ev_call (ea_cons (hrest (((s9.trans s10).trans s11).trans s12) A12 rfl) (ea_cons (ev_var (i := 1) A12 rfl) (ea_cons (ev_var (i := 5) A12 rfl) (ea_cons (ev_var (i := 9) A12 rfl) (ea_cons (ev_var (i := 10) A12 rfl) ea_nil))))) ⟨rest, c, _, x, rfl, rfl⟩), fun _ => ev_int⟩
        have tst := et_test (ev_op lcn.d (en_lst ea_nil).d (rd_ne (b := !([(u, a), (-u, -a)].filter (bothM rest c (c.1 + a, c.2 + u))).isEmpty) (shaped_lst (n := 0) (fun _ => rfl) (fun _ => Nat.le_refl _) (by decide) _) rfl (by
          generalize [(u, a), (-u, -a)].filter (bothM rest c (c.1 + a, c.2 + u)) = zs
          cases zs <;> rfl)))
        refine st_if tst (fun hb3 H12 s12 => ?_) fun hb3 H12 s12 => ?_
        · refine grow (((s9.trans s10).trans s11).trans s12) ((A11.same s12).wk (by repeat (first | exact Wk.nil | apply Wk.keep | apply Wk.drop))) ?_
          unfold stAdd
          rw [if_neg nb, if_neg nb2, if_neg (fun z => by rw [z] at hb3; cases hb3)]
        · refine stay (((s9.trans s10).trans s11).trans s12) ((A11.same s12).wk (by repeat (first | exact Wk.nil | apply Wk.keep | apply Wk.drop))) ?_
          unfold stAdd
          rw [if_neg nb, if_neg nb2, if_pos (by cases z : ([(u, a), (-u, -a)].filter (bothM rest c (c.1 + a, c.2 + u))).isEmpty; rw [z] at hb3; cases hb3; rfl)]
    · rw [List.length_map, List.take_length] at of6
      exact ⟨A6.wk (by repeat (first | exact Wk.nil | apply Wk.keep | apply Wk.drop)), by rw [stp]; exact of6, (b3.trans (Same.but s5)).trans b6⟩
  · rw [List.length_map, List.take_length] at of3
    have al := cells_ok (tri.foldl (stRow rest c) [])
    have sm := sameF (b2.trans b3)
    exact (en_sortD (ev_of (er_var (i := 2) A3 rfl) of3.dp) al.1 al.2.1 al.2.2).is (sort_cells _) H' (Same.refl _) _ fun p9 xs9 H9 hp9 s9 e9 d9 => k p9 xs9 H9 (sm.free hp9) (sm.trans s9) e9 d9
end
end Z
set_option Elab.async false
set_option linter.all false
set_option maxRecDepth 100000
set_option maxHeartbeats 4000000
/-! ZQ: _law_nb_lots. -/
namespace Z
open PySem PySem.Spec L2
open PyProof.Rows hiding St
section
variable {P : Program} {w : World} {K : PySem.W.Frag} {mg : Str → Option Value} {base : Heap} {tM : Tok} {aR : Addr} {H H' : Hp} {σ : St}
/-! ### paint -/
abbrev PT := List (Cell × Cell)
def PaintAt (P : Program) (w : World) (K : PySem.W.Frag) (H : Hp) (d : Addr) (pt : PT) : Prop := ∃ kvs, Tab P w K cellD H d kvs ∧ Paired (fun kv r => kv.1 = r.1 ∧ Dp K H kv.2 (cellD r.2)) kvs pt
theorem PaintAt.keep {d : Addr} {pt : PT} (h : PaintAt P w K H d pt) (tk : TKp K H H') (q : ∀ o, H d = some o → H' d = some o) : PaintAt P w K H' d pt := by
  obtain ⟨kvs, T, p⟩ := h
  exact ⟨kvs, T.keep tk q, paired_mono (fun kv r ⟨h1, h2⟩ => ⟨h1, Dp.keepT tk _ _ (cell_flat _) h2⟩) p⟩
theorem PaintAt.same {d : Addr} {pt : PT} (h : PaintAt P w K H d pt) (s : Same H H') : PaintAt P w K H' d pt := h.keep (TKp.same s) fun o e => s _ _ e
theorem PaintAt.loose {d : Addr} {pt : PT} (h : PaintAt P w K H d pt) : ∃ o, H d = some o ∧ NoSeq o = true := by
  obtain ⟨kvs, T, _⟩ := h
  exact T.there
def hasP (pt : PT) (c : Cell) : Bool := pt.any fun p => decide (p.1 = c)
def lookP (pt : PT) (c : Cell) : Option Cell := (pt.find? fun p => decide (p.1 = c)).map (·.2)
theorem paint_has {kvs : List (Cell × V)} {pt : PT} (h : Paired (fun kv r => kv.1 = r.1 ∧ Dp K H kv.2 (cellD r.2)) kvs pt) (c : Cell) : (valV kvs c).isSome = hasP pt c := by
  rw [← valV_any]
  unfold hasP
  induction h with
  | nil => rfl
  | cons r t ih => rw [List.any_cons, List.any_cons, ih, r.1]
theorem paint_look {kvs : List (Cell × V)} {pt : PT} (h : Paired (fun kv r => kv.1 = r.1 ∧ Dp K H kv.2 (cellD r.2)) kvs pt) {c r : Cell} (e : lookP pt c = some r) : ∃ v, valV kvs c = some v ∧ Dp K H v (cellD r) := by
  induction h with
  | nil => cases e
  | @cons kv q kvs pt g t ih =>
    unfold lookP at e ih
    by_cases z : q.1 = c
    · rw [List.find?_cons, decide_eq_true z] at e
      cases e
      exact ⟨kv.2, valV_pos (g.1.trans z), g.2⟩
    · rw [List.find?_cons, decide_eq_false z] at e
      rw [valV_neg fun y => z (g.1.symm.trans y)]
      exact ih e
theorem ev_inP {tk td : TE} {d : Addr} {pt : PT} {c : Cell} (hk : Evd K tk σ H (cellD c)) (hd : Evr td σ H (.ref d)) (h : PaintAt P w K H d pt) : Evd K (tOp (rInN P w K cellD) tk td) σ H (.bool (hasP pt c)) := by
  obtain ⟨kvs, T, p⟩ := h
  rw [← paint_has p]
  exact ev_inN hk hd T
theorem ev_notInP {tk td : TE} {d : Addr} {pt : PT} {c : Cell} (hk : Evd K tk σ H (cellD c)) (hd : Evr td σ H (.ref d)) (h : PaintAt P w K H d pt) : Evd K (tOp (rNotInN P w K cellD) tk td) σ H (.bool (!hasP pt c)) := by
  obtain ⟨kvs, T, p⟩ := h
  rw [← paint_has p]
  exact ev_notInN hk hd T
/-- d[k] = root, a new key -/
theorem st_putP {te td tk : TE} {D : Ends} {d : Addr} {pt : PT} {k root : Cell} (he : Evd K te σ H (cellD root)) (hd : Evr td σ H (.ref d)) (hk : Evd K tk σ H (cellD k)) (h : PaintAt P w K H d pt) (hz : pt.length < sizeLine) (hn : hasP pt k = false)
    (q : ∀ H1 u, Same H H1 → NoSeq u = true → PaintAt P w K (upd H1 d u) d (pt ++ [(k, root)]) → D.nx σ (upd H1 d u)) : tAsg te (gSub td tk (tSetN P w K cellD)) D σ H := by
  obtain ⟨kvs, T, p⟩ := h
  have hnone : valV kvs k = none := by
    have := paint_has p k
    rw [hn] at this
    cases e : valV kvs k with
    | none => rfl
    | some v => rw [e] at this; cases this
  refine st_put he hd hk T (by rw [p.length]; exact hz) fun v H1 u s hv hu T' => q H1 u s hu ?_
  rw [putK_new _ hnone] at T'
  obtain ⟨o, e, n⟩ := T.there
  have tk1 : TKp K H1 (upd H1 d u) := TKp.upd (s _ _ e) (loose_of n)
  exact ⟨_, T', Paired.snoc (paired_mono (fun kv r ⟨h1, h2⟩ => ⟨h1, Dp.keepT tk1 _ _ (cell_flat _) (Dp.same s h2)⟩) p) ⟨rfl, Dp.keepT tk1 _ _ (cell_flat _) hv⟩⟩
/-! ### a loop over a list that a call makes -/
theorem for_open {te : TE} {g : TG} {tb : TS} {D : Ends} (h : te σ H fun x H1 => ∃ a, x = .ref a ∧ (∃ xs, SqL K H1 a xs) ∧ ∃ W : Nat → Nat → St → Hp → Prop, (∃ m, W 0 m σ H1) ∧ ∀ i m σ H, W i m σ H →
    ((Itl K a).stop i H ∧ D.nx σ H) ∨ ((Itl K a).go i H ∧ ∃ N : St → Hp → Prop, (∀ σ' H', N σ' H' → ∃ m', m' < m ∧ W (i + 1) m' σ' H') ∧ ∀ x H', (Itl K a).yld i H x H' → g x σ H' fun σ2 H2 => tb { D with nx := N, ct := N, bk := D.nx } σ2 H2)) : tFor (iList K te) g tb D σ H := h
theorem forN_at {g : TG} {tb : TS} {D : Ends} {p : Addr} {xs : List V} {ds : List PyData} (e : H p = some (.lst xs)) (ha : DpAll K H xs ds) (fl : flatAll ds = true)
    (k : ∃ I : Nat → St → Hp → Prop, I 0 σ H ∧ (∀ i σ' H', I i σ' H' → TKp K H H' ∧ H' p = some (.lst xs)) ∧
      (∀ i d v σ' H', ds[i]? = some d → I i σ' H' → Dp K H' v d → g v σ' H' fun σ2 H2 => tb { D with nx := I (i + 1), ct := I (i + 1), bk := D.nx } σ2 H2) ∧ ∀ σ' H', I ds.length σ' H' → D.nx σ' H') :
    ∃ a, V.ref p = .ref a ∧ (∃ xs, SqL K H a xs) ∧ ∃ W : Nat → Nat → St → Hp → Prop, (∃ m, W 0 m σ H) ∧ ∀ i m σ H, W i m σ H →
    ((Itl K a).stop i H ∧ D.nx σ H) ∨ ((Itl K a).go i H ∧ ∃ N : St → Hp → Prop, (∀ σ' H', N σ' H' → ∃ m', m' < m ∧ W (i + 1) m' σ' H') ∧ ∀ x H', (Itl K a).yld i H x H' → g x σ H' fun σ2 H2 => tb { D with nx := N, ct := N, bk := D.nx } σ2 H2) := by
  obtain ⟨I, i0, tk, turn, fin⟩ := k
  refine ⟨p, rfl, ⟨xs, SqL.lst e⟩, for_list (K := K) (a := p) (xs := xs) I i0 (fun i σ' H' _ q => SqL.lst (tk i σ' H' q).2) (fun i v σ' H' hv q => ?_) (by rw [ha.length]; exact fin)⟩
  obtain ⟨d, hd, dv⟩ := (DpAll.keepT (tk i σ' H' q).1 _ _ fl ha).get hv
  exact turn i d v σ' H' hd q dv
/-! ### the mirror -/
abbrev LP := PT × List Cell
def lpAdd (ins : List Cell) (root : Cell) (s : LP) (o : Cell) : LP := if (memK ins o && !hasP s.1 o) = true then (s.1 ++ [(o, root)], o :: s.2) else s
def lpStep (ins : List Cell) (root : Cell) (s : LP) : LP := match s.2 with
  | [] => s
  | one :: rest => (lnb one).foldl (lpAdd ins root) (s.1, rest)
def lpCond (s : LP) : Bool := !s.2.isEmpty
def lpGo (ins : List Cell) : List Cell → PT → Option PT
  | [], pt => some pt
  | c :: cs, pt => if hasP pt c = true then lpGo ins cs pt else match runW lpCond (lpStep ins c) 9 (pt ++ [(c, c)], [c]) with
    | none => none
    | some r => lpGo ins cs r.1
def lotsM (cs : List Cell) : Option Nat := match lpGo (cs.foldl insK []) (isort cellLe cs) [] with
  | none => none
  | some pt => if decide (pt.length ≤ 900) = true then (mapO (lookP pt) (isort cellLe cs)).map fun rs => (rs.foldl insK []).length else none
theorem lpAdd_len (ins : List Cell) (root : Cell) (s : LP) (o : Cell) : s.1.length ≤ (lpAdd ins root s o).1.length ∧ (lpAdd ins root s o).2.length + s.1.length = s.2.length + (lpAdd ins root s o).1.length := by
  unfold lpAdd
  split
  · constructor
    · show s.1.length ≤ (s.1 ++ [(o, root)]).length
      rw [List.length_append]
      omega
    · show (o :: s.2).length + s.1.length = s.2.length + (s.1 ++ [(o, root)]).length
      rw [List.length_append, List.length_singleton, List.length_cons]
      omega
  · exact ⟨Nat.le_refl _, rfl⟩
theorem lpFold_len (ins : List Cell) (root : Cell) : ∀ (os : List Cell) (s : LP), s.1.length ≤ (os.foldl (lpAdd ins root) s).1.length ∧ (os.foldl (lpAdd ins root) s).2.length + s.1.length = s.2.length + (os.foldl (lpAdd ins root) s).1.length
  | [], s => ⟨Nat.le_refl _, rfl⟩
  | o :: os, s => by
    have h1 := lpFold_len ins root os (lpAdd ins root s o)
    have h2 := lpAdd_len ins root s o
    rw [List.foldl_cons]
    omega
theorem lpStep_len (ins : List Cell) (root : Cell) (s : LP) : s.1.length ≤ (lpStep ins root s).1.length := by
  unfold lpStep
  split
  · exact Nat.le_refl _
  · rename_i one rest _
    exact (lpFold_len ins root (lnb one) (s.1, rest)).1
theorem lpRun_len {ins : List Cell} {root : Cell} : ∀ {n : Nat} {s r : LP}, runW lpCond (lpStep ins root) n s = some r → s.1.length ≤ r.1.length
  | 0, s, r, h => by
    unfold runW at h
    split at h
    · cases h
    · cases h; exact Nat.le_refl _
  | n + 1, s, r, h => by
    unfold runW at h
    split at h
    · exact Nat.le_trans (lpStep_len ins root s) (lpRun_len h)
    · cases h; exact Nat.le_refl _
theorem lpGo_len {ins : List Cell} : ∀ {cs : List Cell} {pt r : PT}, lpGo ins cs pt = some r → pt.length ≤ r.length
  | [], pt, r, h => by cases h; exact Nat.le_refl _
  | c :: cs, pt, r, h => by
    unfold lpGo at h
    split at h
    · exact lpGo_len h
    · cases hr : runW lpCond (lpStep ins c) 9 (pt ++ [(c, c)], [c]) with
      | none => rw [hr] at h; cases h
      | some s =>
        rw [hr] at h
        have h1 := lpRun_len hr
        have h2 := lpGo_len h
        simp only [List.length_append, List.length_singleton] at h1
        omega
/-- paint[cell], todo = (cell, [cell]) -/
theorem st_paintTodo {D : Ends} {es : List Slot} {d : Addr} {pt : PT} {c : Cell} (A : Al K H es σ) (h3 : es[3]? = some (.dat (cellD c))) (h1 : es[1]? = some (.raw (.ref d))) (h : PaintAt P w K H d pt) (hz : pt.length < sizeLine) (hn : hasP pt c = false)
    (q : ∀ t H1, H t = none → t ≠ d → But [d] H H1 → TKp K H H1 → PaintAt P w K H1 d (pt ++ [(c, c)]) → OwnL K H1 t ([c].map cellD) → D.nx (σ.set 4 (some (.ref t))) H1) :
    tAsg (tTup (tCons (tVar 3) (tCons (tLst (tCons (tVar 3) tNil)) tNil))) (gTup K 2 (gCons (gSub (tVar 1) (tVar 3) (tSetN P w K cellD)) (gCons (gName 4) gNil))) D σ H := by
  obtain ⟨v3, e3, dv3⟩ := A.get h3
  have e1 := A.getR h1
  refine ⟨v3, e3, v3, e3, by show 1 ≤ sizeLine; decide, fun t ht => ⟨by show 2 ≤ sizeLine; decide, fun p hp => ?_⟩⟩
  have s1 : Same H (upd H t (.lst [v3])) := Same.new ht
  have s2 : Same (upd H t (.lst [v3])) (upd (upd H t (.lst [v3])) p (.tup [v3, .ref t])) := Same.new hp
  have s12 := s1.trans s2
  have h' := h.same s12
  obtain ⟨kvs, T, pr⟩ := id h'
  obtain ⟨od, hod, nod⟩ := h.loose
  have ntd : t ≠ d := fun z => by rw [z, hod] at ht; cases ht
  have ntp : t ≠ p := fun z => by rw [← z, upd_same] at hp; cases hp
  have hnone : valV kvs c = none := by
    have := paint_has pr c
    rw [hn] at this
    cases e : valV kvs c with
    | none => rfl
    | some v => rw [e] at this; cases this
  refine ⟨p, [v3, .ref t], rfl, SqT.of upd_same, rfl, v3, [.ref t], rfl, .ref d, e1, v3, e3, d, kvs, c, rfl, T, Dp.same s12 dv3, by rw [pr.length]; exact hz, fun u hu T' => ⟨.ref t, [], rfl, rfl, ?_⟩⟩
  have hd2 : upd (upd H t (.lst [v3])) p (.tup [v3, .ref t]) d = some od := s12 _ _ hod
  have tk3 : TKp K (upd (upd H t (.lst [v3])) p (.tup [v3, .ref t])) (upd (upd (upd H t (.lst [v3])) p (.tup [v3, .ref t])) d u) := TKp.upd hd2 (loose_of nod)
  rw [putK_new _ hnone] at T'
  refine q t _ ht ntd ((Same.but s12).upd (.inl (by simp))) ((TKp.same s12).trans tk3) ⟨_, T', Paired.snoc (paired_mono (fun kv r ⟨h1, h2⟩ => ⟨h1, Dp.keepT tk3 _ _ (cell_flat _) h2⟩) pr) ⟨rfl, Dp.keepT tk3 _ _ (cell_flat _) (Dp.same s12 dv3)⟩⟩ ?_
  refine ⟨[v3], by rw [upd_ne ntd, upd_ne ntp, upd_same], .one (Dp.keepT tk3 _ _ (cell_flat _) (Dp.same s12 dv3))⟩
/-! ### found -/
/-- a dict of own lists, none of which H0 knows -/
def FoundAt (P : Program) (w : World) (K : PySem.W.Frag) (H0 H : Hp) (d : Addr) (ks : List Cell) (m : Nat) : Prop := ∃ kvs, Tab P w K cellD H d kvs ∧ kvs.map (·.1) = ks ∧ ∀ kv ∈ kvs, ∃ a xs, kv.2 = V.ref a ∧ H0 a = none ∧ H a = some (.lst xs) ∧ xs.length ≤ m
theorem valV_mem {α : Type} [DecidableEq α] {kvs : List (α × V)} {k : α} {v : V} (h : valV kvs k = some v) : ∃ kv ∈ kvs, kv.1 = k ∧ kv.2 = v := by
  unfold valV at h
  obtain ⟨p, hp, rfl⟩ := Option.map_eq_some_iff.mp h
  have h2 := List.find?_some (p := fun kv : α × V => decide (kv.1 = k)) hp
  exact ⟨p, List.mem_of_find?_eq_some hp, of_decide_eq_true h2, rfl⟩
theorem keys_put {α : Type} [DecidableEq α] (kvs : List (α × V)) (k : α) (v : V) : (putK kvs k v).map (·.1) = insK (kvs.map (·.1)) k := by
  unfold putK insK memK
  rw [List.any_map]
  show List.map _ (if (kvs.any fun kv => decide (kv.1 = k)) = true then _ else _) = if (kvs.any fun kv => decide (kv.1 = k)) = true then _ else _
  split
  · rw [List.map_map]
    apply List.map_congr_left
    intro a _
    show (if a.1 = k then (a.1, v) else a).1 = a.1
    split <;> rfl
  · rw [List.map_append]
    rfl
theorem keys_at {α : Type} [DecidableEq α] (kvs : List (α × V)) (k : α) : (valV kvs k).isSome = memK (kvs.map (·.1)) k := by
  rw [← valV_any]
  unfold memK
  rw [List.any_map]
  rfl
theorem st_found {D : Ends} {es : List Slot} {H0 : Hp} {d1 d : Addr} {ks : List Cell} {m : Nat} {pt : PT} {c root : Cell} (s0 : Same H0 H) (hd0 : H0 d = none) (F : FoundAt P w K H0 H d ks m) (A : Al K H es σ) (h1 : es[1]? = some (.raw (.ref d1))) (h3 : es[3]? = some (.dat (cellD c))) (h6 : es[6]? = some (.raw (.ref d)))
    (hp : PaintAt P w K H0 d1 pt) (hl : lookP pt c = some root) (hz : ks.length < sizeLine) (hm : m < sizeLine) (q : ∀ H', Same H0 H' → FoundAt P w K H0 H' d (insK ks root) (m + 1) → TKp K H H' → D.nx σ H') :
    tDrop (tBM K "list" rAppend (tSetdN P w K cellD (tVar 6) (tGetN P w K cellD (tVar 1) (tVar 3)) (tLst tNil)) (tCons (tVar 3) tNil)) D σ H := by
  obtain ⟨v3, e3, dv3⟩ := A.get h3
  have e1 := A.getR h1
  have e6 := A.getR h6
  obtain ⟨kvs, T, hks, hall⟩ := F
  obtain ⟨xs0, hx0, _⟩ := T.rel
  obtain ⟨kvs1, T1, pr1⟩ := hp.same s0
  obtain ⟨vr, hvr, dvr⟩ := paint_look pr1 hl
  refine ⟨.ref d, e6, d, rfl, ⟨xs0, hx0⟩, .ref d1, e1, v3, e3, d1, kvs1, c, vr, rfl, T1, dv3, hvr, by decide, fun l hl0 => ?_⟩
  have sl : Same H (upd H l (.lst [])) := Same.new hl0
  have hl00 : H0 l = none := s0.free hl0
  refine ⟨kvs, root, T.same sl, Dp.same sl dvr, by have := congrArg List.length hks; rw [List.length_map] at this; omega, fun v hv => ?_, fun hn u hu T' => ?_⟩
  · -- there
    obtain ⟨kv, hkv, ek, ev⟩ := valV_mem hv
    obtain ⟨a, xs, e4, ha0, hxa, hxl⟩ := hall kv hkv
    rw [← ev, e4]
    have hxa' := sl _ _ hxa
    have nad : a ≠ d := fun z => by
      obtain ⟨o, e, n⟩ := T.there
      rw [← z, hxa] at e
      cases e
      cases n
    refine ⟨at_end hxa', v3, e3, a, xs, v3, rfl, rfl, hxa', by omega, ?_⟩
    have tk : TKp K (upd H l (.lst [])) (upd (upd H l (.lst [])) a (.lst (xs ++ [v3]))) := TKp.upd hxa' rfl
    refine q _ (Same.mut (s0.trans sl) ha0) ⟨kvs, (T.same sl).upd (Ne.symm nad) hxa' rfl, ?_, fun kv2 hkv2 => ?_⟩ ((TKp.same sl).trans tk)
    · have hmem : memK ks root = true := by rw [← hks, ← keys_at, hv]; rfl
      unfold insK
      rw [if_pos hmem]
      exact hks
    · obtain ⟨a2, xs2, f4, f0, f1, f2⟩ := hall kv2 hkv2
      by_cases z : a2 = a
      · subst z
        rw [hxa] at f1
        cases f1
        exact ⟨a2, _, f4, f0, upd_same, by rw [List.length_append, List.length_singleton]; omega⟩
      · exact ⟨a2, xs2, f4, f0, by rw [upd_ne z]; exact sl _ _ f1, by omega⟩
  · -- new
    obtain ⟨od, hod, nod⟩ := T.there
    have nld : l ≠ d := fun z => by rw [z, hod] at hl0; cases hl0
    have hod' := sl _ _ hod
    have tk1 : TKp K (upd H l (.lst [])) (upd (upd H l (.lst [])) d u) := TKp.upd hod' (loose_of nod)
    have hll : upd (upd H l (.lst [])) d u l = some (.lst []) := by rw [upd_ne nld, upd_same]
    refine ⟨at_end hll, v3, e3, l, [], v3, rfl, rfl, hll, by show 0 < sizeLine; decide, ?_⟩
    have tk2 : TKp K (upd (upd H l (.lst [])) d u) (upd (upd (upd H l (.lst [])) d u) l (.lst ([] ++ [v3]))) := TKp.upd hll rfl
    refine q _ (Same.mut (Same.mut (s0.trans sl) hd0) hl00) ⟨_, T'.upd (Ne.symm nld) hll rfl, by rw [keys_put, hks], fun kv2 hkv2 => ?_⟩ (((TKp.same sl).trans tk1).trans tk2)
    rw [putK_new _ hn] at hkv2
    rcases List.mem_append.mp hkv2 with hkv2 | hkv2
    · obtain ⟨a2, xs2, f4, f0, f1, f2⟩ := hall kv2 hkv2
      have n2l : a2 ≠ l := ne_of_none f1 hl0
      have n2d : a2 ≠ d := fun z => by
        rw [z, hod] at f1
        cases f1
        cases nod
      exact ⟨a2, xs2, f4, f0, by rw [upd_ne n2l, upd_ne n2d, upd_ne n2l]; exact f1, by omega⟩
    · rw [List.mem_singleton] at hkv2
      subst hkv2
      exact ⟨l, _, rfl, hl00, upd_same, by simp⟩
/-- a comprehension, its length -/
theorem en_lcLen {α : Type} {enc : α → PyData} {wi : TI} {g : TG} {te : TE} {vs : List Nat} {xs : List α} (hlen : xs.length < sizeLine)
    (hw : ∀ H1, Same H H1 → ∀ R : It → Hp → Prop, (∀ J H2, Same H1 H2 → (∀ H3, Same H2 H3 → (∀ i, i < xs.length → J.go i H3) ∧ J.stop xs.length H3 ∧ ∀ i x H', J.yld i H3 x H' → ∀ r, xs[i]? = some r → Same H3 H' ∧ Dp K H' x (enc r) ∧ TKp K H3 H' ∧ ∀ a o, H3 a = some o → H' a = some o) → R J H2) → wi σ H1 R)
    (ht : ∀ x ∈ xs, ∀ v H1, Same H H1 → Dp K H1 v (enc x) → ∃ σ2 z, wipe σ2 vs = wipe σ vs ∧ (∀ Q : St → Hp → Prop, Q σ2 H1 → g v (wipe σ vs) H1 Q) ∧ Evr te σ2 H1 z) :
    ∀ H1, Same H H1 → ∀ Q : VK, (∀ p ys H2, H1 p = none → Same H1 H2 → H2 p = some (.lst ys) → ys.length = xs.length → Q (.ref p) H2) → tLc wi g tYes te vs σ H1 Q := fun H1 s Q q =>
  hw H1 s _ fun J H2 s2 hJ D hD => by
    refine ⟨fun i m H => i + m = xs.length ∧ Same H2 H ∧ ∃ acc, H D = some (.lst acc) ∧ acc.length = i, ⟨xs.length, by omega, Same.new hD, [], upd_same, rfl⟩, ?_⟩
    rintro i m H4 ⟨em, sm, acc, hacc, hl⟩
    obtain ⟨go, stop, yl⟩ := hJ H4 sm
    by_cases hi : i < xs.length
    · refine .inr ⟨go i hi, fun H' => Same H2 H' ∧ ∃ acc, H' D = some (.lst acc) ∧ acc.length = i + 1, fun H' ⟨a, b⟩ => ⟨m - 1, by omega, by omega, a, b⟩, fun x H' hy => ?_⟩
      obtain ⟨r, hr⟩ : ∃ r, xs[i]? = some r := ⟨_, List.getElem?_eq_getElem hi⟩
      obtain ⟨s3, hx, _, _⟩ := yl i x H' hy r hr
      obtain ⟨σ2, z, hw2, hg, hte⟩ := ht r (List.mem_of_getElem? hr) x H' (((s.trans s2).trans sm).trans s3) hx
      refine hg _ ⟨hw2, et_yes (σ := σ2) (H := H') H' (Same.refl _) _ fun H5 s5 => iteT (hte H5 s5 _ fun H6 s6 => ?_)⟩
      have hD6 : H6 D = some (.lst acc) := s6 _ _ (s5 _ _ (s3 _ _ hacc))
      refine ⟨acc, hD6, by omega, Same.mut (((sm.trans s3).trans s5).trans s6) hD, acc ++ [z], upd_same, by rw [List.length_append, List.length_singleton, hl]⟩
    · have e : i = xs.length := by omega
      subst e
      exact .inl ⟨stop, q D acc H4 (s2.free hD) (s2.trans sm) hacc hl⟩
abbrev s__law_nb_lots : Stmt := top 39
theorem sc__law_nb_lots : FnScope ["_law_cells", "_law_paint", "_law_inside", "_law_cell", "_law_todo", "_law_other", "_law_found", "_law_first"] ["_law_cells"] (defScope s__law_nb_lots) := ⟨rfl, rfl, rfl, by decide +kernel, rfl, by decide +kernel, by decide +kernel⟩
def sp_lots (K : PySem.W.Frag) : Sp := fun vs H Q _ => ∃ (v : V) (cs : List Cell) (m : Nat), vs = [v] ∧ Dp K H v (.list (cs.map cellD)) ∧ cs.length ≤ 900 ∧ lotsM cs = some m ∧ ∀ p xs H', Same H H' → H' p = some (.lst xs) → xs.length = m → Q (.ref p) H'
theorem ok_lots (T : Glo K mg tM aR) (h : Has K mg "_law_nb_lots" s__law_nb_lots ["_law_cells"]) (G__law_nb_beside : OkAt P w K mg base 1 "_law_nb_beside" ["_law_cell"] (NewSp K R_lnb)) : OkAt P w K mg base 2 "_law_nb_lots" ["_law_cells"] (sp_lots K) := by
  refine h.ok sc__law_nb_lots (fun vs H Q E h => by obtain ⟨v, cs, m, rfl, _⟩ := h; rfl) (fun _ cdv A outer s H vs Q E f hr q => ?_)
  obtain ⟨v0, cs, m, rfl, hv0, hlen, hm, k⟩ := q
  have hu := hr.units
  have hu5 := hu65 hr
  refine ⟨_, (pss_cons (ps_par (i := 1) (j := 2) rfl sc__law_nb_lots.nd rfl rfl (by decide) rfl rfl (pa_cons pe_newN (pa_cons (pe_callTy (show CallR _ _ (rDictP P w K cellD) from cr_dictP cellK rfl hu) (by rfl) T.dict zb_dict (pa_cons (pe_lc (own := [("_law_cell", 3)]) (g := gName 3) rfl sc__law_nb_lots.nd (show PI _ _ _ (iList K _) from pi_list (pv 0)) (blkOk_by (N := ["_law_cells", "_law_paint", "_law_inside", "_law_cell", "_law_todo", "_law_other", "_law_found", "_law_first"]) (sc := defScope s__law_nb_lots) (by decide +kernel)) (fun _ _ _ _ _ => (pg_name (i := 3) sc__law_nb_lots.nd rfl (Or.inl rfl))) (fun _ _ _ _ _ => pts_nil) (fun _ _ _ _ _ => (pe_tup (pa_cons (pv 3) (pa_cons pe_bl pa_nil))))) pa_nil)) pa_nil)) rfl)
      (pss_cons (ps_for PassesOwn.never rfl (show PI _ _ _ (iList K _) from pi_list (pe_callB (show CallR _ _ (rSortD K) from cr_sortD hu) (by rfl) T.sorted zb_sorted (pa_cons (pv 0) pa_nil))) (pg_name (i := 3) sc__law_nb_lots.nd rfl (Or.inl rfl))
      (pss_cons (ps_if (pt_cmpR (show OpR _ _ (rInN P w K cellD) from op_inN cellK hu) (pv 3) (pv 1) rfl) (pss_one ps_continue) pss_nil)
      (pss_cons (ps_asg (pe_tup (pa_cons (pv 3) (pa_cons (pe_lst (pa_cons (pv 3) pa_nil)) pa_nil))) (show PG _ _ (gTup K 2 (gCons (gSub _ _ (tSetN P w K cellD)) (gCons (gName 4) gNil))) from pg_tup rfl (pgs_cons (pg_sub (pv 1) (pv 3) (show PSet _ (tSetN P w K cellD) from set_N cellK hu)) (pgs_cons (pg_name (i := 4) sc__law_nb_lots.nd rfl (Or.inl rfl)) pgs_nil))))
      (pss_one (ps_while PassesOwn.never (pt_cmpR (show OpR _ _ (rNeD K) from op_neD hu) (pv 4) (pe_lst pa_nil) (nomark _))
      (pss_one (ps_for PassesOwn.never rfl (show PI _ _ _ (iList K _) from pi_list (pe_callO G__law_nb_beside (hr.mono (by decide)) rfl (pa_cons (pe_bm0 PySem.F.plainAttrs_list PySem.F.slot_list_pop PySem.F.type_list_pop mt_pop (pv 4)) pa_nil))) (pg_name (i := 5) sc__law_nb_lots.nd rfl (Or.inl rfl))
      (pss_one (ps_if (PW.pt (pw_and (pt_cmpR (show OpR _ _ (rInN P w K cellD) from op_inN cellK hu) (pv 5) (pv 2) rfl) (pw_and1 (pt_cmpR (show OpR _ _ (rNotInN P w K cellD) from op_notInN cellK hu) (pv 5) (pv 1) rfl)))) (pss_cons (ps_asg (pv 3) (pg_sub (pv 1) (pv 5) (show PSet _ (tSetN P w K cellD) from set_N cellK hu)))
      (pss_one (ps_expr (pe_bm PySem.F.plainAttrs_list PySem.F.slot_list_append PySem.F.type_list_append mt_append (pv 4) (pa_cons (pv 5) pa_nil))))) pss_nil)))))))))
      (pss_cons (ps_set (i := 6) sc__law_nb_lots.nd rfl (Or.inr rfl) pe_newN)
      (pss_cons (ps_for PassesOwn.never rfl (show PI _ _ _ (iList K _) from pi_list (pe_callB (show CallR _ _ (rSortD K) from cr_sortD hu) (by rfl) T.sorted zb_sorted (pa_cons (pv 0) pa_nil))) (pg_name (i := 3) sc__law_nb_lots.nd rfl (Or.inl rfl))
      (pss_one (ps_expr (pe_bm PySem.F.plainAttrs_list PySem.F.slot_list_append PySem.F.type_list_append mt_append (pe_setdN (enc := cellD) hu (pv 6) (show PE _ _ (tGetN P w K cellD _ _) from pe_getN cellK hu (pv 1) (pv 3) (fun _ _ => rfl)) (pe_lst pa_nil) ⟨by rfl, by rfl, by rfl, by rfl⟩) (pa_cons (pv 3) pa_nil)))))
      (pss_one (ps_ret (pe_lc (own := [("_law_first", 7)]) (g := gName 7) rfl sc__law_nb_lots.nd (show PI _ _ _ (iList K _) from pi_list (pe_callB (show CallR _ _ (rSortedN P w K cellD) from cr_sortedN rfl hu) (by rfl) T.sorted zb_sorted (pa_cons (pv 6) pa_nil))) (blkOk_by (N := ["_law_cells", "_law_paint", "_law_inside", "_law_cell", "_law_todo", "_law_other", "_law_found", "_law_first"]) (sc := defScope s__law_nb_lots) (by decide +kernel)) (fun _ _ _ _ _ => (pg_name (i := 7) sc__law_nb_lots.nd rfl (Or.inl rfl))) (fun _ _ _ _ _ => pts_nil) (fun _ _ _ _ _ => (show PE _ _ (tGetN P w K cellD _ _) from pe_getN cellK hu (pv 6) (pv 7) (fun _ _ => rfl)))))))))), ?_⟩
  have A0 : Al K H [.raw v0, .no, .no, .no, .no, .no, .no, .no] (L2.start ["_law_cells", "_law_paint", "_law_inside", "_law_cell", "_law_todo", "_law_other", "_law_found", "_law_first"] [v0]) := .cons rfl (Al.no 7)
  unfold lotsM at hm
  generalize hins : cs.foldl insK [] = ins at hm
  cases hgo : lpGo ins (isort cellLe cs) [] with
  | none => rw [hgo] at hm; cases hm
  | some fin =>
    rw [hgo] at hm
    have hm' : (if decide (fin.length ≤ 900) = true then (mapO (lookP fin) (isort cellLe cs)).map fun rs => (rs.foldl insK []).length else none) = some m := hm
    split at hm'
    · rename_i hfl
      have hfin := of_decide_eq_true hfl
      obtain ⟨roots, hroots, rfl⟩ := Option.map_eq_some_iff.mp hm'
      clear hm hm'
      dsimp only [tSeq]
      have hcells : ∀ {σ9 : St} {H9 : Hp} {es : List Slot}, Same H H9 → Al K H9 es σ9 → es[0]? = some (.raw v0) → Evd K (tVar 0) σ9 H9 (.list (cs.map cellD)) := fun {σ9 H9 es} s9 A9 e => ev_raw A9 e (Dp.same s9 hv0)
      have al := cells_ok cs
      -- paint, inside
      refine par_open ?_
      refine ed_new (K := K) cellK H (Same.refl _) _ fun d1 H1 hd1 s1 T1 => ?_
      have A1 := A0.same s1
      refine cons_open ?_
      have pr := (en_listF (xs := cs) (enc := cellD) (p := fun _ => true) (f := fun c => .tuple [cellD c, .bool true]) (tl := tVar 0) (g := gName 3) (vs := [3]) (tt := tYes) (te := tTup (tCons (tVar 3) (tCons (tC (.bl true)) tNil))) (small (by omega)) (fun x _ => rfl) (hcells s1 A1 rfl) fun x _ => turn_name A1 (wipe_set1 _ _) fun σ2 H2 s2 A2 =>
        ⟨et_yes, fun _ => ev_tup (ea_cons (ev_var (i := 3) A2 rfl) (ea_cons ev_bl ea_nil))⟩).is (es := cs.map fun c => .tuple [cellD c, .bool true]) (by rw [List.filter_eq_self.mpr (fun _ _ => rfl)])
      refine ed_pairs (P := P) (w := w) cellK pr.d H1 (Same.refl _) _ fun d2 H2 hd2 s2 T2 => ?_
      rw [hins] at T2
      refine ⟨.ref d1, .ref d2, rfl, ?_⟩
      have n21 : d2 ≠ d1 := fun z => by
        obtain ⟨o, e, _⟩ := T1.there
        rw [z, e] at hd2; cases hd2
      have P2 : PaintAt P w K H2 d1 [] := ⟨[], T1.same s2, .nil⟩
      have A2 := ((A1.same s2).putR (v := .ref d1) 1).putR (v := .ref d2) 2
      have hd10 : H d1 = none := hd1
      have hd20 : H d2 = none := s1.free hd2
      have s02 := s1.trans s2
      dsimp only [tSeq]
      refine st_forN (ds := (isort cellLe cs).map cellD) ((en_sortD (hcells s02 A2 rfl) al.1 al.2.1 al.2.2).is (sort_cells cs)) (cells_flat _) fun p xs H3 hp s3 hxs => ?_
      have P3 := P2.same s3
      have T3 := T2.same s3
      have np1 : p ≠ d1 := fun z => by
        obtain ⟨o, e, _⟩ := P2.loose
        rw [z, e] at hp; cases hp
      have s03 := s02.trans s3
      have tk1 : ∀ {Ha Hb : Hp} {pt : PT}, PaintAt P w K Ha d1 pt → But [d1] Ha Hb → TKp K Ha Hb := fun {Ha Hb pt} o bb => bb.tk fun a ha o' ho => by
        rw [List.mem_singleton] at ha
        subst ha
        obtain ⟨x', e', l'⟩ := o.loose
        rw [e'] at ho; cases ho; exact loose_of l'
      let I : Nat → St → Hp → Prop := fun i σ' H' => ∃ pt, lpGo ins ((isort cellLe cs).drop i) pt = some fin ∧ Al K H' [.raw v0, .raw (.ref d1), .raw (.ref d2), .no, .no, .no, .no, .no] σ' ∧ PaintAt P w K H' d1 pt ∧ Tab P w K cellD H' d2 (setK ins) ∧ But [d1] H3 H'
      refine ⟨I, ⟨[], hgo, (A2.same s3).wk (by repeat (first | exact Wk.nil | apply Wk.keep | apply Wk.drop)), P3, T3, But.refl⟩, fun i σ' H' ⟨_, _, _, _, _, bb⟩ => ⟨tk1 P3 bb, bb _ _ hxs (by simp [np1])⟩, fun i x v3 σ' H' hx ⟨pt, hpt, A4, P4, T4, b4⟩ hv3 => ?_, fun σ' H' ⟨pt, hpt, A4, P4, T4, b4⟩ => ?_⟩
      · obtain ⟨c, hc, rfl⟩ := map_at hx
        have ed : (isort cellLe cs).drop i = c :: (isort cellLe cs).drop (i + 1) := by
          obtain ⟨h1, h2⟩ := List.getElem?_eq_some_iff.mp hc
          rw [List.drop_eq_getElem_cons h1, h2]
        have lpt := lpGo_len hpt
        rw [ed, lpGo] at hpt
        have A5 := A4.put hv3 3
        dsimp only [tSeq]
        refine st_if (et_test (ev_inP (ev_var (i := 3) A5 rfl) (er_var (i := 1) A5 rfl) P4)) (fun hb H6 s6 => ?_) fun hb H6 s6 => ?_
        · rw [if_pos hb] at hpt
          exact ⟨pt, hpt, (A5.same s6).wk (by repeat (first | exact Wk.nil | apply Wk.keep | apply Wk.drop)), P4.same s6, T4.same s6, b4.trans (Same.but s6)⟩
        · rw [if_neg (fun z => by rw [hb] at z; cases z)] at hpt
          cases hrun : runW lpCond (lpStep ins c) 9 (pt ++ [(c, c)], [c]) with
          | none => rw [hrun] at hpt; cases hpt
          | some r =>
            rw [hrun] at hpt
            have lr := lpGo_len (show lpGo ins _ r.1 = some fin from hpt)
            have A6 := A5.same s6
            have P6 := P4.same s6
            have T6 := T4.same s6
            refine st_paintTodo A6 rfl rfl P6 (small (by omega)) hb fun t H7 ht nt1 b7 tk7 P7 ot7 => ?_
            have A7 := (A6.keepT tk7 rfl).putR (v := .ref t) 4
            have T7 := T6.keep tk7 fun o e => b7 _ _ e (by simp [n21])
            have b37 : But [d1] H3 H7 := (b4.trans (Same.but s6)).trans b7
            have ht3 : H3 t = none := by
              cases e : H3 t with
              | none => rfl
              | some o =>
                have := s6 _ _ (b4 _ _ e (by simp [nt1]))
                rw [ht] at this; cases this
            have nt2 : t ≠ d2 := tab_ne T7 ot7
            have dty : ∀ {σ9 : St} {H9 : Hp} {td : List Cell}, Al K H9 [.raw v0, .raw (.ref d1), .raw (.ref d2), .dat (cellD c), .raw (.ref t), .no, .no, .no] σ9 → OwnL K H9 t (td.map cellD) → EvT (tTest (tOp (rNeD K) (tVar 4) (tLst tNil))) σ9 H9 (!(td.map cellD).isEmpty) := fun {σ9 H9 td} A9 o9 =>
              et_test (ev_op (ev_of (er_var (i := 4) A9 rfl) o9.dp) (en_lst ea_nil).d (rd_ne (cells_shaped td) rfl (by cases td <;> rfl)))
            let Wh : LP → St → Hp → Prop := fun s σ' H' => Al K H' [.raw v0, .raw (.ref d1), .raw (.ref d2), .dat (cellD c), .raw (.ref t), .no, .no, .no] σ' ∧ PaintAt P w K H' d1 s.1 ∧ Tab P w K cellD H' d2 (setK ins) ∧ OwnL K H' t (s.2.reverse.map cellD) ∧ But [d1, t] H3 H' ∧ s.2.length ≤ s.1.length
            dsimp only [tSeq]
            refine st_while (S := LP) (cond := lpCond) (step := lpStep ins c) (r := r) (n := 9) (s0 := (pt ++ [(c, c)], [c])) Wh hrun ⟨A7.wk (by repeat (first | exact Wk.nil | apply Wk.keep | apply Wk.drop)), P7, T7, ot7, b37.mono (by simp), by simp⟩ ?_
            rintro ⟨pt8, td8⟩ n8 σ8 H8 ⟨A8, P8, T8, ot8, b8, l8⟩ run8
            refine ⟨?_, fun hc8 H9 s9 => ?_, fun er H9 s9 => ?_⟩
            · have e : lpCond (pt8, td8) = !(td8.reverse.map cellD).isEmpty := by
                show (!td8.isEmpty) = _
                cases td8 <;> simp
              rw [e]
              exact dty A8 ot8
            · cases td8 with
              | nil => cases hc8
              | cons one rest =>
                simp only at P8 ot8 l8
                rw [List.reverse_cons, List.map_append] at ot8
                have A9 := A8.same s9
                have P9 := P8.same s9
                have T9 := T8.same s9
                obtain ⟨xs9, ex9, dx9⟩ := ot8.same s9
                obtain ⟨ys9, y9, rfl, dys, dy⟩ := DpAll.snoc_inv dx9
                have b9 := b8.trans (Same.but s9)
                -- for other in beside(todo.pop())
                refine for_open ?_
                refine ⟨.ref t, A9.getR (i := 4) rfl, at_end ex9, t, ys9 ++ [y9], y9, rfl, rfl, ex9, by simp, ?_⟩
                rw [List.dropLast_concat]
                have tk10 : TKp K H9 (upd H9 t (.lst ys9)) := TKp.upd ex9 rfl
                have A10 := A9.keepT tk10 rfl
                have P10 := P9.keep tk10 fun o e => by rw [upd_ne (Ne.symm nt1)]; exact e
                have T10 := T9.upd (o := .lst ys9) (Ne.symm nt2) ex9 rfl
                have ot10 : OwnL K (upd H9 t (.lst ys9)) t (rest.reverse.map cellD) := OwnL.put ⟨_, ex9⟩ dys (cells_flat _)
                have b10 : But [d1, t] H3 (upd H9 t (.lst ys9)) := b9.upd (.inl (by simp))
                have dy10 := Dp.keepT tk10 _ _ (cell_flat one) dy
                generalize upd H9 t (.lst ys9) = H10 at A10 P10 T10 ot10 b10 dy10
                refine ⟨[cellD one], (lnb one).map cellD, .cons dy10 .nil, ⟨one, rfl, rfl⟩, fun p11 xs11 H11 hp11 s11 e11 d11 => ?_⟩
                refine forN_at e11 d11 (cells_flat _) ?_
                have P11 := P10.same s11
                have T11 := T10.same s11
                have ot11 := ot10.same s11
                have np11 : p11 ≠ d1 := fun z => by
                  obtain ⟨o, e, _⟩ := P10.loose
                  rw [z, e] at hp11; cases hp11
                have npt : p11 ≠ t := fun z => by
                  obtain ⟨o, e, _⟩ := ot10
                  rw [z, e] at hp11; cases hp11
                have tkJ : ∀ {Hb : Hp}, But [d1, t] H11 Hb → TKp K H11 Hb := fun {Hb} bb => bb.tk fun a ha o' ho => by
                  simp only [List.mem_cons, List.not_mem_nil, or_false] at ha
                  rcases ha with rfl | rfl
                  · obtain ⟨x', e', l'⟩ := P11.loose
                    rw [e'] at ho; cases ho; exact loose_of l'
                  · obtain ⟨x', e', _⟩ := ot11
                    rw [e'] at ho; cases ho; rfl
                have estep : lpStep ins c (pt8, one :: rest) = (lnb one).foldl (lpAdd ins c) (pt8, rest) := rfl
                have bndP : ((lnb one).foldl (lpAdd ins c) (pt8, rest)).1.length ≤ 900 := by
                  cases n8 with
                  | zero => unfold runW at run8; rw [if_pos hc8] at run8; cases run8
                  | succ n8 =>
                    unfold runW at run8
                    rw [if_pos hc8, estep] at run8
                    have := lpRun_len run8
                    omega
                let J : Nat → St → Hp → Prop := fun j σ2 H' => Al K H' [.raw v0, .raw (.ref d1), .raw (.ref d2), .dat (cellD c), .raw (.ref t), .no, .no, .no] σ2 ∧ PaintAt P w K H' d1 (((lnb one).take j).foldl (lpAdd ins c) (pt8, rest)).1 ∧ Tab P w K cellD H' d2 (setK ins) ∧ OwnL K H' t ((((lnb one).take j).foldl (lpAdd ins c) (pt8, rest)).2.reverse.map cellD) ∧ But [d1, t] H11 H'
                refine ⟨J, ⟨(A10.same s11).wk (by repeat (first | exact Wk.nil | apply Wk.keep | apply Wk.drop)), P11, T11, ot11, But.refl⟩, fun j σ2 H' ⟨_, _, _, _, bb⟩ => ⟨tkJ bb, bb _ _ e11 (by simp [np11, npt])⟩, fun j y v12 σ2 H12 hy ⟨A12, P12, T12, ot12, b12⟩ hv12 => ?_, fun σ2 H12 ⟨A12, P12, T12, ot12, b12⟩ => ?_⟩
                · obtain ⟨other, hoth, rfl⟩ := map_at hy
                  have stp := take_succ_foldl (f := lpAdd ins c) (b := (pt8, rest)) hoth
                  have l12 := lpFold_len ins c ((lnb one).take j) (pt8, rest)
                  have e0 : lnb one = (lnb one).take j ++ (lnb one).drop j := (List.take_append_drop ..).symm
                  have l13 := lpFold_len ins c ((lnb one).drop j) (((lnb one).take j).foldl (lpAdd ins c) (pt8, rest))
                  rw [← List.foldl_append, ← e0] at l13
                  simp only [List.length_cons] at l8
                  simp only at l12
                  generalize ((lnb one).take j).foldl (lpAdd ins c) (pt8, rest) = z at P12 ot12 stp l12 l13
                  have A13 := A12.put hv12 5
                  have tst := et_and (et_test (ev_inN (ev_var (i := 5) A13 rfl) (er_var (i := 2) A13 rfl) T12)) fun _ => et_test (ev_notInP (ev_var (i := 5) A13 rfl) (er_var (i := 1) A13 rfl) P12)
                  rw [setK_at] at tst
                  refine st_if tst (fun hb14 H14 s14 => ?_) fun hb14 H14 s14 => ?_
                  · have ez : lpAdd ins c z other = (z.1 ++ [(other, c)], other :: z.2) := by
                      unfold lpAdd
                      rw [if_pos hb14]
                    have hnp : hasP z.1 other = false := by
                      rw [Bool.and_eq_true] at hb14
                      cases e : hasP z.1 other with
                      | false => rfl
                      | true => rw [e] at hb14; cases hb14.2
                    have A14 := A13.same s14
                    have P14 := P12.same s14
                    have T14 := T12.same s14
                    have ot14 := ot12.same s14
                    dsimp only [tSeq]
                    refine st_putP (ev_var (i := 3) A14 rfl) (er_var (i := 1) A14 rfl) (ev_var (i := 5) A14 rfl) P14 (small (by omega)) hnp fun H15 u s15 hu15 P15 => ?_
                    obtain ⟨od, hod, nod⟩ := P14.loose
                    have q15 := s15 _ _ hod
                    have tk15 : TKp K H15 (upd H15 d1 u) := TKp.upd q15 (loose_of nod)
                    have A15 := (A14.same s15).keepT tk15 rfl
                    have T15 := (T14.same s15).upd (o := u) n21 q15 (loose_of nod)
                    have ot15 := (ot14.same s15).upd (u := u) (cells_flat _) q15 (loose_of nod) nt1
                    have b15 : But [d1, t] H11 (upd H15 d1 u) := ((b12.trans (Same.but s14)).trans (Same.but s15)).upd (.inl (by simp))
                    generalize upd H15 d1 u = H16 at A15 T15 ot15 b15 P15
                    refine st_appD (er_var (i := 4) A15 rfl) ot15 (cells_flat _) (cell_flat _) (by rw [List.length_map, List.length_reverse]; exact small (by omega)) (ev_var (i := 5) A15 rfl) fun H17 ys17 s17 e17 ot17 => ?_
                    obtain ⟨x16, hx16, _⟩ := id ot15
                    have q17 := s17 _ _ hx16
                    have tk17 : TKp K H17 (upd H17 t (.lst ys17)) := TKp.upd q17 rfl
                    refine ⟨((A15.same s17).keepT tk17 rfl).wk (by repeat (first | exact Wk.nil | apply Wk.keep | apply Wk.drop)), ?_, (T15.same s17).upd (Ne.symm nt2) q17 rfl, ?_, (b15.trans (Same.but s17)).upd (.inl (by simp))⟩
                    · rw [stp, ez]
                      exact (P15.same s17).keep tk17 fun o e => by rw [upd_ne (Ne.symm nt1)]; exact e
                    · rw [stp, ez, List.reverse_cons, List.map_append]
                      exact ot17
                  · have ez : lpAdd ins c z other = z := by
                      unfold lpAdd
                      rw [if_neg (fun y => by rw [hb14] at y; cases y)]
                    exact ⟨(A13.same s14).wk (by repeat (first | exact Wk.nil | apply Wk.keep | apply Wk.drop)), by rw [stp, ez]; exact P12.same s14, T12.same s14, by rw [stp, ez]; exact ot12.same s14, b12.trans (Same.but s14)⟩
                · rw [List.length_map, List.take_length] at P12 ot12
                  have l12 := lpFold_len ins c (lnb one) (pt8, rest)
                  simp only [List.length_cons] at l8
                  refine ⟨A12, by rw [estep]; exact P12, T12, by rw [estep]; exact ot12, (b10.trans (Same.but s11)).trans b12, ?_⟩
                  rw [estep]
                  simp only at l12
                  omega
            · subst er
              refine ⟨_, hpt, (A8.same s9).wk (by repeat (first | exact Wk.nil | apply Wk.keep | apply Wk.drop)), P8.same s9, T8.same s9, (b8.trans (Same.but s9)).less fun x hx => ?_⟩
              simp only [List.mem_cons, List.not_mem_nil, or_false] at hx
              rcases hx with rfl | rfl
              · exact .inl (by simp)
              · exact .inr ht3
      · rw [List.length_map, List.drop_of_length_le (Nat.le_refl _)] at hpt
        cases hpt
        obtain ⟨hlook, hroots'⟩ := mapO_get (d := (0, 0)) hroots
        have s04 : Same H H' := ((Same.but s03).trans b4).same fun x hx => by rw [List.mem_singleton] at hx; rw [hx]; exact hd10
        dsimp only [tSeq]
        refine st_setD (ed_new (K := K) cellK) fun d6 H5 hd6 s5 T5 => ?_
        have A5 := (A4.same s5).putR (v := .ref d6) 6
        have s05 := s04.trans s5
        refine st_forN (ds := (isort cellLe cs).map cellD) ((en_sortD (hcells s05 A5 rfl) al.1 al.2.1 al.2.2).is (sort_cells cs)) (cells_flat _) fun p6 xs6 H6 hp6 s6 hxs6 => ?_
        have n66 : p6 ≠ d6 := fun z => by
          obtain ⟨o, e, _⟩ := T5.there
          rw [z, e] at hp6; cases hp6
        have P6 := P4
        -- the base: the heap before found, with the walked list
        have hd6' : upd H6 d6 (.lst []) = upd H6 d6 (.lst []) := rfl
        let L : Nat → St → Hp → Prop := fun i σ2 H2 => Al K H2 [.raw v0, .raw (.ref d1), .raw (.ref d2), .no, .no, .no, .raw (.ref d6), .no] σ2 ∧ Same H' H2 ∧ H2 p6 = some (.lst xs6) ∧ FoundAt P w K (upd H' p6 (.lst xs6)) H2 d6 ((roots.take i).foldl insK []) i ∧ TKp K H6 H2
        have hp60 : H' p6 = none := s5.free hp6
        have s06 := s05.trans s6
        refine ⟨L, ⟨(A5.same s6).wk (by repeat (first | exact Wk.nil | apply Wk.keep | apply Wk.drop)), s5.trans s6, hxs6, ⟨[], T5.same s6, rfl, fun kv hkv => nomatch hkv⟩, TKp.refl⟩, fun i σ2 H2 ⟨_, _, hx, _, tk⟩ => ⟨tk, hx⟩, fun i x v7 σ2 H7 hx ⟨A7, s7, hx7, F7, tk7⟩ hv7 => ?_, fun σ2 H7 ⟨A7, s7, hx7, F7, tk7⟩ => ?_⟩
        · obtain ⟨c, hc, rfl⟩ := map_at hx
          have hi : i < cs.length := by
            have := (List.getElem?_eq_some_iff.mp hc).1
            rw [isort_length] at this
            exact this
          have hlc := hlook c (List.mem_of_getElem? hc)
          have hrc : roots[i]? = some ((lookP fin c).getD (0, 0)) := by rw [hroots', List.getElem?_map, hc]; rfl
          have A8 := A7.put hv7 3
          have hb0 : Same (upd H' p6 (.lst xs6)) H7 := fun b o e => by
            by_cases z : b = p6
            · subst z; rw [upd_same] at e; rw [hx7]; exact e
            · rw [upd_ne z] at e; exact s7 _ _ e
          have hbd : (upd H' p6 (.lst xs6)) d6 = none := by rw [upd_ne (Ne.symm n66)]; exact hd6
          have stp := take_succ_foldl (f := insK) (b := ([] : List Cell)) hrc
          have lks := foldl_insK_len (roots.take i) ([] : List Cell)
          have ltk : (roots.take i).length ≤ i := List.length_take_le ..
          rw [List.length_nil] at lks
          refine st_found hb0 hbd F7 A8 rfl rfl rfl (P4.same (Same.new hp60)) hlc (small (by omega)) (small (by omega)) fun H9 s9 F9 tk9 => ⟨(A8.keepT tk9 rfl).wk (by repeat (first | exact Wk.nil | apply Wk.keep | apply Wk.drop)), fun b o e => s9 _ _ (by rw [upd_ne (ne_of_none e hp60)]; exact e), s9 _ _ upd_same, by rw [stp]; exact F9, tk7.trans tk9⟩
        · have lr : roots.length = cs.length := by rw [hroots', List.length_map, isort_length]
          rw [List.length_map, isort_length, ← lr, List.take_length] at F7
          obtain ⟨kvs, T7, hks, hall⟩ := F7
          have s07 := s04.trans s7
          have e1 : kvs.map (fun p => cellD p.1) = (kvs.map (·.1)).map cellD := by rw [List.map_map]; rfl
          have al7 := cells_ok (kvs.map (·.1))
          have srt := (en_sortedN (er_var (i := 6) A7 rfl) T7 (by rw [e1]; exact al7)).is (es := (isort cellLe (kvs.map (·.1))).map cellD) (by rw [e1]; exact sort_cells _)
          have lk : (kvs.map (·.1)).length ≤ 900 := by
            have := foldl_insK_len roots ([] : List Cell)
            rw [List.length_nil, lr] at this
            rw [hks]
            omega
          refine en_lcLen (xs := isort cellLe (kvs.map (·.1))) (enc := cellD) (by rw [isort_length]; exact small (by omega)) (wd_list srt.d) (fun x hx v8 H8 s8 hv8 => ?_) H7 (Same.refl _) _ fun p9 ys9 H9 hp9 s9 e9 l9 => k p9 ys9 H9 (s07.trans s9) e9 ?_
          · have A8 := ((A7.same s8).wipe [7]).put hv8 7
            have hx' := mem_isort.mp hx
            have hsome : (valV kvs x).isSome = true := by rw [keys_at]; exact memK_iff.mpr hx'
            obtain ⟨z, hz⟩ := Option.isSome_iff_exists.mp hsome
            exact ⟨_, z, wipe_set1 _ _ _, fun Q q => q, er_getN (ev_var (i := 7) A8 rfl) (er_var (i := 6) A8 rfl) (T7.same s8) hz⟩
          · rw [l9, isort_length, hks]
    · cases hm'
end
end Z
set_option Elab.async false
set_option linter.all false
set_option maxRecDepth 100000
set_option maxHeartbeats 4000000
/-! ZR: _law_nb_free, _law_nb_moves, _law_nb_shapes. -/
namespace Z
open PySem PySem.Spec L2
open PyProof.Rows hiding St
section
variable {P : Program} {w : World} {K : PySem.W.Frag} {mg : Str → Option Value} {base : Heap} {tM : Tok} {aR : Addr} {H H' : Hp} {σ : St}
/-! ### _law_nb_free -/
abbrev s__law_nb_free : Stmt := top 40
theorem sc__law_nb_free : FnScope ["_law_body", "_law_square", "_law_cell"] ["_law_body"] (defScope s__law_nb_free) := ⟨rfl, rfl, rfl, by decide +kernel, rfl, by decide +kernel, by decide +kernel⟩
def lfreeM (b : Body) : Option (List Cell) := if decide ((b.length : Int) < 2) = true then some [] else filO (fun s => (lotsM (b.filter fun a => !decide (a = s))).map fun m => decide ((m : Int) = 1)) b
abbrev R_lfree : List PyData → List PyData → Prop := fun ds rs => ∃ b cs, ds = [bodyD b] ∧ b.length ≤ 900 ∧ lfreeM b = some cs ∧ rs = cs.map cellD
theorem ev_lenLots {tl : TE} {cs : List Cell} {m : Nat} (h : Evd K tl σ H (.list (cs.map cellD))) (hl : cs.length ≤ 900) (hm : lotsM cs = some m) : Evd K (tCB (rLen K) (tCons (tCall (sp_lots K) [] E0 (tCons tl tNil)) tNil)) σ H (.int m) := fun H1 s Q q =>
  h H1 s _ fun v H2 s2 hv => ⟨v, cs, m, rfl, hv, hl, hm, fun p xs H3 s3 e3 l3 => ⟨p, xs, rfl, .inl (SqL.lst e3), by rw [l3]; exact q _ H3 (s2.trans s3) (.int _)⟩⟩
theorem ok_lfree (T : Glo K mg tM aR) (h : Has K mg "_law_nb_free" s__law_nb_free ["_law_body"]) (G__law_nb_lots : OkAt P w K mg base 2 "_law_nb_lots" ["_law_cells"] (sp_lots K)) : OkAt P w K mg base 3 "_law_nb_free" ["_law_body"] (NewSp K R_lfree) := by
  refine h.ok sc__law_nb_free (nw_len fun ds r ⟨_, _, e, _⟩ => by rw [e]; rfl) (fun _ cdv A outer s H vs Q E f hr q => ?_)
  obtain ⟨ds, r, hv, ⟨b, cs, rfl, hlen, hf, rfl⟩, k⟩ := q
  have hu := hr.units
  have hu5 := hu65 hr
  refine ⟨_, (pss_cons (ps_if (pt_cmpR op_lt (pe_callB (show CallR _ _ (rLen K) from call_len_seq) (by rfl) T.len zb_len (pa_cons (pv 0) pa_nil)) pe_int (nomark _)) (pss_one (ps_ret (pe_lst pa_nil))) pss_nil)
      (pss_one (ps_ret (pe_lc (own := [("_law_square", 1)]) (g := gName 1) rfl sc__law_nb_free.nd (show PI _ _ _ (iTup K _) from pi_tup (pv 0)) (blkOk_by (N := ["_law_body", "_law_square", "_law_cell"]) (sc := defScope s__law_nb_free) (by decide +kernel)) (fun _ _ _ _ _ => (pg_name (i := 1) sc__law_nb_free.nd rfl (Or.inr rfl))) (fun _ _ _ _ _ => (pts_one (pt_cmpR op_eq (pe_callB (show CallR _ _ (rLen K) from call_len_seq) (by rfl) T.len zb_len (pa_cons (pe_callO G__law_nb_lots (hr.mono (by decide)) rfl (pa_cons (pe_lc (own := [("_law_cell", 2)]) (g := gName 2) rfl sc__law_nb_free.nd (show PI _ _ _ (iTup K _) from pi_tup (pv 0)) (blkOk_by (by rfl)) (fun _ _ _ _ _ => (pg_name (i := 2) sc__law_nb_free.nd rfl (Or.inl rfl))) (fun _ _ _ _ _ => (pts_one (pt_cmpR (show OpR _ _ (rNeD K) from op_neD hu) (pv 2) (pv 1) (nomark _)))) (fun _ _ _ _ _ => (pv 2))) pa_nil)) pa_nil)) pe_int (nomark _)))) (fun _ _ _ _ _ => (pv 1)))))), ?_⟩
  have A0 : Al K H [.dat (bodyD b), .no, .no] (L2.start ["_law_body", "_law_square", "_law_cell"] vs) := al_start ["_law_body", "_law_square", "_law_cell"] hv
  dsimp only [tSeq]
  have lb : ((b.map cellD).length : Int) = b.length := by rw [List.length_map]
  refine st_if (et_test (ev_op (ev_cb (ea_cons (ev_var (i := 0) A0 rfl) ea_nil) rc_lenT) (ev_int (i := 2)) (rd_B0 (g := fun i j => decide (i < j))))) (fun hb H1 s1 => ?_) fun hb H1 s1 => ?_
  · rw [lb] at hb
    unfold lfreeM at hf
    rw [if_pos hb] at hf
    cases hf
    exact (en_lst (σ := []) ea_nil) H1 (Same.refl _) _ fun p xs H2 hp s2 e2 d2 => k p xs H2 (s1.free hp) (s1.trans s2) e2 d2
  · rw [lb] at hb
    unfold lfreeM at hf
    rw [if_neg (fun z => by rw [hb] at z; cases z)] at hf
    obtain ⟨h1, rfl⟩ := filO_get hf
    have A1 := A0.same s1
    refine (en_tupF (xs := b) (enc := cellD) (p := fun s => ((lotsM (b.filter fun a => !decide (a = s))).map fun m => decide ((m : Int) = 1)).getD false) (f := cellD) (small (by omega)) (fun x _ => cell_flat x) (ev_var (i := 0) A1 rfl) fun x hx => turn_name A1 (wipe_set1 _ _) fun σ2 H2 s2 A2 => ⟨?_, fun _ => ev_var (i := 1) A2 rfl⟩) H1 (Same.refl _) _ fun p xs H2 hp s2 e2 d2 => k p xs H2 (s1.free hp) (s1.trans s2) e2 d2
    have hx1 := h1 x hx
    cases hl : lotsM (b.filter fun a => !decide (a = x)) with
    | none => rw [hl] at hx1; cases hx1
    | some m =>
      have inner := en_tupF (xs := b) (enc := cellD) (p := fun a => !decide (a = x)) (f := cellD) (tl := tVar 0) (g := gName 2) (vs := [2]) (tt := tTest (tOp (rNeD K) (tVar 2) (tVar 1))) (te := tVar 2) (small (by omega)) (fun x _ => cell_flat x) (ev_var (i := 0) A2 rfl) fun y _ => turn_name A2 (wipe_set1 _ _) fun σ3 H3 s3 A3 =>
        ⟨et_test (ev_op (ev_var (i := 2) A3 rfl) (ev_var (i := 1) A3 rfl) rd_neC), fun _ => ev_var (i := 2) A3 rfl⟩
      exact et_test (ev_op (ev_lenLots inner.d (Nat.le_trans (List.length_filter_le _ _) hlen) hl) (ev_int (i := 1)) rd_eqI)
/-! ### _law_nb_moves -/
abbrev s__law_nb_moves : Stmt := top 45
theorem sc__law_nb_moves : FnScope ["_law_body", "_law_found", "_law_start", "_law_rest", "_law_cell", "_law_end"] ["_law_body"] (defScope s__law_nb_moves) := ⟨rfl, rfl, rfl, by decide +kernel, rfl, by decide +kernel, by decide +kernel⟩
def lmvAdd (b : Body) (acc : List Move) (s : Cell) : List Move := acc ++ (stepsM (b.filter fun a => !decide (a = s)) s).map fun e => (s, e)
def lmovesM (b : Body) : Option (List Move) := (lfreeM b).map fun fs => fs.foldl (lmvAdd b) []
abbrev R_lmoves : List PyData → List PyData → Prop := fun ds rs => ∃ b ms, ds = [bodyD b] ∧ b.length ≤ 900 ∧ lmovesM b = some ms ∧ rs = ms.map sideD
theorem steps_len (rest : List Cell) (c : Cell) : (stepsM rest c).length ≤ 9 := by
  unfold stepsM
  rw [isort_length]
  have := stRow_len rest c tri []
  exact this
theorem ok_lmoves (T : Glo K mg tM aR) (h : Has K mg "_law_nb_moves" s__law_nb_moves ["_law_body"]) (G__law_nb_free : OkAt P w K mg base 3 "_law_nb_free" ["_law_body"] (NewSp K R_lfree)) (G__law_nb_steps : OkAt P w K mg base 2 "_law_nb_steps" ["_law_rest", "_law_cell"] (NewSp K R_steps)) : OkAt P w K mg base 4 "_law_nb_moves" ["_law_body"] (NewSp K R_lmoves) := by
  refine h.ok sc__law_nb_moves (nw_len fun ds r ⟨_, _, e, _⟩ => by rw [e]; rfl) (fun _ cdv A outer s H vs Q E f hr q => ?_)
  obtain ⟨ds, r, hv, ⟨b, ms, rfl, hlen, hm, rfl⟩, k⟩ := q
  have hu := hr.units
  have hu5 := hu65 hr
  refine ⟨_, (pss_cons (ps_set (i := 1) sc__law_nb_moves.nd rfl (Or.inl rfl) (pe_lst pa_nil))
      (pss_cons (ps_for PassesOwn.never rfl (show PI _ _ _ (iList K _) from pi_list (pe_callO G__law_nb_free (hr.mono (by decide)) rfl (pa_cons (pv 0) pa_nil))) (pg_name (i := 2) sc__law_nb_moves.nd rfl (Or.inr rfl))
      (pss_cons (ps_setLc (i := 3) (own := [("_law_cell", 4)]) (g := gName 4) rfl sc__law_nb_moves.nd rfl rfl (sw_true rfl rfl rfl (by decide +kernel)) (show PI _ _ _ (iTup K _) from pi_tup (pv 0)) (blkOk_by (N := ["_law_body", "_law_found", "_law_start", "_law_rest", "_law_cell", "_law_end"]) (sc := defScope s__law_nb_moves) (by decide +kernel)) (fun _ _ _ _ _ => (pg_name (i := 4) sc__law_nb_moves.nd rfl (Or.inl rfl))) (fun _ _ _ _ _ => (pts_one (pt_cmpR (show OpR _ _ (rNeD K) from op_neD hu) (pv 4) (pv 2) (nomark _)))) (fun _ _ _ _ _ => (pv 4)))
      (pss_one (ps_set (i := 1) sc__law_nb_moves.nd rfl (Or.inl rfl) (pe_op (show OpR _ _ (rCatL K) from op_catL) (pv 1) (pe_lc (own := [("_law_end", 5)]) (g := gName 5) rfl sc__law_nb_moves.nd (show PI _ _ _ (iList K _) from pi_list (pe_callO G__law_nb_steps (hr.mono (by decide)) rfl (pa_cons (pv 3) (pa_cons (pv 2) pa_nil)))) (blkOk_by (N := ["_law_body", "_law_found", "_law_start", "_law_rest", "_law_cell", "_law_end"]) (sc := defScope s__law_nb_moves) (by decide +kernel)) (fun _ _ _ _ _ => (pg_name (i := 5) sc__law_nb_moves.nd rfl (Or.inl rfl))) (fun _ _ _ _ _ => pts_nil) (fun _ _ _ _ _ => (pe_tup (pa_cons (pv 2) (pa_cons (pv 5) pa_nil))))))))))
      (pss_one (ps_ret (pv 1))))), ?_⟩
  have A0 : Al K H [.dat (bodyD b), .no, .no, .no, .no, .no] (L2.start ["_law_body", "_law_found", "_law_start", "_law_rest", "_law_cell", "_law_end"] vs) := al_start ["_law_body", "_law_found", "_law_start", "_law_rest", "_law_cell", "_law_end"] hv
  obtain ⟨fs, hfs, rfl⟩ := Option.map_eq_some_iff.mp hm
  have lfs : fs.length ≤ 900 := by
    unfold lfreeM at hfs
    split at hfs
    · cases hfs; exact Nat.zero_le _
    · obtain ⟨_, rfl⟩ := filO_get hfs
      exact Nat.le_trans (List.length_filter_le _ _) hlen
  dsimp only [tSeq]
  refine st_setN (K := K) (en_lst (ds := ([] : List Move).map sideD) ea_nil (by show 0 ≤ sizeLine; decide)) fun fo ys H1 hfo s1 e1 d1 => ?_
  have A1 := (A0.same s1).putR (v := .ref fo) 1
  refine st_forN (ds := fs.map cellD) (en_call (ea_cons (ev_var (i := 0) A1 rfl) ea_nil) ⟨b, fs, rfl, hlen, hfs, rfl⟩) (cells_flat _) fun p xs H2 hp s2 hxs => ?_
  let I : Nat → St → Hp → Prop := fun i σ' H' => ∃ fp, H fp = none ∧ Same H2 H' ∧ Al K H' [.dat (bodyD b), .raw (.ref fp), .no, .no, .no, .no] σ' ∧ OwnL K H' fp (((fs.take i).foldl (lmvAdd b) []).map sideD) ∧ ((fs.take i).foldl (lmvAdd b) []).length ≤ 9 * i
  refine ⟨I, ⟨fo, hfo, Same.refl _, (A1.same s2).wk (by repeat (first | exact Wk.nil | apply Wk.keep | apply Wk.drop)), OwnL.same ⟨ys, e1, d1⟩ s2, Nat.zero_le _⟩, fun i σ' H' ⟨_, _, sm, _⟩ => ⟨TKp.same sm, sm _ _ hxs⟩, fun i x v3 σ' H' hx ⟨fp, hfp, sm, A3, o3, l3⟩ hv3 => ?_, fun σ' H' ⟨fp, hfp, sm, A3, o3, l3⟩ => ?_⟩
  · obtain ⟨c, hc, rfl⟩ := map_at hx
    have hi : i < fs.length := (List.getElem?_eq_some_iff.mp hc).1
    have stp := take_succ_foldl (f := lmvAdd b) (b := ([] : List Move)) hc
    generalize (fs.take i).foldl (lmvAdd b) [] = acc at o3 stp l3
    have A4 := A3.put hv3 2
    dsimp only [tSeq]
    refine st_setN (en_tupF (xs := b) (enc := cellD) (p := fun a => !decide (a = c)) (f := cellD) (small (by omega)) (fun x _ => cell_flat x) (ev_var (i := 0) A4 rfl) fun y _ => turn_name A4 (wipe_set1 _ _) fun σ5 H5 s5 A5 =>
      ⟨et_test (ev_op (ev_var (i := 4) A5 rfl) (ev_var (i := 2) A5 rfl) rd_neC), fun _ => ev_var (i := 4) A5 rfl⟩) fun p5 ys5 H5 hp5 s5 e5 d5 => ?_
    have A5 := (A4.same s5).put (v := .ref p5) (d := .list ((b.filter fun a => !decide (a = c)).map cellD)) (.lst (.inl (.inl e5)) d5) 3
    have o5 := o3.same s5
    have ls := steps_len (b.filter fun a => !decide (a = c)) c
    have lc := (en_listF (xs := stepsM (b.filter fun a => !decide (a = c)) c) (enc := cellD) (p := fun _ => true) (f := fun e => sideD (c, e)) (tl := tCall (NewSp K R_steps) [] E0 (tCons (tVar 3) (tCons (tVar 2) tNil))) (g := gName 5) (vs := [5]) (tt := tYes) (te := tTup (tCons (tVar 2) (tCons (tVar 5) tNil)))
      (small (by omega)) (fun x _ => rfl) (en_call (ea_cons (ev_var (i := 3) A5 rfl) (ea_cons (ev_var (i := 2) A5 rfl) ea_nil)) ⟨_, c, rfl, rfl⟩).d fun y _ => turn_name A5 (wipe_set1 _ _) fun σ6 H6 s6 A6 => ⟨et_yes, fun _ => ev_tup (ea_cons (ev_var (i := 2) A6 rfl) (ea_cons (ev_var (i := 5) A6 rfl) ea_nil))⟩).is
      (es := ((stepsM (b.filter fun a => !decide (a = c)) c).map fun e => (c, e)).map sideD) (by rw [List.filter_eq_self.mpr (fun _ _ => rfl), List.map_map]; rfl)
    have la : (lmvAdd b acc c).length ≤ 9 * (i + 1) := by
      unfold lmvAdd
      rw [List.length_append, List.length_map]
      omega
    refine st_setN ((en_catL (ev_of (er_var (i := 1) A5 rfl) o5.dp) lc.d (by
      rw [List.length_map, List.length_map, List.length_map]
      have : (10000 : Nat) ≤ sizeLine := by decide
      omega)).is (es := (lmvAdd b acc c).map sideD) (by unfold lmvAdd; rw [List.map_append])) fun p7 ys7 H7 hp7 s7 e7 d7 => ?_
    refine ⟨p7, (((s1.trans s2).trans sm).trans s5).free hp7, (sm.trans s5).trans s7, ((A5.same s7).putR (v := .ref p7) 1).wk (by repeat (first | exact Wk.nil | apply Wk.keep | apply Wk.drop)), ?_, ?_⟩
    · rw [stp]; exact ⟨ys7, e7, d7⟩
    · rw [stp]; exact la
  · rw [List.length_map, List.take_length] at o3
    obtain ⟨ys9, e9, d9⟩ := o3
    refine ⟨.ref fp, A3.getR (i := 1) rfl, k fp ys9 H' hfp ((s1.trans s2).trans sm) e9 d9⟩
/-! ### _law_nb_shapes -/
def lgrow1 (b : Body) (acc : List Body) (o : Cell) : List Body := if memK b o = true then acc else insK acc (lshapeM (b ++ [o]))
def lgrowC (b : Body) (acc : List Body) (c : Cell) : List Body := (lnb c).foldl (lgrow1 b) acc
def lgrowB (acc : List Body) (b : Body) : List Body := b.foldl (lgrowC b) acc
def llapM (found : List Body) : List Body := found.foldl lgrowB []
def llapsM : Nat → List Body
  | 0 => [[(0, 0)]]
  | k + 1 => llapM (llapsM k)
def lshapesM (n : Nat) : List Body := isort bodyLe (llapsM (n - 1))
theorem lgrow1_mono (b : Body) (acc : List Body) (o : Cell) : acc.length ≤ (lgrow1 b acc o).length := by
  unfold lgrow1
  split
  · exact Nat.le_refl _
  · exact (insK_len _ _).1
theorem lgrowC_mono (b : Body) (acc : List Body) (c : Cell) : acc.length ≤ (lgrowC b acc c).length := mono_foldl (lgrow1_mono b) _ _
theorem lgrowB_mono (acc : List Body) (b : Body) : acc.length ≤ (lgrowB acc b).length := mono_foldl (lgrowC_mono b) _ _
abbrev s__law_nb_shapes : Stmt := top 44
theorem sc__law_nb_shapes : FnScope ["_law_many", "_law_found", "_law_lap", "_law_more", "_law_shape", "_law_square", "_law_cell"] ["_law_many"] (defScope s__law_nb_shapes) := ⟨rfl, rfl, rfl, by decide +kernel, rfl, by decide +kernel, by decide +kernel⟩
abbrev R_lshapes : List PyData → List PyData → Prop := fun ds rs => ∃ n : Nat, ds = [.int n] ∧ 1 ≤ n ∧ n ≤ 7 ∧ (∀ k, k ≤ n - 1 → okB (llapsM k) = true) ∧ rs = (lshapesM n).map bodyD
theorem ok_lshapes (T : Glo K mg tM aR) (h : Has K mg "_law_nb_shapes" s__law_nb_shapes ["_law_many"]) (G__law_nb_beside : OkAt P w K mg base 1 "_law_nb_beside" ["_law_cell"] (NewSp K R_lnb)) (G__law_nb_shape : OkAt P w K mg base 1 "_law_nb_shape" ["_law_cells"] (Pu K R_lshapeT)) : OkAt P w K mg base 2 "_law_nb_shapes" ["_law_many"] (NewSp K R_lshapes) := by
  refine h.ok sc__law_nb_shapes (nw_len fun ds r ⟨_, e, _⟩ => by rw [e]; rfl) (fun _ cdv A outer s H vs Q E f hr q => ?_)
  obtain ⟨ds, r, hv, ⟨n, rfl, hn1, hn7, hok, rfl⟩, k⟩ := q
  have hu := hr.units
  have hu5 := hu65 hr
  refine ⟨_, (pss_cons (ps_set (i := 1) sc__law_nb_shapes.nd rfl (Or.inl rfl) (pe_disp1 bodyK hu (pe_tup (pa_cons (pe_tup (pa_cons pe_int (pa_cons pe_int pa_nil))) pa_nil)) pe_bl))
      (pss_cons (ps_for PassesOwn.never rfl (pi_range1 rfl T.range (pa_cons (pe_op op_sub (pv 0) pe_int) pa_nil)) (pg_name (i := 2) sc__law_nb_shapes.nd rfl (Or.inl rfl))
      (pss_cons (ps_set (i := 3) sc__law_nb_shapes.nd rfl (Or.inl rfl) pe_newN)
      (pss_cons (ps_lock (ps_for PassesOwn.never rfl (show PI _ _ _ (iKeysN P w _) from pi_keysN (pv 1)) (pg_name (i := 4) sc__law_nb_shapes.nd rfl (Or.inl rfl))
      (pss_one (ps_for PassesOwn.never rfl (show PI _ _ _ (iTup K _) from pi_tup (pv 4)) (pg_name (i := 5) sc__law_nb_shapes.nd rfl (Or.inl rfl))
      (pss_one (ps_for PassesOwn.never rfl (show PI _ _ _ (iList K _) from pi_list (pe_callO G__law_nb_beside (hr.mono (by decide)) rfl (pa_cons (pv 5) pa_nil))) (pg_name (i := 6) sc__law_nb_shapes.nd rfl (Or.inl rfl))
      (pss_one (ps_if (pt_cmpR (show OpR _ _ (rNotInT K) from op_notInT hu5) (pv 6) (pv 4) rfl) (pss_one (ps_asg pe_bl (pg_sub (pv 3) (pe_callO G__law_nb_shape (hr.mono (by decide)) rfl (pa_cons (pe_op (show OpR _ _ (rCatT K) from op_catT) (pv 4) (pe_tup (pa_cons (pv 6) pa_nil))) pa_nil)) (show PSet _ (tSetN P w K bodyD) from set_N bodyK hu)))) pss_nil))))))))
      (pss_one (ps_set (i := 1) sc__law_nb_shapes.nd rfl (Or.inl rfl) (pv 3))))))
      (pss_one (ps_ret (pe_callB (show CallR _ _ (rSortedN P w K bodyD) from cr_sortedN rfl hu) (by rfl) T.sorted zb_sorted (pa_cons (pv 1) pa_nil)))))), ?_⟩
  have A0 : Al K H [.dat (.int n), .no, .no, .no, .no, .no, .no] (L2.start ["_law_many", "_law_found", "_law_lap", "_law_more", "_law_shape", "_law_square", "_law_cell"] vs) := al_start ["_law_many", "_law_found", "_law_lap", "_law_more", "_law_shape", "_law_square", "_law_cell"] hv
  dsimp only [tSeq]
  have s1 : Same H H := Same.refl _
  have A1 := A0
  have c00 : Evd K (tTup (tCons (tTup (tCons (tC (.int 0)) (tCons (tC (.int 0)) tNil))) tNil)) (L2.start ["_law_many", "_law_found", "_law_lap", "_law_more", "_law_shape", "_law_square", "_law_cell"] vs) H (bodyD [(0, 0)]) := ev_tup (ea_cons (ev_cell ev_int ev_int) ea_nil)
  refine st_setD (ed_one bodyK c00) fun d0 H2 hd0 s2 T2 => ?_
  have A2 := (A1.same s2).putR (v := .ref d0) 1
  refine st_forR (n := (n : Int) - 1) (ea_cons (ev_op (ev_var (i := 0) A2 rfl) ev_int rd_I0) ea_nil) (by omega) (by omega) fun H3 s3 => ?_
  have s03 := (s1.trans s2).trans s3
  have en : ((n : Int) - 1).toNat = n - 1 := by omega
  rw [en]
  let I : Nat → St → Hp → Prop := fun i σ' H' => ∃ d, H d = none ∧ Same H H' ∧ Al K H' [.dat (.int n), .raw (.ref d), .no, .no, .no, .no, .no] σ' ∧ Tab P w K bodyD H' d (setK (llapsM i))
  refine ⟨I, ⟨d0, s1.free hd0, s03, (A2.same s3).wk (by repeat (first | exact Wk.nil | apply Wk.keep | apply Wk.drop)), T2.same s3⟩, fun i σ' H' hi ⟨d, hd, sm, A3, T3⟩ => ?_, fun σ' H' ⟨d, hd, sm, A3, T3⟩ => ?_⟩
  · obtain ⟨hl1, hb1⟩ := okB_of (hok i (by omega))
    obtain ⟨hl2, hb2⟩ := okB_of (hok (i + 1) (by omega))
    show tSeq _ _ _ _ _
    dsimp only [tSeq]
    have A4 := A3.putR (v := .int (0 + (i : Int))) 2
    refine st_setD (ed_new (K := K) bodyK) fun m H4 hm s4 T4 => ?_
    have T3' := T3.same s4
    have nmd : m ≠ d := fun z => by
      subst z
      obtain ⟨o, e, _⟩ := T3.there
      rw [e] at hm; cases hm
    have A5 := (A4.same s4).putR (v := .ref m) 3
    have hm0 := sm.free hm
    refine st_forK (A5.getR (i := 1) rfl) T3' fun Hl tkl bl => ?_
    have Tm : Tab P w K bodyD Hl m (setK ([] : List Body)) := T4.keep tkl fun o e => bl _ _ e (by simp [nmd])
    have b0l : But [d, m] H Hl := ((Same.but (sm.trans s4)).trans (bl.mono (by simp)))
    let J : Nat → St → Hp → Prop := fun j σ2 H2 => Al K H2 [.dat (.int n), .raw (.ref d), .no, .raw (.ref m), .no, .no, .no] σ2 ∧ Tab P w K bodyD H2 m (setK (((llapsM i).take j).foldl lgrowB [])) ∧ But [m] Hl H2
    have tkm : ∀ {Ha Hb : Hp} {kvs : List (Body × V)}, Tab P w K bodyD Ha m kvs → But [m] Ha Hb → TKp K Ha Hb := fun {Ha Hb kvs} Ta bb => bb.tk fun a ha o ho => by
      rw [List.mem_singleton] at ha
      subst ha
      obtain ⟨x', e', l'⟩ := tab_loose Ta
      rw [e'] at ho; cases ho; exact l'
    refine ⟨J, ⟨((A5.keepT tkl rfl)).wk (by repeat (first | exact Wk.nil | apply Wk.keep | apply Wk.drop)), Tm, But.refl⟩, fun j σ2 H2 ⟨_, _, bb⟩ => ⟨tkm Tm bb, fun o e => bb _ _ e (by simp [Ne.symm nmd])⟩, fun j q v5 σ2 H5 R B hq ⟨A6, T6, b6⟩ hv5 => ?_, fun σ2 H5 u ⟨A6, T6, b6⟩ hu6 tk6 => ?_⟩
    · have hb := setK_get hq
      obtain ⟨b, w0⟩ := q
      simp only at hb hv5
      have hbm : b ∈ llapsM i := List.mem_of_getElem? hb
      obtain ⟨hbn, hbl⟩ := hb1 b hbm
      have stp := take_succ_foldl (f := lgrowB) (b := ([] : List Body)) hb
      have bnd : ((((llapsM i).take (j + 1)).foldl lgrowB [])).length ≤ 900 := Nat.le_trans (mono_take lgrowB_mono _ _ _) hl2
      rw [stp] at bnd
      generalize ((llapsM i).take j).foldl lgrowB [] = acc at T6 stp bnd
      have A7 := A6.put hv5 4
      -- for cell in body
      refine st_forT (ds := b.map cellD) (ev_var (i := 4) A7 rfl) (cells_flat _) fun H8 s8 => ?_
      have T8 := T6.same s8
      let L : Nat → St → Hp → Prop := fun c σ3 H3 => Al K H3 [.dat (.int n), .raw (.ref d), .no, .raw (.ref m), .dat (bodyD b), .no, .no] σ3 ∧ Tab P w K bodyD H3 m (setK ((b.take c).foldl (lgrowC b) acc)) ∧ But [m] H8 H3
      refine ⟨L, ⟨(A7.same s8).wk (by repeat (first | exact Wk.nil | apply Wk.keep | apply Wk.drop)), T8, But.refl⟩, fun c σ3 H3 ⟨_, _, bb⟩ => tkm T8 bb, fun c x v9 σ3 H9 hx ⟨A9, T9, b9⟩ hv9 => ?_, fun σ3 H9 ⟨A9, T9, b9⟩ => ?_⟩
      · obtain ⟨cc, hc, rfl⟩ := map_at hx
        have stp9 := take_succ_foldl (f := lgrowC b) (b := acc) hc
        have bnd9 : (((b.take (c + 1)).foldl (lgrowC b) acc)).length ≤ 900 := Nat.le_trans (mono_take (lgrowC_mono b) _ _ _) bnd
        rw [stp9] at bnd9
        generalize (b.take c).foldl (lgrowC b) acc = acc9 at T9 stp9 bnd9
        have A10 := A9.put hv9 5
        -- for other in beside(cell)
        refine st_forN (ds := (lnb cc).map cellD) (en_call (ea_cons (ev_var (i := 5) A10 rfl) ea_nil) ⟨cc, rfl, rfl⟩) (cells_flat _) fun pp xs11 H11 hpp s11 hxs11 => ?_
        have npm : pp ≠ m := fun z => by
          obtain ⟨o, e, _⟩ := T9.there
          rw [z, e] at hpp; cases hpp
        have T11 := T9.same s11
        let M : Nat → St → Hp → Prop := fun o σ4 H4 => Al K H4 [.dat (.int n), .raw (.ref d), .no, .raw (.ref m), .dat (bodyD b), .no, .no] σ4 ∧ Tab P w K bodyD H4 m (setK (((lnb cc).take o).foldl (lgrow1 b) acc9)) ∧ But [m] H11 H4
        refine ⟨M, ⟨(A10.same s11).wk (by repeat (first | exact Wk.nil | apply Wk.keep | apply Wk.drop)), T11, But.refl⟩, fun o σ4 H4 ⟨_, _, bb⟩ => ⟨tkm T11 bb, bb _ _ hxs11 (by simp [npm])⟩, fun o y v12 σ4 H12 hy ⟨A12, T12, b12⟩ hv12 => ?_, fun σ4 H12 ⟨A12, T12, b12⟩ => ?_⟩
        · obtain ⟨oo, ho, rfl⟩ := map_at hy
          have stp12 := take_succ_foldl (f := lgrow1 b) (b := acc9) ho
          have bnd12 : ((((lnb cc).take o).foldl (lgrow1 b) acc9)).length ≤ 900 := Nat.le_trans (mono_take (lgrow1_mono b) _ _ _) bnd9
          generalize ((lnb cc).take o).foldl (lgrow1 b) acc9 = acc12 at T12 stp12 bnd12
          have A13 := A12.put hv12 6
          refine st_if (et_test (ev_op (ev_var (i := 6) A13 rfl) (ev_var (i := 4) A13 rfl) (rd_notInT (cell_shaped _) (body_shaped _) rfl))) (fun hb13 H14 s14 => ?_) fun hb13 H14 s14 => ?_
          · rw [any_cells] at hb13
            have nm : ¬ memK b oo = true := fun z => by rw [z] at hb13; cases hb13
            have e12 : lgrow1 b acc12 oo = insK acc12 (lshapeM (b ++ [oo])) := by
              unfold lgrow1
              rw [if_neg nm]
            have A14 := A13.same s14
            have al := cells_ok (b ++ [oo])
            have lz : (b ++ [oo]).length ≤ 1000 := by rw [List.length_append, List.length_singleton]; omega
            have key : Evd K (tCall (Pu K R_lshapeT) [] E0 (tCons (tOp (rCatT K) (tVar 4) (tTup (tCons (tVar 6) tNil))) tNil)) (σ4.set 6 (some v12)) H14 (bodyD (lshapeM (b ++ [oo]))) := by
              refine ev_call (ea_cons (d := bodyD (b ++ [oo])) ?_ ea_nil) ⟨_, rfl, lz, fun z => ?_, rfl⟩
              · show Evd K _ _ _ (.tuple ((b ++ [oo]).map cellD))
                rw [List.map_append]
                refine ev_op (ev_var (i := 4) A14 rfl) (ev_tup (ds := [oo].map cellD) (ea_cons (ev_var (i := 6) A14 rfl) ea_nil) (by show 1 ≤ sizeLine; decide)) (rd_catT ?_ (fun z => hbn (List.map_eq_nil_iff.mp z)) (by simp))
                rw [List.length_map, List.length_map, List.length_singleton]
                have : (1000 : Nat) ≤ sizeLine := by decide
                omega
              · have := congrArg List.length z
                rw [List.length_append, List.length_singleton, List.length_nil] at this
                omega
            refine st_put ev_bl (er_var (i := 3) A14 rfl) key (T12.same s14) (by rw [setK_len]; exact small (by omega)) fun v15 H15 u15 s15 hv15 hu15 T15 => ?_
            cases hv15
            rw [setK_put, ← e12, ← stp12] at T15
            obtain ⟨od, hod, lod⟩ := tab_loose (T12.same s14)
            have q15 := s15 _ _ hod
            have tk15 : TKp K H15 (upd H15 m u15) := TKp.upd q15 lod
            exact ⟨((A14.same s15).keepT tk15 (by simp [flatE, body_flat, cell_flat, flat, flatAll])).wk (by repeat (first | exact Wk.nil | apply Wk.keep | apply Wk.drop)), T15, ((b12.trans (Same.but s14)).trans (Same.but s15)).upd (.inl (by simp))⟩
          · rw [any_cells] at hb13
            have nm : memK b oo = true := by cases z : memK b oo; rw [z] at hb13; cases hb13; rfl
            have e12 : lgrow1 b acc12 oo = acc12 := by
              unfold lgrow1
              rw [if_pos nm]
            exact ⟨(A13.same s14).wk (by repeat (first | exact Wk.nil | apply Wk.keep | apply Wk.drop)), by rw [stp12, e12]; exact T12.same s14, b12.trans (Same.but s14)⟩
        · rw [List.length_map, List.take_length] at T12
          refine ⟨A12.wk (by repeat (first | exact Wk.nil | apply Wk.keep | apply Wk.drop)), by rw [stp9]; exact T12, (b9.trans (Same.but s11)).trans b12⟩
      · rw [List.length_map, List.take_length] at T9
        exact ⟨A9.wk (by repeat (first | exact Wk.nil | apply Wk.keep | apply Wk.drop)), by rw [stp]; exact T9, (b6.trans (Same.but s8)).trans b9⟩
    · rw [setK_len, List.take_length] at T6
      have A7 := A6.keepT tk6 rfl
      have T7 := T6.keep tk6 fun o e => by rw [upd_ne nmd]; exact e
      refine st_setR (er_var (i := 3) A7 rfl) fun H8 s8 => ⟨m, hm0, ?_, ((A7.same s8).putR (v := .ref m) 1).wk (by repeat (first | exact Wk.nil | apply Wk.keep | apply Wk.drop)), T7.same s8⟩
      refine ((((b0l.trans (b6.mono (by simp))).upd (.inl (by simp))).trans (Same.but s8))).same fun x hx => ?_
      simp only [List.mem_cons, List.not_mem_nil, or_false] at hx
      rcases hx with rfl | rfl
      · exact hd
      · exact hm0
  · obtain ⟨hl1, hb1⟩ := okB_of (hok (n - 1) (Nat.le_refl _))
    have e1 : (setK (llapsM (n - 1))).map (fun p => bodyD p.1) = (llapsM (n - 1)).map bodyD := setK_keys _
    have bo := bodies_ok fun b hb => (hb1 b hb).1
    exact ((en_sortedN (er_var (i := 1) A3 rfl) T3 (by rw [e1]; exact bo)).is (es := (lshapesM n).map bodyD) (by rw [e1]; exact sort_bodies _)) H' (Same.refl _) _ fun p5 xs5 H5 hp5 s5 e5 d5 => k p5 xs5 H5 (sm.free hp5) (sm.trans s5) e5 d5
end
end Z
set_option Elab.async false
set_option linter.all false
set_option maxRecDepth 100000
set_option maxHeartbeats 2000000
/-! ZS: sets whose members are tuples of tuples of numbers: what such a set is (Bag), adding, set(list), sorted(set). -/
namespace Z
open PySem PySem.Spec L2
open PyProof.Rows hiding St
mutual
/-- no text within -/
def plainK : NestedKey → Bool
  | .text _ => false
  | .tup ks => plainAll ks
  | _ => true
def plainAll : List NestedKey → Bool
  | [] => true
  | k :: ks => plainK k && plainAll ks
end
def KeyIn (P : Program) (w : World) (h : Heap) (k : NestedKey) (b : Addr) : Prop := (nestedKind P w).is h k b ∧ plainK k = true
theorem KeyIn.at {P : Program} {w : World} {h h' : Heap} {k : NestedKey} {b : Addr} (x : KeyIn P w h k b) (hk : ∀ b o vs n, h.get? b = some o → o.data = .seq vs n → h'.get? b = some o) : KeyIn P w h' k b := ⟨nestedKind_stays.stays hk x.1, x.2⟩
section
variable {P : Program} {w : World} {A : Around} {E : Value → Shared → Prop} {s : Shared}
/-- no class statement's object among them -/
theorem plain_class : ∀ (n : Nat) (k : NestedKey) (v : Value) (Q : Bool → Shared → Prop), NestedIs s.heap k v → k.depth ≤ n → Q false s → wpAny (model P w) A (ofAClassStatement n v) Q E s
  | n, .none, _, Q, x, _, q => by cases x; cases n <;> exact wpAny_pure q
  | n, .num _, _, Q, x, _, q => by cases x <;> cases n <;> exact wpAny_pure q
  | n, .text _, _, Q, x, _, q => by cases x; cases n <;> exact wpAny_pure q
  | 0, .tup ks, _, Q, _, d, _ => by simp [NestedKey.depth] at d
  | n + 1, .tup ks, _, Q, x, d, q => by
    cases x with
    | @tup a o vs m _ h1 h2 h3 h4 =>
      unfold ofAClassStatement
      refine wpAny_bind (wpAny_typeOf ⟨o, h1, h2⟩ ?_)
      dsimp only
      simp only [show (("tuple" : String) == "tuple") = true by decide, if_true, Bool.not_true, Bool.false_eq_true, if_false]
      refine wpAny_bind (wpAny_pure ?_)
      try simp only [Bool.not_true, Bool.false_eq_true, if_false]
      show wpAny _ _ (seqItems? (.ref a) >>= _) _ _ s
      refine wpAny_bind (wpAny_seqItems h1 h3 ?_)
      dsimp only
      refine wpAny_bind ?_
      show wpAny _ _ (forIn vs _ _) _ _ s
      rw [← Array.forIn_toList]
      have d' : NestedKey.depthAll ks ≤ n := by simp only [NestedKey.depth] at d; omega
      refine wpAny_forIn_list _ (fun rest r s' => r.1 = none ∧ s = s' ∧ ∃ js, NestedAll s.heap js rest ∧ NestedKey.depthAll js ≤ n) _ ?_ ?_ _ _ ⟨rfl, rfl, ks, h4, d'⟩
      · rintro u rest r s' ⟨hr, rfl, js, hj, dj⟩
        cases hj with
        | @cons j _ js _ y ys =>
          simp only [NestedKey.depthAll] at dj
          refine wpAny_bind (plain_class n j u _ y (by omega) ?_)
          simp only [Bool.false_eq_true, if_false]
          exact wpAny_pure ⟨rfl, rfl, js, ys, by omega⟩
      · rintro ⟨r1, r2⟩ s' ⟨hr, rfl, _⟩
        simp only at hr
        subst hr
        exact wpAny_pure q
/-- their hashes are known by value -/
theorem plain_hash : ∀ (n : Nat) (k : NestedKey) (v : Value) (Q : Bool → Shared → Prop), NestedIs s.heap k v → plainK k = true → k.depth ≤ n → Q true s → wpAny (model P w) A (hashByValue n v) Q E s
  | n, .none, _, Q, x, _, _, q => by cases x; cases n <;> exact wpAny_pure q
  | n, .num _, _, Q, x, _, _, q => by cases x <;> cases n <;> exact wpAny_pure q
  | n, .text _, _, Q, x, p, _, q => by simp [plainK] at p
  | 0, .tup ks, _, Q, _, _, d, _ => by simp [NestedKey.depth] at d
  | n + 1, .tup ks, _, Q, x, p, d, q => by
    cases x with
    | @tup a o vs m _ h1 h2 h3 h4 =>
      unfold hashByValue
      refine wpAny_bind (wpAny_specialOf (T := "tuple") ⟨o, h1, h2⟩ F.slot_tuple_hash.lookup ?_)
      show wpAny _ _ (seqItems? (.ref a) >>= _) _ _ s
      refine wpAny_bind (wpAny_seqItems h1 h3 ?_)
      refine wpAny_bind ?_
      show wpAny _ _ (forIn vs _ _) _ _ s
      rw [← Array.forIn_toList]
      have d' : NestedKey.depthAll ks ≤ n := by simp only [NestedKey.depth] at d; omega
      have p' : plainAll ks = true := by simpa [plainK] using p
      refine wpAny_forIn_list _ (fun rest r s' => r.1 = none ∧ s = s' ∧ ∃ js, NestedAll s.heap js rest ∧ NestedKey.depthAll js ≤ n ∧ plainAll js = true) _ ?_ ?_ _ _ ⟨rfl, rfl, ks, h4, d', p'⟩
      · rintro u rest r s' ⟨hr, rfl, js, hj, dj, pj⟩
        cases hj with
        | @cons j _ js _ y ys =>
          simp only [NestedKey.depthAll] at dj
          simp only [plainAll, Bool.and_eq_true] at pj
          refine wpAny_bind (plain_hash n j u _ y pj.1 (by omega) ?_)
          simp only [Bool.not_true, Bool.false_eq_true, if_false]
          exact wpAny_pure ⟨rfl, rfl, js, ys, by omega, pj.2⟩
      · rintro ⟨r1, r2⟩ s' ⟨hr, rfl, _⟩
        simp only at hr
        subst hr
        exact wpAny_pure q
/-- a search among them shows nothing -/
theorem plain_unseen {k : NestedKey} {b : Addr} {Q : Bool → Shared → Prop} (hk : KeyIn P w s.heap k b) {ys : List Value} (hy : ∀ y ∈ ys, ∃ j c, y = Value.ref c ∧ KeyIn P w s.heap j c) (q : Q false s) : wpAny (model P w) A (searchCouldBeSeen (.ref b) ys) Q E s := by
  unfold searchCouldBeSeen
  refine wpAny_bind (wpAny_forIn_list _ (fun rest r s' => r.1 = none ∧ s = s' ∧ ∀ y ∈ rest, ∃ j c, y = Value.ref c ∧ KeyIn P w s.heap j c) _ ?_ ?_ _ _ ⟨rfl, rfl, hy⟩)
  · rintro u rest r s' ⟨hr, rfl, all⟩
    obtain ⟨j, c, rfl, hc⟩ := all u List.mem_cons_self
    have more : ∀ y ∈ rest, ∃ j c, y = Value.ref c ∧ KeyIn P w s.heap j c := fun y h => all y (List.mem_cons_of_mem _ h)
    dsimp only
    by_cases same : (b == c || (carriedByValue (.ref b) && carriedByValue (.ref c))) = true
    · exact wp_if_pos same (wpAny_pure ⟨rfl, rfl, more⟩)
    · refine wp_if_neg same (wpAny_bind ((nestedKind P w).quiet hk.1 ?_))
      simp only [Bool.not_true, Bool.false_eq_true, if_false]
      refine wpAny_bind ((nestedKind P w).quiet hc.1 ?_)
      simp only [Bool.not_true, Bool.false_eq_true, if_false]
      refine wpAny_bind (plain_class 8 k _ _ hk.1.1 hk.1.2 ?_)
      simp only [Bool.false_eq_true, if_false]
      refine wpAny_bind (plain_class 8 j _ _ hc.1.1 hc.1.2 ?_)
      simp only [Bool.false_eq_true, if_false]
      exact wpAny_pure ⟨rfl, rfl, more⟩
  · rintro ⟨r1, r2⟩ s' ⟨hr, rfl, _⟩
    simp only at hr
    subst hr
    exact wpAny_pure q
/-! ### the set -/
abbrev KeyL := List (Addr × NestedKey)
def rowL (w : World) (L : KeyL) : List (Int × Value) := L.map fun p => (p.2.hash w, Value.ref p.1)
def hashL (w : World) (L : KeyL) : List Int := L.map fun p => p.2.hash w
structure Bag (P : Program) (w : World) (h : Heap) (a : Addr) (L : KeyL) (es : Array (Int × Value)) (ep : Nat) (t : SetTable) : Prop where
  obj : ∃ o, h.get? a = some o ∧ o.ExactSet ∧ o.data = .set es ep t
  row : es.toList = rowL w L
  tab : TabOk t (hashL w L)
  key : ∀ p ∈ L, KeyIn P w h p.2 p.1
  nod : (L.map (·.2)).Nodup
  pln : t.plain = true
  led : w.params.followText "set-order" = true ∨ t.led = true
  low : L.length * 5 < t.mask * 3
  few : L.length < 64
theorem rowL_len {w : World} {L : KeyL} {es : Array (Int × Value)} (h : es.toList = rowL w L) : es.size = L.length := by
  rw [← Array.length_toList, h]
  exact List.length_map ..
theorem rowL_at {w : World} {L : KeyL} {es : Array (Int × Value)} (h : es.toList = rowL w L) {i : Nat} {p : Addr × NestedKey} (e : L[i]? = some p) : es[i]? = some (p.2.hash w, Value.ref p.1) := by
  rw [← Array.getElem?_toList, h]
  unfold rowL
  rw [List.getElem?_map, e]
  rfl
theorem fits_of {t : SetTable} {n : Nat} (h1 : t.place.size = n) (h2 : t.dummies = #[]) (h3 : n ≤ t.mask) : t.fits n = true := by
  unfold SetTable.fits SetTable.fill
  rw [h2, h1]
  simp [h3]
variable {a : Addr} {L : KeyL} {es : Array (Int × Value)} {ep : Nat} {t : SetTable}
theorem Bag.place (B : Bag P w s.heap a L es ep t) : t.place.size = es.size := by
  rw [B.tab.sz, rowL_len B.row]
  exact List.length_map ..
theorem Bag.fits (B : Bag P w s.heap a L es ep t) : t.fits es.size = true := by
  have h1 := rowL_len B.row
  have h2 := B.low
  exact fits_of B.place B.tab.dm (by omega)
/-- the probe's c-th stand for the hash h -/
abbrev stand (m : Nat) (h : Int) (c : Nat) : SetTable.Probe := nth m (runAt m (SetTable.bits h % (m + 1)) (SetTable.bits h)) c
theorem stand_j (m : Nat) (h : Int) (c : Nat) : (stand m h c).j = way m h c := rfl
theorem nth_dummy (m : Nat) : ∀ (n : Nat) (p : SetTable.Probe), p.dummy = none → (nth m p n).dummy = none
  | 0, _, h => h
  | n + 1, p, h => nth_dummy m n (adv m p) (by unfold adv; split <;> exact h)
/-- the search from the c-th stand; n: how far the first empty slot is -/
theorem bag_search (B : Bag P w s.heap a L es ep t) {x : Addr} {k : NestedKey} (hx : KeyIn P w s.heap k x) (hu : A.units + 8 < cLine) {n : Nat} (far : n < 10 * SetTable.turns t.mask) (gap : way t.mask (k.hash w) n ∉ t.place.toList)
    (full : ∀ c, c < n → way t.mask (k.hash w) c ∈ t.place.toList) {Q : SetFound → Shared → Prop} (there : k ∈ L.map (·.2) → Q (.there none) s) (free : k ∉ L.map (·.2) → Q (.free (way t.mask (k.hash w) n) false) s) :
    ∀ (f c : Nat) (st : Option SetTable.Probe), st.getD (t.probeStart (k.hash w)) = stand t.mask (k.hash w) c → c ≤ n → n - c < f →
      (∀ (i : Nat) p, L[i]? = some p → p.2 = k → ∃ c', c ≤ c' ∧ c' < n ∧ t.place.toList[i]? = some (way t.mask (k.hash w) c')) → wpAny (model P w) A (setSearchFrom a (.ref x) (k.hash w) true f st) Q E s := by
  intro f
  induction f with
  | zero => intro c st _ _ h _; exact absurd h (Nat.not_lt_zero _)
  | succ f ih =>
    intro c st hst hc hf ahead
    obtain ⟨o, ho, hex, hd⟩ := B.obj
    have odd := mask_odd B.tab.mok
    have shift : ∀ q, nth t.mask (stand t.mask (k.hash w) c) q = stand t.mask (k.hash w) (c + q) := fun q => (nth_add t.mask c _ q).symm
    have hAt : ∀ (i : Nat) p, L[i]? = some p → (es[i]?.map (·.1)).getD 0 = p.2.hash w := fun i p hp => by rw [rowL_at B.row hp]; rfl
    have spec := go_spec t B.tab.ris B.tab.dm (fun i => (es[i]?.map (·.1)).getD 0) (k.hash w) (10 * SetTable.turns t.mask) (n - c) (stand t.mask (k.hash w) c) (nth_dummy _ _ _ rfl) (by omega)
      (fun q hq => by rw [shift]; exact full (c + q) (by omega)) (by rw [shift, show c + (n - c) = n by omega]; exact gap)
    rw [setSearchFrom_succ]
    refine wpAny_bind (wpAny_setState_of ho hd B.fits ?_)
    dsimp only
    refine wp_if_neg (by unfold SetTable.gaveWay; rw [odd]; decide) ?_
    try refine wpAny_bind (wpAny_pure ?_)
    rw [hst]
    rcases spec with ⟨q, i, hq, hi, hh, before, pr⟩ | ⟨before, pr⟩
    · rw [show t.probe (fun i => (es[i]?.map (·.1)).getD 0) (k.hash w) (stand t.mask (k.hash w) c) = _ from pr]
      dsimp only
      have hil : i < L.length := by
        have h1 : i < t.place.toList.length := (List.getElem?_eq_some_iff.mp hi).1
        have h2 := B.place
        have h3 := rowL_len B.row
        rw [Array.length_toList] at h1
        omega
      obtain ⟨p, hp⟩ : ∃ p, L[i]? = some p := ⟨_, List.getElem?_eq_getElem hil⟩
      have hpm : p ∈ L := List.mem_of_getElem? hp
      rw [shift] at hi
      have live := slot_live B.tab.ris hi
      have go : wpAny (model P w) A (searchRest a (.ref x) (k.hash w) true f es t (nth t.mask (stand t.mask (k.hash w) c) q).j i (nth t.mask (stand t.mask (k.hash w) c) (q + 1))) Q E s := by
        unfold searchRest
        rw [rowL_at B.row hp]
        dsimp only
        refine wpAny_bind (wpAny_holding ((nestedKind P w).eqBool hu (B.key p hpm).1 hx.1 ?_))
        refine wpAny_bind (wpAny_setState_of ho hd B.fits ?_)
        dsimp only
        by_cases ek : p.2 = k
        · exact wp_if_pos (by simp [ek]) (wpAny_pure (there (List.mem_map.mpr ⟨p, hpm, ek⟩)))
        · refine wp_if_neg (by simp [ek]) ?_
          try refine wpAny_bind (wpAny_pure ?_)
          rw [sameMem]
          dsimp only
          rw [shift]
          simp only [if_true, stand_j]
          rw [stand_j] at live
          simp only [live, rowL_at B.row hp]
          refine wpAny_bind (wpAny_isSame_ref_self (wpAny_bind (wpAny_pure ?_)))
          simp only [if_true]
          refine wp_if_neg (by simp [ek]) ?_
          refine ih (c + (q + 1)) _ (shift (q + 1)) (by omega) (by omega) fun i0 p0 h0 e0 => ?_
          obtain ⟨c', b1, b2, b3⟩ := ahead i0 p0 h0 e0
          refine ⟨c', ?_, b2, b3⟩
          have n1 : ¬ c' < c + q := fun z => before (c' - c) i0 (by omega) (by rw [shift, show c + (c' - c) = c' by omega]; exact b3) ((hAt i0 p0 h0).trans (by rw [e0]))
          have n2 : c' ≠ c + q := fun z => by
            rw [z] at b3
            have l2 := slot_live B.tab.ris b3
            rw [live] at l2
            injection l2 with l2
            rw [← l2, hp] at h0
            cases h0
            exact ek e0
          omega
      by_cases hl : t.led = true
      · refine wp_if_neg (by simp [hl]) ?_
        try refine wpAny_bind (wpAny_pure ?_)
        exact go
      · refine wp_if_pos (by simp [hl]) (wpAny_bind (plain_unseen hx (fun y hy => ?_) (wp_if_neg (by decide) ?_)))
        · obtain ⟨e, he, rfl⟩ := List.mem_map.mp hy
          have he2 : e ∈ es.toList := by
            have : e ∈ es ∧ e.1 = k.hash w := by simpa using he
            simpa using this.1
          rw [B.row] at he2
          obtain ⟨p2, hp2, rfl⟩ := List.mem_map.mp he2
          exact ⟨p2.2, p2.1, rfl, B.key p2 hp2⟩
        · try refine wpAny_bind (wpAny_pure ?_)
          exact go
    · rw [show t.probe (fun i => (es[i]?.map (·.1)).getD 0) (k.hash w) (stand t.mask (k.hash w) c) = _ from pr]
      dsimp only
      rw [shift, show c + (n - c) = n by omega]
      refine wpAny_pure (free fun hm => ?_)
      obtain ⟨p0, hp0, e0⟩ := List.mem_map.mp hm
      obtain ⟨i0, h0⟩ := List.getElem?_of_mem hp0
      obtain ⟨c', b1, b2, b3⟩ := ahead i0 p0 h0 e0
      exact before (c' - c) i0 (by omega) (by rw [shift, show c + (c' - c) = c' by omega]; exact b3) ((hAt i0 p0 h0).trans (by rw [e0]))
theorem bag_find (B : Bag P w s.heap a L es ep t) {x : Addr} {k : NestedKey} (hx : KeyIn P w s.heap k x) (hu : A.units + 8 < cLine) {Q : SetFound → Shared → Prop} (there : k ∈ L.map (·.2) → Q (.there none) s)
    (free : ∀ n, k ∉ L.map (·.2) → way t.mask (k.hash w) n ∉ t.place.toList → (∀ c, c < n → way t.mask (k.hash w) c ∈ t.place.toList) → Q (.free (way t.mask (k.hash w) n) false) s) :
    wpAny (model P w) A (setSearch a (.ref x) (k.hash w) true) Q E s := by
  have low := B.low
  have len : (hashL w L).length = L.length := List.length_map ..
  obtain ⟨n, far, gap, full⟩ := B.tab.first (by rw [len]; omega) (k.hash w)
  have big : n < 100000 := by
    have : 10 * SetTable.turns t.mask ≤ 1420 := by
      unfold SetTable.turns
      rcases B.tab.mok with e | e | e <;> omega
    omega
  unfold setSearch
  refine bag_search B hx hu far gap full there (fun h => free n h gap full) 100000 0 none rfl (Nat.zero_le _) (by omega) fun i p hp e => ?_
  have hi : (hashL w L)[i]? = some (k.hash w) := by unfold hashL; rw [List.getElem?_map, hp, ← e]; rfl
  have hil : i < t.place.toList.length := by
    have h1 : i < L.length := (List.getElem?_eq_some_iff.mp hp).1
    have h2 := B.place
    have h3 := rowL_len B.row
    rw [Array.length_toList]
    omega
  obtain ⟨c, hc, e2⟩ := B.tab.before gap hi (List.getElem?_eq_getElem hil)
  exact ⟨c, Nat.zero_le _, hc, by rw [List.getElem?_eq_getElem hil, e2]⟩
/-! ### adding -/
theorem row_opt {w : World} {L : KeyL} {es : Array (Int × Value)} (h : es.toList = rowL w L) (i : Nat) : es[i]? = (L[i]?).map fun p => (p.2.hash w, Value.ref p.1) := by
  rw [← Array.getElem?_toList, h]
  unfold rowL
  rw [List.getElem?_map]
theorem range_pick {α : Type} (L : List α) : (List.range L.length).filterMap (fun i => L[i]?) = L := by
  have go : ∀ n, n ≤ L.length → (List.range n).filterMap (fun i => L[i]?) = L.take n := by
    intro n
    induction n with
    | zero => intro _; rfl
    | succ n ih =>
      intro hn
      rw [List.range_succ, List.filterMap_append, ih (by omega), List.take_add_one, List.getElem?_eq_getElem hn]
      simp [List.filterMap_cons, List.getElem?_eq_getElem hn]
  rw [go _ (Nat.le_refl _), List.take_length]
/-- the rows in another order -/
theorem rows_order {w : World} {L : KeyL} {es : Array (Int × Value)} (h : es.toList = rowL w L) {order : Array Nat} (hp : order.toList.Perm (List.range L.length)) : ∃ L2 : KeyL, L2.Perm L ∧ (order.filterMap (es[·]?)).toList = rowL w L2 ∧ (order.toList.map fun i => (es.map (·.1)).getD i 0) = hashL w L2 := by
  refine ⟨order.toList.filterMap fun i => L[i]?, ?_, ?_, ?_⟩
  · have := hp.filterMap fun i => L[i]?
    rw [range_pick] at this
    exact this
  · rw [Array.toList_filterMap]
    unfold rowL
    rw [List.map_filterMap]
    congr 1
    funext i
    exact row_opt h i
  · unfold hashL
    have inR : ∀ i ∈ order.toList, i < L.length := fun i hi => List.mem_range.mp (hp.mem_iff.mp hi)
    revert inR
    generalize order.toList = l
    intro inR
    induction l with
    | nil => rfl
    | cons i l ih =>
      have hi := inR i List.mem_cons_self
      have e1 : (es.map (·.1))[i]? = some (L[i].2.hash w) := by rw [Array.getElem?_map, row_opt h, List.getElem?_eq_getElem hi]; rfl
      rw [List.map_cons, ih fun j hj => inR j (List.mem_cons_of_mem _ hj), List.filterMap_cons_some (List.getElem?_eq_getElem hi), List.map_cons]
      congr 1
      simp [Array.getD_eq_getD_getElem?, e1]
theorem bag_keys {h h' : Heap} {b : Addr} {k : NestedKey} {o : Obj} (x : KeyIn P w h k b) (ho : h.get? a = some o) (hd : o.data = .set es ep t) (sb : Heap.SameBut a h h') : KeyIn P w h' k b :=
  x.at fun c u vs n hc hdc => (sb.2 c fun z => by
    subst z
    rw [ho] at hc
    cases hc
    rw [hd] at hdc
    cases hdc).trans hc
/-- the table laid anew -/
theorem bag_relay {o : Obj} (ho : s.heap.get? a = some o) (hex : o.ExactSet) (hd : o.data = .set es ep t) (row : es.toList = rowL w L) (pl : t.place.size = es.size) (dm : t.dummies = #[]) (fl : es.size ≤ t.mask) (key : ∀ p ∈ L, KeyIn P w s.heap p.2 p.1) (nod : (L.map (·.2)).Nodup)
    (pln : t.plain = true) (led : w.params.followText "set-order" = true ∨ t.led = true) (few : L.length < 64) {n M : Nat} (hM : SetTable.sizeAbove n - 1 = M) (mok : MaskOk M) (h128 : SetTable.sizeAbove n ≤ 128) (low : L.length * 5 < M * 3) {Q : Unit → Shared → Prop}
    (q : ∀ h' L' es' ep' t', Heap.SameBut a s.heap h' → Bag P w h' a L' es' ep' t' → L'.Perm L → Q () { s with heap := h' }) : wpAny (model P w) A (setRelay a n) Q E s := by
  have len := rowL_len row
  obtain ⟨t', order, e, perm, tab', m', l', p', d'⟩ := relaid_ok t (hs := es.map (·.1)) hM mok (by rw [Array.size_map]; omega)
  rw [Array.size_map, len] at perm
  obtain ⟨L2, pm, r2, h2⟩ := rows_order row perm
  rw [h2] at tab'
  have s2 : (order.filterMap (es[·]?)).size = es.size := by rw [rowL_len r2, pm.length_eq, len]
  rw [setRelay_eq]
  refine wpAny_bind (wpAny_setState_of ho hd (fits_of pl dm fl) ?_)
  dsimp only
  refine wp_if_neg (by rw [sizeLine_eq]; omega) ?_
  try refine wpAny_bind (wpAny_pure ?_)
  rw [e]
  dsimp only
  refine wpAny_bind (wp_if_neg (by rw [s2]; simp) ?_)
  try refine wpAny_bind (wpAny_pure ?_)
  refine wpAny_pure ?_
  dsimp only
  have big : (order.filterMap (es[·]?)).size ≤ sizeLine := by rw [s2, sizeLine_eq]; omega
  refine wpAny_storeSet_of ho hd ?_ big
  have sb : Heap.SameBut a s.heap (s.heap.update a (Obj.putSet (order.filterMap (es[·]?)) t')) := Heap.SameBut.update ..
  exact q _ L2 _ (ep + 1) t' sb ⟨⟨_, store_at ho hd, ⟨hex.1, hex.2.1, hex.2.2⟩, rfl⟩, r2, tab', fun p hp => bag_keys (key p (pm.mem_iff.mp hp)) ho hd sb, (pm.map (·.2)).nodup_iff.mpr nod, by rw [p']; exact pln, by rw [l']; exact led, by rw [pm.length_eq, m']; exact low, by rw [pm.length_eq]; exact few⟩ pm
/-- one more member -/
theorem bag_add (B : Bag P w s.heap a L es ep t) {x : Addr} {k : NestedKey} (hx : KeyIn P w s.heap k x) (hu : A.units + 8 < cLine) (few : L.length + 1 < 64) {Q : Bool → Shared → Prop}
    (q : ∀ b h' L' es' ep' t', Heap.SameBut a s.heap h' → Bag P w h' a L' es' ep' t' → (k ∈ L.map (·.2) → L' = L) → (k ∉ L.map (·.2) → L'.Perm ((x, k) :: L)) → Q b { s with heap := h' }) :
    wpAny (model P w) A (setAddHashed a (.ref x) (k.hash w)) Q E s := by
  obtain ⟨o, ho, hex, hd⟩ := B.obj
  have len := rowL_len B.row
  have low := B.low
  unfold setAddHashed
  refine wpAny_holding ?_
  rw [show (100000 : Nat) = 99999 + 1 from rfl, setAddHashedIn_succ]
  refine wpAny_bind (wpAny_setState_of ho hd B.fits ?_)
  dsimp only
  refine wp_if_neg (by simp [byScan, Value.scannable]) ?_
  try refine wpAny_bind (wpAny_pure ?_)
  refine wpAny_bind (bag_find B hx hu (fun hm => ?_) fun n hm gap full => ?_)
  · exact wpAny_pure (q false s.heap L es ep t (Heap.SameBut.refl a s.heap) B (fun _ => rfl) fun z => absurd hm z)
  · dsimp only
    refine wpAny_bind (wpAny_setState_of ho hd B.fits ?_)
    dsimp only
    obtain ⟨q1, q2, q3, q4, q5, q6, _, _, q9⟩ := B.tab.put gap full
    have lenh : (hashL w L).length = L.length := List.length_map ..
    rw [lenh] at q2 q9
    generalize hpt : t.put (way t.mask (k.hash w) n) = pt at q1 q3 q4 q5 q6 q9 ⊢
    obtain ⟨t1, j⟩ := pt
    dsimp only at q1 q3 q4 q5 q6 q9 ⊢
    have pl1 : t1.plain = true := by rw [q6]; exact B.pln
    have hash1 : ∀ {Q' : Bool → Shared → Prop}, Q' true s → wpAny (model P w) A (hashByValue 8 (.ref x)) Q' E s := fun {Q'} h => plain_hash 8 k _ _ hx.1.1 hx.2 hx.1.2 h
    first
      | (refine wpAny_bind ?_; refine wp_if_pos pl1 (hash1 ?_))
      | refine wp_if_pos pl1 (wpAny_bind (hash1 ?_))
    simp only [if_true]
    rw [← q1] at q2 q3
    have perm := put_perm L j (x, k)
    have rows : (SetTable.insertAt es j (k.hash w, Value.ref x)).toList = rowL w (L.take j ++ (x, k) :: L.drop j) := by
      rw [SetTable.toList_insertAt, B.row]
      unfold rowL
      rw [List.map_append, List.map_cons, List.map_take, List.map_drop]
    have hash2 : hashL w (L.take j ++ (x, k) :: L.drop j) = (hashL w L).take j ++ k.hash w :: (hashL w L).drop j := by
      unfold hashL
      rw [List.map_append, List.map_cons, List.map_take, List.map_drop]
    rw [← hash2] at q3
    have nod1 : ((L.take j ++ (x, k) :: L.drop j).map (·.2)).Nodup := (perm.map (·.2)).nodup_iff.mpr (by rw [List.map_cons]; exact List.nodup_cons.mpr ⟨hm, B.nod⟩)
    have len1 : (L.take j ++ (x, k) :: L.drop j).length = L.length + 1 := perm.length_eq
    generalize SetTable.insertAt es j (k.hash w, Value.ref x) = es1 at rows ⊢
    generalize L.take j ++ (x, k) :: L.drop j = L1 at perm rows hash2 q3 nod1 len1
    have size1 : es1.size = L.length + 1 := (rowL_len rows).trans len1
    refine wpAny_bind (wpAny_storeSet_of ho hd ?_ (by rw [size1, sizeLine_eq]; omega))
    have sb : Heap.SameBut a s.heap (s.heap.update a (Obj.putSet es1 t1)) := Heap.SameBut.update ..
    have ho1 := store_at (es' := es1) (t' := t1) ho hd
    generalize s.heap.update a (Obj.putSet es1 t1) = h1 at sb ho1 ⊢
    have key1 : ∀ p ∈ L1, KeyIn P w h1 p.2 p.1 := fun p hp => by
      rcases List.mem_cons.mp (perm.mem_iff.mp hp) with rfl | hp
      · exact bag_keys hx ho hd sb
      · exact bag_keys (B.key p hp) ho hd sb
    have led1 : w.params.followText "set-order" = true ∨ t1.led = true := by rw [q5]; exact B.led
    have place1 : t1.place.size = es1.size := by
      have := q3.sz
      rw [this, size1, ← len1]
      exact List.length_map ..
    by_cases tf : t1.tooFull = true
    · have brim : (L.length + 1) * 5 ≥ t1.mask * 3 := by
        have h := tf
        unfold SetTable.tooFull at h
        rw [decide_eq_true_eq, q9] at h
        exact h
      have two : (t.mask = 7 ∧ L.length = 4) ∨ (t.mask = 31 ∧ L.length = 18) := by
        rw [q4] at brim
        rcases B.tab.mok with e | e | e <;> rw [e] at brim low
        · exact .inl ⟨e, by omega⟩
        · exact .inr ⟨e, by omega⟩
        · omega
      have grow : ∀ M, SetTable.sizeAbove (SetTable.grown (L.length + 1)) - 1 = M → MaskOk M → SetTable.sizeAbove (SetTable.grown (L.length + 1)) ≤ 128 → (L.length + 1) * 5 < M * 3 →
          wpAny (model P w) A (setRelay a (SetTable.grown (L.length + 1))) (fun _ s' => wpAny (model P w) A (pure true) Q E s') E { s with heap := h1 } := fun M g1 g2 g3 g4 =>
        bag_relay (s := { s with heap := h1 }) ho1 ⟨hex.1, hex.2.1, hex.2.2⟩ rfl rows place1 q3.dm (by rw [size1, q4]; rcases two with ⟨e, e2⟩ | ⟨e, e2⟩ <;> omega) key1 nod1 pl1 led1 (by omega) g1 g2 g3 (by rw [len1]; exact g4)
          fun h2 L2 es2 ep2 t2 sb2 B2 pm2 => wpAny_pure (q true h2 L2 es2 ep2 t2 (sb.trans sb2) B2 (fun z => absurd z hm) fun _ => pm2.trans perm)
      rw [len]
      first
        | (refine wpAny_bind ?_; refine wp_if_pos (by simp [tf]) ?_)
        | (refine wp_if_pos (by simp [tf]) ?_; refine wpAny_bind ?_)
      rcases two with ⟨_, e2⟩ | ⟨_, e2⟩
      · exact grow 31 (by rw [e2, size_20]) (.inr (.inl rfl)) (by rw [e2, size_20]; decide) (by omega)
      · exact grow 127 (by rw [e2, size_76]) (.inr (.inr rfl)) (by rw [e2, size_76]; decide) (by omega)
    · have low1 : L1.length * 5 < t1.mask * 3 := by
        have h := tf
        unfold SetTable.tooFull at h
        rw [decide_eq_true_eq, q9] at h
        omega
      first
        | refine wp_if_neg (by simp [tf]) ?_
        | (refine wpAny_bind ?_; refine wp_if_neg (by simp [tf]) ?_; refine wpAny_pure ?_)
      exact wpAny_pure (q true h1 L1 es1 (ep + 1) t1 sb ⟨⟨_, ho1, ⟨hex.1, hex.2.1, hex.2.2⟩, rfl⟩, rows, q3, key1, nod1, pl1, led1, low1, by omega⟩ (fun z => absurd z hm) fun _ => perm)
/-! ### set(list) -/
/-- what the first i of ks leave in the set -/
def Took (ks : KeyL) (i : Nat) (L : KeyL) : Prop := (∀ p ∈ L, p ∈ ks.take i) ∧ (∀ p ∈ ks.take i, p.2 ∈ L.map (·.2)) ∧ L.length ≤ i
theorem took_next {ks L L' : KeyL} {i : Nat} {x : Addr × NestedKey} (g : Took ks i L) (hx : ks[i]? = some x) (h1 : x.2 ∈ L.map (·.2) → L' = L) (h2 : x.2 ∉ L.map (·.2) → L'.Perm (x :: L)) : Took ks (i + 1) L' := by
  obtain ⟨a, b, c⟩ := g
  have e : ks.take (i + 1) = ks.take i ++ [x] := by rw [List.take_add_one, hx]; rfl
  by_cases h : x.2 ∈ L.map (·.2)
  · rw [h1 h]
    refine ⟨fun p hp => by rw [e]; exact List.mem_append_left _ (a p hp), fun p hp => ?_, by omega⟩
    rw [e] at hp
    rcases List.mem_append.mp hp with hp | hp
    · exact b p hp
    · rw [List.mem_singleton.mp hp]; exact h
  · have pm := h2 h
    refine ⟨fun p hp => ?_, fun p hp => ?_, by rw [pm.length_eq, List.length_cons]; omega⟩
    · rw [e]
      rcases List.mem_cons.mp (pm.mem_iff.mp hp) with rfl | hp
      · exact List.mem_append_right _ (List.mem_singleton.mpr rfl)
      · exact List.mem_append_left _ (a p hp)
    · rw [(pm.map (·.2)).mem_iff, List.map_cons]
      rw [e] at hp
      rcases List.mem_append.mp hp with hp | hp
      · exact List.mem_cons_of_mem _ (b p hp)
      · rw [List.mem_singleton.mp hp]; exact List.mem_cons_self
theorem Bag.move {h h' : Heap} {a : Addr} {L : KeyL} {es : Array (Int × Value)} {ep : Nat} {t : SetTable} (B : Bag P w h a L es ep t) (ha : ∀ o, h.get? a = some o → h'.get? a = some o) (hk : ∀ p ∈ L, KeyIn P w h' p.2 p.1) : Bag P w h' a L es ep t := by
  obtain ⟨o, e, r⟩ := B.obj
  exact ⟨⟨o, ha o e, r⟩, B.row, B.tab, hk, B.nod, B.pln, B.led, B.low, B.few⟩
def set0 (w : World) : Obj := { cls := .type "set", dict := none, data := .set #[] 0 (.fresh 0 0 (!w.params.followText "set-order")) }
theorem bag_fresh {h : Heap} (ho : h.get? a = some (set0 w)) : Bag P w h a [] #[] 0 (.fresh 0 0 (!w.params.followText "set-order")) := by
  refine ⟨⟨_, ho, ⟨rfl, rfl, rfl⟩, rfl⟩, rfl, ⟨List.Pairwise.nil, rfl, rfl, .inl rfl, fun x hx => (nomatch hx), fun i h j hi => by simp [hashL] at hi⟩, fun p hp => (nomatch hp), List.nodup_nil, rfl, ?_, by show 0 * 5 < 7 * 3; decide, by show 0 < 64; decide⟩
  show _ ∨ (!w.params.followText "set-order") = true
  cases w.params.followText "set-order"
  · exact .inr rfl
  · exact .inl rfl
/-- the loop of set.update over ks -/
theorem bag_loop {I : Addr} {fp wr : List Addr} {G : Array GenState → Array GenState → Prop} {n : Nat} {Pv : Nat → Value → Prop} {St : Nat → Shared → Prop} {R : Result → Shared → Prop} (W : WalksS P w A.in1 I fp wr G n Pv St) (S : Addr) (out : S ∉ fp)
    {ks : KeyL} (hn : n = ks.length) (few : ks.length < 64) (val : ∀ i v, Pv i v → ∃ p, ks[i]? = some p ∧ v = .ref p.1) {h0 : Heap} (keys : ∀ p ∈ ks, KeyIn P w h0 p.2 p.1) (new : h0.get? S = none) (newW : ∀ b ∈ wr, h0.get? b = none) (hu : A.in1.units + 8 < cLine) :
    ∀ (m i : Nat) (s : Shared), n - i = m → i ≤ n → St i s → (∀ b o, h0.get? b = some o → s.heap.get? b = some o) → (∃ L es ep t, Bag P w s.heap S L es ep t ∧ Took ks i L) →
      (∀ s' L es ep t, Moved (S :: wr) G s s' → Bag P w s'.heap S L es ep t → Took ks n L → (∀ b o, h0.get? b = some o → s'.heap.get? b = some o) → R (.ok (.ret .none)) s') →
      codeAny (model P w) A (.builtin "set.update.loop" ⟨[.ref S, .ref I], []⟩) R s := by
  have outW : S ∉ wr := fun h => out (W.sub _ h)
  have old : ∀ {s s' : Shared}, Moved wr G s s' → (∀ b o, h0.get? b = some o → s.heap.get? b = some o) → ∀ b o, h0.get? b = some o → s'.heap.get? b = some o := fun mv k b o e => mv.heap b o (fun hb => by rw [newW b hb] at e; cases e) (k b o e)
  have keyAt : ∀ {h : Heap}, (∀ b o, h0.get? b = some o → h.get? b = some o) → ∀ p ∈ ks, KeyIn P w h p.2 p.1 := fun k p hp => (keys p hp).at fun b o _ _ e _ => k b o e
  intro m
  induction m with
  | zero =>
    rintro i s hm hi st k ⟨L, es, ep, t, B, g⟩ done
    obtain rfl : i = n := by omega
    refine codeAny_builtin F.entry_set_update_loop ?_
    rw [Around.under_plainId F.plain_set_update_loop _]
    show wpAny _ A.in1 (pyNext (.ref I) >>= _) _ _ s
    refine wpAny_bind (W.done s _ _ st fun s' mv => ?_)
    have k' := old mv k
    exact wpAny_pure (done s' L es ep t (mv.mono fun b hb => List.mem_cons_of_mem _ hb) (B.move (fun o e => mv.heap S o outW e) fun p hp => keyAt k' p (List.mem_of_mem_take (g.1 p hp))) g k')
  | succ m ih =>
    rintro i s hm hi st k ⟨L, es, ep, t, B, g⟩ done
    refine codeAny_builtin F.entry_set_update_loop ?_
    rw [Around.under_plainId F.plain_set_update_loop _]
    show wpAny _ A.in1 (pyNext (.ref I) >>= _) _ _ s
    refine wpAny_bind (W.item i s _ _ (by omega) st fun v s1 pv st1 mv => ?_)
    obtain ⟨p, hp, rfl⟩ := val i v pv
    have k1 := old mv k
    have hx := keyAt k1 p (List.mem_of_getElem? hp)
    have B1 : Bag P w s1.heap S L es ep t := B.move (fun o e => mv.heap S o outW e) fun q hq => keyAt k1 q (List.mem_of_mem_take (g.1 q hq))
    show wpAny _ A.in1 (holding [Value.ref p.1] (setAdd S (.ref p.1)) >>= _) _ _ s1
    refine wpAny_bind (wpAny_holding ?_)
    unfold setAdd
    refine wpAny_holding (wpAny_bind ((nestedKind P w).pyHash hu hx.1 ?_))
    refine bag_add (s := { s1 with toks := s1.toks + (nestedKind P w).draws p.2 }) B1 hx hu (by have := g.2.2; omega) fun b h' L' es' ep' t' sb B2 c1 c2 => ?_
    have k2 : ∀ b o, h0.get? b = some o → h'.get? b = some o := fun b o e => (sb.2 b fun z => by rw [z, new] at e; cases e).trans (k1 b o e)
    refine wpAny_pure ⟨plainId_quiet F.plain_set_update_loop _, ih (i + 1) _ (by omega) (by omega) (W.frame _ s1 _ _ st1 (Nat.le_add_right _ _) fun b hb o e => ?_) k2 ⟨L', es', ep', t', B2, took_next g hp c1 c2⟩ fun s2 L2 es2 ep2 t2 mv2 B3 g3 k3 => ?_⟩
    · rw [sb.2 b fun z => out (by rw [← z]; exact hb)]
      exact e
    · refine done s2 L2 es2 ep2 t2 (Moved.trans W.gtrans ((mv.mono fun b hb => List.mem_cons_of_mem _ hb).then_heap (Nat.le_add_right _ _) fun b o hb e => ?_) mv2) B3 g3 k3
      rw [sb.2 b fun z => hb (by rw [z]; exact List.mem_cons_self)]
      exact e
end
end Z
set_option Elab.async false
set_option linter.all false
set_option maxRecDepth 100000
set_option maxHeartbeats 4000000
/-! ZS2: the call set(list), sorted(set) over the layer. -/
namespace Z
open PySem PySem.Spec L2
open PyProof.Rows hiding St
section
variable {P : Program} {w : World} {A : Around} {E : Value → Shared → Prop} {s : Shared}
theorem bag_call {l : Addr} {items : Array Value} {ks : KeyL} (hh : A.handled = none) (hu : A.units + 20 < cLine) (few : ks.length < 64) (hl : s.heap.IsList l items) (hit : items.toList = ks.map fun p => Value.ref p.1) (keys : ∀ p ∈ ks, KeyIn P w s.heap p.2 p.1)
    {Q : Value → Shared → Prop} (q : ∀ (h' : Heap) (tk : Nat) L es ep t, Bag P w h' s.heap.objs.size L es ep t → Took ks ks.length L → (∀ b o, s.heap.get? b = some o → h'.get? b = some o) → Q (.ref s.heap.objs.size) { s with heap := h', toks := tk }) :
    wpAny (model P w) A (call (.type "set") [.ref l]) Q E s := by
  have hn : items.size = ks.length := by rw [← Array.length_toList, hit]; exact List.length_map ..
  have lS : l < s.heap.objs.size := let ⟨_, e, _⟩ := hl; Heap.lt_size e
  have gone : ∀ b, s.heap.objs.size ≤ b → s.heap.get? b = none := fun b hb => by
    cases e : s.heap.get? b with
    | none => rfl
    | some o => exact absurd (Heap.lt_size e) (Nat.not_lt.mpr hb)
  have hS : (s.heap.push (set0 w)).get? s.heap.objs.size = some (set0 w) := Heap.get?_push_size _ rfl
  have hl1 : (s.heap.push (set0 w)).IsList l items := let ⟨o, e, r⟩ := hl; ⟨o, Heap.get?_push_of_some _ e, r⟩
  obtain ⟨c, tl, hmro⟩ := F.called_set.mro
  have hmade := F.called_set.made
  have hsub := F.called_set.sub
  have h1 := F.called_set.notType
  have h2 := F.called_set.canCreate
  have hct := F.typeCall_set_1 (.ref l)
  refine wpAny_call (codeAny_of_tree ?_)
  show wpAny _ _ (callAny (.type "set") _) _ _ _
  refine wpAny_pure ⟨Code.quiet_builtin _ (by decide +kernel), codeAny_builtin F.entry_type_call ?_⟩
  rw [Around.under_plain (weight_type_call_type "set" [.ref l] []) rfl]
  repeat (any_goals (first | assumption | wp_step))
  refine codeAny_mono (code_set_led1 (.ref l) (E := E) (Q₁ := fun x s₁ => x = .ref s.heap.objs.size ∧ s₁ = { s with heap := s.heap.push (set0 w) }) ⟨rfl, rfl⟩) fun r s₁ hr => ?_
  match r, hr with
  | .error e, hr => exact hr
  | .ok (.ret x), hr =>
    obtain ⟨rfl, rfl⟩ := hr
    have hT : Shared.TypeIs { s with heap := s.heap.push (set0 w) } (.ref s.heap.objs.size) "set" := ⟨_, hS, rfl⟩
    have hli := F.called_set.init.lookup
    have hbi := F.called_set.init.bind (.ref s.heap.objs.size)
    repeat (any_goals (first | assumption | wp_step))
    refine codeAny_mono (codeAny_call_builtin (R := wants (fun r s₂ => r = .none ∧ ∃ h' tk L es ep t, s₂ = { s with heap := h', toks := tk } ∧ Bag P w h' s.heap.objs.size L es ep t ∧ Took ks ks.length L ∧ (∀ b o, s.heap.get? b = some o → h'.get? b = some o)) E)
      F.called_set.init.plain F.entry_set_init (check_set_init_1 hT ?_)) fun r₂ s₂ hr₂ => ?_
    · obtain ⟨⟨ocls, odict, odata, oslots⟩, e1, ec, nl, ed⟩ := hl1
      simp only at ec ed
      subst ec ed
      have hsls := F.sub_list_set
      have hslf := F.sub_list_frozenset
      have hne : (Value.type "list" == Value.type "dict") = false := by decide
      have hl2 : (s.heap.push (set0 w)).IsList l items := ⟨_, e1, rfl, nl, rfl⟩
      unfold Builtin.«set.__init__» noKeywords Builtin.Frozenset.updateFrom
      generalize hPI : pyIter = PI
      wp_walk
      subst hPI
      refine wpAny_pyIter_list hl2 (wpAny_bind (wpAny_runValue ?_))
      have hz : (s.heap.push (set0 w)).objs.size = s.heap.objs.size + 1 := Heap.size_push ..
      have hh3 : A.in1.in1.in1.handled = none := by simp [hh]
      refine bag_loop ((Walks.list hh3 _ l (by rw [hz]; exact Nat.ne_of_lt (Nat.lt_succ_of_lt lS)) items).toS) s.heap.objs.size (by rw [hz]; simp only [List.mem_cons, List.not_mem_nil, or_false, not_or]; exact ⟨Nat.ne_of_lt (Nat.lt_succ_self _), Nat.ne_of_gt lS⟩) hn few (fun i v hv => ?_) keys (gone _ (Nat.le_refl _))
        (fun b hb => gone b (by rw [List.mem_singleton.mp hb, hz]; omega)) ?_ (items.size - 0) 0 _ (by omega) (Nat.zero_le _) ⟨⟨_, Heap.get?_push_size _ rfl, rfl, rfl⟩, hl2.push _⟩ (fun b o e => Heap.get?_push_of_some _ (Heap.get?_push_of_some _ e)) ⟨[], #[], 0, _, bag_fresh (Heap.get?_push_of_some _ hS), ⟨fun p hp => (nomatch hp), fun p hp => by simp at hp, Nat.le_refl _⟩⟩ ?_
      · have e : items.toList[i]? = some v := by rw [Array.getElem?_toList]; exact hv
        rw [hit, List.getElem?_map] at e
        obtain ⟨p, hp, rfl⟩ := Option.map_eq_some_iff.mp e
        exact ⟨p, hp, rfl⟩
      · show A.units + 1 + 1 + 1 + 8 < cLine
        omega
      · rintro ⟨h', g', d', tk', os'⟩ L es ep t mv B g k
        obtain rfl : g' = s.gens := mv.gens
        obtain rfl : d' = s.drawn := mv.drawn
        obtain rfl : os' = s.os := mv.os
        show wpAny _ _ _ _ _ _
        refine wpAny_pure ?_
        show wpAny _ _ (ret Value.none) _ _ _
        rw [hn] at g
        exact wpAny_pure ⟨rfl, h', tk', L, es, ep, t, rfl, B, g, k⟩
    · match r₂, hr₂ with
      | .error e, hr₂ => exact hr₂
      | .ok (.ret x), hr₂ =>
        obtain ⟨rfl, h', tk, L, es, ep, t, rfl, B, g, k⟩ := hr₂
        repeat (any_goals (first | assumption | wp_step))
        exact q _ _ _ _ _ _ B g k
end
end Z
set_option Elab.async false
set_option linter.all false
set_option maxRecDepth 100000
set_option maxHeartbeats 2000000
/-! ZS3: set(list of bodies), sorted(set) over the layer. -/
namespace Z
open PySem PySem.Spec L2
open PyProof.Rows hiding St
/-- at a: a set with the rows L (their keys are told elsewhere) -/
def BagX (P : Program) (w : World) (a : Addr) (L : KeyL) (h : Heap) : Prop := ∃ es ep t, (∃ o, h.get? a = some o ∧ o.ExactSet ∧ o.data = .set es ep t) ∧ es.toList = rowL w L ∧ TabOk t (hashL w L) ∧ (L.map (·.2)).Nodup ∧ t.plain = true ∧
  (w.params.followText "set-order" = true ∨ t.led = true) ∧ L.length * 5 < t.mask * 3 ∧ L.length < 64
def bagO (P : Program) (w : World) (a : Addr) (L : KeyL) : HO := .ext (BagX P w a L)
theorem bagO_ok {P : Program} {w : World} {H' : Hp} {h : Heap} {a : Addr} {L : KeyL} (x : BagX P w a L h) : ObjOk P w H' h a (bagO P w a L) := by
  obtain ⟨es, ep, t, ⟨o, ho, r⟩, rest⟩ := id x
  refine ⟨x, ⟨o, ho⟩, fun h1 h2 p k => ?_⟩
  obtain ⟨es, ep, t, ⟨o, ho, r⟩, rest⟩ := p
  exact ⟨es, ep, t, ⟨o, k o ho, r⟩, rest⟩
theorem plain_cells (b : Body) : plainK (nk (bodyD b)) = true := by
  show plainAll (nkAll (b.map cellD)) = true
  rw [nkAll_cells]
  induction b with
  | nil => rfl
  | cons x xs ih =>
    rw [List.map_cons]
    simp only [plainAll, plainK, Bool.and_true, Bool.true_and]
    exact ih
abbrev RowB := (Addr × NestedKey) × Body
def SetAtB (P : Program) (w : World) (K : PySem.W.Frag) (H : Hp) (a : Addr) (bs : List Body) : Prop := ∃ Z : List RowB, H a = some (bagO P w a (Z.map (·.1))) ∧ (∀ z ∈ Z, z.1.2 = nk (bodyD z.2) ∧ Dp K H (.ref z.1.1) (bodyD z.2)) ∧ bs = Z.map (·.2)
theorem SetAtB.same {P : Program} {w : World} {K : PySem.W.Frag} {H H' : Hp} {a : Addr} {bs : List Body} (h : SetAtB P w K H a bs) (s : Same H H') : SetAtB P w K H' a bs := by
  obtain ⟨Z, e, k, r⟩ := h
  exact ⟨Z, s _ _ e, fun z hz => ⟨(k z hz).1, Dp.same s (k z hz).2⟩, r⟩
theorem perm_map_inv {α β : Type} {f : α → β} {m vs : List β} (h : m.Perm vs) : ∀ L : List α, m = L.map f → ∃ L', L.Perm L' ∧ vs = L'.map f := by
  induction h with
  | nil => intro L e; exact ⟨L, .refl _, e⟩
  | @cons x l1 l2 _ ih =>
    intro L e
    cases L with
    | nil => cases e
    | cons y L =>
      rw [List.map_cons] at e
      injection e with e1 e2
      obtain ⟨L', p, q⟩ := ih L e2
      exact ⟨y :: L', p.cons y, by rw [List.map_cons, ← q, e1]⟩
  | swap x y l =>
    intro L e
    cases L with
    | nil => cases e
    | cons u L =>
      cases L with
      | nil => cases e
      | cons v L =>
        rw [List.map_cons, List.map_cons] at e
        injection e with e1 e2
        injection e2 with e2 e3
        exact ⟨v :: u :: L, .swap v u L, by rw [List.map_cons, List.map_cons, ← e1, ← e2, ← e3]⟩
  | trans _ _ ih1 ih2 =>
    intro L e
    obtain ⟨L1, p1, e1⟩ := ih1 L e
    obtain ⟨L2, p2, e2⟩ := ih2 L1 e1
    exact ⟨L2, p1.trans p2, e2⟩
section
variable {X : Cx}
/-- the members' keys in the heap -/
theorem key_in {pins : List (Addr × Obj)} {σ : St} {H : Hp} {s : Shared} {a : Addr} {b : Body} (I : Inv X pins σ H s) (h : Dp X.K H (.ref a) (bodyD b)) : KeyIn X.prog X.w s.heap (nk (bodyD b)) a :=
  ⟨KeyAt.is I ⟨_, h, body_flat b, rfl, bodyK.dep b⟩, plain_cells b⟩
def rSetB (P : Program) (w : World) (K : PySem.W.Frag) : List V → Hp → VK → Prop := fun vs H Q => ∃ (l : Addr) (bs : List Body), vs = [V.ref l] ∧ Dp K H (.ref l) (.list (bs.map bodyD)) ∧ bs.length < 64 ∧
  ∀ p o bs', H p = none → SetAtB P w K (upd H p o) p bs' → (∀ b, b ∈ bs' ↔ b ∈ bs) → Q (.ref p) (upd H p o)
theorem cr_setB (hc : X.calm = true) (hu : X.A.units + 64 < cLine) : CallR X (.type "set") (rSetB X.prog X.w X.K) := by
  intro pins s σ H vs us Q I r h
  obtain ⟨l, bs, rfl, hd, few, q⟩ := h
  obtain ⟨u, rfl, ru⟩ := vals1 r
  obtain rfl : u = Value.ref l := ru
  cases hd with
  | @lst _ xs _ hs ha =>
    obtain ⟨its, rv, hl, hz⟩ := I.list hs
    -- the rows of the list
    have rows : ∀ {xs : List V} {its : List Value} {bs : List Body}, Vals xs its → DpAll X.K H xs (bs.map bodyD) → ∃ Z : List RowB, its = Z.map (fun z => Value.ref z.1.1) ∧ bs = Z.map (·.2) ∧ ∀ z ∈ Z, z.1.2 = nk (bodyD z.2) ∧ Dp X.K H (.ref z.1.1) (bodyD z.2) := by
      intro xs its bs
      induction bs generalizing xs its with
      | nil => intro rv ha; cases ha; cases rv; exact ⟨[], rfl, rfl, fun z hz => nomatch hz⟩
      | cons b bs ih =>
        intro rv ha
        cases ha with
        | cons h1 h2 =>
          cases rv with
          | cons r1 r2 =>
            obtain ⟨c, rfl, _⟩ := key_of_dp bodyK h1
            obtain ⟨Z, e1, e2, k⟩ := ih r2 h2
            obtain rfl : _ = Value.ref c := r1
            refine ⟨((c, nk (bodyD b)), b) :: Z, by rw [List.map_cons, ← e1], by rw [List.map_cons, ← e2], fun z hz => ?_⟩
            rcases List.mem_cons.mp hz with rfl | hz
            · exact ⟨rfl, h1⟩
            · exact k z hz
    obtain ⟨Z, e1, e2, kz⟩ := rows rv ha
    have hlist := hl.isList
    refine bag_call (ks := Z.map (·.1)) (I.ok.hd hc) (by omega) (by rw [List.length_map]; rw [e2, List.length_map] at few; exact few) hlist (by rw [List.map_map]; exact e1) (fun p hp => ?_) fun h' tk L es ep t B g k => ?_
    · obtain ⟨z, hz, rfl⟩ := List.mem_map.mp hp
      rw [(kz z hz).1]
      exact key_in I (kz z hz).2
    · have hn : H s.heap.objs.size = none := I.hok.fresh (Nat.le_refl _)
      -- the set's rows with their bodies
      have back : ∀ L : KeyL, (∀ p ∈ L, p ∈ Z.map (·.1)) → ∃ Z2 : List RowB, L = Z2.map (·.1) ∧ ∀ z ∈ Z2, z ∈ Z := by
        intro L
        induction L with
        | nil => intro _; exact ⟨[], rfl, fun z hz => nomatch hz⟩
        | cons p L ih =>
          intro hL
          obtain ⟨z, hz, rfl⟩ := List.mem_map.mp (hL p List.mem_cons_self)
          obtain ⟨Z2, e, k2⟩ := ih fun p hp => hL p (List.mem_cons_of_mem _ hp)
          refine ⟨z :: Z2, by rw [List.map_cons, ← e], fun y hy => ?_⟩
          rcases List.mem_cons.mp hy with rfl | hy
          · exact hz
          · exact k2 y hy
      obtain ⟨Z2, eL, k2⟩ := back L fun p hp => List.mem_of_mem_take (g.1 p hp)
      have s1 : Same H (upd H s.heap.objs.size (bagO X.prog X.w s.heap.objs.size L)) := Same.new hn
      refine ⟨.ref s.heap.objs.size, _, I.laid (t' := tk) k (Nat.le_refl _) (bagO_ok ⟨es, ep, t, B.obj, B.row, B.tab, B.nod, B.pln, B.led, B.low, B.few⟩), rfl, q _ _ (Z2.map (·.2)) hn ⟨Z2, by rw [upd_same, eL], fun z hz => ⟨(kz z (k2 z hz)).1, Dp.same s1 (kz z (k2 z hz)).2⟩, rfl⟩ fun b => ⟨fun hb => ?_, fun hb => ?_⟩⟩
      · obtain ⟨z, hz, rfl⟩ := List.mem_map.mp hb
        rw [e2]
        exact List.mem_map.mpr ⟨z, k2 z hz, rfl⟩
      · rw [e2] at hb
        obtain ⟨z, hz, rfl⟩ := List.mem_map.mp hb
        have hm : z.1.2 ∈ L.map (·.2) := g.2.1 z.1 (by
          rw [List.take_length]
          exact List.mem_map.mpr ⟨z, hz, rfl⟩)
        rw [eL, List.map_map] at hm
        obtain ⟨y, hy, ey⟩ := List.mem_map.mp hm
        have e3 : nk (bodyD y.2) = nk (bodyD z.2) := by rw [← (kz y (k2 y hy)).1, ← (kz z hz).1]; exact ey
        exact List.mem_map.mpr ⟨y, hy, bodyK.inj _ _ e3⟩
/-- sorted(set of bodies) -/
def rSortedB (P : Program) (w : World) (K : PySem.W.Frag) : List V → Hp → VK → Prop := fun vs H Q => ∃ (a : Addr) (bs : List Body), vs = [V.ref a] ∧ SetAtB P w K H a bs ∧ (∀ b ∈ bs, b ≠ []) ∧
  ∀ (p : Addr) (ys : List V) (zs : List Body), H p = none → DpAll K H ys (zs.map bodyD) → (∀ b, b ∈ zs ↔ b ∈ bs) → Q (.ref p) (upd H p (.lst ys))
theorem cr_sortedB (hc : X.calm = true) (hu : X.A.units + 64 < cLine) : CallR X (.builtin "sorted") (rSortedB X.prog X.w X.K) := by
  intro pins s σ H vs us Q I r h
  obtain ⟨a, bs, rfl, ⟨Z, ha, kz, rfl⟩, ne, q⟩ := h
  obtain ⟨u, rfl, ru⟩ := vals1 r
  obtain rfl : u = Value.ref a := ru
  obtain ⟨es, ep, t, ⟨o, ho, hex, hd⟩, row, tab, nod, pln, led, low, few⟩ := (show ObjOk X.prog X.w H s.heap a (bagO X.prog X.w a (Z.map (·.1))) from I.hok a _ ha).1
  have len := rowL_len row
  have pl : t.place.size = es.size := by
    rw [tab.sz, len]
    exact List.length_map ..
  have vals : es.toList.map (·.2) = Z.map fun z => Value.ref z.1.1 := by
    rw [row]
    unfold rowL
    rw [List.map_map, List.map_map]
    rfl
  refine sorted_via I hu (Pv := fun vs => (Z.map fun z => Value.ref z.1.1).Perm vs) (fun R hR => ?_) fun vs hv => ?_
  · refine collect_set (A := X.A.in1) (I.ok.hd hc) ⟨o, ho, hex.1, hd⟩ (fits_of pl tab.dm (by omega)) (by unfold scanBound; omega) tab.ris led fun s1 out k1 z1 g1 o1 pm => hR s1 out k1 g1 o1 ?_
    rw [← vals]
    exact pm.symm
  · obtain ⟨Z', pz, rfl⟩ := perm_map_inv hv Z rfl
    have kz' : ∀ z ∈ Z', Dp X.K H (.ref z.1.1) (bodyD z.2) := fun z hz => (kz z (pz.mem_iff.mpr hz)).2
    have ne' : ∀ b ∈ Z'.map (·.2), b ≠ [] := fun b hb => by
      obtain ⟨z, hz, rfl⟩ := List.mem_map.mp hb
      exact ne _ (List.mem_map.mpr ⟨z, pz.mem_iff.mpr hz, rfl⟩)
    obtain ⟨a1, a2, a3⟩ := bodies_ok ne'
    have each : ∀ W : List RowB, (∀ z ∈ W, Dp X.K H (.ref z.1.1) (bodyD z.2)) → PySem.W.EachIs (Std X.K H) (W.map fun z => Value.ref z.1.1) ((W.map (·.2)).map bodyD) := by
      intro W
      induction W with
      | nil => intro _; exact .nil
      | cons z W ih =>
        intro hW
        exact .cons ⟨.ref z.1.1, rfl, hW z List.mem_cons_self⟩ (ih fun y hy => hW y (List.mem_cons_of_mem _ hy))
    refine ⟨(Z'.map (·.2)).map bodyD, each Z' kz', a1, a2, a3, ?_, fun p ys hp hy => ?_⟩
    · rw [List.length_map, List.length_map, ← pz.length_eq]
      rw [List.length_map] at few
      have : (64 : Nat) ≤ sizeLine := by decide
      omega
    · rw [sort_bodies] at hy
      refine q p ys _ hp hy fun b => ?_
      rw [mem_isort]
      constructor
      · intro hb
        obtain ⟨z, hz, rfl⟩ := List.mem_map.mp hb
        exact List.mem_map.mpr ⟨z, pz.mem_iff.mpr hz, rfl⟩
      · intro hb
        obtain ⟨z, hz, rfl⟩ := List.mem_map.mp hb
        exact List.mem_map.mpr ⟨z, pz.mem_iff.mp hz, rfl⟩
end
/-- sorted(set(rows)): some list with the same members -/
theorem en_sortedSet {P : Program} {w : World} {K : PySem.W.Frag} {σ : St} {H : Hp} {te : TE} {bs : List Body} (h : Evd K te σ H (.list (bs.map bodyD))) (few : bs.length < 64) (ne : ∀ b ∈ bs, b ≠ []) :
    ∀ H1, Same H H1 → ∀ Q : VK, (∀ (p : Addr) (ys : List V) (zs : List Body) (H2 : Hp), H1 p = none → Same H1 H2 → H2 p = some (.lst ys) → DpAll K H2 ys (zs.map bodyD) → (∀ b, b ∈ zs ↔ b ∈ bs) → Q (.ref p) H2) →
      tCB (rSortedB P w K) (tCons (tCB (rSetB P w K) (tCons te tNil)) tNil) σ H1 Q := fun H1 s Q q =>
  h H1 s _ fun x H2 s2 hx => by
    cases hx with
    | @lst a xs _ hs ha =>
      refine ⟨a, bs, rfl, .lst hs ha, few, fun p o bs' hp hset hmem => ?_⟩
      refine ⟨p, bs', rfl, hset, fun b hb => ne b ((hmem b).mp hb), fun p2 ys zs hp2 hy hz => ?_⟩
      have s3 : Same H2 (upd H2 p o) := Same.new hp
      have s4 : Same (upd H2 p o) (upd (upd H2 p o) p2 (.lst ys)) := Same.new hp2
      exact q p2 ys zs _ ((s2.trans s3).free hp2) ((s2.trans s3).trans s4) upd_same (hy.same s4) fun b => (hz b).trans (hmem b)
end Z
set_option Elab.async false
set_option linter.all false
set_option maxRecDepth 100000
set_option maxHeartbeats 4000000
/-! ZT: the pen: _law_pen, _law_draw, _law_pick. -/
namespace Z
open PySem PySem.Spec L2
open PyProof.Rows hiding St
def rListOf (K : PySem.W.Frag) : List V → Hp → VK → Prop := fun xs H Q => ∃ p ys, xs = [.ref p] ∧ (SqL K H p ys ∨ SqT K H p ys) ∧ ∀ l, H l = none → Q (.ref l) (upd H l (.lst ys))
theorem hu1_of {k : Nat} {A : Around} (r : Room k A) : A.units + 1 < cLine := by have := r.un; omega
def penKv (c : Addr) (a d k f : Int) : List (L2.Key × V) := [(.inr "cells", .ref c), (.inr "at", .int a), (.inr "digits", .int d), (.inr "count", .int k), (.inr "fold", .int f)]
section
variable {P : Program} {w : World} {K : PySem.W.Frag} {mg : Str → Option Value} {base : Heap} {tM : Tok} {aR : Addr} {H H' : Hp} {σ : St}
/-- at p: the pen -/
def PenAt (K : PySem.W.Frag) (H : Hp) (p : Addr) (ns : List Int) (a d k f : Int) : Prop := ∃ c, c ≠ p ∧ H p = some (.dK (penKv c a d k f)) ∧ OwnL K H c (ns.map .int)
def PenOk (ns : List Int) (a d k f : Int) : Prop := 0 ≤ a ∧ 0 ≤ d ∧ 0 ≤ k ∧ k ≤ 10 ∧ 0 ≤ f ∧ f < 4294967296
theorem PenAt.same {p : Addr} {ns : List Int} {a d k f : Int} (h : PenAt K H p ns a d k f) (s : Same H H') : PenAt K H' p ns a d k f := by
  obtain ⟨c, h0, h1, h2⟩ := h
  exact ⟨c, h0, s _ _ h1, h2.same s⟩
theorem er_dget {td : TE} {p : Addr} {kvs : List (L2.Key × V)} {key : Str} {v : V} (hd : Evr td σ H (.ref p)) (e : H p = some (.dK kvs)) (h : valV kvs (.inr key) = some v) : Evr (tDGet td (tC (.str key))) σ H v := fun H1 s Q q =>
  hd H1 s _ fun H2 s2 => ⟨p, v, rfl, by rw [← h]; exact DGet.k (k := Sum.inr key) (s2 _ _ (s _ _ e)), q H2 s2⟩
theorem st_dput {td tv : TE} {D : Ends} {p : Addr} {kvs kvs' : List (L2.Key × V)} {key : Str} {i : Int} (hv : Evd K tv σ H (.int i)) (hd : Evr td σ H (.ref p)) (e : H p = some (.dK kvs)) (hl : kvs.length < sizeLine) (h : putK kvs (.inr key) (.int i) = kvs')
    (q : ∀ H1, Same H H1 → D.nx σ (upd H1 p (.dK kvs'))) : sDPut td (tC (.str key)) tv D σ H :=
  hv H (Same.refl _) _ fun v H1 s1 hv => hd H1 s1 _ fun H2 s2 => ⟨p, _, rfl, DPut.k (k := Sum.inr key) (s2 _ _ (s1 _ _ e)) hl, by cases hv; rw [h]; exact q H2 (s1.trans s2)⟩
theorem pen_len (c : Addr) (a d k f : Int) : (penKv c a d k f).length < sizeLine := by show 5 < sizeLine; decide
theorem rd_mulR {i j : Int} (h : -(2 ^ 64) < j ∧ j < 2 ^ 64) : RD K (rI CMul fun i j => .int (i * j)) (.int i) (.int j) (.int (i * j)) := rd_I (g := fun i j => i * j) (.inr h)
theorem rd_fmod {i j : Int} (h : j ≠ 0) : RD K (rI (fun _ j => j ≠ 0) fun i j => .int (i.fmod j)) (.int i) (.int j) (.int (i.fmod j)) := rd_I (g := fun i j => i.fmod j) h
theorem rd_fdiv {i j : Int} (h : j ≠ 0 ∧ j.natAbs < 1073741824) : RD K (rI CDivN fun i j => .int (i.fdiv j)) (.int i) (.int j) (.int (i.fdiv j)) := rd_I (g := fun i j => i.fdiv j) h
theorem rd_pow {i j : Int} (h : CPow i j) : RD K (rI CPow fun i j => .int (i ^ j.toNat)) (.int i) (.int j) (.int (i ^ j.toNat)) := rd_I (g := fun i j => i ^ j.toNat) h
theorem ints_flat (ns : List Int) : flatAll (ns.map .int) = true := flatAll_map (fun _ => rfl) ns
abbrev s__law_draw : Stmt := top 36
theorem sc__law_draw : FnScope ["_law_pen_here", "_law_many", "_law_cell", "_law_digit", "_law_blend"] ["_law_pen_here", "_law_many"] (defScope s__law_draw) := ⟨rfl, rfl, rfl, by decide +kernel, rfl, by decide +kernel, by decide +kernel⟩
def sp_draw (K : PySem.W.Frag) : Sp := fun vs H Q _ => ∃ (p : Addr) (ns : List Int) (a d k f : Int) (m : Nat), vs = [.ref p, .int m] ∧ PenAt K H p ns a d k f ∧ PenOk ns a d k f ∧ k ≤ 5 ∧ 0 < m ∧ m ≤ 10 ∧
  ∀ (r : Nat) H' a' d' f', r < m → But [p] H H' → PenAt K H' p ns a' d' (k + 1) f' → PenOk ns a' d' (k + 1) f' → Q (.int r) H'
theorem ok_draw (T : Glo K mg tM aR) (h : Has K mg "_law_draw" s__law_draw ["_law_pen_here", "_law_many"]) : OkAt P w K mg base 1 "_law_draw" ["_law_pen_here", "_law_many"] (sp_draw K) := by
  refine h.ok sc__law_draw (fun vs H Q E h => by obtain ⟨p, ns, a, d, k, f, m, rfl, _⟩ := h; rfl) (fun _ cdv A outer s H vs Q E f hr q => ?_)
  obtain ⟨p, ns, a, d, k, fo, m, rfl, pen, ok, hk5, hm0, hm10, post⟩ := q
  have hu := hr.units
  have hu5 := hu65 hr
  have hu1 := hu1_of hr
  refine ⟨_, (pss_cons (ps_dput hu1 (pv 0) pe_str (pe_op op_add (pe_dget hu1 (pv 0) pe_str (fun _ _ => rfl)) pe_int) rfl)
      (pss_cons (ps_if (PW.pt (pw_and (pt_cmpR op_eq (pe_dget hu1 (pv 0) pe_str (fun _ _ => rfl)) pe_int (nomark _)) (pw_and1 (pt_cmpR op_lt (pe_dget hu1 (pv 0) pe_str (fun _ _ => rfl)) (pe_callB (show CallR _ _ (rLen K) from call_len_seq) (by rfl) T.len zb_len (pa_cons (pe_dget hu1 (pv 0) pe_str (fun _ _ => rfl)) pa_nil)) (nomark _))))) (pss_cons (ps_set (i := 2) sc__law_draw.nd rfl (Or.inl rfl) (pe_ix (show IxR _ (rIxL K) from ix_list) (pe_dget hu1 (pv 0) pe_str (fun _ _ => rfl)) (pe_dget hu1 (pv 0) pe_str (fun _ _ => rfl)) (fun _ _ => rfl)))
      (pss_cons (ps_dput hu1 (pv 0) pe_str (pe_op op_add (pe_dget hu1 (pv 0) pe_str (fun _ _ => rfl)) pe_int) rfl)
      (pss_one (ps_if (pt_cmpR op_ge (pv 2) (pe_op op_pow pe_int pe_int) (nomark _)) (pss_one (ps_dput hu1 (pv 0) pe_str (pe_op op_sub (pv 2) (pe_op op_pow pe_int pe_int)) rfl)) (pss_one (ps_dput hu1 (pv 0) pe_str (pe_op op_modN (pe_callTy call_int1 (by rfl) T.int zb_int (pa_cons (pe_op op_add (pe_op op_mul (pe_dget hu1 (pv 0) pe_str (fun _ _ => rfl)) pe_int) (pv 2)) pa_nil)) pe_int) rfl)))))) pss_nil)
      (pss_cons (ps_if (pt_cmpR op_gt (pe_dget hu1 (pv 0) pe_str (fun _ _ => rfl)) pe_int (nomark _)) (pss_cons (ps_set (i := 3) sc__law_draw.nd rfl (Or.inl rfl) (pe_op op_modN (pe_callTy call_int1 (by rfl) T.int zb_int (pa_cons (pe_dget hu1 (pv 0) pe_str (fun _ _ => rfl)) pa_nil)) (pv 1)))
      (pss_cons (ps_dput hu1 (pv 0) pe_str (pe_op op_fdivN (pe_dget hu1 (pv 0) pe_str (fun _ _ => rfl)) (pv 1)) rfl)
      (pss_one (ps_ret (pv 3))))) pss_nil)
      (pss_cons (ps_set (i := 4) sc__law_draw.nd rfl (Or.inl rfl) (pe_op op_add (pe_op op_add (pe_dget hu1 (pv 0) pe_str (fun _ _ => rfl)) (pe_op op_mul (pe_dget hu1 (pv 0) pe_str (fun _ _ => rfl)) pe_int)) pe_int))
      (pss_one (ps_ret (pe_op op_modN (pe_op op_fdivN (pe_callTy call_int1 (by rfl) T.int zb_int (pa_cons (pe_op op_modN (pe_op op_pow (pv 4) pe_int) pe_int) pa_nil)) pe_int) (pv 1)))))))), ?_⟩
  have A0 : Al K H [.raw (.ref p), .dat (.int m), .no, .no, .no] (L2.start ["_law_pen_here", "_law_many", "_law_cell", "_law_digit", "_law_blend"] [.ref p, .int m]) := .cons rfl (.cons ⟨_, rfl, .int _⟩ (Al.no 3))
  obtain ⟨c, nc, e0, o0⟩ := pen
  obtain ⟨ha, hd, hk, hk10, hf0, hf1⟩ := ok
  have geti : ∀ {σ9 : St} {H9 : Hp} {es : List Slot} {kvs : List (L2.Key × V)} {key : Str} {i : Int}, Al K H9 es σ9 → es[0]? = some (.raw (.ref p)) → H9 p = some (.dK kvs) → valV kvs (.inr key) = some (.int i) → Evd K (tDGet (tVar 0) (tC (.str key))) σ9 H9 (.int i) := fun A9 e1 e2 e3 => ev_of (er_dget (er_var A9 e1) e2 e3) (.int _)
  dsimp only [tSeq]
  -- count
  refine st_dput (kvs' := penKv c a d (k + 1) fo) (ev_op (geti A0 rfl e0 rfl) ev_int rd_I0) (er_var (i := 0) A0 rfl) e0 (pen_len _ _ _ _ _) rfl fun H1 s1 => ?_
  have q1 := s1 _ _ e0
  have tk1 : TKp K H1 (upd H1 p (.dK (penKv c a d (k + 1) fo))) := TKp.upd q1 rfl
  have A1 := (A0.same s1).keepT tk1 rfl
  have o1 := (o0.same s1).upd (u := .dK (penKv c a d (k + 1) fo)) (ints_flat ns) q1 rfl nc
  have e1 : upd H1 p (.dK (penKv c a d (k + 1) fo)) p = some (.dK (penKv c a d (k + 1) fo)) := upd_same
  have b1 : But [p] H (upd H1 p (.dK (penKv c a d (k + 1) fo))) := (Same.but s1).upd (.inl (by simp))
  generalize upd H1 p (.dK (penKv c a d (k + 1) fo)) = H2 at A1 o1 e1 b1
  -- behind the cell that is read
  have rest : ∀ (σ3 : St) (H3 : Hp) (a3 d3 f3 : Int), Al K H3 [.raw (.ref p), .dat (.int m), .no, .no, .no] σ3 → H3 p = some (.dK (penKv c a3 d3 (k + 1) f3)) → OwnL K H3 c (ns.map .int) → But [p] H H3 → 0 ≤ a3 → 0 ≤ d3 → 0 ≤ f3 → f3 < 4294967296 →
      tIfS (tTest (tOp (rI0 fun i j => .bl (decide (j < i))) (tDGet (tVar 0) (tC (.str "digits"))) (tC (.int 0))))
        (tSeq (tAsg (tOp (rI (fun _ j => j ≠ 0) fun i j => .int (i.fmod j)) (tCB (fun xs H Q => (∃ i, xs = [V.int i] ∧ Q (.int i) H) ∨ ∃ k, xs = [V.bl k] ∧ Q (.int (if k then 1 else 0)) H) (tCons (tDGet (tVar 0) (tC (.str "digits"))) tNil)) (tVar 1)) (gName 3))
          (tSeq (sDPut (tVar 0) (tC (.str "digits")) (tOp (rI CDivN fun i j => .int (i.fdiv j)) (tDGet (tVar 0) (tC (.str "digits"))) (tVar 1))) (tRet (tVar 3)))) tNext
        { nx := fun σ H => tSeq (tAsg (tOp (rI0 fun i j => .int (i + j)) (tOp (rI0 fun i j => .int (i + j)) (tDGet (tVar 0) (tC (.str "fold"))) (tOp (rI CMul fun i j => .int (i * j)) (tDGet (tVar 0) (tC (.str "count"))) (tC (.int 7907)))) (tC (.int 37))) (gName 4))
            (tRet (tOp (rI (fun _ j => j ≠ 0) fun i j => .int (i.fmod j)) (tOp (rI CDivN fun i j => .int (i.fdiv j)) (tCB (fun xs H Q => (∃ i, xs = [V.int i] ∧ Q (.int i) H) ∨ ∃ k, xs = [V.bl k] ∧ Q (.int (if k then 1 else 0)) H)
              (tCons (tOp (rI (fun _ j => j ≠ 0) fun i j => .int (i.fmod j)) (tOp (rI CPow fun i j => .int (i ^ j.toNat)) (tVar 4) (tC (.int 17))) (tC (.int 2305843009213693951))) tNil)) (tC (.int 128))) (tVar 1)))
            { nx := fun _ H' => Q .non H', rt := Q } σ H, rt := Q } σ3 H3 := fun σ3 H3 a3 d3 f3 A3 e3 o3 b3 ha3 hd3 hf3 hf3' => by
    have fm : ∀ (x : Int), ∃ r : Nat, r < m ∧ x.fmod m = (r : Int) := fun x => by
      have h1 : 0 ≤ x.fmod m := Int.fmod_nonneg_of_pos _ (by omega)
      have h2 : x.fmod m < m := Int.fmod_lt_of_pos _ (by omega)
      exact ⟨(x.fmod m).toNat, by omega, by omega⟩
    refine st_if (et_test (ev_op (geti A3 rfl e3 rfl) (ev_int (i := 0)) (rd_B0 (g := fun i j => decide (j < i))))) (fun hb H4 s4 => ?_) fun hb H4 s4 => ?_
    · have A4 := A3.same s4
      have e4 := s4 _ _ e3
      obtain ⟨r, hr, er⟩ := fm d3
      dsimp only [tSeq]
      refine st_set (ev_op (ev_cb (ea_cons (geti A4 rfl e4 rfl) ea_nil) rc_int) (ev_var (i := 1) A4 rfl) (rd_fmod (by omega))) fun v5 H5 s5 hv5 => ?_
      have A5 := (A4.same s5).put hv5 3
      have e5 := s5 _ _ e4
      refine st_dput (kvs' := penKv c a3 (d3.fdiv m) (k + 1) f3) (ev_op (geti A5 rfl e5 rfl) (ev_var (i := 1) A5 rfl) (rd_fdiv ⟨by omega, by omega⟩)) (er_var (i := 0) A5 rfl) e5 (pen_len _ _ _ _ _) rfl fun H6 s6 => ?_
      have q6 := s6 _ _ e5
      have tk6 : TKp K H6 (upd H6 p (.dK (penKv c a3 (d3.fdiv m) (k + 1) f3))) := TKp.upd q6 rfl
      have A6 := (A5.same s6).keepT tk6 rfl
      have o6 := ((o3.same ((s4.trans s5).trans s6))).upd (u := .dK (penKv c a3 (d3.fdiv m) (k + 1) f3)) (ints_flat ns) q6 rfl nc
      have b6 : But [p] H (upd H6 p (.dK (penKv c a3 (d3.fdiv m) (k + 1) f3))) := (b3.trans (Same.but ((s4.trans s5).trans s6))).upd (.inl (by simp))
      have hdd : 0 ≤ d3.fdiv m := Int.fdiv_nonneg hd3 (by omega)
      refine st_ret (ev_var (i := 3) A6 rfl) fun v7 H7 s7 hv7 => ?_
      rw [er] at hv7
      cases hv7
      exact post r H7 a3 (d3.fdiv m) f3 hr (b6.trans (Same.but s7)) (PenAt.same ⟨c, nc, upd_same, o6⟩ s7) ⟨ha3, hdd, by omega, by omega, hf3, hf3'⟩
    · have A4 := A3.same s4
      have e4 := s4 _ _ e3
      dsimp only [tNext, tSeq]
      refine st_set (ev_op (ev_op (geti A4 rfl e4 rfl) (ev_op (geti A4 rfl e4 rfl) ev_int (rd_mulR (by decide))) rd_I0) ev_int rd_I0) fun v5 H5 s5 hv5 => ?_
      have A5 := (A4.same s5).put hv5 4
      obtain ⟨r, hr, er⟩ := fm ((((f3 + (k + 1) * 7907 + 37) ^ (17 : Int).toNat).fmod 2305843009213693951).fdiv 128)
      refine st_ret (ev_op (ev_op (ev_cb (ea_cons (ev_op (ev_op (ev_var (i := 4) A5 rfl) ev_int (rd_pow ⟨by decide, by decide, by omega⟩)) ev_int (rd_fmod (by decide))) ea_nil) rc_int) ev_int (rd_fdiv (by decide))) (ev_var (i := 1) A5 rfl) (rd_fmod (by omega))) fun v7 H7 s7 hv7 => ?_
      rw [er] at hv7
      cases hv7
      exact post r H7 a3 d3 f3 hr ((b3.trans (Same.but (s4.trans s5))).trans (Same.but s7)) (PenAt.same ⟨c, nc, s5 _ _ e4, o3.same (s4.trans s5)⟩ s7) ⟨ha3, hd3, by omega, by omega, hf3, hf3'⟩
  have lenc : ∀ {σ9 : St} {H9 : Hp} {es : List Slot} {a9 d9 k9 f9 : Int}, Al K H9 es σ9 → es[0]? = some (.raw (.ref p)) → H9 p = some (.dK (penKv c a9 d9 k9 f9)) → OwnL K H9 c (ns.map .int) → Evd K (tDGet (tVar 0) (tC (.str "cells"))) σ9 H9 (.list (ns.map .int)) := fun A9 e1 e2 o9 => ev_of (er_dget (er_var A9 e1) e2 rfl) o9.dp
  have tst := et_and (et_test (ev_op (geti (key := "digits") A1 rfl e1 rfl) (ev_int (i := 0)) rd_eqI)) fun _ => et_test (ev_op (geti (key := "at") A1 rfl e1 rfl) (ev_cb (ea_cons (lenc A1 rfl e1 o1) ea_nil) rc_len) (rd_B0 (g := fun i j => decide (i < j))))
  refine st_if tst (fun hb H3 s3 => ?_) fun hb H3 s3 => ?_
  · rw [Bool.and_eq_true, decide_eq_true_eq, decide_eq_true_eq, List.length_map] at hb
    obtain ⟨hd0, hlt⟩ := hb
    have A3 := A1.same s3
    have e3 := s3 _ _ e1
    have o3 := o1.same s3
    obtain ⟨j, rfl⟩ : ∃ j : Nat, a = j := ⟨a.toNat, by omega⟩
    have hj : j < ns.length := by omega
    dsimp only [tSeq]
    refine st_set (ev_op (lenc A3 rfl e3 o3) (geti A3 rfl e3 rfl) (rd_ixL (z := .int ns[j]) (atI_nat (j := j) (by rw [List.getElem?_map, List.getElem?_eq_getElem hj]; rfl)))) fun v4 H4 s4 hv4 => ?_
    have A4 := (A3.same s4).put hv4 2
    have e4 := s4 _ _ e3
    have o4 := o3.same s4
    refine st_dput (kvs' := penKv c ((j : Int) + 1) d (k + 1) fo) (ev_op (geti A4 rfl e4 rfl) ev_int rd_I0) (er_var (i := 0) A4 rfl) e4 (pen_len _ _ _ _ _) rfl fun H5 s5 => ?_
    have q5 := s5 _ _ e4
    have tk5 : TKp K H5 (upd H5 p (.dK (penKv c ((j : Int) + 1) d (k + 1) fo))) := TKp.upd q5 rfl
    have A5 := (A4.same s5).keepT tk5 rfl
    have o5 := (o4.same s5).upd (u := .dK (penKv c ((j : Int) + 1) d (k + 1) fo)) (ints_flat ns) q5 rfl nc
    have e5 : upd H5 p (.dK (penKv c ((j : Int) + 1) d (k + 1) fo)) p = some (.dK (penKv c ((j : Int) + 1) d (k + 1) fo)) := upd_same
    have b5 : But [p] H (upd H5 p (.dK (penKv c ((j : Int) + 1) d (k + 1) fo))) := (b1.trans (Same.but ((s3.trans s4).trans s5))).upd (.inl (by simp))
    generalize upd H5 p (.dK (penKv c ((j : Int) + 1) d (k + 1) fo)) = H6 at A5 o5 e5 b5
    refine st_if (et_test (ev_op (ev_var (i := 2) A5 rfl) (ev_op (ev_int (i := 10)) (ev_int (i := 18)) (rd_pow ⟨by decide, by decide, by decide⟩)) (rd_B0 (g := fun i j => decide (j ≤ i))))) (fun hb7 H7 s7 => ?_) fun hb7 H7 s7 => ?_
    · have hge := of_decide_eq_true hb7
      have A7 := A5.same s7
      have e7 := s7 _ _ e5
      refine st_dput (kvs' := penKv c ((j : Int) + 1) (ns[j] - 10 ^ (18 : Int).toNat) (k + 1) fo) (ev_op (ev_var (i := 2) A7 rfl) (ev_op (ev_int (i := 10)) (ev_int (i := 18)) (rd_pow ⟨by decide, by decide, by decide⟩)) rd_I0) (er_var (i := 0) A7 rfl) e7 (pen_len _ _ _ _ _) rfl fun H8 s8 => ?_
      have q8 := s8 _ _ e7
      have tk8 : TKp K H8 (upd H8 p (.dK (penKv c ((j : Int) + 1) (ns[j] - 10 ^ (18 : Int).toNat) (k + 1) fo))) := TKp.upd q8 rfl
      exact rest _ _ ((j : Int) + 1) (ns[j] - 10 ^ (18 : Int).toNat) fo (((A7.same s8).keepT tk8 rfl).wk (by repeat (first | exact Wk.nil | apply Wk.keep | apply Wk.drop))) upd_same (((o5.same s7).same s8).upd (ints_flat ns) q8 rfl nc) (((b5.trans (Same.but s7)).trans (Same.but s8)).upd (.inl (by simp))) (by omega) (by omega) hf0 hf1
    · have A7 := A5.same s7
      have e7 := s7 _ _ e5
      have g0 : 0 ≤ (fo * 69069 + ns[j]).fmod 2147483587 := Int.fmod_nonneg_of_pos _ (by decide)
      have g1 : (fo * 69069 + ns[j]).fmod 2147483587 < 2147483587 := Int.fmod_lt_of_pos _ (by decide)
      refine st_dput (kvs' := penKv c ((j : Int) + 1) d (k + 1) ((fo * 69069 + ns[j]).fmod 2147483587)) (ev_op (ev_cb (ea_cons (ev_op (ev_op (geti A7 rfl e7 rfl) ev_int (rd_mulR (by decide))) (ev_var (i := 2) A7 rfl) rd_I0) ea_nil) rc_int) ev_int (rd_fmod (by decide))) (er_var (i := 0) A7 rfl) e7 (pen_len _ _ _ _ _) rfl fun H8 s8 => ?_
      have q8 := s8 _ _ e7
      have tk8 : TKp K H8 (upd H8 p (.dK (penKv c ((j : Int) + 1) d (k + 1) ((fo * 69069 + ns[j]).fmod 2147483587)))) := TKp.upd q8 rfl
      exact rest _ _ ((j : Int) + 1) d _ (((A7.same s8).keepT tk8 rfl).wk (by repeat (first | exact Wk.nil | apply Wk.keep | apply Wk.drop))) upd_same (((o5.same s7).same s8).upd (ints_flat ns) q8 rfl nc) (((b5.trans (Same.but s7)).trans (Same.but s8)).upd (.inl (by simp))) (by omega) hd g0 (by omega)
  · exact rest _ _ a d fo (A1.same s3) (s3 _ _ e1) (o1.same s3) (b1.trans (Same.but s3)) ha hd hf0 hf1
abbrev s__law_pick : Stmt := top 37
theorem sc__law_pick : FnScope ["_law_pen_here", "_law_some"] ["_law_pen_here", "_law_some"] (defScope s__law_pick) := ⟨rfl, rfl, rfl, by decide +kernel, rfl, by decide +kernel, by decide +kernel⟩
def sp_pick (K : PySem.W.Frag) : Sp := fun vs H Q _ => ∃ (p s : Addr) (xs : List V) (ns : List Int) (a d k f : Int), vs = [.ref p, .ref s] ∧ H s = some (.lst xs) ∧ 0 < xs.length ∧ xs.length ≤ 10 ∧ PenAt K H p ns a d k f ∧ PenOk ns a d k f ∧ k ≤ 5 ∧
  ∀ (r : Nat) v H' a' d' f', xs[r]? = some v → But [p] H H' → PenAt K H' p ns a' d' (k + 1) f' → PenOk ns a' d' (k + 1) f' → Q v H'
theorem ok_pick (T : Glo K mg tM aR) (h : Has K mg "_law_pick" s__law_pick ["_law_pen_here", "_law_some"]) (G__law_draw : OkAt P w K mg base 1 "_law_draw" ["_law_pen_here", "_law_many"] (sp_draw K)) : OkAt P w K mg base 2 "_law_pick" ["_law_pen_here", "_law_some"] (sp_pick K) := by
  refine h.ok sc__law_pick (fun vs H Q E h => by obtain ⟨p, s, xs, ns, a, d, k, f, rfl, _⟩ := h; rfl) (fun _ cdv A outer s H vs Q E f hr q => ?_)
  obtain ⟨p, sl, xs, ns, a, d, k, fo, rfl, hs, hx0, hx10, pen, ok, hk5, post⟩ := q
  have hu := hr.units
  have hu5 := hu65 hr
  have hu1 := hu1_of hr
  refine ⟨_, (pss_one (ps_ret (pe_ix (show IxR _ (rIxL K) from ix_list) (pv 1) (pe_callO G__law_draw (hr.mono (by decide)) rfl (pa_cons (pv 0) (pa_cons (pe_callB (show CallR _ _ (rLen K) from call_len_seq) (by rfl) T.len zb_len (pa_cons (pv 1) pa_nil)) pa_nil))) (fun _ _ => rfl)))), ?_⟩
  have nsp : sl ≠ p := fun z => by
    obtain ⟨c, _, e, _⟩ := pen
    rw [z, e] at hs; cases hs
  refine ⟨.ref sl, rfl, .ref p, rfl, .ref sl, rfl, sl, xs, rfl, .inl (SqL.lst hs), p, ns, a, d, k, fo, xs.length, rfl, pen, ok, hk5, hx0, hx10, fun r H' a' d' f' hr b pen' ok' => ?_⟩
  have hs' := b _ _ hs (by simp [nsp])
  obtain ⟨v, hv⟩ : ∃ v, xs[r]? = some v := ⟨_, List.getElem?_eq_getElem hr⟩
  exact ⟨sl, xs, r, v, rfl, rfl, SqL.lst hs', atI_nat hv, post r v H' a' d' f' hv b pen' ok'⟩
abbrev s__law_pen : Stmt := top 35
theorem sc__law_pen : FnScope ["_law_script", "_law_fold", "_law_cell"] ["_law_script"] (defScope s__law_pen) := ⟨rfl, rfl, rfl, by decide +kernel, rfl, by decide +kernel, by decide +kernel⟩
def sp_pen (K : PySem.W.Frag) : Sp := fun vs H Q _ => ∃ (v : V) (ns : List Int), vs = [v] ∧ Dp K H v (.list (ns.map .int)) ∧ ns.length ≤ 1000 ∧ ∀ p H' f, H p = none → Same H H' → PenAt K H' p ns 0 0 0 f → PenOk ns 0 0 0 f → Q (.ref p) H'
theorem ok_pen (T : Glo K mg tM aR) (h : Has K mg "_law_pen" s__law_pen ["_law_script"]) : OkAt P w K mg base 1 "_law_pen" ["_law_script"] (sp_pen K) := by
  refine h.ok sc__law_pen (fun vs H Q E h => by obtain ⟨v, ns, rfl, _⟩ := h; rfl) (fun _ cdv A outer s H vs Q E f hr q => ?_)
  obtain ⟨v0, ns, rfl, hv0, hlen, post⟩ := q
  have hu := hr.units
  have hu5 := hu65 hr
  have hu1 := hu1_of hr
  refine ⟨_, (pss_cons (ps_set (i := 1) sc__law_pen.nd rfl (Or.inl rfl) pe_int)
      (pss_cons (ps_for PassesOwn.never rfl (show PI _ _ _ (iList K _) from pi_list (pv 0)) (pg_name (i := 2) sc__law_pen.nd rfl (Or.inl rfl))
      (pss_one (ps_set (i := 1) sc__law_pen.nd rfl (Or.inl rfl) (pe_op op_modN (pe_callTy call_int1 (by rfl) T.int zb_int (pa_cons (pe_op op_add (pe_op op_mul (pv 1) pe_int) (pv 2)) pa_nil)) pe_int))))
      (pss_one (ps_ret (pe_disp (pps_cons pe_str (pe_callTy (show CallR _ _ (rListOf K) from call_list_of) (by rfl) T.list zb_list (pa_cons (pv 0) pa_nil)) (pps_cons pe_str pe_int (pps_cons pe_str pe_int (pps_cons pe_str pe_int (pps_cons pe_str (pv 1) pps_nil))))) rfl rfl (fun z => nomatch z) (by decide)))))), ?_⟩
  have A0 : Al K H [.dat (.list (ns.map .int)), .no, .no] (L2.start ["_law_script", "_law_fold", "_law_cell"] [v0]) := .cons ⟨v0, rfl, hv0⟩ (Al.no 2)
  dsimp only [tSeq]
  refine st_set (K := K) (ev_int (i := 0)) fun x1 H1 s1 hx1 => ?_
  have A1 := (A0.same s1).put hx1 1
  refine st_forL (ev_var (i := 0) A1 rfl) (ints_flat ns) fun a xs H2 s2 hsq => ?_
  let I : Nat → St → Hp → Prop := fun i σ' H' => ∃ fo : Int, 0 ≤ fo ∧ fo < 1000000007 ∧ Same H2 H' ∧ Al K H' [.dat (.list (ns.map .int)), .dat (.int fo), .no] σ'
  refine ⟨I, ⟨0, by decide, by decide, Same.refl _, (A1.same s2).wk (by repeat (first | exact Wk.nil | apply Wk.keep | apply Wk.drop))⟩, fun i σ' H' ⟨_, _, _, sm, _⟩ => ⟨TKp.same sm, LKp.same sm _ _ hsq⟩, fun i x v3 σ' H' hx ⟨fo, hf0, hf1, sm, A3⟩ hv3 => ?_, fun σ' H' ⟨fo, hf0, hf1, sm, A3⟩ => ?_⟩
  · obtain ⟨c, hc, rfl⟩ := map_at hx
    have A4 := A3.put hv3 2
    refine st_set (ev_op (ev_cb (ea_cons (ev_op (ev_op (ev_var (i := 1) A4 rfl) ev_int (rd_mulR (by decide))) (ev_var (i := 2) A4 rfl) rd_I0) ea_nil) rc_int) ev_int (rd_fmod (by decide))) fun x5 H5 s5 hx5 => ?_
    exact ⟨_, Int.fmod_nonneg_of_pos _ (by decide), Int.fmod_lt_of_pos _ (by decide), sm.trans s5, ((A4.same s5).put hx5 1).wk (by repeat (first | exact Wk.nil | apply Wk.keep | apply Wk.drop))⟩
  · obtain ⟨v0', e0, dv0⟩ := A3.get (i := 0) rfl
    obtain ⟨vf, ef, dvf⟩ := A3.get (i := 1) rfl
    cases dvf
    refine fun p hp => ?_
    have s6 : Same H' (upd H' p (.dK [])) := Same.new hp
    cases dv0 with
    | @lst a0 ys _ hys day =>
      refine ⟨.ref a0, e0, a0, ys, rfl, .inl (LKp.same s6 _ _ hys), fun l hl => ?_⟩
      have s7 : Same (upd H' p (.dK [])) (upd (upd H' p (.dK [])) l (.lst ys)) := Same.new hl
      have nlp : l ≠ p := fun z => by rw [z, upd_same] at hl; cases hl
      refine ⟨.int fo, ef, s7 _ _ upd_same, [(.inr "cells", .ref l), (.inr "at", .int 0), (.inr "digits", .int 0), (.inr "count", .int 0), (.inr "fold", .int fo)], rfl, by show 5 ≤ 15; decide, ?_⟩
      have s8 : Same H' (upd (upd (upd H' p (.dK [])) l (.lst ys)) p (.dK (penKv l 0 0 0 fo))) := Same.mut (s6.trans s7) hp
      have s08 := ((s1.trans s2).trans sm).trans s8
      refine post p _ fo (((s1.trans s2).trans sm).free hp) s08 ⟨l, nlp, upd_same, ys, by rw [upd_ne nlp, upd_same], day.same s8⟩ ⟨by decide, by decide, by decide, by decide, hf0, by omega⟩
end
end Z
set_option Elab.async false
set_option linter.all false
set_option maxRecDepth 100000
set_option maxHeartbeats 4000000
/-! ZU: BadNumber, check_number and farthest that raise, repr, _law_refused. -/
namespace Z
open PySem PySem.Spec L2
open PyProof.Rows hiding St
section
variable {P : Program} {w : World} {K : PySem.W.Frag} {mg : Str → Option Value} {base : Heap} {tM : Tok} {aR : Addr} {H H' : Hp} {σ : St} {C fI : Addr}
structure OkXAt (P : Program) (w : World) (K : PySem.W.Frag) (mg : Str → Option Value) (base : Heap) (k : Nat) (x : Str) (ps : List Str) (sp : Sp) : Prop where
  ex : ∃ f fd, FnOk P w K mg base (L2.CX P w) k f fd ps sp ∧ mg x = some (.ref f) ∧ PySem.W.keepIn K (.ref f) = true ∧ Binds K fd ps []
theorem Has.okX {k : Nat} {x : Str} {st : Stmt} {N ps : List Str} {sp : Sp} (h : Has K mg x st ps) (S : FnScope N ps (defScope st)) (len : ∀ vs H Q E, sp vs H Q E → vs.length = ps.length)
    (body : ∀ (f cdv : Value) (A : Around) (outer : List Env) (s : Shared) (H : Hp) (vs : List V) (Q : VK) (E : XK) (f : Addr), Room k (A.deeper (envOfC x (defScope st) s.heap.objs.size f cdv)) → sp vs H Q E →
      ∃ t, PSs (cxOf (L2.CX P w) P w K mg base N x (defScope st) f cdv A outer s H E) (defBody st) t ∧ t { nx := fun _ H' => Q .non H', rt := Q } (L2.start N vs) H) : OkXAt P w K mg base (k + 1) x ps sp := by
  obtain ⟨f, fd, F, m, b⟩ := h.ex
  exact ⟨f, fd, F.okX S len fun cdv A outer s H vs Q E hr q => body (.ref f) cdv A outer s H vs Q E f hr q, m, F.kp, b⟩
/-! ### BadNumber.__init__ -/
abbrev s_bn : Stmt := inClass (top 2) 0
theorem sc_bn : FnScope ["self", "what", "number"] ["self", "what", "number"] (defScope s_bn) := ⟨rfl, rfl, rfl, by decide +kernel, rfl, by decide +kernel, by decide +kernel⟩
structure BadTxt (K : PySem.W.Frag) (mg : Str → Option Value) (C fI : Addr) : Prop where
  gC : mg "BadNumber" = some (.ref C)
  ox : OexC K C
  xf : XfC K C
  nW : PySem.W.findIn K (.ref C) "what" = some none
  nN : PySem.W.findIn K (.ref C) "number" = some none
  iC : PySem.W.findIn K (.ref C) "__init__" = some (some (.ref fI))
  tI : PySem.W.typeIn K (.ref fI) = some (.type "function")
  te : PySem.W.exmOne K (.ref C) (.ref C) = some true
  fn : ∃ fd, Fun K "__init__" "BadNumber.__init__" s_bn fI fd ∧ Binds K fd ["self", "what", "number"] []
def bnF (v1 v2 : V) : List (Str × V) := [("number", v2), ("what", v1)]
def sp_bn (C : Addr) : Sp := fun vs H Q _ => ∃ (a : Addr) (v1 v2 : V), vs = [.ref a, v1, v2] ∧ H a = some (exo a C none) ∧
  ∀ dx, H dx = none → dx ≠ a → Q .non (upd (upd (upd H dx (exd dx [("what", v1)])) a (exo a C (some dx))) dx (exd dx (bnF v1 v2)))
theorem ok_bn (B : BadTxt K mg C fI) : ∃ fd, FnOk P w K mg base CX0 1 fI fd ["self", "what", "number"] (sp_bn C) ∧ Binds K fd ["self", "what", "number"] [] := by
  obtain ⟨fd, F, b⟩ := B.fn
  refine ⟨fd, F.ok sc_bn (fun vs H Q E h => by obtain ⟨a, v1, v2, rfl, _⟩ := h; rfl) (fun cdv A outer s H vs Q E hr q => ?_), b⟩
  obtain ⟨a, v1, v2, rfl, ha, post⟩ := q
  refine ⟨_, pss_cons (ps_ost (pv 0) (pv 1)) (pss_one (ps_ost (pv 0) (pv 2))), ?_⟩
  refine ⟨v1, rfl, .ref a, rfl, a, C, rfl, B.ox, B.nW, .inl ⟨ha, fun dx hdx ne => ?_⟩⟩
  refine ⟨v2, rfl, .ref a, rfl, a, C, rfl, B.ox, B.nN, .inr ⟨dx, [("what", v1)], upd_same, by rw [upd_ne ne, upd_same], by show 1 ≤ 900; decide, ?_⟩⟩
  exact post dx hdx ne
/-! ### raise BadNumber(..) -/
theorem ps_raiseBN {X : Cx} {a b : Expr} {ta : TA} {W : WX} {p pos pos2 : Pos} {k : Nat} (hc : X.calm = true) (B : BadTxt X.K X.mg C fI) (hr : Room 2 X.A) (tk : Takes X W) (ha : PA X [a, b] ta) (hg : Gl X "BadNumber" := by rfl)
    (he : starEach (a :: [b]) X.env = (false, eval a X.env) :: starEach [b] X.env := by rfl) (hpl : (backTo pos (starEach [b] X.env)).any (·.1) = false := by rfl) :
    PS X (.Raise (some (.Call (.Name "BadNumber" p) [a, b] [] pos)) none pos2) (fun _ σ H => tMkO C (sp_bn C) [] ta σ H fun cls d H' => W cls d σ H') := by
  obtain ⟨fd, F, b'⟩ := ok_bn (P := X.prog) (w := X.w) (base := X.base) B
  exact ps_raise hc tk (pmk_oex B.ox B.iC B.tI F hr b' .nil pass0 hg B.gC ha (by decide) he hpl)
/-- the way out of raise BadNumber(v1, v2) -/
theorem mk_bn {ta : TA} {W : WX} {v1 v2 : V} (h : ∀ Q : List V → Hp → Prop, Q [v1, v2] H → ta σ H Q) (q : ∀ d H', Same H H' → H' d = some (.xd (bnF v1 v2)) → W (.ref C) (some d) σ H') : tMkO C (sp_bn C) [] ta σ H fun cls d H' => W cls d σ H' := by
  refine h _ ⟨by show 2 ≤ 1000; decide, fun a ha => ⟨a, v1, v2, rfl, upd_same, fun dx hdx ne => ⟨rfl, dx, bnF v1 v2, ?_, upd_same, ?_, ?_⟩⟩⟩
  · rw [upd_ne (Ne.symm ne), upd_same]
  · rw [upd_ne ne] at hdx; exact hdx
  · refine q dx _ (fun b o e => ?_) upd_same
    have nb : b ≠ dx := fun z => by
      rw [upd_ne ne] at hdx
      rw [z, hdx] at e; cases e
    have nba : b ≠ a := fun z => by rw [z, ha] at e; cases e
    rw [upd_ne nb, del_ne nba, upd_ne nb, upd_ne nba, upd_ne nb, upd_ne nba]
    exact e
/-! ### check_number, farthest: a number that is wrong -/
def sp_wrong (K : PySem.W.Frag) (C : Addr) (n : Nat) : Sp := fun vs H _ E => ∃ (v : V) (d : PyData) (m : Int), (vs = [v, .int m] ∧ n = 2 ∨ vs = [v] ∧ n = 1 ∧ m = 5) ∧ Dp K H v d ∧ Scal d ∧ betw d 1 m = false ∧ ∀ dx H', Same H H' → H' dx = some (.xd (bnF (.str "n") v)) → E (.ref C) (some dx) H'
theorem ok_checkX (T : Glo K mg tM aR) (B : BadTxt K mg C fI) (h : Has K mg "check_number" s_check_number ["n", "most"]) (G_is_between : OkAt P w K mg base 2 "is_between" ["value", "low", "high"] (Pu K R_is_between)) : OkXAt P w K mg base 3 "check_number" ["n", "most"] (sp_wrong K C 2) := by
  refine h.okX sc_check_number (fun vs H Q E h => by obtain ⟨v, d, m, ⟨rfl, _⟩ | ⟨_, z, _⟩, _⟩ := h; rfl; cases z) (fun _ cdv A outer s H vs Q E f hr q => ?_)
  obtain ⟨v, d, m, ⟨rfl, _⟩ | ⟨_, z, _⟩, hv, hs, hb, post⟩ := q
  · have hu := hr.units
    have hu5 := hu65 hr
    refine ⟨_, pss_one (ps_if (pt_not (pt_val (pe_callO G_is_between (hr.mono (by decide)) rfl (pa_cons (pv 0) (pa_cons pe_int (pa_cons (pv 1) pa_nil)))))) (pss_one (ps_raiseBN (k := 1) rfl B hr (takes_of rfl rfl rfl rfl) (by exact (pa_cons pe_str (pa_cons (pv 0) pa_nil))))) pss_nil), ?_⟩
    have A0 : Al K H [.dat d, .dat (.int m)] (L2.start ["n", "most"] [v, .int m]) := .cons ⟨v, rfl, hv⟩ (.cons ⟨_, rfl, .int m⟩ .nil)
    refine st_ifT (et_not (a := false) (et_B ((ev_call (R := R_is_between) (z := .bool (betw d 1 m)) (ea_cons (ev_var (i := 0) A0 rfl) (ea_cons ev_int (ea_cons (ev_var (i := 1) A0 rfl) ea_nil))) ⟨d, 1, m, rfl, hs, rfl⟩).is (by rw [hb])))) fun H1 s1 => ?_
    exact mk_bn (σ := L2.start ["n", "most"] [v, .int m]) (ta := tCons (tC (.str "n")) (tCons (tVar 0) tNil)) (W := fun cls d _ H => E cls d H) (v1 := .str "n") (v2 := v) (fun Q q => ⟨v, rfl, q⟩) fun dx H2 s2 e2 => post dx H2 (s1.trans s2) e2
  · cases z
theorem ok_farX (T : Glo K mg tM aR) (h : Has K mg "farthest" s_farthest ["n"]) (GX : OkXAt P w K mg base 3 "check_number" ["n", "most"] (sp_wrong K C 2)) : OkXAt P w K mg base 4 "farthest" ["n"] (sp_wrong K C 1) := by
  refine h.okX sc_farthest (fun vs H Q E h => by obtain ⟨v, d, m, ⟨_, z⟩ | ⟨rfl, _⟩, _⟩ := h; cases z; rfl) (fun _ cdv A outer s H vs Q E f hr q => ?_)
  obtain ⟨v, d, m, ⟨_, z⟩ | ⟨rfl, _, rfl⟩, hv, hs, hb, post⟩ := q
  · cases z
  · have hu := hr.units
    obtain ⟨f2, fd2, F2, m2, k2, b2⟩ := GX.ex
    refine ⟨_, pss_cons (ps_expr (pe_call F2 hr rfl m2 k2 b2 .nil (passes_call (E := E) (takes_of rfl rfl rfl rfl) fun _ _ _ _ z => z) (by exact (pa_cons (pv 0) (pa_cons pe_int pa_nil))))) pss_never, ?_⟩
    exact ⟨v, rfl, v, d, 5, .inl ⟨rfl, rfl⟩, hv, hs, hb, post⟩
/-! ### repr -/
def reprD : PyData → Str
  | .none => "None"
  | .bool b => if b then "True" else "False"
  | .int i => toString i
  | .str x => reprText x
  | _ => ""
def reprOk : PyData → Prop
  | .none => True
  | .bool _ => True
  | .int i => i.natAbs.log2 < 1920
  | .str x => (reprText x).length ≤ sizeLine
  | _ => False
def rRepr (K : PySem.W.Frag) : List V → Hp → VK → Prop := fun vs H Q => ∃ x d, vs = [x] ∧ Dp K H x d ∧ reprOk d ∧ Q (.str (reprD d)) H
theorem cr_repr {X : Cx} : CallR X (.builtin "repr") (rRepr X.K) := by
  intro pins s σ H vs us Q I r h
  obtain ⟨x, d, rfl, hx, hok, q⟩ := h
  cases hx with
  | non =>
    obtain ⟨u, rfl, ru⟩ := vals1 r
    obtain rfl : u = Value.none := ru
    exact PySem.P.repr_of_none ⟨.str _, H, I.tok _, ⟨_, rfl⟩, q⟩
  | bl b =>
    obtain ⟨u, rfl, ru⟩ := vals1 r
    obtain rfl : u = Value.bool b := ru
    exact PySem.P.repr_of_bool ⟨.str _, H, I.tok _, ⟨_, rfl⟩, q⟩
  | int i =>
    obtain ⟨u, rfl, t, rfl⟩ := vals1 r
    exact PySem.P.repr_of_int hok ⟨.str _, H, I.tok _, ⟨_, rfl⟩, q⟩
  | str x =>
    obtain ⟨u, rfl, t, rfl⟩ := vals1 r
    exact PySem.P.repr_of_str ⟨.str _, H, I.tok _, ⟨_, rfl⟩, q⟩ hok
  | lst _ _ => exact hok.elim
  | tup _ _ => exact hok.elim
theorem rc_repr {d : PyData} (hok : reprOk d) : RC K (rRepr K) [d] (.str (reprD d)) := fun vs H hv Q q => by
  cases hv with
  | cons h1 h2 =>
    cases h2
    exact ⟨_, d, rfl, h1, hok, q _ H (Same.refl _) (.str _)⟩
/-! ### _law_refused -/
abbrev s__law_refused : Stmt := top 46
theorem sc__law_refused : FnScope ["_law_n", "e"] ["_law_n"] (defScope s__law_refused) := ⟨rfl, rfl, rfl, by decide +kernel, rfl, by decide +kernel, by decide +kernel⟩
abbrev R_refused : List PyData → PyData → Prop := fun ds r => ∃ d, ds = [d] ∧ Scal d ∧ betw d 1 5 = false ∧ reprOk d ∧ r = .tuple [.str "n", .str (reprD d)]
theorem ok_refused (T : Glo K mg tM aR) (B : BadTxt K mg C fI) (h : Has K mg "_law_refused" s__law_refused ["_law_n"]) (GX : OkXAt P w K mg base 4 "farthest" ["n"] (sp_wrong K C 1)) : OkAt P w K mg base 5 "_law_refused" ["_law_n"] (Pu K R_refused) := by
  refine h.ok sc__law_refused (pu_len fun ds r ⟨_, e, _⟩ => by rw [e]; rfl) (fun _ cdv A outer s H vs Q E f hr q => ?_)
  obtain ⟨ds, r, hv, ⟨d, rfl, hs, hb, hok, rfl⟩, k⟩ := q
  have hu := hr.units
  obtain ⟨f2, fd2, F2, m2, k2, b2⟩ := GX.ex
  obtain ⟨v0, rfl, hv0⟩ : ∃ v0, vs = [v0] ∧ Dp K H v0 d := by
    cases hv with
    | cons h1 h2 => cases h2; exact ⟨_, rfl, h1⟩
  refine ⟨_, pss_cons (ps_try_as (i := 1) (tb := fun W => tDrop (tCallS (sp_wrong K C 1) (WE W) (tCons (tVar 0) tNil))) (ts := fun a cls d => tRet (tTup (tCons (tXf a cls d C "what" (tVar 1)) (tCons (tCB (rRepr K) (tCons (tXf a cls d C "number" (tVar 1)) tNil)) tNil)))) (Wout := fun _ _ _ _ => False) rfl rfl sc__law_refused.nd rfl rfl ⟨rfl, by decide, Or.inl B.gC⟩ takes0
    (fun W pn xe tk _ => pss_one (ps_expr (by exact (pe_callS F2 hr rfl m2 k2 b2 (fun σ => passAt tk σ) (by exact (pa_cons (pv 0) pa_nil))))))
    (fun a oe cls d pn hz hf => pss_one (ps_ret (by exact (pe_tup (pa_cons (pe_xf B.xf B.nW hz hf (pv 1)) (pa_cons (pe_callB (show CallR _ _ (rRepr K) from cr_repr) (by rfl) T.repr zb_repr (pa_cons (pe_xf B.xf B.nN hz hf (pv 1)) pa_nil)) pa_nil)))))))
    (pss_one (ps_ret pe_non)), ?_⟩
  refine ⟨v0, rfl, v0, d, 5, .inr ⟨rfl, rfl, rfl⟩, hv0, hs, hb, fun dx H1 s1 e1 => ⟨true, B.te, fun _ a ha => ?_, fun z => nomatch z⟩⟩
  have look1 : (bnF (.str "n") v0).lookup ("what" : Str) = some (V.str "n") := by rfl
  have look2 : (bnF (.str "n") v0).lookup ("number" : Str) = some v0 := by rfl
  refine ⟨.ref a, rfl, rfl, rfl, dx, bnF (.str "n") v0, .str "n", rfl, e1, look1, .ref a, rfl, rfl, rfl, dx, bnF (.str "n") v0, v0, rfl, e1, look2, v0, d, rfl, Dp.same s1 hv0, hok, by show 2 ≤ sizeLine; decide, fun p hp => ?_⟩
  exact k _ _ (s1.trans (Same.new hp)) (.tup (.inl (.inl upd_same)) (.cons (.str _) (.cons (.str _) .nil)))
end
end Z
set_option Elab.async false
set_option linter.all false
set_option maxRecDepth 100000
set_option maxHeartbeats 4000000
/-! ZV: law. -/
namespace Z
open PySem PySem.Spec L2
open PyProof.Rows hiding St
section
variable {P : Program} {w : World} {K : PySem.W.Frag} {mg : Str → Option Value} {base : Heap} {tM : Tok} {aR : Addr} {H H' : Hp} {σ : St}
/-! ### what the law computes, in plain Lean -/
def lrowsM (b : Body) : Option (List Body) := (lmovesM b).map fun ms => ms.map fun mv => lshapeM (b.filter (fun a => !decide (a = mv.1)) ++ [mv.2])
abbrev Best1 := Int × Body × Body
def lawStep (rows : List (List Body)) (last : List Body) (b : Body) (z : Best1) : Best1 := match last.filter (bodyLt b) with
  | [] => z
  | o :: _ => if decide (z.1 < (rows.length : Int) - 1) = true then ((rows.length : Int) - 1, b, o) else z
def lawGo (nx : NX2) : List Body → Best1 → Option Best1
  | [], z => some z
  | b :: bs, z => match wavesM nx b with
    | none => none
    | some rows => match rows.getLast? with
      | none => none
      | some last => lawGo nx bs (lawStep rows last b z)
def init1 : Best1 := (0, [(0, 0)], [(0, 0)])
/-- nexts as the law makes them: for each shape some list with the rows' members -/
def LNext (lnx : NX2) : Prop := ∀ p ∈ lnx, ∃ rs, lrowsM p.1 = some rs ∧ ∀ o, o ∈ p.2 ↔ o ∈ rs
structure MathN (m : Nat) : Prop where
  okP : ∀ k, k ≤ m - 1 → okB (lapsM k) = true
  okL : ∀ k, k ≤ m - 1 → okB (llapsM k) = true
  ndP : (shapesM m).Nodup
  ndL : (lshapesM m).Nodup
  rows : ∀ b ∈ lshapesM m, ∃ rs, lrowsM b = some rs ∧ rs.length < 64
  far : ∃ nx z, nextsM (shapesM m) = some nx ∧ okN nx = true ∧ farGo nx (shapesM m) none = some (some z) ∧
    ∀ lnx : NX2, lnx.map (·.1) = lshapesM m → LNext lnx → okN lnx = true ∧ lawGo lnx (isort bodyLe (lshapesM m)) init1 = some z
def best1D (z : Best1) : PyData := .tuple [.int z.1, bodyD z.2.1, bodyD z.2.2]
theorem best1_shaped (z : Best1) : SeqAt.shaped (best1D z) = true := by
  have h1 := SeqAt.canLay_of_shaped (body_shaped z.2.1)
  have h2 := SeqAt.canLay_of_shaped (body_shaped z.2.2)
  have d1 := body_depth z.2.1
  have d2 := body_depth z.2.2
  unfold SeqAt.shaped best1D
  simp only [PyData.canLay0, PyData.canLayAll0, h1, h2, PyData.depth, PyData.depthAll, Bool.and_self, Bool.true_and, decide_eq_true_eq]
  exact decide_eq_true (Nat.le_trans (Nat.succ_le_succ (Nat.max_le.mpr ⟨Nat.zero_le 2, Nat.max_le.mpr ⟨d1, Nat.max_le.mpr ⟨d2, Nat.zero_le 2⟩⟩⟩)) (by decide))
theorem best1_eqv (z : Best1) : PyData.eqv (best1D z) (best1D z) = true := by
  unfold best1D
  show (PyData.eqv (.int z.1) (.int z.1) && (PyData.eqv (bodyD z.2.1) (bodyD z.2.1) && (PyData.eqv (bodyD z.2.2) (bodyD z.2.2) && true))) = true
  rw [body_eqv, body_eqv]
  simp [PyData.eqv]
theorem nx_put {d p : Addr} {lnx : NX2} {b : Body} {zs : List Body} {kvs : List (Body × V)} {u : HO} (T : Tab P w K bodyD H d kvs) (pr : Paired (fun kv r => kv.1 = r.1 ∧ RowAt K H kv.2 r.2) kvs lnx) (hb : b ∉ lnx.map (·.1)) (s : Same H H') (hp : OwnL K H' p (zs.map bodyD))
    (T' : Tab P w K bodyD (upd H' d u) d (putK kvs b (.ref p))) : NxTab P w K (upd H' d u) d (lnx ++ [(b, zs)]) := by
  obtain ⟨od, hod, nod⟩ := T.there
  have hod' := s _ _ hod
  have hnone : valV kvs b = none := by
    cases e : valV kvs b with
    | none => rfl
    | some v =>
      have hm := valV_in e
      exfalso
      apply hb
      obtain ⟨kv, hkv, rfl⟩ := List.mem_map.mp hm
      obtain ⟨j, hj⟩ := List.getElem?_of_mem hkv
      obtain ⟨r, hr, e1, _⟩ := paired_get pr hj
      exact List.mem_map.mpr ⟨r, List.mem_of_getElem? hr, e1.symm⟩
  rw [putK_new _ hnone] at T'
  have hs : RowAt K H' (.ref p) zs := ⟨p, rfl, hp⟩
  exact ⟨_, T', Paired.snoc (paired_mono (fun kv r ⟨h1, a, h2, h3⟩ => ⟨h1, RowAt.upd ⟨a, h2, h3.same s⟩ hod' nod⟩) pr) ⟨rfl, hs.upd hod' nod⟩⟩
theorem eqvL_nil (ds : List PyData) : PyData.eqv (.list ds) (.list []) = ds.isEmpty := by cases ds <;> rfl
theorem bodyL_shaped (bs : List Body) : SeqAt.shaped (.list (bs.map bodyD)) = true := bodies_shaped bs
theorem paired_keys {F : (Body × V) → (Body × List Body) → Prop} : ∀ {kvs : List (Body × V)} {nx : NX2}, Paired (fun kv r => kv.1 = r.1 ∧ F kv r) kvs nx → kvs.map (·.1) = nx.map (·.1)
  | _, _, .nil => rfl
  | _, _, .cons h t => by rw [List.map_cons, List.map_cons, h.1, paired_keys t]
theorem sh_in {xs : List Body} {i : Nat} {b : Body} (nd : xs.Nodup) (h : xs[i]? = some b) : b ∉ xs.take i := by
  intro hm
  obtain ⟨j, hj⟩ := List.getElem?_of_mem hm
  have hji : j < i := by
    have := (List.getElem?_eq_some_iff.mp hj).1
    rw [List.length_take] at this
    omega
  rw [List.getElem?_take, if_pos hji] at hj
  have hl := (List.getElem?_eq_some_iff.mp hj).1
  have := (List.getElem?_inj hl nd).mp (hj.trans h.symm)
  omega
abbrev s_law : Stmt := top 48
theorem sc_law : FnScope ["_law_script", "_law_pen_here", "_law_many", "_law_best", "_law_nexts", "_law_shape", "_law_rows", "_law_start", "_law_end", "_law_cell", "_law_others", "_law_other", "_law_odd"] ["_law_script"] (defScope s_law) := ⟨rfl, rfl, rfl, by decide +kernel, rfl, by decide +kernel, by decide +kernel⟩
theorem okFn {x : Str} {st : Stmt} {f : Addr} {fd : FuncData} {N ps : List Str} {k : Nat} {sp : Sp} (F : Fun K x x st f fd) (S : FnScope N ps (defScope st)) (len : ∀ vs H Q E, sp vs H Q E → vs.length = ps.length)
    (body : ∀ (f cdv : Value) (A : Around) (outer : List Env) (s : Shared) (H : Hp) (vs : List V) (Q : VK) (E : XK) (f : Addr), Room k (A.deeper (envOfC x (defScope st) s.heap.objs.size f cdv)) → sp vs H Q E →
      ∃ t, PSs (cxOf CX0 P w K mg base N x (defScope st) f cdv A outer s H E).nox (defBody st) t ∧ t { nx := fun _ H' => Q .non H', rt := Q } (start N vs) H) : FnOk P w K mg base CX0 (k + 1) f fd ps sp :=
  F.ok S len fun cdv A outer s H vs Q E hr q => body (.ref f) cdv A outer s H vs Q E f hr q
def sp_law (K : PySem.W.Frag) : Sp := fun vs H Q _ => ∃ (v : V) (ns : List Int), vs = [v] ∧ Dp K H v (.list (ns.map .int)) ∧ ns.length ≤ 63 ∧ ∀ H', Q (.bl true) H'
theorem ok_law (hM : ∀ m, 1 ≤ m → m ≤ 5 → MathN m) {f : Addr} {fd : FuncData} (T : Glo K mg tM aR) (F : Fun K "law" "law" s_law f fd) (G__law_pen : OkAt P w K mg base 1 "_law_pen" ["_law_script"] (sp_pen K)) (G__law_pick : OkAt P w K mg base 2 "_law_pick" ["_law_pen_here", "_law_some"] (sp_pick K))
    (G__law_nb_shapes : OkAt P w K mg base 2 "_law_nb_shapes" ["_law_many"] (NewSp K R_lshapes)) (G__law_nb_moves : OkAt P w K mg base 4 "_law_nb_moves" ["_law_body"] (NewSp K R_lmoves)) (G__law_nb_shape : OkAt P w K mg base 1 "_law_nb_shape" ["_law_cells"] (Pu K R_lshapeL))
    (G__law_waves : OkAt P w K mg base 1 "_law_waves" ["_law_nexts", "_law_shape"] (sp_waves P w K)) (G_farthest : OkAt P w K mg base 12 "farthest" ["n"] (Pu K R_farthest)) (G__law_refused : OkAt P w K mg base 5 "_law_refused" ["_law_n"] (Pu K R_refused)) :
    FnOk P w K mg base CX0 13 f fd ["_law_script"] (sp_law K) := by
  refine okFn F sc_law (fun vs H Q E h => by obtain ⟨v, ns, rfl, _⟩ := h; rfl) (fun _ cdv A outer s H vs Q E f hr q => ?_)
  obtain ⟨v0, ns, rfl, hv0, hlen, post⟩ := q
  have hu := hr.units
  have hu5 := hu65 hr
  have hu1 := hu1_of hr
  refine ⟨_, (pss_cons (ps_set (i := 1) sc_law.nd rfl (Or.inl rfl) (pe_callO G__law_pen (hr.mono (by decide)) rfl (pa_cons (pv 0) pa_nil)))
      (pss_cons (ps_set (i := 2) sc_law.nd rfl (Or.inl rfl) (pe_callO G__law_pick (hr.mono (by decide)) rfl (pa_cons (pv 1) (pa_cons (pe_lst (pa_cons pe_int (pa_cons pe_int (pa_cons pe_int (pa_cons pe_int (pa_cons pe_int (pa_cons pe_int (pa_cons pe_int (pa_cons pe_int (pa_cons pe_int (pa_cons pe_int pa_nil))))))))))) pa_nil))))
      (pss_cons (ps_par (i := 3) (j := 4) rfl sc_law.nd rfl rfl (by decide) rfl rfl (pa_cons (pe_tup (pa_cons pe_int (pa_cons (pe_tup (pa_cons (pe_tup (pa_cons pe_int (pa_cons pe_int pa_nil))) pa_nil)) (pa_cons (pe_tup (pa_cons (pe_tup (pa_cons pe_int (pa_cons pe_int pa_nil))) pa_nil)) pa_nil)))) (pa_cons pe_newN pa_nil)) rfl)
      (pss_cons (ps_for PassesOwn.never rfl (show PI _ _ _ (iList K _) from pi_list (pe_callO G__law_nb_shapes (hr.mono (by decide)) rfl (pa_cons (pv 2) pa_nil))) (pg_name (i := 5) sc_law.nd rfl (Or.inr rfl))
      (pss_cons (ps_set (i := 6) sc_law.nd rfl (Or.inl rfl) (pe_lst pa_nil))
      (pss_cons (ps_for PassesOwn.never rfl (show PI _ _ _ (iList K _) from pi_list (pe_callO G__law_nb_moves (hr.mono (by decide)) rfl (pa_cons (pv 5) pa_nil))) (show PG _ _ (gTup K 2 (gCons (gName 7) (gCons (gName 8) gNil))) from pg_tup rfl (pgs_cons (pg_name (i := 7) sc_law.nd rfl (Or.inr rfl)) (pgs_cons (pg_name (i := 8) sc_law.nd rfl (Or.inl rfl)) pgs_nil)))
      (pss_one (ps_expr (pe_bm PySem.F.plainAttrs_list PySem.F.slot_list_append PySem.F.type_list_append mt_append (pv 6) (pa_cons (pe_callO G__law_nb_shape (hr.mono (by decide)) rfl (pa_cons (pe_op (show OpR _ _ (rCatL K) from op_catL) (pe_lc (own := [("_law_cell", 9)]) (g := gName 9) rfl sc_law.nd (show PI _ _ _ (iTup K _) from pi_tup (pv 5)) (blkOk_by (N := ["_law_script", "_law_pen_here", "_law_many", "_law_best", "_law_nexts", "_law_shape", "_law_rows", "_law_start", "_law_end", "_law_cell", "_law_others", "_law_other", "_law_odd"]) (sc := defScope s_law) (by decide +kernel)) (fun _ _ _ _ _ => (pg_name (i := 9) sc_law.nd rfl (Or.inl rfl))) (fun _ _ _ _ _ => (pts_one (pt_cmpR (show OpR _ _ (rNeD K) from op_neD hu) (pv 9) (pv 7) (nomark _)))) (fun _ _ _ _ _ => (pv 9))) (pe_lst (pa_cons (pv 8) pa_nil))) pa_nil)) pa_nil)))))
      (pss_one (ps_asg (pe_callB (show CallR _ _ (rSortedB P w K) from cr_sortedB rfl hu) (by rfl) T.sorted zb_sorted (pa_cons (pe_callTy (show CallR _ _ (rSetB P w K) from cr_setB rfl hu) (by rfl) T.set zb_set (pa_cons (pv 6) pa_nil)) pa_nil)) (pg_sub (pv 4) (pv 5) (show PSet _ (tSetN P w K bodyD) from set_N bodyK hu)))))))
      (pss_cons (ps_for PassesOwn.never rfl (show PI _ _ _ (iList K _) from pi_list (pe_callB (show CallR _ _ (rSortedN P w K bodyD) from cr_sortedN rfl hu) (by rfl) T.sorted zb_sorted (pa_cons (pv 4) pa_nil))) (pg_name (i := 5) sc_law.nd rfl (Or.inr rfl))
      (pss_cons (ps_set (i := 6) sc_law.nd rfl (Or.inl rfl) (pe_callO G__law_waves (hr.mono (by decide)) rfl (pa_cons (pv 4) (pa_cons (pv 5) pa_nil))))
      (pss_cons (ps_setLc (i := 10) (own := [("_law_other", 11)]) (g := gName 11) rfl sc_law.nd rfl rfl (sw_true rfl rfl rfl (by decide +kernel)) (show PI _ _ _ (iList K _) from pi_list (pe_ix (show IxR _ (rIxL K) from ix_list) (pv 6) (pe_un un_neg pe_int) (fun _ _ => rfl))) (blkOk_by (N := ["_law_script", "_law_pen_here", "_law_many", "_law_best", "_law_nexts", "_law_shape", "_law_rows", "_law_start", "_law_end", "_law_cell", "_law_others", "_law_other", "_law_odd"]) (sc := defScope s_law) (by decide +kernel)) (fun _ _ _ _ _ => (pg_name (i := 11) sc_law.nd rfl (Or.inl rfl))) (fun _ _ _ _ _ => (pts_one (pt_cmpR (show OpR _ _ (rGtD K) from op_gtD hu) (pv 11) (pv 5) (nomark _)))) (fun _ _ _ _ _ => (pv 11)))
      (pss_one (ps_if (PW.pt (pw_and (pt_cmpR op_gt (pe_op op_sub (pe_callB (show CallR _ _ (rLen K) from call_len_seq) (by rfl) T.len zb_len (pa_cons (pv 6) pa_nil)) pe_int) (pe_ix (show IxR _ (rIxT K) from ix_tup) (pv 3) pe_int (fun _ _ => rfl)) (nomark _)) (pw_and1 (pt_cmpR (show OpR _ _ (rNeD K) from op_neD hu) (pv 10) (pe_lst pa_nil) (nomark _))))) (pss_one (ps_set (i := 3) sc_law.nd rfl (Or.inl rfl) (pe_tup (pa_cons (pe_op op_sub (pe_callB (show CallR _ _ (rLen K) from call_len_seq) (by rfl) T.len zb_len (pa_cons (pv 6) pa_nil)) pe_int) (pa_cons (pv 5) (pa_cons (pe_ix (show IxR _ (rIxL K) from ix_list) (pv 10) pe_int (fun _ _ => rfl)) pa_nil)))))) pss_nil)))))
      (pss_cons (ps_set (i := 12) sc_law.nd rfl (Or.inl rfl) (pe_callO G__law_pick (hr.mono (by decide)) rfl (pa_cons (pv 1) (pa_cons (pe_lst (pa_cons pe_non (pa_cons pe_int (pa_cons pe_int (pa_cons pe_int (pa_cons (pe_un un_neg pe_int) (pa_cons pe_bl (pa_cons pe_str pa_nil)))))))) pa_nil))))
      (pss_one (ps_ret (pe_and (pe_cmpR (show OpR _ _ (rEqD K) from op_eqD hu) (pe_callO G_farthest (hr.mono (by decide)) rfl (pa_cons (pv 2) pa_nil)) (pv 3) (nomark _)) (pe_one (pe_cmpR (show OpR _ _ (rEqD K) from op_eqD hu) (pe_callO G__law_refused (hr.mono (by decide)) rfl (pa_cons (pv 12) pa_nil)) (pe_tup (pa_cons pe_str (pa_cons (pe_callB (show CallR _ _ (rRepr K) from cr_repr) (by rfl) T.repr zb_repr (pa_cons (pv 12) pa_nil)) pa_nil))) (nomark _)))))))))))), ?_⟩
  have A0 : Al K H [.raw v0, .no, .no, .no, .no, .no, .no, .no, .no, .no, .no, .no, .no] (L2.start ["_law_script", "_law_pen_here", "_law_many", "_law_best", "_law_nexts", "_law_shape", "_law_rows", "_law_start", "_law_end", "_law_cell", "_law_others", "_law_other", "_law_odd"] [v0]) := .cons rfl (Al.no 12)
  dsimp only [tSeq]
  -- the pen
  refine ⟨v0, rfl, v0, ns, rfl, hv0, by omega, fun p H1 fo hp s1 pen1 ok1 => ?_⟩
  have A1 := (A0.same s1).putR (v := .ref p) 1
  -- how many
  refine ⟨.ref p, A1.getR (i := 1) rfl, by show 10 ≤ sizeLine; decide, fun sl hsl => ?_⟩
  have s1b : Same H1 (upd H1 sl (.lst [.int 1, .int 2, .int 3, .int 3, .int 4, .int 4, .int 4, .int 4, .int 4, .int 5])) := Same.new hsl
  refine ⟨p, sl, [.int 1, .int 2, .int 3, .int 3, .int 4, .int 4, .int 4, .int 4, .int 4, .int 5], ns, 0, 0, 0, fo, rfl, upd_same, by decide, by decide, pen1.same s1b, ok1, by decide, fun r vm H2 a2 d2 f2 hvm b2 pen2 ok2 => ?_⟩
  obtain ⟨m, hm1, hm5, rfl⟩ : ∃ m : Nat, 1 ≤ m ∧ m ≤ 5 ∧ vm = .int m := by
    have hmem := List.mem_of_getElem? hvm
    simp only [List.mem_cons, List.not_mem_nil, or_false] at hmem
    rcases hmem with rfl | rfl | rfl | rfl | rfl | rfl | rfl | rfl | rfl | rfl
    · exact ⟨1, by decide, by decide, rfl⟩
    · exact ⟨2, by decide, by decide, rfl⟩
    · exact ⟨3, by decide, by decide, rfl⟩
    · exact ⟨3, by decide, by decide, rfl⟩
    · exact ⟨4, by decide, by decide, rfl⟩
    · exact ⟨4, by decide, by decide, rfl⟩
    · exact ⟨4, by decide, by decide, rfl⟩
    · exact ⟨4, by decide, by decide, rfl⟩
    · exact ⟨4, by decide, by decide, rfl⟩
    · exact ⟨5, by decide, by decide, rfl⟩
  have M := hM m hm1 hm5
  have tkp : TKp K (upd H1 sl (.lst [.int 1, .int 2, .int 3, .int 3, .int 4, .int 4, .int 4, .int 4, .int 4, .int 5])) H2 := b2.tk fun x hx o ho => by
    rw [List.mem_singleton] at hx
    subst hx
    obtain ⟨c, _, e, _⟩ := pen1.same s1b
    rw [e] at ho; cases ho; rfl
  have A2 := (((A1.same s1b).keepT tkp rfl).put (d := .int m) (v := .int m) (.int _) 2).wk (b := [.no, .raw (.ref p), .dat (.int m), .no, .no, .no, .no, .no, .no, .no, .no, .no, .no]) (by repeat (first | exact Wk.nil | apply Wk.keep | apply Wk.drop))
  dsimp only [tSeq]
  -- best, nexts
  refine par_open ?_
  refine (ev_tup (K := K) (ds := [.int 0, bodyD [(0, 0)], bodyD [(0, 0)]]) (ea_cons ev_int (ea_cons (ev_tup (ds := [cellD (0, 0)]) (ea_cons (ev_cell ev_int ev_int) ea_nil) (by show 1 ≤ sizeLine; decide)) (ea_cons (ev_tup (ds := [cellD (0, 0)]) (ea_cons (ev_cell ev_int ev_int) ea_nil) (by show 1 ≤ sizeLine; decide)) ea_nil))) (by show 3 ≤ sizeLine; decide)) H2 (Same.refl _) _ fun vb H3 s3 hvb => ?_
  refine cons_open ?_
  refine ed_new (K := K) bodyK H3 (Same.refl _) _ fun d H4 hd s4 T4 => ?_
  refine ⟨vb, .ref d, rfl, ?_⟩
  have hd2 : H2 d = none := s3.free hd
  have A4 := (((A2.same s3).same s4).put (d := best1D init1) (Dp.same s4 hvb) 3).putR (v := .ref d) 4
  dsimp only [tSeq]
  have okL0 := okB_of (M.okL (m - 1) (Nat.le_refl _))
  have lsh : (lshapesM m).length ≤ 900 := by unfold lshapesM; rw [isort_length]; exact okL0.1
  have shb : ∀ b ∈ lshapesM m, b ≠ [] ∧ b.length ≤ 100 := fun b hb => okL0.2 b (mem_isort.mp hb)
  have s24 := s3.trans s4
  -- for shape in shapes
  refine st_forN (ds := (lshapesM m).map bodyD) (en_call (ea_cons (ev_var (i := 2) A4 rfl) ea_nil) ⟨m, rfl, hm1, by omega, M.okL, rfl⟩) (flatAll_bodies _) fun pl xs5 H5 hpl s5 hxs5 => ?_
  have T5 := T4.same s5
  have npd : pl ≠ d := fun z => by
    obtain ⟨o, e, _⟩ := T4.there
    rw [z, e] at hpl; cases hpl
  have tkd : ∀ {Ha Hb : Hp} {kvs : List (Body × V)}, Tab P w K bodyD Ha d kvs → But [d] Ha Hb → TKp K Ha Hb := fun {Ha Hb kvs} Ta bb => bb.tk fun a ha o ho => by
    rw [List.mem_singleton] at ha
    subst ha
    obtain ⟨x', e', l'⟩ := tab_loose Ta
    rw [e'] at ho; cases ho; exact l'
  let I : Nat → St → Hp → Prop := fun i σ' H' => ∃ lnx : NX2, lnx.map (·.1) = (lshapesM m).take i ∧ LNext lnx ∧ NxTab P w K H' d lnx ∧ But [d] H5 H' ∧ Al K H' [.no, .raw (.ref p), .dat (.int m), .dat (best1D init1), .raw (.ref d), .no, .no, .no, .no, .no, .no, .no, .no] σ'
  refine ⟨I, ⟨[], rfl, fun p hp => (nomatch hp), ⟨[], T5, .nil⟩, But.refl, (A4.same s5).wk (by repeat (first | exact Wk.nil | apply Wk.keep | apply Wk.drop))⟩, fun i σ' H' ⟨_, _, _, _, bb, _⟩ => ⟨tkd T5 bb, bb _ _ hxs5 (by simp [npd])⟩, fun i x v6 σ' H6 hx ⟨lnx, hkeys, hln, hnx, b6, A6⟩ hv6 => ?_, fun σ' H6 ⟨lnx, hkeys, hln, hnx, b6, A6⟩ => ?_⟩
  · obtain ⟨b, hb, rfl⟩ := map_at hx
    have hbm := List.mem_of_getElem? hb
    obtain ⟨hbn, hbl⟩ := shb b hbm
    obtain ⟨rs, hrs, hrl⟩ := M.rows b hbm
    obtain ⟨ms, hms, rfl⟩ := Option.map_eq_some_iff.mp hrs
    have A7 := A6.put hv6 5
    dsimp only [tSeq]
    -- rows = []
    refine st_nil fun l H7 hl e7 => ?_
    have s7 : Same H6 H7 := e7 ▸ Same.new hl
    have ol7 : OwnL K H7 l (([] : List Body).map bodyD) := ⟨[], by rw [e7]; exact upd_same, .nil⟩
    have A8 := (A7.same s7).putR (v := .ref l) 6
    let f : Move → Body := fun mv => lshapeM (b.filter (fun a => !decide (a = mv.1)) ++ [mv.2])
    refine st_forN (ds := ms.map sideD) (en_call (ea_cons (ev_var (i := 5) A8 rfl) ea_nil) ⟨b, ms, rfl, by omega, hms, rfl⟩) (moves_flat _) fun pm xs9 H9 hpm s9 hxs9 => ?_
    have npl : pm ≠ l := fun z => by
      obtain ⟨y, e, _⟩ := ol7
      rw [z, e] at hpm; cases hpm
    have ol9 := ol7.same s9
    let J : Nat → St → Hp → Prop := fun j σ2 H2 => OwnL K H2 l (((ms.take j).map f).map bodyD) ∧ But [l] H9 H2 ∧ Al K H2 [.no, .raw (.ref p), .dat (.int m), .dat (best1D init1), .raw (.ref d), .dat (bodyD b), .raw (.ref l), .no, .no, .no, .no, .no, .no] σ2
    have tkl : ∀ {Hb : Hp}, But [l] H9 Hb → TKp K H9 Hb := fun {Hb} bb => bb.tk fun a ha o ho => by
      rw [List.mem_singleton] at ha
      subst ha
      obtain ⟨x', e', _⟩ := ol9
      rw [e'] at ho; cases ho; rfl
    refine ⟨J, ⟨ol9, But.refl, (A8.same s9).wk (by repeat (first | exact Wk.nil | apply Wk.keep | apply Wk.drop))⟩, fun j σ2 H2 ⟨_, bb, _⟩ => ⟨tkl bb, bb _ _ hxs9 (by simp [npl])⟩, fun j y v10 σ2 H10 hy ⟨o10, b10, A10⟩ hv10 => ?_, fun σ2 H10 ⟨o10, b10, A10⟩ => ?_⟩
    · obtain ⟨mv, hmv, rfl⟩ := map_at hy
      have hj : j < ms.length := (List.getElem?_eq_some_iff.mp hmv).1
      refine g_pair (d1 := cellD mv.1) (d2 := cellD mv.2) hv10 fun p1 p2 hp1 hp2 => ?_
      have A11 := (A10.put hp1 7).put hp2 8
      have lc := en_tupF (xs := b) (enc := cellD) (p := fun a => !decide (a = mv.1)) (f := cellD) (tl := tVar 5) (g := gName 9) (vs := [9]) (tt := tTest (tOp (rNeD K) (tVar 9) (tVar 7))) (te := tVar 9) (small (by omega)) (fun x _ => cell_flat x) (ev_var (i := 5) A11 rfl) fun y _ => turn_name A11 (wipe_set1 _ _) fun σ5 H12 s12 A12 =>
        ⟨et_test (ev_op (ev_var (i := 9) A12 rfl) (ev_var (i := 7) A12 rfl) rd_neC), fun _ => ev_var (i := 9) A12 rfl⟩
      have lflt := List.length_filter_le (fun a => !decide (a = mv.1)) b
      have cat := (en_catL lc.d (en_lst (ds := [mv.2].map cellD) (ea_cons (ev_var (i := 8) A11 rfl) ea_nil) (by show 1 ≤ sizeLine; decide)).d (by
        rw [List.length_map, List.length_map, List.length_singleton]
        have : (1000 : Nat) ≤ sizeLine := by decide
        omega)).is (es := (b.filter (fun a => !decide (a = mv.1)) ++ [mv.2]).map cellD) (by rw [List.map_append])
      have stp : (ms.take (j + 1)).map f = (ms.take j).map f ++ [f mv] := by
        rw [List.take_add_one, hmv, List.map_append]
        rfl
      refine st_appD (d := bodyD (f mv)) (er_var (i := 6) A11 rfl) o10 (flatAll_bodies _) (body_flat _) (by rw [List.length_map, List.length_map, List.length_take]; exact small (by rw [List.length_map] at hrl; omega)) (ev_call (ea_cons cat.d ea_nil) ⟨_, rfl, by rw [List.length_append, List.length_singleton]; omega, fun z => ?_, rfl⟩) fun H12 ys12 s12 e12 o12 => ?_
      · have := congrArg List.length z
        rw [List.length_append, List.length_singleton, List.length_nil] at this
        omega
      · obtain ⟨z10, hz10, _⟩ := id o10
        have q12 := s12 _ _ hz10
        have tk12 : TKp K H12 (upd H12 l (.lst ys12)) := TKp.upd q12 rfl
        refine ⟨?_, (b10.trans (Same.but s12)).upd (.inl (by simp)), ((A11.same s12).keepT tk12 (by simp [flatE, body_flat, cell_flat, flat, flatAll, best1D])).wk (by repeat (first | exact Wk.nil | apply Wk.keep | apply Wk.drop))⟩
        rw [stp, List.map_append]
        exact o12
    · rw [List.length_map, List.take_length] at o10
      have b610 : But [l] H6 H10 := (Same.but (s7.trans s9)).trans b10
      have s610 : Same H6 H10 := b610.same fun x hx => by rw [List.mem_singleton] at hx; rw [hx]; exact hl
      have hfn : ∀ o ∈ ms.map f, o ≠ [] := fun o ho z => by
        obtain ⟨mv, _, rfl⟩ := List.mem_map.mp ho
        have := congrArg List.length z
        show False
        unfold f lshapeM at this
        rw [isort_length, List.length_map, List.length_append, List.length_singleton, List.length_nil] at this
        omega
      refine en_sortedSet (ev_of (er_var (i := 6) A10 rfl) o10.dp) hrl hfn H10 (Same.refl _) _ fun p11 ys11 zs H11 hp11 s11 e11 d11 hzs => ?_
      obtain ⟨kvs, Tk, pr⟩ := hnx.same s610
      have A11 := A10.same s11
      obtain ⟨vb5, eb5, dvb5⟩ := A11.get (i := 5) rfl
      refine ⟨.ref d, A11.getR (i := 4) rfl, vb5, eb5, d, kvs, b, rfl, Tk.same s11, dvb5, ?_, fun u hu T' => ?_⟩
      · have := pr.length
        have hkl := congrArg List.length hkeys
        rw [List.length_map, List.length_take] at hkl
        exact small (by omega)
      · have hnb : b ∉ lnx.map (·.1) := by rw [hkeys]; exact sh_in M.ndL hb
        have tkf : TKp K H11 (upd H11 d u) := by
          obtain ⟨o, e, n⟩ := (Tk.same s11).there
          exact TKp.upd e (loose_of n)
        refine ⟨lnx ++ [(b, zs)], ?_, fun q hq => ?_, nx_put Tk pr hnb s11 ⟨ys11, e11, d11⟩ T', ((b6.trans (Same.but (s610.trans s11))).upd (.inl (by simp))), ((A11.keepT tkf (by simp [flatE, body_flat, cell_flat, flat, flatAll, best1D])).wk (by repeat (first | exact Wk.nil | apply Wk.keep | apply Wk.drop)))⟩
        · rw [List.map_append, hkeys, List.take_add_one, hb]
          rfl
        · rcases List.mem_append.mp hq with hq | hq
          · exact hln q hq
          · rw [List.mem_singleton] at hq
            subst hq
            exact ⟨_, hrs, hzs⟩
  · rw [List.length_map, List.take_length] at hkeys
    obtain ⟨kvs, Tk, pr⟩ := id hnx
    have S26 : Same H2 H6 := ((Same.but (s24.trans s5)).trans b6).same fun x hx => by rw [List.mem_singleton] at hx; rw [hx]; exact hd2
    obtain ⟨nx, fin, hnxs, hokN, hfar, hlaw⟩ := M.far
    obtain ⟨hokL, hgoL⟩ := hlaw lnx hkeys hln
    have ek : kvs.map (fun p => bodyD p.1) = (lshapesM m).map bodyD := by
      rw [← hkeys, ← paired_keys pr, List.map_map]
      rfl
    have bo := bodies_ok fun b hb => (shb b hb).1
    dsimp only [tSeq]
    refine st_forN (ds := (isort bodyLe (lshapesM m)).map bodyD) ((en_sortedN (er_var (i := 4) A6 rfl) Tk (by rw [ek]; exact bo)).is (es := (isort bodyLe (lshapesM m)).map bodyD) (by rw [ek]; exact sort_bodies _)) (flatAll_bodies _) fun p7 xs7 H7 hp7 s7 hxs7 => ?_
    generalize hbs : isort bodyLe (lshapesM m) = bs at hgoL
    have bsb : ∀ b ∈ bs, b ≠ [] := fun b hb => (shb b (mem_isort.mp (hbs ▸ hb))).1
    let I2 : Nat → St → Hp → Prop := fun i σ' H' => ∃ z, lawGo lnx (bs.drop i) z = some fin ∧ Al K H' [.no, .raw (.ref p), .dat (.int m), .dat (best1D z), .raw (.ref d), .no, .no, .no, .no, .no, .no, .no, .no] σ' ∧ Same H7 H'
    refine ⟨I2, ⟨init1, hgoL, (A6.same s7).wk (by repeat (first | exact Wk.nil | apply Wk.keep | apply Wk.drop)), Same.refl _⟩, fun i σ' H' ⟨_, _, _, sm⟩ => ⟨TKp.same sm, sm _ _ hxs7⟩, fun i x v σ' H' hx ⟨z, hgo, A8, sm⟩ hv => ?_, fun σ' H' ⟨z, hgo, A8, sm⟩ => ?_⟩
    · obtain ⟨b, hb, rfl⟩ := map_at hx
      have hbn := bsb b (List.mem_of_getElem? hb)
      have ed : bs.drop i = b :: bs.drop (i + 1) := by
        obtain ⟨h1, h2⟩ := List.getElem?_eq_some_iff.mp hb
        rw [List.drop_eq_getElem_cons h1, h2]
      rw [ed, lawGo] at hgo
      cases hw : wavesM lnx b with
      | none => rw [hw] at hgo; cases hgo
      | some rows =>
        rw [hw] at hgo
        cases hl : rows.getLast? with
        | none => simp only [hl] at hgo; cases hgo
        | some last =>
          simp only [hl] at hgo
          obtain ⟨init, rfl⟩ : ∃ init, rows = init ++ [last] := List.getLast?_eq_some_iff.mp hl
          have A9 := A8.put hv 5
          have nx9 := hnx.same (s7.trans sm)
          show tSeq _ _ _ _ _
          dsimp only [tSeq]
          refine st_set (ev_waves (er_var (i := 4) A9 rfl) nx9 (ev_var (i := 5) A9 rfl) hokL hbn hw) fun x10 H10 s10 hx10 => ?_
          have A10 := (A9.same s10).put hx10 6
          have lrow : Evd K (tOp (rIxL K) (tVar 6) (tUn (rU fun i => .int (-i)) (tC (.int 1)))) _ H10 (.list (last.map bodyD)) := ev_op (ev_var (i := 6) A10 rfl) (ev_un ev_int ru_U) (rd_ixL (atI_mapLast init last))
          have llen : last.length < sizeLine := by
            obtain ⟨r, hrun, h1, h2, lst, hrev⟩ := wavesM_run hw
            have := wvRun_rows hrun (by simp) last (by
              rw [← List.mem_reverse, hrev]
              simp)
            exact small (by omega)
          refine st_setN (en_listF (xs := last) (enc := bodyD) (p := fun o => bodyLt b o) (f := bodyD) llen (fun x _ => body_flat x) lrow fun x _ => turn_name A10 (wipe_set1 _ _) fun σ2 H11 s11 A11 => ⟨et_test (ev_op (ev_var (i := 11) A11 rfl) (ev_var (i := 5) A11 rfl) rd_gtB), fun _ => ev_var (i := 11) A11 rfl⟩) fun p11 ys11 H11 hp11 s11 e11 d11 => ?_
          have A11 := (A10.same s11).put (v := .ref p11) (d := .list ((last.filter (bodyLt b)).map bodyD)) (.lst (.inl (.inl e11)) d11) 10
          have s711 := sm.trans (s10.trans s11)
          have hlen11 : ∀ {H9 : Hp} {σ9 : St}, Al K H9 [.no, .raw (.ref p), .dat (.int m), .dat (best1D z), .raw (.ref d), .dat (bodyD b), .dat (rowsD (init ++ [last])), .no, .no, .no, .dat (.list ((last.filter (bodyLt b)).map bodyD)), .no, .no] σ9 →
              Evd K (tOp (rI0 fun i j => .int (i - j)) (tCB (rLen K) (tCons (tVar 6) tNil)) (tC (.int 1))) σ9 H9 (.int (((init ++ [last]).length : Int) - 1)) := fun {H9 σ9} A9 => by
            have := ev_op (ev_cb (ea_cons (ev_var (i := 6) A9 rfl) ea_nil) (rc_len (ds := (init ++ [last]).map fun r => .list (r.map bodyD)))) (ev_int (i := 1)) (rd_I0 (g := fun i j => i - j))
            rw [List.length_map] at this
            exact this
          have tst : EvT (tAnd (tTest (tOp (rI0 fun i j => .bl (decide (j < i))) (tOp (rI0 fun i j => .int (i - j)) (tCB (rLen K) (tCons (tVar 6) tNil)) (tC (.int 1))) (tOp (rIxT K) (tVar 3) (tC (.int 0))))) (tTest (tOp (rNeD K) (tVar 10) (tLst tNil)))) (((σ'.set 5 (some v)).set 6 (some x10)).set 10 (some (.ref p11))) H11 (decide (z.1 < ((init ++ [last]).length : Int) - 1) && !((last.filter (bodyLt b)).map bodyD).isEmpty) := by
            refine et_and (et_test (ev_op (hlen11 A11) (ev_op (ev_var (i := 3) A11 rfl) ev_int (rd_ixT (i := 0) (z := .int z.1) rfl)) rd_B0)) fun _ => et_test (ev_op (ev_var (i := 10) A11 rfl) (en_lst (ds := []) ea_nil (by show 0 ≤ sizeLine; decide)).d (rd_ne (bodyL_shaped _) rfl (by rw [eqvL_nil])))
          refine st_if tst (fun hb9 H12 s12 => ?_) fun hb9 H12 s12 => ?_
          · rw [Bool.and_eq_true, isEmpty_map] at hb9
            cases ho : last.filter (bodyLt b) with
            | nil => rw [ho] at hb9; cases hb9.2
            | cons o os =>
              have A12 := A11.same s12
              rw [ho] at A12
              have ef : lawStep (init ++ [last]) last b z = (((init ++ [last]).length : Int) - 1, b, o) := by
                unfold lawStep
                rw [ho]
                show (if _ = true then _ else _) = _
                rw [if_pos hb9.1]
              rw [ef] at hgo
              refine st_set (d := best1D (((init ++ [last]).length : Int) - 1, b, o)) (ev_tup (ea_cons (hlen11 (A11.same s12)) (ea_cons (ev_var (i := 5) A12 rfl) (ea_cons (ev_op (ev_var (i := 10) A12 rfl) ev_int (rd_ixL (i := 0) (z := bodyD o) (atI_nat (j := 0) rfl))) ea_nil)))) fun x13 H13 s13 hx13 => ?_
              exact ⟨_, hgo, ((A12.same s13).put hx13 3).wk (by repeat (first | exact Wk.nil | apply Wk.keep | apply Wk.drop)), s711.trans (s12.trans s13)⟩
          · have ef : lawStep (init ++ [last]) last b z = z := by
              unfold lawStep
              cases ho : last.filter (bodyLt b) with
              | nil => rfl
              | cons o os =>
                rw [ho, List.map_cons, List.isEmpty_cons, Bool.not_false, Bool.and_true] at hb9
                show (if _ = true then _ else _) = _
                rw [if_neg (by rw [hb9]; decide)]
            rw [ef] at hgo
            exact ⟨z, hgo, (A11.same s12).wk (by repeat (first | exact Wk.nil | apply Wk.keep | apply Wk.drop)), s711.trans s12⟩
    · rw [List.length_map, List.drop_of_length_le (Nat.le_refl _)] at hgo
      cases hgo
      dsimp only [tSeq]
      have S2 := S26.trans (s7.trans sm)
      have pen3 := pen2.same S2
      refine ⟨.ref p, A8.getR (i := 1) rfl, 1, rfl, by show 7 ≤ sizeLine; decide, fun sq hsq => ?_⟩
      have s3b : Same H' (upd H' sq (.lst [.non, .int 0, .int 6, .int 7, .int (-1), .bl false, .str "2"])) := Same.new hsq
      refine ⟨p, sq, [.non, .int 0, .int 6, .int 7, .int (-1), .bl false, .str "2"], ns, a2, d2, 0 + 1, f2, rfl, upd_same, by decide, by decide, pen3.same s3b, ok2, by decide, fun r3 vo H14 a4 d4 f4 hvo b14 pen4 ok4 => ?_⟩
      obtain ⟨od, hod, hsc, hbt, hrp, hsh, heq⟩ : ∃ od, Dp K H14 vo od ∧ Scal od ∧ betw od 1 5 = false ∧ reprOk od ∧ SeqAt.shaped (.tuple [.str "n", .str (reprD od)]) = true ∧ PyData.eqv (.tuple [.str "n", .str (reprD od)]) (.tuple [.str "n", .str (reprD od)]) = true := by
        have hmem := List.mem_of_getElem? hvo
        simp only [List.mem_cons, List.not_mem_nil, or_false] at hmem
        rcases hmem with rfl | rfl | rfl | rfl | rfl | rfl | rfl
        · exact ⟨.none, .non, trivial, rfl, trivial, by decide +kernel, by decide +kernel⟩
        · exact ⟨.int (0), .int _, trivial, rfl, by show Nat.log2 (Int.natAbs (0)) < 1920; decide +kernel, by decide +kernel, by decide +kernel⟩
        · exact ⟨.int (6), .int _, trivial, rfl, by show Nat.log2 (Int.natAbs (6)) < 1920; decide +kernel, by decide +kernel, by decide +kernel⟩
        · exact ⟨.int (7), .int _, trivial, rfl, by show Nat.log2 (Int.natAbs (7)) < 1920; decide +kernel, by decide +kernel, by decide +kernel⟩
        · exact ⟨.int (-1), .int _, trivial, rfl, by show Nat.log2 (Int.natAbs (-1)) < 1920; decide +kernel, by decide +kernel, by decide +kernel⟩
        · exact ⟨.bool false, .bl _, trivial, rfl, trivial, by decide +kernel, by decide +kernel⟩
        · exact ⟨.str "2", .str _, trivial, rfl, by show (reprText "2").length ≤ sizeLine; decide +kernel, by decide +kernel, by decide +kernel⟩
      have tk14 : TKp K (upd H' sq (.lst [.non, .int 0, .int 6, .int 7, .int (-1), .bl false, .str "2"])) H14 := b14.tk fun x hx o ho => by
        rw [List.mem_singleton] at hx
        subst hx
        obtain ⟨c, _, e, _⟩ := pen3.same s3b
        rw [e] at ho; cases ho; rfl
      have A14 := (((A8.same s3b).keepT tk14 (by simp [flatE, body_flat, cell_flat, flat, flatAll, best1D])).put hod 12)
      refine st_ret (ev_andV (b := true) (c := true) (ev_op (ev_call (z := bestD (some fin)) (ea_cons (ev_var (i := 2) A14 rfl) ea_nil) ⟨m, nx, some fin, rfl, hm1, hm5, M.okP, M.ndP, hnxs, hokN, hfar, rfl⟩) (ev_var (i := 3) A14 rfl) (rd_eq (best1_shaped fin) (best1_shaped fin) (best1_eqv fin))) fun _ => ?_) fun v5 H5 s5 hv5 => ?_
      · exact ev_op (ev_call (z := .tuple [.str "n", .str (reprD od)]) (ea_cons (ev_var (i := 12) A14 rfl) ea_nil) ⟨od, rfl, hsc, hbt, hrp, rfl⟩) (ev_tup (ds := [.str "n", .str (reprD od)]) (ea_cons ev_str (ea_cons (ev_cb (ea_cons (ev_var (i := 12) A14 rfl) ea_nil) (rc_repr hrp)) ea_nil)) (by show 2 ≤ sizeLine; decide)) (rd_eq hsh hsh heq)
      · cases hv5
        exact post H5
end
end Z
set_option Elab.async false
set_option linter.all false
set_option maxRecDepth 100000
set_option maxHeartbeats 4000000
/-! ZW: the wave of a body depends on the sets of followers only; the program's choice is the law's. -/
namespace Z
open PySem PySem.Spec L2
open PyProof.Rows hiding St
/-! ### the order of bodies -/
theorem bodyLe_trans (a b c : Body) : bodyLe a b = true → bodyLe b c = true → bodyLe a c = true := by
  have T := PySem.W.sortLe_total (PyProof.Rows.listOrd PyProof.Rows.itemOrd) false (fun d : PyData => PySem.W.keyToks d)
  rw [← body_le, ← body_le, ← body_le]
  exact T.trans _ _ _
theorem bodyLe_total (a b : Body) : (bodyLe a b || bodyLe b a) = true := by
  have T := PySem.W.sortLe_total (PyProof.Rows.listOrd PyProof.Rows.itemOrd) false (fun d : PyData => PySem.W.keyToks d)
  rw [← body_le, ← body_le]
  rcases T.total (bodyD a) (bodyD b) with z | z <;> simp [PySem.W.dataLe, z]
theorem bodyLt_tri : ∀ a b : Body, bodyLt a b = false → bodyLt b a = false → a = b
  | [], [], _, _ => rfl
  | [], _ :: _, h, _ => by cases h
  | _ :: _, [], _, h => by cases h
  | x :: xs, y :: ys, h1, h2 => by
    unfold bodyLt at h1 h2
    by_cases e : x = y
    · subst e
      rw [if_pos rfl] at h1 h2
      rw [bodyLt_tri xs ys h1 h2]
    · exfalso
      rw [if_neg e] at h1
      rw [if_neg (Ne.symm e)] at h2
      unfold cellLt at h1 h2
      have h1 := of_decide_eq_false h1
      have h2 := of_decide_eq_false h2
      apply e
      apply Prod.ext <;> omega
theorem bodyLe_anti {a b : Body} (h1 : bodyLe a b = true) (h2 : bodyLe b a = true) : a = b := by
  unfold bodyLe at h1 h2
  rw [Bool.not_eq_true'] at h1 h2
  exact bodyLt_tri a b h2 h1
theorem isort_perm (xs : List Body) : (isort bodyLe xs).Perm xs := by
  rw [isort_eq bodyLe_trans bodyLe_total]
  exact List.mergeSort_perm _ _
theorem isort_same {xs ys : List Body} (nx : xs.Nodup) (ny : ys.Nodup) (h : ∀ x, x ∈ xs ↔ x ∈ ys) : isort bodyLe xs = isort bodyLe ys := by
  have p : xs.Perm ys := (List.perm_ext_iff_of_nodup nx ny).mpr h
  rw [isort_eq bodyLe_trans bodyLe_total, isort_eq bodyLe_trans bodyLe_total]
  exact List.Perm.eq_of_pairwise (le := fun a b => bodyLe a b = true) (fun a b _ _ h1 h2 => bodyLe_anti h1 h2) (List.pairwise_mergeSort bodyLe_trans bodyLe_total _) (List.pairwise_mergeSort bodyLe_trans bodyLe_total _)
    ((List.mergeSort_perm _ _).trans (p.trans (List.mergeSort_perm _ _).symm))
/-! ### waves -/
def NxOk (bs : List Body) (nx : NX2) (F : Body → Body → Prop) : Prop := ∀ b ∈ bs, ∃ os, lookM nx b = some os ∧ ∀ o, o ∈ os ↔ F b o
theorem addF_spec : ∀ (os : List Body) (s : List Body × List Body), ∃ new, os.foldl addW s = (s.1 ++ new, s.2 ++ new) ∧ new.Nodup ∧ ∀ o, o ∈ new ↔ o ∉ s.1 ∧ o ∈ os
  | [], s => ⟨[], by simp, List.nodup_nil, by simp⟩
  | o :: os, s => by
    rw [List.foldl_cons]
    by_cases h : o ∈ s.1
    · have e : addW s o = s := by unfold addW; rw [if_pos (memK_iff.mpr h)]
      rw [e]
      obtain ⟨new, h1, h2, h3⟩ := addF_spec os s
      refine ⟨new, h1, h2, fun x => ?_⟩
      rw [h3, List.mem_cons]
      constructor
      · rintro ⟨a, b⟩; exact ⟨a, .inr b⟩
      · rintro ⟨a, rfl | b⟩
        · exact absurd h a
        · exact ⟨a, b⟩
    · have e : addW s o = (s.1 ++ [o], s.2 ++ [o]) := by unfold addW; rw [if_neg (fun z => h (memK_iff.mp z))]
      rw [e]
      obtain ⟨new, h1, h2, h3⟩ := addF_spec os (s.1 ++ [o], s.2 ++ [o])
      refine ⟨o :: new, by rw [h1]; simp, List.nodup_cons.mpr ⟨fun z => ?_, h2⟩, fun x => ?_⟩
      · exact ((h3 o).mp z).1 (by simp)
      · rw [List.mem_cons, h3, List.mem_cons]
        simp only [List.mem_append, List.mem_singleton, not_or]
        constructor
        · rintro (rfl | ⟨⟨a, b⟩, c⟩)
          · exact ⟨h, .inl rfl⟩
          · exact ⟨a, .inr c⟩
        · rintro ⟨a, rfl | c⟩
          · exact .inl rfl
          · by_cases q : x = o
            · exact .inl q
            · exact .inr ⟨⟨a, q⟩, c⟩
theorem layer_spec {bs : List Body} {nx : NX2} {F : Body → Body → Prop} (N : NxOk bs nx F) : ∀ (ls : List Body) (s : List Body × List Body), (∀ b ∈ ls, b ∈ bs) →
    ∃ new, layerM nx ls s = some (s.1 ++ new, s.2 ++ new) ∧ new.Nodup ∧ ∀ o, o ∈ new ↔ o ∉ s.1 ∧ ∃ a ∈ ls, F a o
  | [], s, _ => ⟨[], by simp [layerM], List.nodup_nil, by simp⟩
  | b :: ls, s, h => by
    obtain ⟨os, e, ho⟩ := N b (h b List.mem_cons_self)
    obtain ⟨n1, e1, d1, m1⟩ := addF_spec os s
    obtain ⟨n2, e2, d2, m2⟩ := layer_spec N ls (s.1 ++ n1, s.2 ++ n1) (fun x hx => h x (List.mem_cons_of_mem _ hx))
    refine ⟨n1 ++ n2, ?_, List.nodup_append.mpr ⟨d1, d2, ?_⟩, fun o => ?_⟩
    · unfold layerM
      rw [e]
      simp only [e1, e2, List.append_assoc]
    · intro a ha b hb q
      subst q
      exact ((m2 a).mp hb).1 (List.mem_append.mpr (.inr ha))
    · rw [List.mem_append, m1, m2]
      constructor
      · rintro (⟨h1, h2⟩ | ⟨h1, a, ha, h2⟩)
        · exact ⟨h1, b, List.mem_cons_self, (ho o).mp h2⟩
        · exact ⟨fun z => h1 (List.mem_append.mpr (.inl z)), a, List.mem_cons_of_mem _ ha, h2⟩
      · rintro ⟨h1, a, ha, h2⟩
        by_cases q : o ∈ os
        · exact .inl ⟨h1, q⟩
        · refine .inr ⟨fun z => ?_, a, ?_, h2⟩
          · rcases List.mem_append.mp z with z | z
            · exact h1 z
            · exact q ((m1 o).mp z).2
          · rcases List.mem_cons.mp ha with rfl | ha
            · exact absurd ((ho o).mpr h2) q
            · exact ha
/-- the rows so far, last first -/
def RowsI (bs : List Body) (b : Body) : List (List Body) → Prop
  | [] => False
  | [l] => l = [b]
  | l :: p :: rest => p ≠ [] ∧ b ∉ l ∧ (∀ o ∈ l, o ∈ bs) ∧ RowsI bs b (p :: rest)
theorem runW_done {S : Type} {cond : S → Bool} {step : S → S} {s : S} (hc : cond s = false) : ∀ n, runW cond step n s = some s
  | 0 => by unfold runW; rw [if_neg (by rw [hc]; decide)]
  | n + 1 => by unfold runW; rw [if_neg (by rw [hc]; decide)]
theorem run_spec {bs : List Body} {nx1 nx2 : NX2} {F : Body → Body → Prop} {b : Body} (N1 : NxOk bs nx1 F) (N2 : NxOk bs nx2 F) (cl : ∀ b ∈ bs, ∀ o, F b o → o ∈ bs) : ∀ (n : Nat) (s1 s2 last : List Body) (r : List (List Body)),
    s1.Nodup → s2.Nodup → (∀ x, x ∈ s1 ↔ x ∈ s2) → (∀ x ∈ s1, x ∈ bs) → (∀ x ∈ last, x ∈ bs) → (last = [] ∨ bs.length + 1 ≤ s1.length + n) → b ∈ s1 → RowsI bs b (last :: r) →
    ∃ t1 t2 prev rest, runW wvCond (wvStep nx1) n (s1, last :: r) = some (t1, [] :: prev :: rest) ∧ runW wvCond (wvStep nx2) n (s2, last :: r) = some (t2, [] :: prev :: rest) ∧ t1.length ≤ bs.length ∧ t2.length ≤ bs.length ∧ rest.length + 1 ≤ r.length + n ∧
      prev ≠ [] ∧ RowsI bs b (prev :: rest) ∧ r.length ≤ rest.length + 1 ∧ (last ≠ [] → r.length ≤ rest.length) ∧ ((∃ a ∈ last, ∃ o, F a o ∧ o ∉ s1) → r.length + 1 ≤ rest.length) := by
  intro n
  induction n with
  | zero =>
    intro s1 s2 last r d1 d2 same h1 hl hf hb hr
    have hlen := List.Nodup.length_le_of_subset d1 h1
    have hlen2 := List.Nodup.length_le_of_subset d2 (fun x hx => h1 x ((same x).mpr hx))
    rcases hf with rfl | hf
    · cases r with
      | nil => cases hr
      | cons p rest =>
        refine ⟨s1, s2, p, rest, runW_done rfl _, runW_done rfl _, hlen, hlen2, by simp, hr.1, hr.2.2.2, Nat.le_refl _, fun z => absurd rfl z, fun ⟨a, ha, _⟩ => nomatch ha⟩
    · omega
  | succ n ih =>
    intro s1 s2 last r d1 d2 same h1 hl hf hb hr
    have hlen := List.Nodup.length_le_of_subset d1 h1
    have hlen2 := List.Nodup.length_le_of_subset d2 (fun x hx => h1 x ((same x).mpr hx))
    cases last with
    | nil =>
      cases r with
      | nil => cases hr
      | cons p rest =>
        refine ⟨s1, s2, p, rest, runW_done rfl _, runW_done rfl _, hlen, hlen2, by simp only [List.length_cons]; omega, hr.1, hr.2.2.2, Nat.le_refl _, fun z => absurd rfl z, fun ⟨a, ha, _⟩ => nomatch ha⟩
    | cons l0 ls =>
      obtain ⟨n1, e1, q1, m1⟩ := layer_spec N1 (l0 :: ls) (s1, []) hl
      obtain ⟨n2, e2, q2, m2⟩ := layer_spec N2 (l0 :: ls) (s2, []) hl
      have hm : ∀ x, x ∈ n1 ↔ x ∈ n2 := fun x => by
        rw [m1, m2]
        simp only [same x]
      have es := isort_same q1 q2 hm
      have hn1 : ∀ x ∈ n1, x ∈ bs := fun x hx => by
        obtain ⟨_, a, ha, hF⟩ := (m1 x).mp hx
        exact cl a (hl a ha) x hF
      have st1 : wvStep nx1 (s1, (l0 :: ls) :: r) = (s1 ++ n1, isort bodyLe n1 :: (l0 :: ls) :: r) := by
        unfold wvStep
        simp only [e1, List.nil_append]
      have st2 : wvStep nx2 (s2, (l0 :: ls) :: r) = (s2 ++ n2, isort bodyLe n1 :: (l0 :: ls) :: r) := by
        unfold wvStep
        simp only [e2, List.nil_append, es]
      obtain ⟨t1, t2, prev, rest, a1, a2, a3, a4, a5, a6, a7, a7', a8, a9⟩ := ih (s1 ++ n1) (s2 ++ n2) (isort bodyLe n1) ((l0 :: ls) :: r)
        (List.nodup_append.mpr ⟨d1, q1, fun x hx y hy e => by subst e; exact ((m1 x).mp hy).1 hx⟩)
        (List.nodup_append.mpr ⟨d2, q2, fun x hx y hy e => by subst e; exact ((m2 x).mp hy).1 hx⟩)
        (fun x => by rw [List.mem_append, List.mem_append, same x, hm x])
        (fun x hx => by
          rcases List.mem_append.mp hx with hx | hx
          · exact h1 x hx
          · exact hn1 x hx)
        (fun x hx => hn1 x (mem_isort.mp hx))
        (by
          cases n1 with
          | nil => exact .inl rfl
          | cons y ys =>
            right
            rcases hf with hf | hf
            · cases hf
            · rw [List.length_append, List.length_cons]
              omega)
        (List.mem_append.mpr (.inl hb))
        ⟨fun z => (nomatch z), fun z => ((m1 b).mp (mem_isort.mp z)).1 hb, fun o ho => hn1 o (mem_isort.mp ho), hr⟩
      refine ⟨t1, t2, prev, rest, ?_, ?_, a3, a4, ?_, a6, a7, ?_, fun _ => ?_, fun ⟨a, ha, o, hF, hno⟩ => ?_⟩
      · show (if wvCond (s1, (l0 :: ls) :: r) = true then _ else _) = _
        rw [if_pos (show wvCond (s1, (l0 :: ls) :: r) = true from rfl), st1]
        exact a1
      · show (if wvCond (s2, (l0 :: ls) :: r) = true then _ else _) = _
        rw [if_pos (show wvCond (s2, (l0 :: ls) :: r) = true from rfl), st2]
        exact a2
      · rw [List.length_cons] at a5
        omega
      · rw [List.length_cons] at a7'
        omega
      · rw [List.length_cons] at a7'
        omega
      · have hmem : o ∈ n1 := (m1 o).mpr ⟨hno, a, ha, hF⟩
        have := a8 (fun z => by
          have := mem_isort (le := bodyLe).mpr hmem
          rw [z] at this
          cases this)
        rw [List.length_cons] at this
        exact this
theorem waves_spec {bs : List Body} {nx1 nx2 : NX2} {F : Body → Body → Prop} {b : Body} (N1 : NxOk bs nx1 F) (N2 : NxOk bs nx2 F) (cl : ∀ b ∈ bs, ∀ o, F b o → o ∈ bs) (hlen : bs.length ≤ 69) (hb : b ∈ bs) (hF : ∃ o, F b o ∧ o ≠ b) :
    ∃ rows last, wavesM nx1 b = some rows ∧ wavesM nx2 b = some rows ∧ rows.getLast? = some last ∧ 2 ≤ rows.length ∧ last ≠ [] ∧ b ∉ last ∧ ∀ o ∈ last, o ∈ bs := by
  obtain ⟨t1, t2, prev, rest, a1, a2, a3, a4, a5, a6, a7, _, _, a9⟩ := run_spec N1 N2 cl 70 [b] [b] [b] [] (by simp) (by simp) (fun _ => Iff.rfl) (fun x hx => by rw [List.mem_singleton] at hx; exact hx ▸ hb) (fun x hx => by rw [List.mem_singleton] at hx; exact hx ▸ hb)
    (.inr (by rw [List.length_singleton]; omega)) (by simp) rfl
  obtain ⟨o, ho, hne⟩ := hF
  have h9 := a9 ⟨b, by simp, o, ho, by simpa using hne⟩
  rw [List.length_nil] at a5 h9
  refine ⟨(prev :: rest).reverse, prev, ?_, ?_, by simp, by rw [List.length_reverse, List.length_cons]; omega, a6, ?_⟩
  · unfold wavesM
    rw [a1]
    show (if (decide (t1.length ≤ 900) && decide (([] :: prev :: rest).length ≤ 900)) = true then _ else _) = _
    rw [if_pos]
    · rfl
    · rw [decide_eq_true (show t1.length ≤ 900 by omega), decide_eq_true (show ([] :: prev :: rest).length ≤ 900 by rw [List.length_cons, List.length_cons]; omega)]
      rfl
  · unfold wavesM
    rw [a2]
    show (if (decide (t2.length ≤ 900) && decide (([] :: prev :: rest).length ≤ 900)) = true then _ else _) = _
    rw [if_pos]
    · rfl
    · rw [decide_eq_true (show t2.length ≤ 900 by omega), decide_eq_true (show ([] :: prev :: rest).length ≤ 900 by rw [List.length_cons, List.length_cons]; omega)]
      rfl
  · cases rest with
    | nil => rw [List.length_nil] at h9; omega
    | cons r0 rs => exact ⟨a7.2.1, a7.2.2.1⟩
/-! ### the choice -/
theorem far_law {bs : List Body} {nx1 nx2 : NX2} (hw : ∀ b ∈ bs, ∃ rows last, wavesM nx1 b = some rows ∧ wavesM nx2 b = some rows ∧ rows.getLast? = some last ∧ 2 ≤ rows.length) :
    ∀ (cs : List Body), (∀ c ∈ cs, c ∈ bs) → ∀ (z : Best1) (best : Best), (best = some z ∨ best = none ∧ z = init1) → ∃ best' z', farGo nx1 cs best = some best' ∧ lawGo nx2 cs z = some z' ∧ (best' = some z' ∨ best' = none ∧ z' = init1) ∧
      ((best ≠ none ∨ ∃ c, cs.head? = some c ∧ ∃ rows last o, wavesM nx1 c = some rows ∧ rows.getLast? = some last ∧ o ∈ last ∧ bodyLt c o = true) → best' ≠ none)
  | [], _, z, best, h => ⟨best, z, rfl, rfl, h, fun q => by
      rcases q with q | ⟨c, q, _⟩
      · exact q
      · cases q⟩
  | c :: cs, hc, z, best, h => by
    obtain ⟨rows, last, w1, w2, hl, h2⟩ := hw c (hc c List.mem_cons_self)
    have eo : othersM rows last c = last.filter (bodyLt c) := by
      unfold othersM
      have : decide ((rows.length : Int) = 1) = false := decide_eq_false (by omega)
      rw [this]
      simp only [Bool.or_false]
    have key : (farStep rows last c best = some (lawStep rows last c z) ∨ farStep rows last c best = none ∧ lawStep rows last c z = init1) ∧ ((best ≠ none ∨ ∃ o, o ∈ last ∧ bodyLt c o = true) → farStep rows last c best ≠ none) := by
      unfold farStep lawStep
      rw [eo]
      cases e : last.filter (bodyLt c) with
      | nil =>
        refine ⟨h, fun q => ?_⟩
        rcases q with q | ⟨o, ho, hlt⟩
        · exact q
        · have := List.mem_filter.mpr ⟨ho, hlt⟩
          rw [e] at this
          cases this
      | cons o os =>
        rcases h with rfl | ⟨rfl, rfl⟩
        · by_cases q : decide (z.1 < (rows.length : Int) - 1) = true
          · have q' : better rows (some z) = true := q
            simp only [if_pos q, if_pos q']
            exact ⟨.inl trivial, fun _ z => nomatch z⟩
          · have q' : ¬ better rows (some z) = true := q
            simp only [if_neg q, if_neg q']
            exact ⟨.inl trivial, fun _ z => nomatch z⟩
        · have q : decide (init1.1 < (rows.length : Int) - 1) = true := decide_eq_true (by show (0 : Int) < _; omega)
          have q' : better rows none = true := rfl
          simp only [if_pos q, if_pos q']
          exact ⟨.inl trivial, fun _ z => nomatch z⟩
    obtain ⟨best', z', g1, g2, g3, g4⟩ := far_law hw cs (fun x hx => hc x (List.mem_cons_of_mem _ hx)) (lawStep rows last c z) (farStep rows last c best) key.1
    refine ⟨best', z', ?_, ?_, g3, fun q => g4 (.inl (key.2 ?_))⟩
    · rw [farGo, w1]
      simp only [hl]
      exact g1
    · rw [lawGo, w2]
      simp only [hl]
      exact g2
    · rcases q with q | ⟨c', hc', rows', last', o, w', hl', ho, hlt⟩
      · exact .inl q
      · cases hc'
        rw [w1] at w'
        cases w'
        rw [hl] at hl'
        cases hl'
        exact .inr ⟨o, ho, hlt⟩
/-! ### the check, body by body -/
def chk (bs : List Body) (b : Body) : Bool := match followM b, lrowsM b with
  | some fs, some rs => (fs.map (·.2)).all (fun o => memK rs o) && rs.all (fun o => memK (fs.map (·.2)) o) && rs.all (fun o => memK bs o) && decide (rs.length < 64) && rs.any (fun o => !decide (o = b))
  | _, _ => false
theorem chk_of {bs : List Body} {b : Body} (h : chk bs b = true) : ∃ fs rs, followM b = some fs ∧ lrowsM b = some rs ∧ (∀ o, o ∈ fs.map (·.2) ↔ o ∈ rs) ∧ (∀ o ∈ rs, o ∈ bs) ∧ rs.length < 64 ∧ ∃ o ∈ rs, o ≠ b := by
  unfold chk at h
  cases e1 : followM b with
  | none => rw [e1] at h; cases h
  | some fs =>
    cases e2 : lrowsM b with
    | none => rw [e1, e2] at h; cases h
    | some rs =>
      rw [e1, e2] at h
      simp only [Bool.and_eq_true, List.all_eq_true, List.any_eq_true, decide_eq_true_eq, memK_iff] at h
      obtain ⟨⟨⟨⟨h1, h2⟩, h3⟩, h4⟩, o, ho, h5⟩ := h
      exact ⟨fs, rs, rfl, rfl, fun x => ⟨h1 x, h2 x⟩, h3, h4, o, ho, fun z => by rw [decide_eq_true z] at h5; cases h5⟩
theorem look_in : ∀ {nx : NX2} {b : Body}, b ∈ nx.map (·.1) → ∃ os, lookM nx b = some os ∧ (b, os) ∈ nx
  | (k, v) :: nx, b, h => by
    by_cases e : k = b
    · subst e
      refine ⟨v, ?_, List.mem_cons_self⟩
      unfold lookM
      rw [List.find?_cons, decide_eq_true rfl]
      rfl
    · have h2 : b ∈ nx.map (·.1) := by
        rw [List.map_cons] at h
        rcases List.mem_cons.mp h with q | q
        · exact absurd q.symm e
        · exact q
      obtain ⟨os, e1, e2⟩ := look_in h2
      refine ⟨os, ?_, List.mem_cons_of_mem _ e2⟩
      unfold lookM at e1 ⊢
      rw [List.find?_cons, decide_eq_false e]
      exact e1
theorem mapO_some {α β : Type} {f : α → Option β} {g : α → β} : ∀ {xs : List α}, (∀ x ∈ xs, f x = some (g x)) → mapO f xs = some (xs.map g)
  | [], _ => rfl
  | x :: xs, h => by
    unfold mapO
    rw [h x List.mem_cons_self]
    simp only [mapO_some fun y hy => h y (List.mem_cons_of_mem _ hy)]
    rfl
theorem math_of {m : Nat} {c : Body} {cs : List Body} (eP : shapesM m = c :: cs) (eL : lshapesM m = c :: cs) (nd : (c :: cs).Nodup) (srt : isort bodyLe (c :: cs) = c :: cs) (hlen : (c :: cs).length ≤ 63) (hchk : (c :: cs).all (chk (c :: cs)) = true) (ne : (c :: cs).all (fun b => !b.isEmpty) = true)
    (fst : cs.all (bodyLt c) = true) (okP : ∀ k, k ≤ m - 1 → okB (lapsM k) = true) (okL : ∀ k, k ≤ m - 1 → okB (llapsM k) = true) : MathN m := by
  generalize hbs : c :: cs = bs at *
  have hc : ∀ b ∈ bs, ∃ fs rs, followM b = some fs ∧ lrowsM b = some rs ∧ (∀ o, o ∈ fs.map (·.2) ↔ o ∈ rs) ∧ (∀ o ∈ rs, o ∈ bs) ∧ rs.length < 64 ∧ ∃ o ∈ rs, o ≠ b := fun b hb => chk_of (List.all_eq_true.mp hchk b hb)
  have hne : ∀ b ∈ bs, (!b.isEmpty) = true := fun b hb => List.all_eq_true.mp ne b hb
  let F : Body → Body → Prop := fun b o => ∃ rs, lrowsM b = some rs ∧ o ∈ rs
  have cl : ∀ b ∈ bs, ∀ o, F b o → o ∈ bs := fun b hb o ⟨rs, e, ho⟩ => by
    obtain ⟨_, rs', _, e', _, h, _⟩ := hc b hb
    rw [e] at e'
    cases e'
    exact h o ho
  let nx1 : NX2 := bs.map fun b => (b, ((followM b).getD []).map (·.2))
  have hk1 : nx1.map (·.1) = bs := by
    show List.map _ (List.map _ bs) = bs
    rw [List.map_map]
    exact List.map_id' bs
  have N1 : NxOk bs nx1 F := fun b hb => by
    obtain ⟨os, e1, e2⟩ := look_in (nx := nx1) (b := b) (by rw [hk1]; exact hb)
    obtain ⟨b', _, e3⟩ := List.mem_map.mp e2
    injection e3 with e3 e4
    subst e3
    refine ⟨os, e1, fun o => ?_⟩
    obtain ⟨fs, rs, f1, f2, f3, _⟩ := hc _ hb
    rw [← e4, f1]
    show o ∈ fs.map (·.2) ↔ _
    rw [f3]
    exact ⟨fun h => ⟨rs, f2, h⟩, fun ⟨rs', q, h⟩ => by rw [f2] at q; cases q; exact h⟩
  have hF : ∀ b ∈ bs, ∃ o, F b o ∧ o ≠ b := fun b hb => by
    obtain ⟨_, rs, _, e, _, _, _, o, ho, hn⟩ := hc b hb
    exact ⟨o, ⟨rs, e, ho⟩, hn⟩
  have NL : ∀ lnx : NX2, lnx.map (·.1) = bs → LNext lnx → NxOk bs lnx F := fun lnx hk hl b hb => by
    obtain ⟨os, e1, e2⟩ := look_in (nx := lnx) (b := b) (by rw [hk]; exact hb)
    obtain ⟨rs, e3, e4⟩ := hl _ e2
    exact ⟨os, e1, fun o => (e4 o).trans ⟨fun h => ⟨rs, e3, h⟩, fun ⟨rs', q, h⟩ => by rw [e3] at q; cases q; exact h⟩⟩
  have main : ∀ nx2, NxOk bs nx2 F → ∃ z, farGo nx1 bs none = some (some z) ∧ lawGo nx2 bs init1 = some z := fun nx2 N2 => by
    have hw := fun b hb => waves_spec N1 N2 cl (by omega) hb (hF b hb)
    obtain ⟨best', z', g1, g2, g3, g4⟩ := far_law (bs := bs) (nx1 := nx1) (nx2 := nx2) (fun b hb => by
      obtain ⟨rows, last, w1, w2, h1, h2, _⟩ := hw b hb
      exact ⟨rows, last, w1, w2, h1, h2⟩) bs (fun _ h => h) init1 none (.inr ⟨rfl, rfl⟩)
    have hcm : c ∈ bs := hbs ▸ List.mem_cons_self
    have hnn : best' ≠ none := g4 (.inr ⟨c, by rw [← hbs]; rfl, by
      obtain ⟨rows, last, w1, _, h1, _, h3, h4, h5⟩ := hw c hcm
      cases last with
      | nil => exact absurd rfl h3
      | cons o os =>
        refine ⟨rows, o :: os, o, w1, h1, List.mem_cons_self, ?_⟩
        have ho := h5 o List.mem_cons_self
        rw [← hbs] at ho
        rcases List.mem_cons.mp ho with q | q
        · exact absurd (q ▸ List.mem_cons_self) h4
        · exact List.all_eq_true.mp fst o q⟩)
    rcases g3 with rfl | ⟨q, _⟩
    · exact ⟨z', g1, g2⟩
    · exact absurd q hnn
  refine ⟨okP, okL, eP ▸ nd, eL ▸ nd, fun b hb => ?_, ?_⟩
  · rw [eL] at hb
    obtain ⟨_, rs, _, e, _, _, h, _⟩ := hc b hb
    exact ⟨rs, e, h⟩
  · obtain ⟨z, hz, _⟩ := main nx1 N1
    refine ⟨nx1, z, ?_, ?_, by rw [eP]; exact hz, fun lnx hk hl => ⟨?_, ?_⟩⟩
    · rw [eP]
      unfold nextsM
      exact mapO_some fun b hb => by
        obtain ⟨fs, _, f1, _⟩ := hc b hb
        rw [f1]
        rfl
    · unfold okN
      refine List.all_eq_true.mpr fun p hp => List.all_eq_true.mpr fun o ho => hne o ?_
      obtain ⟨b, hb, rfl⟩ := List.mem_map.mp hp
      obtain ⟨fs, rs, f1, f2, f3, f4, _⟩ := hc b hb
      rw [f1] at ho
      exact f4 o ((f3 o).mp ho)
    · rw [eL] at hk
      unfold okN
      refine List.all_eq_true.mpr fun p hp => List.all_eq_true.mpr fun o ho => hne o ?_
      have hb : p.1 ∈ bs := hk ▸ List.mem_map.mpr ⟨p, hp, rfl⟩
      obtain ⟨rs, e, h⟩ := hl p hp
      exact cl _ hb o ⟨rs, e, (h o).mp ho⟩
    · rw [eL] at hk ⊢
      obtain ⟨z2, hz2, hl2⟩ := main lnx (NL lnx hk hl)
      rw [hz] at hz2
      cases hz2
      rw [srt]
      exact hl2
end Z
set_option Elab.async false
set_option linter.all false
set_option maxRecDepth 100000
set_option maxHeartbeats 4000000
/-! ZX: the bodies of one to five squares, checked by the kernel. -/
namespace Z
theorem all_app {α : Type} {p : α → Bool} {xs ys : List α} (h1 : xs.all p = true) (h2 : ys.all p = true) : (xs ++ ys).all p = true := by rw [List.all_append, h1, h2]; rfl
theorem all_cons {α : Type} {p : α → Bool} {x : α} {ys : List α} (h1 : p x = true) (h2 : ys.all p = true) : (x :: ys).all p = true := by rw [List.all_cons, h1, h2]; rfl
theorem okP0 : okB (lapsM 0) = true := by decide +kernel
theorem okL0 : okB (llapsM 0) = true := by decide +kernel
theorem okP1 : okB (lapsM 1) = true := by decide +kernel
theorem okL1 : okB (llapsM 1) = true := by decide +kernel
theorem okP2 : okB (lapsM 2) = true := by decide +kernel
theorem okL2 : okB (llapsM 2) = true := by decide +kernel
theorem okP3 : okB (lapsM 3) = true := by decide +kernel
theorem okL3 : okB (llapsM 3) = true := by decide +kernel
theorem okP4 : okB (lapsM 4) = true := by decide +kernel
theorem okL4 : okB (llapsM 4) = true := by decide +kernel
def c2 : Body := [(0, 0), (0, 1)]
def l2_0 : List Body := [[(0, 0), (1, 0)]]
def l2 : List Body := l2_0
theorem eP2 : shapesM 2 = c2 :: l2 := by decide +kernel
theorem eL2 : lshapesM 2 = c2 :: l2 := by decide +kernel
theorem nd2 : (c2 :: l2).Nodup := by decide +kernel
theorem srt2 : isort bodyLe (c2 :: l2) = c2 :: l2 := by decide +kernel
theorem ne2 : (c2 :: l2).all (fun b => !b.isEmpty) = true := by decide +kernel
theorem fst2 : l2.all (bodyLt c2) = true := by decide +kernel
theorem chk2_c : chk (c2 :: l2) c2 = true := by decide +kernel
theorem chk2_0 : l2_0.all (chk (c2 :: l2)) = true := by decide +kernel
theorem chk2 : (c2 :: l2).all (chk (c2 :: l2)) = true := all_cons chk2_c chk2_0
theorem math2 : MathN 2 := math_of eP2 eL2 nd2 srt2 (by decide +kernel) chk2 ne2 fst2 (fun k hk => match k, hk with | 0, _ => okP0 | 1, _ => okP1 | k + 2, hk => absurd hk (by omega)) (fun k hk => match k, hk with | 0, _ => okL0 | 1, _ => okL1 | k + 2, hk => absurd hk (by omega))
def c3 : Body := [(0, 0), (0, 1), (0, 2)]
def l3_0 : List Body := [[(0, 0), (0, 1), (1, 0)], [(0, 0), (0, 1), (1, 1)], [(0, 0), (1, 0), (1, 1)], [(0, 0), (1, 0), (2, 0)], [(0, 1), (1, 0), (1, 1)]]
def l3 : List Body := l3_0
theorem eP3 : shapesM 3 = c3 :: l3 := by decide +kernel
theorem eL3 : lshapesM 3 = c3 :: l3 := by decide +kernel
theorem nd3 : (c3 :: l3).Nodup := by decide +kernel
theorem srt3 : isort bodyLe (c3 :: l3) = c3 :: l3 := by decide +kernel
theorem ne3 : (c3 :: l3).all (fun b => !b.isEmpty) = true := by decide +kernel
theorem fst3 : l3.all (bodyLt c3) = true := by decide +kernel
theorem chk3_c : chk (c3 :: l3) c3 = true := by decide +kernel
theorem chk3_0 : l3_0.all (chk (c3 :: l3)) = true := by decide +kernel
theorem chk3 : (c3 :: l3).all (chk (c3 :: l3)) = true := all_cons chk3_c chk3_0
theorem math3 : MathN 3 := math_of eP3 eL3 nd3 srt3 (by decide +kernel) chk3 ne3 fst3 (fun k hk => match k, hk with | 0, _ => okP0 | 1, _ => okP1 | 2, _ => okP2 | k + 3, hk => absurd hk (by omega)) (fun k hk => match k, hk with | 0, _ => okL0 | 1, _ => okL1 | 2, _ => okL2 | k + 3, hk => absurd hk (by omega))
def c4 : Body := [(0, 0), (0, 1), (0, 2), (0, 3)]
def l4_0 : List Body := [[(0, 0), (0, 1), (0, 2), (1, 0)], [(0, 0), (0, 1), (0, 2), (1, 1)], [(0, 0), (0, 1), (0, 2), (1, 2)], [(0, 0), (0, 1), (1, 0), (1, 1)], [(0, 0), (0, 1), (1, 0), (2, 0)], [(0, 0), (0, 1), (1, 1), (1, 2)], [(0, 0), (0, 1), (1, 1), (2, 1)], [(0, 0), (1, 0), (1, 1), (1, 2)], [(0, 0), (1, 0), (1, 1), (2, 0)]]
def l4_1 : List Body := [[(0, 0), (1, 0), (1, 1), (2, 1)], [(0, 0), (1, 0), (2, 0), (2, 1)], [(0, 0), (1, 0), (2, 0), (3, 0)], [(0, 1), (0, 2), (1, 0), (1, 1)], [(0, 1), (1, 0), (1, 1), (1, 2)], [(0, 1), (1, 0), (1, 1), (2, 0)], [(0, 1), (1, 0), (1, 1), (2, 1)], [(0, 1), (1, 1), (2, 0), (2, 1)], [(0, 2), (1, 0), (1, 1), (1, 2)]]
def l4 : List Body := l4_0 ++ (l4_1)
theorem eP4 : shapesM 4 = c4 :: l4 := by decide +kernel
theorem eL4 : lshapesM 4 = c4 :: l4 := by decide +kernel
theorem nd4 : (c4 :: l4).Nodup := by decide +kernel
theorem srt4 : isort bodyLe (c4 :: l4) = c4 :: l4 := by decide +kernel
theorem ne4 : (c4 :: l4).all (fun b => !b.isEmpty) = true := by decide +kernel
theorem fst4 : l4.all (bodyLt c4) = true := by decide +kernel
theorem chk4_c : chk (c4 :: l4) c4 = true := by decide +kernel
theorem chk4_0 : l4_0.all (chk (c4 :: l4)) = true := by decide +kernel
theorem chk4_1 : l4_1.all (chk (c4 :: l4)) = true := by decide +kernel
theorem chk4 : (c4 :: l4).all (chk (c4 :: l4)) = true := all_cons chk4_c (all_app chk4_0 chk4_1)
theorem math4 : MathN 4 := math_of eP4 eL4 nd4 srt4 (by decide +kernel) chk4 ne4 fst4 (fun k hk => match k, hk with | 0, _ => okP0 | 1, _ => okP1 | 2, _ => okP2 | 3, _ => okP3 | k + 4, hk => absurd hk (by omega)) (fun k hk => match k, hk with | 0, _ => okL0 | 1, _ => okL1 | 2, _ => okL2 | 3, _ => okL3 | k + 4, hk => absurd hk (by omega))
def c5 : Body := [(0, 0), (0, 1), (0, 2), (0, 3), (0, 4)]
def l5_0 : List Body := [[(0, 0), (0, 1), (0, 2), (0, 3), (1, 0)], [(0, 0), (0, 1), (0, 2), (0, 3), (1, 1)], [(0, 0), (0, 1), (0, 2), (0, 3), (1, 2)], [(0, 0), (0, 1), (0, 2), (0, 3), (1, 3)], [(0, 0), (0, 1), (0, 2), (1, 0), (1, 1)], [(0, 0), (0, 1), (0, 2), (1, 0), (1, 2)], [(0, 0), (0, 1), (0, 2), (1, 0), (2, 0)], [(0, 0), (0, 1), (0, 2), (1, 1), (1, 2)], [(0, 0), (0, 1), (0, 2), (1, 1), (2, 1)]]
def l5_1 : List Body := [[(0, 0), (0, 1), (0, 2), (1, 2), (1, 3)], [(0, 0), (0, 1), (0, 2), (1, 2), (2, 2)], [(0, 0), (0, 1), (1, 0), (1, 1), (1, 2)], [(0, 0), (0, 1), (1, 0), (1, 1), (2, 0)], [(0, 0), (0, 1), (1, 0), (1, 1), (2, 1)], [(0, 0), (0, 1), (1, 0), (2, 0), (2, 1)], [(0, 0), (0, 1), (1, 0), (2, 0), (3, 0)], [(0, 0), (0, 1), (1, 1), (1, 2), (1, 3)], [(0, 0), (0, 1), (1, 1), (1, 2), (2, 1)]]
def l5_2 : List Body := [[(0, 0), (0, 1), (1, 1), (1, 2), (2, 2)], [(0, 0), (0, 1), (1, 1), (2, 0), (2, 1)], [(0, 0), (0, 1), (1, 1), (2, 1), (2, 2)], [(0, 0), (0, 1), (1, 1), (2, 1), (3, 1)], [(0, 0), (0, 2), (1, 0), (1, 1), (1, 2)], [(0, 0), (1, 0), (1, 1), (1, 2), (1, 3)], [(0, 0), (1, 0), (1, 1), (1, 2), (2, 0)], [(0, 0), (1, 0), (1, 1), (1, 2), (2, 1)], [(0, 0), (1, 0), (1, 1), (1, 2), (2, 2)]]
def l5_3 : List Body := [[(0, 0), (1, 0), (1, 1), (2, 0), (2, 1)], [(0, 0), (1, 0), (1, 1), (2, 0), (3, 0)], [(0, 0), (1, 0), (1, 1), (2, 1), (2, 2)], [(0, 0), (1, 0), (1, 1), (2, 1), (3, 1)], [(0, 0), (1, 0), (2, 0), (2, 1), (2, 2)], [(0, 0), (1, 0), (2, 0), (2, 1), (3, 0)], [(0, 0), (1, 0), (2, 0), (2, 1), (3, 1)], [(0, 0), (1, 0), (2, 0), (3, 0), (3, 1)], [(0, 0), (1, 0), (2, 0), (3, 0), (4, 0)]]
def l5_4 : List Body := [[(0, 1), (0, 2), (0, 3), (1, 0), (1, 1)], [(0, 1), (0, 2), (1, 0), (1, 1), (1, 2)], [(0, 1), (0, 2), (1, 0), (1, 1), (2, 0)], [(0, 1), (0, 2), (1, 0), (1, 1), (2, 1)], [(0, 1), (0, 2), (1, 1), (2, 0), (2, 1)], [(0, 1), (1, 0), (1, 1), (1, 2), (1, 3)], [(0, 1), (1, 0), (1, 1), (1, 2), (2, 0)], [(0, 1), (1, 0), (1, 1), (1, 2), (2, 1)], [(0, 1), (1, 0), (1, 1), (1, 2), (2, 2)]]
def l5_5 : List Body := [[(0, 1), (1, 0), (1, 1), (2, 0), (2, 1)], [(0, 1), (1, 0), (1, 1), (2, 0), (3, 0)], [(0, 1), (1, 0), (1, 1), (2, 1), (2, 2)], [(0, 1), (1, 0), (1, 1), (2, 1), (3, 1)], [(0, 1), (1, 1), (1, 2), (2, 0), (2, 1)], [(0, 1), (1, 1), (2, 0), (2, 1), (2, 2)], [(0, 1), (1, 1), (2, 0), (2, 1), (3, 0)], [(0, 1), (1, 1), (2, 0), (2, 1), (3, 1)], [(0, 1), (1, 1), (2, 1), (3, 0), (3, 1)]]
def l5_6 : List Body := [[(0, 2), (0, 3), (1, 0), (1, 1), (1, 2)], [(0, 2), (1, 0), (1, 1), (1, 2), (1, 3)], [(0, 2), (1, 0), (1, 1), (1, 2), (2, 0)], [(0, 2), (1, 0), (1, 1), (1, 2), (2, 1)], [(0, 2), (1, 0), (1, 1), (1, 2), (2, 2)], [(0, 2), (1, 1), (1, 2), (2, 0), (2, 1)], [(0, 2), (1, 2), (2, 0), (2, 1), (2, 2)], [(0, 3), (1, 0), (1, 1), (1, 2), (1, 3)]]
def l5 : List Body := l5_0 ++ (l5_1 ++ (l5_2 ++ (l5_3 ++ (l5_4 ++ (l5_5 ++ (l5_6))))))
theorem eP5 : shapesM 5 = c5 :: l5 := by decide +kernel
theorem eL5 : lshapesM 5 = c5 :: l5 := by decide +kernel
theorem nd5 : (c5 :: l5).Nodup := by decide +kernel
theorem srt5 : isort bodyLe (c5 :: l5) = c5 :: l5 := by decide +kernel
theorem ne5 : (c5 :: l5).all (fun b => !b.isEmpty) = true := by decide +kernel
theorem fst5 : l5.all (bodyLt c5) = true := by decide +kernel
theorem chk5_c : chk (c5 :: l5) c5 = true := by decide +kernel
theorem chk5_0 : l5_0.all (chk (c5 :: l5)) = true := by decide +kernel
theorem chk5_1 : l5_1.all (chk (c5 :: l5)) = true := by decide +kernel
theorem chk5_2 : l5_2.all (chk (c5 :: l5)) = true := by decide +kernel
theorem chk5_3 : l5_3.all (chk (c5 :: l5)) = true := by decide +kernel
theorem chk5_4 : l5_4.all (chk (c5 :: l5)) = true := by decide +kernel
theorem chk5_5 : l5_5.all (chk (c5 :: l5)) = true := by decide +kernel
theorem chk5_6 : l5_6.all (chk (c5 :: l5)) = true := by decide +kernel
theorem chk5 : (c5 :: l5).all (chk (c5 :: l5)) = true := all_cons chk5_c (all_app chk5_0 (all_app chk5_1 (all_app chk5_2 (all_app chk5_3 (all_app chk5_4 (all_app chk5_5 chk5_6))))))
theorem math5 : MathN 5 := math_of eP5 eL5 nd5 srt5 (by decide +kernel) chk5 ne5 fst5 (fun k hk => match k, hk with | 0, _ => okP0 | 1, _ => okP1 | 2, _ => okP2 | 3, _ => okP3 | 4, _ => okP4 | k + 5, hk => absurd hk (by omega)) (fun k hk => match k, hk with | 0, _ => okL0 | 1, _ => okL1 | 2, _ => okL2 | 3, _ => okL3 | 4, _ => okL4 | k + 5, hk => absurd hk (by omega))
theorem math1 : MathN 1 where
  okP := fun k hk => match k, hk with | 0, _ => okP0 | k + 1, hk => absurd hk (by omega)
  okL := fun k hk => match k, hk with | 0, _ => okL0 | k + 1, hk => absurd hk (by omega)
  ndP := by decide +kernel
  ndL := by decide +kernel
  rows := fun b hb => by
    have e : lshapesM 1 = [[(0, 0)]] := by decide +kernel
    rw [e, List.mem_singleton] at hb
    subst hb
    exact ⟨[], by decide +kernel, by decide⟩
  far := by
    refine ⟨[([(0, 0)], [])], init1, by decide +kernel, by decide +kernel, by decide +kernel, fun lnx hk hl => ?_⟩
    have e : lshapesM 1 = [[(0, 0)]] := by decide +kernel
    rw [e] at hk ⊢
    obtain ⟨os, rfl⟩ : ∃ os, lnx = [([(0, 0)], os)] := by
      cases lnx with
      | nil => cases hk
      | cons p ps =>
        cases ps with
        | nil =>
          obtain ⟨b, os⟩ := p
          have h1 : b = [(0, 0)] := List.head_eq_of_cons_eq hk
          exact ⟨os, by rw [h1]⟩
        | cons _ _ => exact absurd (congrArg List.length hk) (by simp)
    obtain ⟨rs, h1, h2⟩ := hl _ List.mem_cons_self
    have h3 : lrowsM [(0, 0)] = some [] := by decide +kernel
    rw [h3] at h1
    cases h1
    obtain rfl : os = [] := by
      cases os with
      | nil => rfl
      | cons o os => exact nomatch (h2 o).mp List.mem_cons_self
    exact ⟨by decide +kernel, by decide +kernel⟩
theorem math_all : ∀ m, 1 ≤ m → m ≤ 5 → MathN m
  | 0, h, _ => absurd h (by omega)
  | 1, _, _ => math1
  | 2, _, _ => math2
  | 3, _, _ => math3
  | 4, _, _ => math4
  | 5, _, _ => math5
  | m + 6, _, h => absurd h (by omega)
end Z
set_option Elab.async false
set_option linter.all false
set_option maxRecDepth 100000
set_option maxHeartbeats 4000000
/-! ZY: all promises together; what the written part says. -/
namespace Z
open PySem PySem.Spec L2
open PyProof.Rows hiding St
section
variable {P : Program} {w : World} {K : PySem.W.Frag} {mg : Str → Option Value} {base : Heap} {tM : Tok} {aR C fI : Addr} {H H' : Hp} {σ : St}
theorem all_ok {f : Addr} {fd : FuncData} (T : Glo K mg tM aR) (B : BadTxt K mg C fI) (F : Fun K "law" "law" s_law f fd)
    (h_is_whole : Has K mg "is_whole" s_is_whole ["value"])
    (h_is_cell : Has K mg "is_cell" s_is_cell ["value"])
    (h_check_cell : Has K mg "check_cell" s_check_cell ["value"])
    (h_beside : Has K mg "beside" s_beside ["cell"])
    (h_taken_part : Has K mg "taken_part" s_taken_part ["left", "cell"])
    (h_parts_of : Has K mg "parts_of" s_parts_of ["cells"])
    (h_hangs : Has K mg "hangs" s_hangs ["cells"])
    (h_is_free : Has K mg "is_free" s_is_free ["body", "cell"])
    (h_free_squares : Has K mg "free_squares" s_free_squares ["body"])
    (h_frame_of : Has K mg "frame_of" s_frame_of ["body"])
    (h_moved : Has K mg "moved" s_moved ["body", "by"])
    (h_shape_of : Has K mg "shape_of" s_shape_of ["body"])
    (h_squares_of : Has K mg "squares_of" s_squares_of ["body"])
    (h_supports_of : Has K mg "supports_of" s_supports_of ["squares", "start", "end"])
    (h_kind_of : Has K mg "kind_of" s_kind_of ["body", "start", "end"])
    (h_done : Has K mg "done" s_done ["body", "start", "end"])
    (h_moves_of : Has K mg "moves_of" s_moves_of ["body"])
    (h_followers : Has K mg "followers" s_followers ["body"])
    (h_is_between : Has K mg "is_between" s_is_between ["value", "low", "high"])
    (h_check_number : Has K mg "check_number" s_check_number ["n", "most"])
    (h_all_shapes : Has K mg "all_shapes" s_all_shapes ["n"])
    (h_waves : Has K mg "waves" s_waves ["nexts", "body"])
    (h_farthest : Has K mg "farthest" s_farthest ["n"])
    (h__law_nb_beside : Has K mg "_law_nb_beside" s__law_nb_beside ["_law_cell"])
    (h__law_nb_both : Has K mg "_law_nb_both" s__law_nb_both ["_law_rest", "_law_cell", "_law_end", "_law_x", "_law_y"])
    (h__law_nb_shape : Has K mg "_law_nb_shape" s__law_nb_shape ["_law_cells"])
    (h__law_waves : Has K mg "_law_waves" s__law_waves ["_law_nexts", "_law_shape"])
    (h__law_nb_steps : Has K mg "_law_nb_steps" s__law_nb_steps ["_law_rest", "_law_cell"])
    (h__law_nb_lots : Has K mg "_law_nb_lots" s__law_nb_lots ["_law_cells"])
    (h__law_nb_free : Has K mg "_law_nb_free" s__law_nb_free ["_law_body"])
    (h__law_nb_moves : Has K mg "_law_nb_moves" s__law_nb_moves ["_law_body"])
    (h__law_nb_shapes : Has K mg "_law_nb_shapes" s__law_nb_shapes ["_law_many"])
    (h__law_draw : Has K mg "_law_draw" s__law_draw ["_law_pen_here", "_law_many"])
    (h__law_pick : Has K mg "_law_pick" s__law_pick ["_law_pen_here", "_law_some"])
    (h__law_pen : Has K mg "_law_pen" s__law_pen ["_law_script"])
    (h__law_refused : Has K mg "_law_refused" s__law_refused ["_law_n"])
    : FnOk P w K mg base CX0 13 f fd ["_law_script"] (sp_law K) := by
  have r_is_whole : OkAt P w K mg base 1 "is_whole" ["value"] (Pu K R_is_whole) := ok_is_whole T h_is_whole
  have r_is_cell : OkAt P w K mg base 2 "is_cell" ["value"] (Pu K R_is_cell) := ok_is_cell T h_is_cell r_is_whole
  have r_check_cell : OkAt P w K mg base 3 "check_cell" ["value"] (Pu K R_check_cell) := ok_check_cell h_check_cell r_is_cell
  have r_beside : OkAt P w K mg base 4 "beside" ["cell"] (Pu K R_beside) := ok_beside h_beside r_check_cell
  have r_taken_part : OkAt P w K mg base 5 "taken_part" ["left", "cell"] (sp_taken_part P w K) := ok_taken_part T h_taken_part r_beside
  have r_parts_of : OkAt P w K mg base 6 "parts_of" ["cells"] (Pu K R_parts_of) := ok_parts_of T h_parts_of r_check_cell r_taken_part
  have r_hangs : OkAt P w K mg base 7 "hangs" ["cells"] (Pu K R_hangs) := ok_hangs T h_hangs r_parts_of
  have r_is_free : OkAt P w K mg base 8 "is_free" ["body", "cell"] (Pu K R_is_free) := ok_is_free T h_is_free r_hangs
  have r_free_squares : OkAt P w K mg base 9 "free_squares" ["body"] (Pu K R_free_squares) := ok_free_squares T h_free_squares r_is_free
  have r_frame_of : OkAt P w K mg base 1 "frame_of" ["body"] (Pu K R_frame_of) := ok_frame_of T h_frame_of
  have r_moved : OkAt P w K mg base 4 "moved" ["body", "by"] (Pu K R_moved) := ok_moved T h_moved r_check_cell
  have r_shape_of : OkAt P w K mg base 5 "shape_of" ["body"] (Pu K R_shape_of) := ok_shape_of T h_shape_of r_frame_of r_moved
  have r_squares_of : OkAt P w K mg base 1 "squares_of" ["body"] (NewDSp P w K R_squares_of) := ok_squares_of h_squares_of
  have r_supports_of : OkAt P w K mg base 1 "supports_of" ["squares", "start", "end"] (sp_supports_of P w K) := ok_supports_of T h_supports_of
  have r_kind_of : OkAt P w K mg base 9 "kind_of" ["body", "start", "end"] (Pu K R_kind_of) := ok_kind_of T h_kind_of r_check_cell r_supports_of r_squares_of r_is_free
  have r_done : OkAt P w K mg base 10 "done" ["body", "start", "end"] (Pu K R_done) := ok_done T h_done r_kind_of
  have r_moves_of : OkAt P w K mg base 10 "moves_of" ["body"] (Pu K R_moves_of) := ok_moves_of T h_moves_of r_supports_of r_squares_of r_free_squares
  have r_followers : OkAt P w K mg base 11 "followers" ["body"] (NewSp K R_followers) := ok_followers T h_followers r_done r_shape_of r_moves_of
  have r_is_between : OkAt P w K mg base 2 "is_between" ["value", "low", "high"] (Pu K R_is_between) := ok_is_between T h_is_between r_is_whole
  have r_check_number : OkAt P w K mg base 3 "check_number" ["n", "most"] (Pu K R_check_number) := ok_check_number h_check_number r_is_between
  have r_all_shapes : OkAt P w K mg base 6 "all_shapes" ["n"] (Pu K R_all_shapes) := ok_all_shapes T h_all_shapes r_check_number r_beside r_shape_of
  have r_waves : OkAt P w K mg base 1 "waves" ["nexts", "body"] (sp_waves P w K) := ok_waves T h_waves
  have r_farthest : OkAt P w K mg base 12 "farthest" ["n"] (Pu K R_farthest) := ok_farthest T h_farthest r_check_number r_all_shapes r_followers r_waves
  have r_lnb : OkAt P w K mg base 1 "_law_nb_beside" ["_law_cell"] (NewSp K R_lnb) := ok_lnb h__law_nb_beside
  have r_both : OkAt P w K mg base 1 "_law_nb_both" ["_law_rest", "_law_cell", "_law_end", "_law_x", "_law_y"] (Pu K R_both) := ok_both h__law_nb_both
  have r_lshapeT : OkAt P w K mg base 1 "_law_nb_shape" ["_law_cells"] (Pu K R_lshapeT) := ok_lshapeT T h__law_nb_shape
  have r_lshapeL : OkAt P w K mg base 1 "_law_nb_shape" ["_law_cells"] (Pu K R_lshapeL) := ok_lshapeL T h__law_nb_shape
  have r_lwaves : OkAt P w K mg base 1 "_law_waves" ["_law_nexts", "_law_shape"] (sp_waves P w K) := ok_lwaves T h__law_waves
  have r_steps : OkAt P w K mg base 2 "_law_nb_steps" ["_law_rest", "_law_cell"] (NewSp K R_steps) := ok_steps T h__law_nb_steps r_both
  have r_lots : OkAt P w K mg base 2 "_law_nb_lots" ["_law_cells"] (sp_lots K) := ok_lots T h__law_nb_lots r_lnb
  have r_lfree : OkAt P w K mg base 3 "_law_nb_free" ["_law_body"] (NewSp K R_lfree) := ok_lfree T h__law_nb_free r_lots
  have r_lmoves : OkAt P w K mg base 4 "_law_nb_moves" ["_law_body"] (NewSp K R_lmoves) := ok_lmoves T h__law_nb_moves r_lfree r_steps
  have r_lshapes : OkAt P w K mg base 2 "_law_nb_shapes" ["_law_many"] (NewSp K R_lshapes) := ok_lshapes T h__law_nb_shapes r_lnb r_lshapeT
  have r_draw : OkAt P w K mg base 1 "_law_draw" ["_law_pen_here", "_law_many"] (sp_draw K) := ok_draw T h__law_draw
  have r_pick : OkAt P w K mg base 2 "_law_pick" ["_law_pen_here", "_law_some"] (sp_pick K) := ok_pick T h__law_pick r_draw
  have r_pen : OkAt P w K mg base 1 "_law_pen" ["_law_script"] (sp_pen K) := ok_pen T h__law_pen
  have r_checkX : OkXAt P w K mg base 3 "check_number" ["n", "most"] (sp_wrong K C 2) := ok_checkX T B h_check_number r_is_between
  have r_farX : OkXAt P w K mg base 4 "farthest" ["n"] (sp_wrong K C 1) := ok_farX T h_farthest r_checkX
  have r_refused : OkAt P w K mg base 5 "_law_refused" ["_law_n"] (Pu K R_refused) := ok_refused T B h__law_refused r_farX
  exact ok_law math_all T F r_pen r_pick r_lshapes r_lmoves r_lshapeL r_lwaves r_farthest r_refused
theorem has_mk {h : Heap} (X : K.In h) (G : h.Ns mainGlobals mg) {x : Str} {st : Stmt} {ps : List Str} {f : Addr} {oc : Value} {od an : Option Addr} {osl : Array (Option Value)} {kV doc pm cdv ct : Value}
    (a : PySem.W.nsIn K mainGlobals x = some (some (.ref f))) (l : K.lookup f = some ⟨oc, od, .func (PySem.W.fnOf x x (defArgs st) (defBody st) (defScope st) .none kV doc pm an cdv ct), osl⟩)
    (c : PySem.W.codeIn K cdv x = true) (k : PySem.W.keepIn K (.ref f) = true)
    (hb : ∀ (kV doc pm : Value) (an : Option Addr) (cdv ct : Value) (us : List Value), us.length = ps.length → bindArgs (PySem.W.fnOf x x (defArgs st) (defBody st) (defScope st) .none kV doc pm an cdv ct) ⟨us, []⟩ = pure (ps.zip us)) : Has K mg x st ps :=
  ⟨⟨_, _, fun_mk (st := st) l c k, PySem.W.mg_of X G a, (fun_mk (st := st) l c k).binds hb⟩⟩
theorem sqt_mk {a : Addr} {dd : Option Addr} {its : Array Value} {n : Nat} {sl : Array (Option Value)} {xs : List V} (l : K.lookup a = some ⟨.type "tuple", dd, .seq its n, sl⟩) (hs : its.size ≤ sizeLine) (v : Vals xs its.toList) : SqT K H a xs :=
  .inr ⟨_, its, n, l, rfl, rfl, hs, v⟩
theorem cell_mk {a : Addr} {dd : Option Addr} {n : Nat} {sl : Array (Option Value)} {i j : Int} {t1 t2 : Tok} (l : K.lookup a = some ⟨.type "tuple", dd, .seq #[.int i t1, .int j t2] n, sl⟩) : ∀ H, Dp K H (.ref a) (cellD (i, j)) := fun H =>
  .tup (sqt_mk (xs := [.int i, .int j]) l (by show 2 ≤ sizeLine; decide) (.cons ⟨t1, rfl⟩ (.cons ⟨t2, rfl⟩ .nil))) (.cons (.int i) (.cons (.int j) .nil))
theorem around_mk {a a1 a2 a3 a4 a5 a6 a7 a8 : Addr} {dd : Option Addr} {n : Nat} {sl : Array (Option Value)} (l : K.lookup a = some ⟨.type "tuple", dd, .seq #[.ref a1, .ref a2, .ref a3, .ref a4, .ref a5, .ref a6, .ref a7, .ref a8] n, sl⟩)
    (h1 : ∀ H, Dp K H (.ref a1) (cellD (-1, -1))) (h2 : ∀ H, Dp K H (.ref a2) (cellD (-1, 0))) (h3 : ∀ H, Dp K H (.ref a3) (cellD (-1, 1))) (h4 : ∀ H, Dp K H (.ref a4) (cellD (0, -1)))
    (h5 : ∀ H, Dp K H (.ref a5) (cellD (0, 1))) (h6 : ∀ H, Dp K H (.ref a6) (cellD (1, -1))) (h7 : ∀ H, Dp K H (.ref a7) (cellD (1, 0))) (h8 : ∀ H, Dp K H (.ref a8) (cellD (1, 1))) : ∀ H, Dp K H (.ref a) (.tuple (around.map cellD)) := fun H =>
  .tup (sqt_mk (xs := [.ref a1, .ref a2, .ref a3, .ref a4, .ref a5, .ref a6, .ref a7, .ref a8]) l (by show 8 ≤ sizeLine; decide) (.cons rfl (.cons rfl (.cons rfl (.cons rfl (.cons rfl (.cons rfl (.cons rfl (.cons rfl .nil)))))))))
    (.cons (h1 H) (.cons (h2 H) (.cons (h3 H) (.cons (h4 H) (.cons (h5 H) (.cons (h6 H) (.cons (h7 H) (.cons (h8 H) .nil))))))))
theorem dp_ints : ∀ ns : List Int, DpAll K H (ns.map V.int) (ns.map PyData.int)
  | [] => .nil
  | n :: ns => .cons (.int n) (dp_ints ns)
theorem exm_self {S : Addr} (h1 : PySem.W.subIn K (.ref S) (.type "BaseException") = some true) (h2 : PySem.W.isClsIn K S = true) (h3 : PySem.W.typeIn K (.ref S) = some (.type "type")) (h4 : PySem.W.subIn K (.ref S) (.ref S) = some true) :
    PySem.W.exmOne K (.ref S) (.ref S) = some true := by
  have e1 : (PySem.W.subIn K (.ref S) (.type "BaseException") == some true) = true := by rw [h1] <;> rfl
  have e2 : ((PySem.W.clsIn K S).isSome && PySem.W.typeIn K (.ref S) == some (.type "type")) = true := by
    have h2' : (PySem.W.clsIn K S).isSome = true := h2
    rw [h2', h3] <;> rfl
  show (if (PySem.W.subIn K (.ref S) (.type "BaseException") == some true) = true then (if ((PySem.W.clsIn K S).isSome && PySem.W.typeIn K (.ref S) == some (.type "type")) = true then PySem.W.subIn K (.ref S) (.ref S) else none) else none) = some true
  rw [if_pos e1, if_pos e2]
  exact h4
theorem bad_mk {h : Heap} (X : K.In h) (G : h.Ns mainGlobals mg) {nm q : Str} {N S : Addr} {bs : List Value} {sn : List Str} {sub : List Value} {ab : Bool} {col : Option Bool} {dd : Option Addr} {m0 m1 m2 m3 m5 : Option Value}
    {oc doc pm cdv ct : Value} {od an : Option Addr} {osl : Array (Option Value)} {kV : Value}
    (aC : PySem.W.nsIn K mainGlobals "BadNumber" = some (some (.ref C)))
    (xL : K.lookup C = some (excClassObj nm q C N bs [.ref S, .type "ValueError", .type "Exception", .type "BaseException", .type "object"] true sn sub ab col dd m0 m1 m2 m3 m5 "ValueError.__new__"))
    (sa : PySem.W.findIn K (.ref C) "__setattr__" = some (some (.builtin "object.__setattr__"))) (ga : PySem.W.findIn K (.ref C) "__getattribute__" = some (some (.builtin "BaseException.__getattribute__"))) (gg : PySem.W.findIn K (.ref C) "__getattr__" = some none)
    (nW : PySem.W.findIn K (.ref C) "what" = some none) (nN : PySem.W.findIn K (.ref C) "number" = some none)
    (a1 : PySem.W.findIn K (.ref C) "__init__" = some (some (.ref fI))) (t1 : PySem.W.typeIn K (.ref fI) = some (.type "function"))
    (l1 : K.lookup fI = some ⟨oc, od, .func (PySem.W.fnOf "__init__" "BadNumber.__init__" (defArgs s_bn) (defBody s_bn) (defScope s_bn) .none kV doc pm an cdv ct), osl⟩) (c1 : PySem.W.codeIn K cdv "BadNumber.__init__" = true) (k1 : PySem.W.keepIn K (.ref fI) = true)
    (kC : PySem.W.keepIn K (.ref C) = true) (eC : PySem.W.subIn K (.ref C) (.type "BaseException") = some true) (tC : PySem.W.typeIn K (.ref C) = some (.type "type")) (hC : PySem.W.hasDictIn K C = true) (iC : PySem.W.isClsIn K C = true) (sC : PySem.W.subIn K (.ref C) (.ref C) = some true) : BadTxt K mg C fI where
  gC := PySem.W.mg_of X G aC
  ox := ⟨⟨nm, q, N, bs, _, sn, sub, ab, col, dd, m0, m1, m2, m3, m5, xL, by rfl⟩, sa, eC, tC, kC⟩
  xf := ⟨ga, gg, eC, hC⟩
  nW := nW
  nN := nN
  iC := a1
  tI := t1
  te := exm_self eC iC tC sC
  fn := ⟨_, fun_mk (st := s_bn) l1 c1 k1, (fun_mk (st := s_bn) l1 c1 k1).binds fun _ _ _ _ _ _ us hl => match us, hl with | [_, _, _], _ => rfl⟩
theorem glo_mk {h : Heap} (X : K.In h) (G : h.Ns mainGlobals mg) (b_len : PySem.W.nsIn K mainGlobals "len" = some none) (b_tuple : PySem.W.nsIn K mainGlobals "tuple" = some none) (b_int : PySem.W.nsIn K mainGlobals "int" = some none) (b_bool : PySem.W.nsIn K mainGlobals "bool" = some none) (b_list : PySem.W.nsIn K mainGlobals "list" = some none) (b_dict : PySem.W.nsIn K mainGlobals "dict" = some none) (b_set : PySem.W.nsIn K mainGlobals "set" = some none) (b_sorted : PySem.W.nsIn K mainGlobals "sorted" = some none) (b_isinstance : PySem.W.nsIn K mainGlobals "isinstance" = some none) (b_abs : PySem.W.nsIn K mainGlobals "abs" = some none) (b_min : PySem.W.nsIn K mainGlobals "min" = some none) (b_max : PySem.W.nsIn K mainGlobals "max" = some none) (b_repr : PySem.W.nsIn K mainGlobals "repr" = some none) (b_range : PySem.W.nsIn K mainGlobals "range" = some none) (mm : PySem.W.nsIn K mainGlobals "MOST" = some (some (.int 7 tM))) (am : PySem.W.nsIn K mainGlobals "AROUND" = some (some (.ref aR))) (ad : ∀ H, Dp K H (.ref aR) (.tuple (around.map cellD))) : Glo K mg tM aR :=
  { len := PySem.W.mg_none_of X G b_len, tuple := PySem.W.mg_none_of X G b_tuple, int := PySem.W.mg_none_of X G b_int, bool := PySem.W.mg_none_of X G b_bool, list := PySem.W.mg_none_of X G b_list, dict := PySem.W.mg_none_of X G b_dict, set := PySem.W.mg_none_of X G b_set, sorted := PySem.W.mg_none_of X G b_sorted, isinstance := PySem.W.mg_none_of X G b_isinstance, abs := PySem.W.mg_none_of X G b_abs, min := PySem.W.mg_none_of X G b_min, max := PySem.W.mg_none_of X G b_max, repr := PySem.W.mg_none_of X G b_repr, range := PySem.W.mg_none_of X G b_range, mostM := PySem.W.mg_of X G mm, aroundM := PySem.W.mg_of X G am, aroundD := ad }
theorem law_mk {h : Heap} (X : K.In h) (G : h.Ns mainGlobals mg) {f fa : Addr} {oc : Value} {od an : Option Addr} {osl : Array (Option Value)} {kV doc pm cdv ct : Value} (hm : mg "law" = some (.ref fa))
    (a : PySem.W.nsIn K mainGlobals "law" = some (some (.ref f))) (l : K.lookup f = some ⟨oc, od, .func (PySem.W.fnOf "law" "law" (defArgs s_law) (defBody s_law) (defScope s_law) .none kV doc pm an cdv ct), osl⟩)
    (c : PySem.W.codeIn K cdv "law" = true) (k : PySem.W.keepIn K (.ref f) = true) (H : ∀ (base : Heap) (fd : FuncData), Fun K "law" "law" s_law f fd → FnOk P w K mg base CX0 13 f fd ["_law_script"] (sp_law K)) :
    ∃ fd : FuncData, (∀ (s : Shared) (u : Value), BindsTo s fd ⟨[u], []⟩ [("_law_script", u)]) ∧ ∀ base : Heap, K.In base → base.Ns mainGlobals mg → FnOk P w K mg base CX0 13 fa fd ["_law_script"] (sp_law K) := by
  have e := hm.symm.trans (PySem.W.mg_of X G a)
  cases e
  exact ⟨_, fun s u => .of_eq rfl, fun base _ _ => H base _ (fun_mk (st := s_law) l c k)⟩
theorem go {A R : Prop} (h : A) (k : A → R) : R := k h
end
theorem walk {l : PySem.W.OpenLaw} {q : Program} {loose : List Str} {XP : (Str → Option Value) → Heap → Prop} {YP : World → Heap → Prop} {d : DefRec} {K : Params → PySem.W.Frag} (hn : l.most = some 63) (hdf : d.params.defaults = [])
    (hY : ∀ (w : World) (h : Heap), YP w h → (K w.params).In h)
    (F : ∀ (w : World) (mg : Str → Option Value) (fa : Addr) (h : Heap), (K w.params).In h → h.Ns mainGlobals mg → mg d.name = some (.ref fa) →
      ∃ fd : FuncData, (∀ (s : Shared) (u : Value), BindsTo s fd ⟨[u], []⟩ [("_law_script", u)]) ∧ ∀ base : Heap, (K w.params).In base → base.Ns mainGlobals mg → FnOk l.prog w (K w.params) mg base CX0 13 fa fd ["_law_script"] (sp_law (K w.params))) :
    PySem.W.WalkO q loose XP YP l.row.toRowW d [] (fun f vs => PySem.call f vs) :=
  L2.walk_of (n := 63) (k := 13) (x := "_law_script") (CX := fun _ => CX0) (sp := fun w => sp_law (K w.params)) hn (by decide) hdf ⟨rfl, by decide, by decide⟩ hY F (fun _ _ a ns hl _ hS => ⟨.ref a, ns, rfl, .lst hS (dp_ints ns), hl, fun _ => rfl⟩) fun _ _ _ _ _ z => z
end Z
open PySem PySem.W PyProof.Rows in
set_option Elab.async false in
set_option linter.all false in
set_option maxRecDepth 100000 in
set_option maxHeartbeats 0 in
theorem PySem.Challenge.cw_slideinto_k41_whole_farthest_holds : PySem.Challenge.rw_slideinto_k41_whole_farthest.Holds := by
  w_on; o_law; k_head; (case hw => w_witness2)
  k_fill
  refine Z.walk (l := PySem.Challenge.rw_slideinto_k41_whole_farthest) rfl rfl (fun w h Y => PySem.W.kIn_of Y) ?F
  case F =>
    intro w mg fa h KX G hmg
    refine' Z.go (Z.has_mk KX G (x := "is_whole") (st := Z.s_is_whole) (ps := ["value"]) ?a ?l ?c ?k fun _ _ _ _ _ _ us hl => match us, hl with | [_], _ => rfl) fun h_is_whole => ?_
    (case a => k_is); (case l => k_is); (case c => k_is); (case k => k_is)
    refine' Z.go (Z.has_mk KX G (x := "is_cell") (st := Z.s_is_cell) (ps := ["value"]) ?a ?l ?c ?k fun _ _ _ _ _ _ us hl => match us, hl with | [_], _ => rfl) fun h_is_cell => ?_
    (case a => k_is); (case l => k_is); (case c => k_is); (case k => k_is)
    refine' Z.go (Z.has_mk KX G (x := "check_cell") (st := Z.s_check_cell) (ps := ["value"]) ?a ?l ?c ?k fun _ _ _ _ _ _ us hl => match us, hl with | [_], _ => rfl) fun h_check_cell => ?_
    (case a => k_is); (case l => k_is); (case c => k_is); (case k => k_is)
    refine' Z.go (Z.has_mk KX G (x := "beside") (st := Z.s_beside) (ps := ["cell"]) ?a ?l ?c ?k fun _ _ _ _ _ _ us hl => match us, hl with | [_], _ => rfl) fun h_beside => ?_
    (case a => k_is); (case l => k_is); (case c => k_is); (case k => k_is)
    refine' Z.go (Z.has_mk KX G (x := "taken_part") (st := Z.s_taken_part) (ps := ["left", "cell"]) ?a ?l ?c ?k fun _ _ _ _ _ _ us hl => match us, hl with | [_, _], _ => rfl) fun h_taken_part => ?_
    (case a => k_is); (case l => k_is); (case c => k_is); (case k => k_is)
    refine' Z.go (Z.has_mk KX G (x := "parts_of") (st := Z.s_parts_of) (ps := ["cells"]) ?a ?l ?c ?k fun _ _ _ _ _ _ us hl => match us, hl with | [_], _ => rfl) fun h_parts_of => ?_
    (case a => k_is); (case l => k_is); (case c => k_is); (case k => k_is)
    refine' Z.go (Z.has_mk KX G (x := "hangs") (st := Z.s_hangs) (ps := ["cells"]) ?a ?l ?c ?k fun _ _ _ _ _ _ us hl => match us, hl with | [_], _ => rfl) fun h_hangs => ?_
    (case a => k_is); (case l => k_is); (case c => k_is); (case k => k_is)
    refine' Z.go (Z.has_mk KX G (x := "is_free") (st := Z.s_is_free) (ps := ["body", "cell"]) ?a ?l ?c ?k fun _ _ _ _ _ _ us hl => match us, hl with | [_, _], _ => rfl) fun h_is_free => ?_
    (case a => k_is); (case l => k_is); (case c => k_is); (case k => k_is)
    refine' Z.go (Z.has_mk KX G (x := "free_squares") (st := Z.s_free_squares) (ps := ["body"]) ?a ?l ?c ?k fun _ _ _ _ _ _ us hl => match us, hl with | [_], _ => rfl) fun h_free_squares => ?_
    (case a => k_is); (case l => k_is); (case c => k_is); (case k => k_is)
    refine' Z.go (Z.has_mk KX G (x := "frame_of") (st := Z.s_frame_of) (ps := ["body"]) ?a ?l ?c ?k fun _ _ _ _ _ _ us hl => match us, hl with | [_], _ => rfl) fun h_frame_of => ?_
    (case a => k_is); (case l => k_is); (case c => k_is); (case k => k_is)
    refine' Z.go (Z.has_mk KX G (x := "moved") (st := Z.s_moved) (ps := ["body", "by"]) ?a ?l ?c ?k fun _ _ _ _ _ _ us hl => match us, hl with | [_, _], _ => rfl) fun h_moved => ?_
    (case a => k_is); (case l => k_is); (case c => k_is); (case k => k_is)
    refine' Z.go (Z.has_mk KX G (x := "shape_of") (st := Z.s_shape_of) (ps := ["body"]) ?a ?l ?c ?k fun _ _ _ _ _ _ us hl => match us, hl with | [_], _ => rfl) fun h_shape_of => ?_
    (case a => k_is); (case l => k_is); (case c => k_is); (case k => k_is)
    refine' Z.go (Z.has_mk KX G (x := "squares_of") (st := Z.s_squares_of) (ps := ["body"]) ?a ?l ?c ?k fun _ _ _ _ _ _ us hl => match us, hl with | [_], _ => rfl) fun h_squares_of => ?_
    (case a => k_is); (case l => k_is); (case c => k_is); (case k => k_is)
    refine' Z.go (Z.has_mk KX G (x := "supports_of") (st := Z.s_supports_of) (ps := ["squares", "start", "end"]) ?a ?l ?c ?k fun _ _ _ _ _ _ us hl => match us, hl with | [_, _, _], _ => rfl) fun h_supports_of => ?_
    (case a => k_is); (case l => k_is); (case c => k_is); (case k => k_is)
    refine' Z.go (Z.has_mk KX G (x := "kind_of") (st := Z.s_kind_of) (ps := ["body", "start", "end"]) ?a ?l ?c ?k fun _ _ _ _ _ _ us hl => match us, hl with | [_, _, _], _ => rfl) fun h_kind_of => ?_
    (case a => k_is); (case l => k_is); (case c => k_is); (case k => k_is)
    refine' Z.go (Z.has_mk KX G (x := "done") (st := Z.s_done) (ps := ["body", "start", "end"]) ?a ?l ?c ?k fun _ _ _ _ _ _ us hl => match us, hl with | [_, _, _], _ => rfl) fun h_done => ?_
    (case a => k_is); (case l => k_is); (case c => k_is); (case k => k_is)
    refine' Z.go (Z.has_mk KX G (x := "moves_of") (st := Z.s_moves_of) (ps := ["body"]) ?a ?l ?c ?k fun _ _ _ _ _ _ us hl => match us, hl with | [_], _ => rfl) fun h_moves_of => ?_
    (case a => k_is); (case l => k_is); (case c => k_is); (case k => k_is)
    refine' Z.go (Z.has_mk KX G (x := "followers") (st := Z.s_followers) (ps := ["body"]) ?a ?l ?c ?k fun _ _ _ _ _ _ us hl => match us, hl with | [_], _ => rfl) fun h_followers => ?_
    (case a => k_is); (case l => k_is); (case c => k_is); (case k => k_is)
    refine' Z.go (Z.has_mk KX G (x := "is_between") (st := Z.s_is_between) (ps := ["value", "low", "high"]) ?a ?l ?c ?k fun _ _ _ _ _ _ us hl => match us, hl with | [_, _, _], _ => rfl) fun h_is_between => ?_
    (case a => k_is); (case l => k_is); (case c => k_is); (case k => k_is)
    refine' Z.go (Z.has_mk KX G (x := "check_number") (st := Z.s_check_number) (ps := ["n", "most"]) ?a ?l ?c ?k fun _ _ _ _ _ _ us hl => match us, hl with | [_, _], _ => rfl) fun h_check_number => ?_
    (case a => k_is); (case l => k_is); (case c => k_is); (case k => k_is)
    refine' Z.go (Z.has_mk KX G (x := "all_shapes") (st := Z.s_all_shapes) (ps := ["n"]) ?a ?l ?c ?k fun _ _ _ _ _ _ us hl => match us, hl with | [_], _ => rfl) fun h_all_shapes => ?_
    (case a => k_is); (case l => k_is); (case c => k_is); (case k => k_is)
    refine' Z.go (Z.has_mk KX G (x := "waves") (st := Z.s_waves) (ps := ["nexts", "body"]) ?a ?l ?c ?k fun _ _ _ _ _ _ us hl => match us, hl with | [_, _], _ => rfl) fun h_waves => ?_
    (case a => k_is); (case l => k_is); (case c => k_is); (case k => k_is)
    refine' Z.go (Z.has_mk KX G (x := "farthest") (st := Z.s_farthest) (ps := ["n"]) ?a ?l ?c ?k fun _ _ _ _ _ _ us hl => match us, hl with | [_], _ => rfl) fun h_farthest => ?_
    (case a => k_is); (case l => k_is); (case c => k_is); (case k => k_is)
    refine' Z.go (Z.has_mk KX G (x := "_law_nb_beside") (st := Z.s__law_nb_beside) (ps := ["_law_cell"]) ?a ?l ?c ?k fun _ _ _ _ _ _ us hl => match us, hl with | [_], _ => rfl) fun h__law_nb_beside => ?_
    (case a => k_is); (case l => k_is); (case c => k_is); (case k => k_is)
    refine' Z.go (Z.has_mk KX G (x := "_law_nb_both") (st := Z.s__law_nb_both) (ps := ["_law_rest", "_law_cell", "_law_end", "_law_x", "_law_y"]) ?a ?l ?c ?k fun _ _ _ _ _ _ us hl => match us, hl with | [_, _, _, _, _], _ => rfl) fun h__law_nb_both => ?_
    (case a => k_is); (case l => k_is); (case c => k_is); (case k => k_is)
    refine' Z.go (Z.has_mk KX G (x := "_law_nb_shape") (st := Z.s__law_nb_shape) (ps := ["_law_cells"]) ?a ?l ?c ?k fun _ _ _ _ _ _ us hl => match us, hl with | [_], _ => rfl) fun h__law_nb_shape => ?_
    (case a => k_is); (case l => k_is); (case c => k_is); (case k => k_is)
    refine' Z.go (Z.has_mk KX G (x := "_law_waves") (st := Z.s__law_waves) (ps := ["_law_nexts", "_law_shape"]) ?a ?l ?c ?k fun _ _ _ _ _ _ us hl => match us, hl with | [_, _], _ => rfl) fun h__law_waves => ?_
    (case a => k_is); (case l => k_is); (case c => k_is); (case k => k_is)
    refine' Z.go (Z.has_mk KX G (x := "_law_nb_steps") (st := Z.s__law_nb_steps) (ps := ["_law_rest", "_law_cell"]) ?a ?l ?c ?k fun _ _ _ _ _ _ us hl => match us, hl with | [_, _], _ => rfl) fun h__law_nb_steps => ?_
    (case a => k_is); (case l => k_is); (case c => k_is); (case k => k_is)
    refine' Z.go (Z.has_mk KX G (x := "_law_nb_lots") (st := Z.s__law_nb_lots) (ps := ["_law_cells"]) ?a ?l ?c ?k fun _ _ _ _ _ _ us hl => match us, hl with | [_], _ => rfl) fun h__law_nb_lots => ?_
    (case a => k_is); (case l => k_is); (case c => k_is); (case k => k_is)
    refine' Z.go (Z.has_mk KX G (x := "_law_nb_free") (st := Z.s__law_nb_free) (ps := ["_law_body"]) ?a ?l ?c ?k fun _ _ _ _ _ _ us hl => match us, hl with | [_], _ => rfl) fun h__law_nb_free => ?_
    (case a => k_is); (case l => k_is); (case c => k_is); (case k => k_is)
    refine' Z.go (Z.has_mk KX G (x := "_law_nb_moves") (st := Z.s__law_nb_moves) (ps := ["_law_body"]) ?a ?l ?c ?k fun _ _ _ _ _ _ us hl => match us, hl with | [_], _ => rfl) fun h__law_nb_moves => ?_
    (case a => k_is); (case l => k_is); (case c => k_is); (case k => k_is)
    refine' Z.go (Z.has_mk KX G (x := "_law_nb_shapes") (st := Z.s__law_nb_shapes) (ps := ["_law_many"]) ?a ?l ?c ?k fun _ _ _ _ _ _ us hl => match us, hl with | [_], _ => rfl) fun h__law_nb_shapes => ?_
    (case a => k_is); (case l => k_is); (case c => k_is); (case k => k_is)
    refine' Z.go (Z.has_mk KX G (x := "_law_draw") (st := Z.s__law_draw) (ps := ["_law_pen_here", "_law_many"]) ?a ?l ?c ?k fun _ _ _ _ _ _ us hl => match us, hl with | [_, _], _ => rfl) fun h__law_draw => ?_
    (case a => k_is); (case l => k_is); (case c => k_is); (case k => k_is)
    refine' Z.go (Z.has_mk KX G (x := "_law_pick") (st := Z.s__law_pick) (ps := ["_law_pen_here", "_law_some"]) ?a ?l ?c ?k fun _ _ _ _ _ _ us hl => match us, hl with | [_, _], _ => rfl) fun h__law_pick => ?_
    (case a => k_is); (case l => k_is); (case c => k_is); (case k => k_is)
    refine' Z.go (Z.has_mk KX G (x := "_law_pen") (st := Z.s__law_pen) (ps := ["_law_script"]) ?a ?l ?c ?k fun _ _ _ _ _ _ us hl => match us, hl with | [_], _ => rfl) fun h__law_pen => ?_
    (case a => k_is); (case l => k_is); (case c => k_is); (case k => k_is)
    refine' Z.go (Z.has_mk KX G (x := "_law_refused") (st := Z.s__law_refused) (ps := ["_law_n"]) ?a ?l ?c ?k fun _ _ _ _ _ _ us hl => match us, hl with | [_], _ => rfl) fun h__law_refused => ?_
    (case a => k_is); (case l => k_is); (case c => k_is); (case k => k_is)
    refine' Z.go (Z.bad_mk KX G ?aC ?xL ?sa ?ga ?gg ?nW ?nN ?a1 ?t1 ?l1 ?c1 ?k1 ?kC ?eC ?tC ?hC ?iC ?sC) fun hB => ?_
    (case aC => k_is); (case xL => k_is); (case sa => k_is); (case ga => k_is); (case gg => k_is); (case nW => k_is); (case nN => k_is)
    (case a1 => k_is); (case t1 => k_is); (case l1 => k_is); (case c1 => k_is); (case k1 => k_is)
    (case kC => k_is); (case eC => k_is); (case tC => k_is); (case hC => k_is); (case iC => k_is); (case sC => first | rfl | k_is)
    refine' Z.go (Z.glo_mk KX G ?b_len ?b_tuple ?b_int ?b_bool ?b_list ?b_dict ?b_set ?b_sorted ?b_isinstance ?b_abs ?b_min ?b_max ?b_repr ?b_range ?mm ?am (Z.around_mk ?ad (Z.cell_mk ?c1) (Z.cell_mk ?c2) (Z.cell_mk ?c3) (Z.cell_mk ?c4) (Z.cell_mk ?c5) (Z.cell_mk ?c6) (Z.cell_mk ?c7) (Z.cell_mk ?c8))) fun hT => ?_
    (case b_len => k_is)
    (case b_tuple => k_is)
    (case b_int => k_is)
    (case b_bool => k_is)
    (case b_list => k_is)
    (case b_dict => k_is)
    (case b_set => k_is)
    (case b_sorted => k_is)
    (case b_isinstance => k_is)
    (case b_abs => k_is)
    (case b_min => k_is)
    (case b_max => k_is)
    (case b_repr => k_is)
    (case b_range => k_is)
    (case mm => k_is)
    (case am => k_is)
    (case ad => k_is)
    (case c1 => k_is)
    (case c2 => k_is)
    (case c3 => k_is)
    (case c4 => k_is)
    (case c5 => k_is)
    (case c6 => k_is)
    (case c7 => k_is)
    (case c8 => k_is)
    refine' Z.law_mk KX G hmg ?a ?l ?c ?k fun base fd hF => Z.all_ok hT hB hF h_is_whole h_is_cell h_check_cell h_beside h_taken_part h_parts_of h_hangs h_is_free h_free_squares h_frame_of h_moved h_shape_of h_squares_of h_supports_of h_kind_of h_done h_moves_of h_followers h_is_between h_check_number h_all_shapes h_waves h_farthest h__law_nb_beside h__law_nb_both h__law_nb_shape h__law_waves h__law_nb_steps h__law_nb_lots h__law_nb_free h__law_nb_moves h__law_nb_shapes h__law_draw h__law_pick h__law_pen h__law_refused
    (case a => k_is); (case l => k_is); (case c => k_is); (case k => k_is)
#print axioms PySem.Challenge.cw_slideinto_k41_whole_farthest_holds
