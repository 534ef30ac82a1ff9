import PyProof.Rows.All
import Wide.All
import OpenK.AllK
import Wide.FinOn
import HandS.Base
import HandS.Call
import HandS.List
import HandS.Comp
import HandS.Ends
import HandS.Dict
import HandS.Iter
import HandS.Text
import HandS.Exc
import HandS.TryOnly
import HandS.ExcOwn
import HandS.ExcValue
import HandS.IsInst
import HandS.Wide
import HandS.Words
import HandS.WordsList
import HandS.WordsDict
import HandS.WordsExc
import HandS.Style
import HandS.Deep
import HandS.ExcIs
import KE.DataFind
import HandS.Strs
import HandS.More
import HandS.SortRule
import HandS.Conv
import HandS.DictTup
import KE.KDictDisplayH
import HandS.TupSets
import HandS.SortOrd
import HandS.CallSlots
import HandS.SlotsOwn
import HandS.SetFor
import PySem.Challenge.RW_samedays_k13_examples
set_option Elab.async false
set_option linter.all false
set_option maxRecDepth 100000
set_option maxHeartbeats 16000000
/-! data over the layer: what a value stands for, what is owned, judgements over data -/
namespace Sd
open PySem PySem.Spec PyProof.Rows L2

mutual
inductive Rep (H : Hp) : V → PyData → Prop
  | non : Rep H .non .none
  | bl (b : Bool) : Rep H (.bl b) (.bool b)
  | int (i : Int) : Rep H (.int i) (.int i)
  | str (x : Str) : Rep H (.str x) (.str x)
  | lst {a : Addr} {xs : List V} {ds : List PyData} : H a = some (.lst xs) → Reps H xs ds → Rep H (.ref a) (.list ds)
  | tup {a : Addr} {xs : List V} {ds : List PyData} : H a = some (.tup xs) → Reps H xs ds → Rep H (.ref a) (.tuple ds)
inductive Reps (H : Hp) : List V → List PyData → Prop
  | nil : Reps H [] []
  | cons {v : V} {vs : List V} {d : PyData} {ds : List PyData} : Rep H v d → Reps H vs ds → Reps H (v :: vs) (d :: ds)
end
section
variable {H H' : Hp} {K : PySem.W.Frag}
theorem Rep.mono (e : Same H H') {v : V} {d : PyData} (h : Rep H v d) : Rep H' v d :=
  Rep.rec (motive_1 := fun v d _ => Rep H' v d) (motive_2 := fun vs ds _ => Reps H' vs ds) .non .bl .int .str (fun h _ r => .lst (e _ _ h) r) (fun h _ r => .tup (e _ _ h) r) .nil (fun _ _ a b => .cons a b) h
theorem Reps.mono (e : Same H H') {v : List V} {d : List PyData} (h : Reps H v d) : Reps H' v d :=
  Reps.rec (motive_1 := fun v d _ => Rep H' v d) (motive_2 := fun vs ds _ => Reps H' vs ds) .non .bl .int .str (fun h _ r => .lst (e _ _ h) r) (fun h _ r => .tup (e _ _ h) r) .nil (fun _ _ a b => .cons a b) h
theorem Rep.dp {v : V} {d : PyData} (h : Rep H v d) : Dp K H v d :=
  Rep.rec (motive_1 := fun v d _ => Dp K H v d) (motive_2 := fun vs ds _ => DpAll K H vs ds) .non .bl .int .str (fun h _ r => .lst (SqL.of h) r) (fun h _ r => .tup (SqT.of h) r) .nil (fun _ _ a b => .cons a b) h
theorem Reps.length : ∀ {vs : List V} {ds : List PyData}, Reps H vs ds → vs.length = ds.length
  | _, _, .nil => rfl
  | _, _, .cons _ r => congrArg (· + 1) r.length
theorem Reps.get : ∀ {vs : List V} {ds : List PyData} {i : Nat} {d : PyData}, Reps H vs ds → ds[i]? = some d → ∃ v, vs[i]? = some v ∧ Rep H v d
  | _, _, _, _, .nil, e => by simp at e
  | _, _, 0, _, .cons a _, e => by simp at e; subst e; exact ⟨_, rfl, a⟩
  | _, _, i + 1, d, .cons _ r, e => by
    obtain ⟨v, h1, h2⟩ := Reps.get (i := i) (d := d) r (by simpa using e)
    exact ⟨v, by simpa using h1, h2⟩
theorem Reps.append : ∀ {xs ys : List V} {us ws : List PyData}, Reps H xs us → Reps H ys ws → Reps H (xs ++ ys) (us ++ ws)
  | _, _, _, _, .nil, s => s
  | _, _, _, _, .cons r t, s => .cons r (Reps.append t s)
theorem Reps.take : ∀ {xs : List V} {us : List PyData} (n : Nat), Reps H xs us → Reps H (xs.take n) (us.take n)
  | _, _, 0, _ => .nil
  | _, _, _ + 1, .nil => .nil
  | _, _, n + 1, .cons r t => .cons r (Reps.take n t)
theorem Reps.drop : ∀ {xs : List V} {us : List PyData} (n : Nat), Reps H xs us → Reps H (xs.drop n) (us.drop n)
  | _, _, 0, r => r
  | _, _, _ + 1, .nil => .nil
  | _, _, n + 1, .cons _ t => Reps.drop n t
theorem Reps.set {x : V} {u : PyData} (r : Rep H x u) : ∀ {xs : List V} {us : List PyData} (i : Nat), Reps H xs us → Reps H (xs.set i x) (us.set i u)
  | _, _, _, .nil => .nil
  | _, _, 0, .cons _ t => .cons r t
  | _, _, i + 1, .cons q t => .cons q (Reps.set r i t)
theorem Reps.reverse : ∀ {xs : List V} {us : List PyData}, Reps H xs us → Reps H xs.reverse us.reverse
  | _, _, .nil => .nil
  | _, _, .cons r t => by
    rw [List.reverse_cons, List.reverse_cons]
    exact t.reverse.append (.cons r .nil)
theorem Reps.ints : ∀ (ns : List Int), Reps H (ns.map V.int) (ns.map PyData.int)
  | [] => .nil
  | n :: r => .cons (.int n) (Reps.ints r)
theorem Reps.of_ints : ∀ {ns : List Int} {vs : List V}, Reps H vs (ns.map PyData.int) → vs = ns.map V.int
  | [], _, .nil => rfl
  | n :: r, _, .cons h t => by
    cases h
    rw [Reps.of_ints t]
    rfl
theorem Reps.of_bls : ∀ {ns : List Bool} {vs : List V}, Reps H vs (ns.map PyData.bool) → vs = ns.map V.bl
  | [], _, .nil => rfl
  | n :: r, _, .cons h t => by
    cases h
    rw [Reps.of_bls t]
    rfl
theorem Reps.of_strs : ∀ {ns : List Str} {vs : List V}, Reps H vs (ns.map PyData.str) → vs = ns.map V.str
  | [], _, .nil => rfl
  | n :: r, _, .cons h t => by
    cases h
    rw [Reps.of_strs t]
    rfl
end

/-! ### weakest readings -/
section
variable {X : Cx}
structure wE (X : Cx) (e : Expr) (σ : L2.St) (H : Hp) (Q : VK) : Prop where
  run : ∀ (pins : List (Addr × Obj)) (s : Shared), Inv X pins σ H s → wpAny (model X.prog X.w) X.A (eval e X.env) (EP X pins σ Q) X.xe s
structure wT (X : Cx) (e : Expr) (σ : L2.St) (H : Hp) (Q : Bool → Hp → Prop) : Prop where
  run : ∀ (pins : List (Addr × Obj)) (s : Shared), Inv X pins σ H s → wpAny (model X.prog X.w) X.A (isTrue e X.env (eval e X.env)) (TP X pins σ Q) X.xe s
structure wW (X : Cx) (e : Expr) (σ : L2.St) (H : Hp) (Q : Bool → Hp → Prop) : Prop where
  run : ∀ (whole : Sem Value) (pins : List (Addr × Obj)) (s : Shared), Inv X pins σ H s → wpAny (model X.prog X.w) X.A (isTrue e X.env whole) (TP X pins σ Q) X.xe s
structure wA (X : Cx) (es : List Expr) (σ : L2.St) (H : Hp) (Q : List V → Hp → Prop) : Prop where
  run : ∀ (pos : Pos) (pins : List (Addr × Obj)) (s : Shared), Inv X pins σ H s → wpAny (model X.prog X.w) X.A (spliced (backTo pos (starEach es X.env))) (AP X pins σ Q) X.xe s
structure wS (X : Cx) (st : Stmt) (D : Ends) (σ : L2.St) (H : Hp) : Prop where
  run : ∀ (pins : List (Addr × Obj)) (s : Shared), Inv X pins σ H s → wpAny (model X.prog X.w) X.A (exec st X.env) (SP X pins D) X.xe s
structure wSs (X : Cx) (st : List Stmt) (D : Ends) (σ : L2.St) (H : Hp) : Prop where
  run : ∀ (pins : List (Addr × Obj)) (s : Shared), Inv X pins σ H s → wpAny (model X.prog X.w) X.A (execs st X.env) (SP X pins D) X.xe s
theorem peW {e : Expr} : PE X e (wE X e) := ⟨fun pins s _ _ _ I h => h.run pins s I⟩
theorem ptW {e : Expr} : PT X e (wT X e) := ⟨fun pins s _ _ _ I h => h.run pins s I⟩
theorem pwW {e : Expr} : PW X e (wW X e) := ⟨fun wh pins s _ _ _ I h => h.run wh pins s I⟩
theorem paW {es : List Expr} : PA X es (wA X es) := ⟨fun pos pins s _ _ _ I h => h.run pos pins s I⟩
theorem psW {st : Stmt} : PS X st (wS X st) := ⟨fun pins s _ _ _ I h => h.run pins s I⟩
theorem pssW {st : List Stmt} : PSs X st (wSs X st) := ⟨fun pins s _ _ _ I h => h.run pins s I⟩
theorem wE.of {e : Expr} {t : TE} (h : PE X e t) {σ : L2.St} {H : Hp} {Q : VK} (q : t σ H Q) : wE X e σ H Q := ⟨fun pins s I => h.run pins s σ H Q I q⟩
theorem wT.of {e : Expr} {t : TT} (h : PT X e t) {σ : L2.St} {H : Hp} {Q : Bool → Hp → Prop} (q : t σ H Q) : wT X e σ H Q := ⟨fun pins s I => h.run pins s σ H Q I q⟩
theorem wW.of {e : Expr} {t : TT} (h : PW X e t) {σ : L2.St} {H : Hp} {Q : Bool → Hp → Prop} (q : t σ H Q) : wW X e σ H Q := ⟨fun wh pins s I => h.run wh pins s σ H Q I q⟩
theorem wA.of {es : List Expr} {t : TA} (h : PA X es t) {σ : L2.St} {H : Hp} {Q : List V → Hp → Prop} (q : t σ H Q) : wA X es σ H Q := ⟨fun pos pins s I => h.run pos pins s σ H Q I q⟩
theorem wS.of {st : Stmt} {t : TS} (h : PS X st t) {σ : L2.St} {H : Hp} {D : Ends} (q : t D σ H) : wS X st D σ H := ⟨fun pins s I => h.run pins s σ H D I q⟩
theorem wSs.of {st : List Stmt} {t : TS} (h : PSs X st t) {σ : L2.St} {H : Hp} {D : Ends} (q : t D σ H) : wSs X st D σ H := ⟨fun pins s I => h.run pins s σ H D I q⟩
end

/-! ### what is known of the heap -/
inductive Slot where
  | un
  | d (x : PyData)
  | raw (v : V)
inductive OO where
  | lst (ds : List PyData)
  | raw (o : HO)
  | dt (tb : List (List Int × PyData))
  | dl (od : Obj) (kvs : List (List Key × V)) (tb : List (List Int × PyData))
  | dk (tb : List (Int × PyData))
abbrev Own := List (Addr × OO)
structure Bs where
  Hf : Hp
  HB : Hp
/-- a dict with tuples of ints as keys, as data -/
structure DtOk (Hf : Hp) (kvs : List (List Key × V)) (tb : List (List Int × PyData)) : Prop where
  ks : kvs.map (·.1) = tb.map fun e => e.1.map Sum.inl
  vs : Reps Hf (kvs.map (·.2)) (tb.map (·.2))
structure DkOk (Hf : Hp) (kvs : List (Key × V)) (tb : List (Int × PyData)) : Prop where
  ks : kvs.map (·.1) = tb.map fun e => Sum.inl e.1
  vs : Reps Hf (kvs.map (·.2)) (tb.map (·.2))
def OwnOk (Hf H : Hp) (p : Addr) : OO → Prop
  | .lst ds => ∃ vs, H p = some (.lst vs) ∧ Reps Hf vs ds
  | .raw o => H p = some o
  | .dt tb => ∃ kvs, H p = some (.dT kvs) ∧ DtOk Hf kvs tb
  | .dl od kvs tb => H p = some (.frz od (.dT kvs)) ∧ DtOk Hf kvs tb
  | .dk tb => ∃ kvs, H p = some (.dK kvs) ∧ DkOk Hf kvs tb
theorem OwnOk.mono {Hf Hf' H H' : Hp} {p : Addr} {o : OO} (e : Same Hf Hf') (h : ∀ u, H p = some u → H' p = some u) (x : OwnOk Hf H p o) : OwnOk Hf' H' p o := by
  cases o with
  | lst ds => obtain ⟨vs, h1, h2⟩ := x; exact ⟨vs, h _ h1, h2.mono e⟩
  | raw o => exact h _ x
  | dt tb => obtain ⟨vs, h1, h2⟩ := x; exact ⟨vs, h _ h1, h2.ks, h2.vs.mono e⟩
  | dl od kvs tb => obtain ⟨h1, h2⟩ := x; exact ⟨h _ h1, h2.ks, h2.vs.mono e⟩
  | dk tb => obtain ⟨vs, h1, h2⟩ := x; exact ⟨vs, h _ h1, h2.ks, h2.vs.mono e⟩
theorem OwnOk.there {Hf H : Hp} {p : Addr} {o : OO} (x : OwnOk Hf H p o) : ∃ u, H p = some u := by
  cases o with
  | lst ds => obtain ⟨vs, h1, h2⟩ := x; exact ⟨_, h1⟩
  | raw o => exact ⟨_, x⟩
  | dt tb => obtain ⟨vs, h1, h2⟩ := x; exact ⟨_, h1⟩
  | dl od kvs tb => obtain ⟨h1, h2⟩ := x; exact ⟨_, h1⟩
  | dk tb => obtain ⟨vs, h1, h2⟩ := x; exact ⟨_, h1⟩
structure Sat (B : Bs) (Hf H : Hp) (own : Own) : Prop where
  e0 : Same B.Hf Hf
  e1 : Same Hf H
  eb : Same B.HB H
  fr : ∀ p o, Hf p = some o → B.Hf p = none → B.HB p = none
  ow : ∀ q ∈ own, Hf q.1 = none ∧ B.HB q.1 = none ∧ OwnOk Hf H q.1 q.2
  nd : (own.map Prod.fst).Nodup
  tp : ∀ p xs, H p = some (.tup xs) → Hf p = some (.tup xs)
theorem same_upd {H H' : Hp} {p : Addr} {o : HO} (e : Same H H') (h : H p = none) : Same H (upd H' p o) := fun b x q => by
  rw [upd_ne (ne_of_none q h)]
  exact e b x q
theorem same_upd2 {H H' : Hp} {p : Addr} {o : HO} (e : Same H H') : Same (upd H p o) (upd H' p o) := fun b x q => by
  by_cases hb : b = p
  · subst hb; rw [upd_same] at q ⊢; exact q
  · rw [upd_ne hb] at q ⊢; exact e b x q
section
variable {B : Bs} {Hf H : Hp} {own : Own} {p : Addr}
theorem Sat.none_f (S : Sat B Hf H own) (n : H p = none) : Hf p = none := S.e1.free n
theorem Sat.none_b (S : Sat B Hf H own) (n : H p = none) : B.HB p = none := S.eb.free n
theorem Sat.none_0 (S : Sat B Hf H own) (n : H p = none) : B.Hf p = none := S.e0.free (S.e1.free n)
theorem Sat.ne (S : Sat B Hf H own) (n : H p = none) {q : Addr × OO} (hq : q ∈ own) : q.1 ≠ p := by
  obtain ⟨_, _, c⟩ := S.ow q hq
  obtain ⟨u, hu⟩ := c.there
  exact ne_of_none hu n
/-- a new thing that will not change -/
theorem Sat.new (S : Sat B Hf H own) (n : H p = none) (o : HO) : Sat B (upd Hf p o) (upd H p o) own where
  e0 := same_upd S.e0 (S.none_0 n)
  e1 := same_upd2 S.e1
  eb := same_upd S.eb (S.none_b n)
  fr := fun q u h hb => by
    by_cases e : q = p
    · rw [e]; exact S.none_b n
    · rw [upd_ne e] at h; exact S.fr q u h hb
  ow := fun q hq => by
    obtain ⟨a, b, c⟩ := S.ow q hq
    have ne := S.ne n hq
    exact ⟨by rw [upd_ne ne]; exact a, b, c.mono (same_upd (Same.refl _) (S.none_f n)) fun u hu => by rw [upd_ne ne]; exact hu⟩
  nd := S.nd
  tp := fun q xs h => by
    by_cases e : q = p
    · subst e; rw [upd_same] at h ⊢; exact h
    · rw [upd_ne e] at h ⊢; exact S.tp q xs h
theorem Sat.new_same (S : Sat B Hf H own) (n : H p = none) (o : HO) : Same Hf (upd Hf p o) := same_upd (Same.refl _) (S.none_f n)
/-- a new thing of one's own -/
theorem Sat.newOwn (S : Sat B Hf H own) (n : H p = none) {o : HO} {oo : OO} (ok : OwnOk Hf (upd H p o) p oo) (nt : ∀ xs, o ≠ .tup xs := by intro _ z; cases z) : Sat B Hf (upd H p o) ((p, oo) :: own) where
  e0 := S.e0
  e1 := same_upd S.e1 (S.none_f n)
  eb := same_upd S.eb (S.none_b n)
  fr := S.fr
  ow := fun q hq => by
    rcases List.mem_cons.mp hq with rfl | hq
    · exact ⟨S.none_f n, S.none_b n, ok⟩
    · obtain ⟨a, b, c⟩ := S.ow q hq
      have ne := S.ne n hq
      exact ⟨a, b, c.mono (Same.refl _) fun u hu => by rw [upd_ne ne]; exact hu⟩
  nd := by
    rw [List.map_cons, List.nodup_cons]
    refine ⟨fun hm => ?_, S.nd⟩
    obtain ⟨q, hq, e⟩ := List.mem_map.mp hm
    exact S.ne n hq e
  tp := fun q xs h => by
    by_cases e : q = p
    · subst e; rw [upd_same] at h; exact absurd (Option.some.inj h) (nt xs)
    · rw [upd_ne e] at h; exact S.tp q xs h
theorem Sat.at (S : Sat B Hf H own) {oo : OO} (h : (p, oo) ∈ own) : Hf p = none ∧ B.HB p = none ∧ OwnOk Hf H p oo := S.ow _ h
/-- a thing of one's own changes -/
theorem Sat.write {oa ob : Own} {oo oo' : OO} {o : HO} (S : Sat B Hf H (oa ++ (p, oo) :: ob)) (ok : OwnOk Hf (upd H p o) p oo') (nt : ∀ xs, o ≠ .tup xs := by intro _ z; cases z) : Sat B Hf (upd H p o) (oa ++ (p, oo') :: ob) := by
  obtain ⟨a, b, _⟩ := S.at (p := p) (oo := oo) (by simp)
  have nd := S.nd
  rw [List.map_append, List.map_cons] at nd
  refine ⟨S.e0, same_upd S.e1 a, same_upd S.eb b, S.fr, fun q hq => ?_, by rw [List.map_append, List.map_cons]; exact nd, fun q xs h => ?_⟩
  rotate_left
  · by_cases e : q = p
    · subst e; rw [upd_same] at h; exact absurd (Option.some.inj h) (nt xs)
    · rw [upd_ne e] at h; exact S.tp q xs h
  have key : q ∈ oa ∨ q ∈ ob → Hf q.1 = none ∧ B.HB q.1 = none ∧ OwnOk Hf (upd H p o) q.1 q.2 := fun hq => by
    have hm : q ∈ oa ++ (p, oo) :: ob := by
      rcases hq with h | h
      · exact List.mem_append_left _ h
      · exact List.mem_append_right _ (List.mem_cons_of_mem _ h)
    obtain ⟨a', b', c'⟩ := S.ow q hm
    have ne : q.1 ≠ p := fun e => by
      rcases hq with h | h
      · exact (List.nodup_append.mp nd).2.2 q.1 (List.mem_map.mpr ⟨q, h, rfl⟩) p (List.mem_cons_self) e
      · have := (List.nodup_cons.mp (List.nodup_append.mp nd).2.1).1
        exact this (List.mem_map.mpr ⟨q, h, e⟩)
    exact ⟨a', b', c'.mono (Same.refl _) fun u hu => by rw [upd_ne ne]; exact hu⟩
  rcases List.mem_append.mp hq with h | h
  · exact key (.inl h)
  · rcases List.mem_cons.mp h with rfl | h
    · exact ⟨a, b, ok⟩
    · exact key (.inr h)
/-- a list of one's own will not change any more -/
theorem Sat.freeze {oa ob : Own} {ds : List PyData} (S : Sat B Hf H (oa ++ (p, .lst ds) :: ob)) : ∃ Hf', Same Hf Hf' ∧ Sat B Hf' H (oa ++ ob) ∧ Rep Hf' (.ref p) (.list ds) := by
  obtain ⟨a, b, vs, hp, hr⟩ := S.at (p := p) (oo := .lst ds) (by simp)
  have nd := S.nd
  rw [List.map_append, List.map_cons] at nd
  have sm : Same Hf (upd Hf p (.lst vs)) := same_upd (Same.refl _) a
  refine ⟨upd Hf p (.lst vs), sm, ⟨S.e0.trans sm, fun q u h => ?_, S.eb, fun q u h hb => ?_, fun q hq => ?_, ?_, fun q xs h => sm _ _ (S.tp q xs h)⟩, .lst upd_same (hr.mono sm)⟩
  · by_cases e : q = p
    · subst e; rw [upd_same] at h; rw [hp]; exact h
    · rw [upd_ne e] at h; exact S.e1 q u h
  · by_cases e : q = p
    · subst e; exact b
    · rw [upd_ne e] at h; exact S.fr q u h hb
  · have hm : q ∈ oa ++ (p, .lst ds) :: ob := by
      rcases List.mem_append.mp hq with h | h
      · exact List.mem_append_left _ h
      · exact List.mem_append_right _ (List.mem_cons_of_mem _ h)
    obtain ⟨a', b', c'⟩ := S.ow q hm
    have ne : q.1 ≠ p := fun e => by
      rcases List.mem_append.mp hq with h | h
      · exact (List.nodup_append.mp nd).2.2 q.1 (List.mem_map.mpr ⟨q, h, rfl⟩) p (List.mem_cons_self) e
      · have := (List.nodup_cons.mp (List.nodup_append.mp nd).2.1).1
        exact this (List.mem_map.mpr ⟨q, h, e⟩)
    exact ⟨by rw [upd_ne ne]; exact a', b', c'.mono sm fun u hu => hu⟩
  · rw [List.map_append]
    refine List.nodup_append.mpr ⟨(List.nodup_append.mp nd).1, (List.nodup_cons.mp (List.nodup_append.mp nd).2.1).2, fun x hx y hy => (List.nodup_append.mp nd).2.2 x hx y (List.mem_cons_of_mem _ hy)⟩
/-- forget a thing of one's own -/
theorem Sat.drop {oa ob : Own} {oo : OO} (S : Sat B Hf H (oa ++ (p, oo) :: ob)) : Sat B Hf H (oa ++ ob) := by
  have nd := S.nd
  rw [List.map_append, List.map_cons] at nd
  refine ⟨S.e0, S.e1, S.eb, S.fr, fun q hq => S.ow q ?_, ?_, S.tp⟩
  · rcases List.mem_append.mp hq with h | h
    · exact List.mem_append_left _ h
    · exact List.mem_append_right _ (List.mem_cons_of_mem _ h)
  · rw [List.map_append]
    refine List.nodup_append.mpr ⟨(List.nodup_append.mp nd).1, (List.nodup_cons.mp (List.nodup_append.mp nd).2.1).2, fun x hx y hy => (List.nodup_append.mp nd).2.2 x hx y (List.mem_cons_of_mem _ hy)⟩
end

/-! ### slots -/
def SlotR (Hf : Hp) (v : V) : Slot → Prop
  | .un => True
  | .d x => Rep Hf v x
  | .raw w => v = w
theorem SlotR.mono {Hf Hf' : Hp} (e : Same Hf Hf') {v : V} {s : Slot} (h : SlotR Hf v s) : SlotR Hf' v s := by
  cases s with
  | un => trivial
  | d x => exact Rep.mono e h
  | raw w => exact h
structure EnvR (Hf : Hp) (σ : L2.St) (ρ : List Slot) : Prop where
  len : σ.length = ρ.length
  at_ : ∀ (i : Nat) (s : Slot), ρ[i]? = some s → s = .un ∨ ∃ v, σ[i]? = some (some v) ∧ SlotR Hf v s
section
variable {Hf Hf' : Hp} {σ : L2.St} {ρ : List Slot}
theorem EnvR.mono (e : Same Hf Hf') (h : EnvR Hf σ ρ) : EnvR Hf' σ ρ := ⟨h.len, fun i s q => by
  rcases h.at_ i s q with z | ⟨v, z, r⟩
  · exact .inl z
  · exact .inr ⟨v, z, r.mono e⟩⟩
theorem EnvR.set (h : EnvR Hf σ ρ) {v : V} {s : Slot} (r : SlotR Hf v s) (i : Nat) : EnvR Hf (σ.set i (some v)) (ρ.set i s) := by
  refine ⟨by rw [List.length_set, List.length_set]; exact h.len, fun j t q => ?_⟩
  by_cases e : i = j
  · subst e
    by_cases hi : i < ρ.length
    · rw [List.getElem?_set_self hi] at q
      cases q
      exact .inr ⟨v, by rw [List.getElem?_set_self (by rw [h.len]; exact hi)], r⟩
    · rw [List.getElem?_eq_none (by simpa using hi)] at q
      cases q
  · rw [List.getElem?_set_ne e] at q
    rcases h.at_ j t q with z | ⟨w, z, r'⟩
    · exact .inl z
    · exact .inr ⟨w, by rw [List.getElem?_set_ne e]; exact z, r'⟩
theorem EnvR.unset (h : EnvR Hf σ ρ) (i : Nat) (o : Option V) : EnvR Hf (σ.set i o) (ρ.set i .un) := by
  refine ⟨by rw [List.length_set, List.length_set]; exact h.len, fun j t q => ?_⟩
  by_cases e : i = j
  · subst e
    by_cases hi : i < ρ.length
    · rw [List.getElem?_set_self hi] at q
      cases q
      exact .inl rfl
    · rw [List.getElem?_eq_none (by simpa using hi)] at q
      cases q
  · rw [List.getElem?_set_ne e] at q
    rcases h.at_ j t q with z | ⟨w, z, r'⟩
    · exact .inl z
    · exact .inr ⟨w, by rw [List.getElem?_set_ne e]; exact z, r'⟩
theorem EnvR.d (h : EnvR Hf σ ρ) {i : Nat} {x : PyData} (e : ρ[i]? = some (.d x)) : ∃ v, σ[i]? = some (some v) ∧ Rep Hf v x := by
  rcases h.at_ i _ e with z | z
  · cases z
  · exact z
theorem EnvR.raw (h : EnvR Hf σ ρ) {i : Nat} {w : V} (e : ρ[i]? = some (.raw w)) : σ[i]? = some (some w) := by
  rcases h.at_ i _ e with z | ⟨v, z, r⟩
  · cases z
  · rw [z, show v = w from r]
def wipeR (ρ : List Slot) : List Nat → List Slot
  | [] => ρ
  | v :: vs => (wipeR ρ vs).set v .un
theorem EnvR.wipe (h : EnvR Hf σ ρ) : ∀ is : List Nat, EnvR Hf (wipe σ is) (wipeR ρ is)
  | [] => h
  | i :: is => (EnvR.wipe h is).unset i none
end

/-! ### judgements over data -/
structure Ctx where
  X : Cx
  B : Bs
  ex : Addr → List Slot → Own → Prop
def Wish (Z : Ctx) : WX := fun cls d σ H => ∃ C Hf ρ own, cls = .ref C ∧ d = none ∧ Sat Z.B Hf H own ∧ EnvR Hf σ ρ ∧ Z.ex C ρ own
structure Gd (Z : Ctx) (k : Nat) : Prop where
  tk : Takes Z.X (Wish Z)
  po : PassesOwn (model Z.X.prog Z.X.w) Z.X.A Z.X.env Z.X.xe
  calm : Z.X.calm = true
  nd : Z.X.N.Nodup
  hr : Room k Z.X.A
theorem Gd.mono {Z : Ctx} {j k : Nat} (g : Gd Z k) (h : j ≤ k) : Gd Z j := ⟨g.tk, g.po, g.calm, g.nd, g.hr.mono h⟩
/-- e evaluates to what s says -/
def ES (Z : Ctx) (e : Expr) (ρ : List Slot) (own : Own) (s : Slot) : Prop := ∀ Hf σ H, Sat Z.B Hf H own → EnvR Hf σ ρ → ∀ Q : VK, (∀ v Hf' H', Same Hf Hf' → Sat Z.B Hf' H' own → SlotR Hf' v s → Q v H') → wE Z.X e σ H Q
abbrev ED (Z : Ctx) (e : Expr) (ρ : List Slot) (own : Own) (x : PyData) : Prop := ES Z e ρ own (.d x)
abbrev EV (Z : Ctx) (e : Expr) (ρ : List Slot) (own : Own) (v : V) : Prop := ES Z e ρ own (.raw v)
/-- a new list of one's own -/
def EL (Z : Ctx) (e : Expr) (ρ : List Slot) (own : Own) (ds : List PyData) : Prop := ∀ Hf σ H, Sat Z.B Hf H own → EnvR Hf σ ρ → ∀ Q : VK, (∀ p Hf' H', Same Hf Hf' → Sat Z.B Hf' H' ((p, .lst ds) :: own) → Q (.ref p) H') → wE Z.X e σ H Q
/-- e ends in an exception -/
def EX (Z : Ctx) (e : Expr) (ρ : List Slot) (own : Own) : Prop := ∀ Hf σ H, Sat Z.B Hf H own → EnvR Hf σ ρ → ∀ Q : VK, wE Z.X e σ H Q
def ET (Z : Ctx) (e : Expr) (ρ : List Slot) (own : Own) (b : Bool) : Prop := ∀ Hf σ H, Sat Z.B Hf H own → EnvR Hf σ ρ → ∀ Q : Bool → Hp → Prop, (∀ Hf' H', Same Hf Hf' → Sat Z.B Hf' H' own → Q b H') → wT Z.X e σ H Q
def EW (Z : Ctx) (e : Expr) (ρ : List Slot) (own : Own) (b : Bool) : Prop := ∀ Hf σ H, Sat Z.B Hf H own → EnvR Hf σ ρ → ∀ Q : Bool → Hp → Prop, (∀ Hf' H', Same Hf Hf' → Sat Z.B Hf' H' own → Q b H') → wW Z.X e σ H Q
inductive SlotsR (Hf : Hp) : List V → List Slot → Prop
  | nil : SlotsR Hf [] []
  | cons {v : V} {vs : List V} {s : Slot} {ss : List Slot} : SlotR Hf v s → SlotsR Hf vs ss → SlotsR Hf (v :: vs) (s :: ss)
theorem SlotsR.mono {Hf Hf' : Hp} (e : Same Hf Hf') : ∀ {vs : List V} {ss : List Slot}, SlotsR Hf vs ss → SlotsR Hf' vs ss
  | _, _, .nil => .nil
  | _, _, .cons a b => .cons (a.mono e) (b.mono e)
theorem SlotsR.length {Hf : Hp} : ∀ {vs : List V} {ss : List Slot}, SlotsR Hf vs ss → vs.length = ss.length
  | _, _, .nil => rfl
  | _, _, .cons _ r => congrArg (· + 1) r.length
theorem SlotsR.data {Hf : Hp} : ∀ {vs : List V} {ds : List PyData}, SlotsR Hf vs (ds.map Slot.d) → Reps Hf vs ds
  | _, [], .nil => .nil
  | _, _ :: _, .cons a b => .cons a b.data
def EA (Z : Ctx) (es : List Expr) (ρ : List Slot) (own : Own) (ss : List Slot) : Prop := ∀ Hf σ H, Sat Z.B Hf H own → EnvR Hf σ ρ → ∀ Q : List V → Hp → Prop, (∀ vs Hf' H', Same Hf Hf' → Sat Z.B Hf' H' own → SlotsR Hf' vs ss → Q vs H') → wA Z.X es σ H Q

section
variable {Z : Ctx} {e a b c : Expr} {ρ : List Slot} {own : Own} {pos : Pos} {x y : PyData} {i j : Int} {s t : Slot} {k : Nat}
theorem ES.is (h : ED Z e ρ own x) (q : x = y) : ED Z e ρ own y := q ▸ h
theorem ET.is {b b' : Bool} (h : ET Z e ρ own b) (q : b = b') : ET Z e ρ own b' := q ▸ h
theorem EL.is {xs ys : List PyData} (h : EL Z e ρ own xs) (q : xs = ys) : EL Z e ρ own ys := q ▸ h
/-- a new list is data -/
theorem EL.ed {ds : List PyData} (h : EL Z e ρ own ds) : ED Z e ρ own (.list ds) := fun Hf σ H S R Q q => h Hf σ H S R Q fun p Hf' H' m S' => by
  obtain ⟨Hf2, m2, S2, r⟩ := Sat.freeze (oa := []) S'
  exact q _ Hf2 H' (m.trans m2) S2 r
/-! names, constants -/
theorem es_v (n : Nat) {z : Str} {s : Slot} (he : ρ[n]? = some s) (hs : s ≠ .un) (hN : Z.X.N[n]? = some z := by rfl) (hv : Vis Z.X.env.scope z := by first | exact Or.inl rfl | exact Or.inr (Or.inl rfl) | exact Or.inr (Or.inr rfl)) (hd : (z == ("__debug__" : Str)) = false := by decide)
    (hcd : (z == ("__classdict__" : Str)) = false := by decide) : ES Z (.Name z pos) ρ own s := fun Hf σ H S R Q q => wE.of (pe_var hN hv hd hcd) (by
  rcases R.at_ n s he with z | ⟨v, e, r⟩
  · exact absurd z hs
  · exact ⟨v, e, q v Hf H (Same.refl _) S r⟩)
theorem ed_v (n : Nat) {z : Str} {x : PyData} (he : ρ[n]? = some (.d x) := by rfl) (hN : Z.X.N[n]? = some z := by rfl) (hv : Vis Z.X.env.scope z := by first | exact Or.inl rfl | exact Or.inr (Or.inl rfl) | exact Or.inr (Or.inr rfl)) (hd : (z == ("__debug__" : Str)) = false := by decide)
    (hcd : (z == ("__classdict__" : Str)) = false := by decide) : ED Z (.Name z pos) ρ own x := es_v n he (fun q => nomatch q) hN hv hd hcd
theorem ev_v (n : Nat) {z : Str} {x : V} (he : ρ[n]? = some (.raw x) := by rfl) (hN : Z.X.N[n]? = some z := by rfl) (hv : Vis Z.X.env.scope z := by first | exact Or.inl rfl | exact Or.inr (Or.inl rfl) | exact Or.inr (Or.inr rfl)) (hd : (z == ("__debug__" : Str)) = false := by decide)
    (hcd : (z == ("__classdict__" : Str)) = false := by decide) : EV Z (.Name z pos) ρ own x := es_v n he (fun q => nomatch q) hN hv hd hcd
theorem ed_int {j : Nat} {i : Int} : ED Z (.Constant (.int i) j pos) ρ own (.int i) := fun Hf σ H S R Q q => wE.of pe_int (q _ Hf H (Same.refl _) S (.int i))
theorem ed_bl {j : Nat} {b : Bool} : ED Z (.Constant (.bool b) j pos) ρ own (.bool b) := fun Hf σ H S R Q q => wE.of pe_bl (q _ Hf H (Same.refl _) S (.bl b))
theorem ed_non {j : Nat} : ED Z (.Constant .none j pos) ρ own .none := fun Hf σ H S R Q q => wE.of pe_non (q _ Hf H (Same.refl _) S .non)
theorem ed_str {j : Nat} {z : Str} : ED Z (.Constant (.str z) j pos) ρ own (.str z) := fun Hf σ H S R Q q => wE.of pe_str (q _ Hf H (Same.refl _) S (.str z))
/-- a module's own int -/
theorem ed_glob {z : Str} {n : Int} {t : Tok} (hg : Gl Z.X z) (hm : Z.X.mg z = some (.int n t)) (hd : (z == ("__debug__" : Str)) = false := by decide) : ED Z (.Name z pos) ρ own (.int n) := fun Hf σ H S R Q q => wE.of (pe_glob hg hm (v := .int n) ⟨_, rfl⟩ hd) (q _ Hf H (Same.refl _) S (.int n))
theorem ev_ty {z : Str} {T : String} (hg : Gl Z.X z) (hm : Z.X.mg z = none) (hv : bootBuiltins z = some (.type T)) (hn : z ≠ "__name__" := by decide) (hd : (z == ("__debug__" : Str)) = false := by decide) : EV Z (.Name z pos) ρ own (.ty T) := fun Hf σ H S R Q q => wE.of (pe_bltn hg hm hv (v := .ty T) rfl hn hd) (q _ Hf H (Same.refl _) S rfl)

end
end Sd


namespace Sd
open PySem PySem.Spec PyProof.Rows L2
section
variable {Z : Ctx} {e a b c : Expr} {es : List Expr} {ρ : List Slot} {own : Own} {pos : Pos} {x y : PyData} {i j : Int} {s t u : Slot} {k : Nat}
theorem es_bin {op : Operator} {r : R2} {u : Slot} (ho : OpR Z.X (binaryOp op) r) (ha : ES Z a ρ own s) (hb : ES Z b ρ own t)
    (hr : ∀ v w Hf H, Sat Z.B Hf H own → SlotR Hf v s → SlotR Hf w t → ∀ Q : VK, (∀ z Hf' H', Same Hf Hf' → Sat Z.B Hf' H' own → SlotR Hf' z u → Q z H') → r v w H Q) : ES Z (.BinOp a op b pos) ρ own u := fun Hf σ H S R Q q =>
  wE.of (pe_op ho peW peW) (ha Hf σ H S R _ fun v Hf1 H1 m1 S1 r1 => hb Hf1 σ H1 S1 (R.mono m1) _ fun w Hf2 H2 m2 S2 r2 => hr v w Hf2 H2 S2 (r1.mono m2) r2 Q fun z Hf3 H3 m3 S3 r3 => q z Hf3 H3 ((m1.trans m2).trans m3) S3 r3)
theorem el_bin {op : Operator} {r : R2} {ds : List PyData} (ho : OpR Z.X (binaryOp op) r) (ha : ES Z a ρ own s) (hb : ES Z b ρ own t)
    (hr : ∀ v w Hf H, Sat Z.B Hf H own → SlotR Hf v s → SlotR Hf w t → ∀ Q : VK, (∀ p Hf' H', Same Hf Hf' → Sat Z.B Hf' H' ((p, .lst ds) :: own) → Q (.ref p) H') → r v w H Q) : EL Z (.BinOp a op b pos) ρ own ds := fun Hf σ H S R Q q =>
  wE.of (pe_op ho peW peW) (ha Hf σ H S R _ fun v Hf1 H1 m1 S1 r1 => hb Hf1 σ H1 S1 (R.mono m1) _ fun w Hf2 H2 m2 S2 r2 => hr v w Hf2 H2 S2 (r1.mono m2) r2 Q fun z Hf3 H3 m3 S3 => q z Hf3 H3 ((m1.trans m2).trans m3) S3)
theorem ed_add (ha : ED Z a ρ own (.int i)) (hb : ED Z b ρ own (.int j)) : ED Z (.BinOp a .Add b pos) ρ own (.int (i + j)) := es_bin op_add ha hb fun v w Hf H S r1 r2 Q q => by
  cases r1; cases r2
  exact ⟨i, j, rfl, rfl, q _ Hf H (Same.refl _) S (.int _)⟩
theorem ed_sub (ha : ED Z a ρ own (.int i)) (hb : ED Z b ρ own (.int j)) : ED Z (.BinOp a .Sub b pos) ρ own (.int (i - j)) := es_bin op_sub ha hb fun v w Hf H S r1 r2 Q q => by
  cases r1; cases r2
  exact ⟨i, j, rfl, rfl, q _ Hf H (Same.refl _) S (.int _)⟩
/-- a product: small by the size of both -/
theorem ed_mul (ha : ED Z a ρ own (.int i)) (hb : ED Z b ρ own (.int j)) (h : CMulW i j) : ED Z (.BinOp a .Mult b pos) ρ own (.int (i * j)) := es_bin op_mulW ha hb fun v w Hf H S r1 r2 Q q => by
  cases r1; cases r2
  exact ⟨i, j, rfl, rfl, h, q _ Hf H (Same.refl _) S (.int _)⟩
theorem ed_mulS (ha : ED Z a ρ own (.int i)) (hb : ED Z b ρ own (.int j)) (h : CMul i j) : ED Z (.BinOp a .Mult b pos) ρ own (.int (i * j)) := es_bin op_mul ha hb fun v w Hf H S r1 r2 Q q => by
  cases r1; cases r2
  exact ⟨i, j, rfl, rfl, h, q _ Hf H (Same.refl _) S (.int _)⟩
theorem ed_fdiv (ha : ED Z a ρ own (.int i)) (hb : ED Z b ρ own (.int j)) (h : CDivW i j) : ED Z (.BinOp a .FloorDiv b pos) ρ own (.int (i / j)) := es_bin op_fdivW ha hb fun v w Hf H S r1 r2 Q q => by
  cases r1; cases r2
  exact ⟨i, j, rfl, rfl, h, q _ Hf H (Same.refl _) S (.int _)⟩
theorem ed_fdivS (ha : ED Z a ρ own (.int i)) (hb : ED Z b ρ own (.int j)) (h : 0 < j ∧ j < 1073741824) : ED Z (.BinOp a .FloorDiv b pos) ρ own (.int (i / j)) := es_bin op_fdiv ha hb fun v w Hf H S r1 r2 Q q => by
  cases r1; cases r2
  exact ⟨i, j, rfl, rfl, h, q _ Hf H (Same.refl _) S (.int _)⟩
theorem ed_mod (ha : ED Z a ρ own (.int i)) (hb : ED Z b ρ own (.int j)) (h : 0 < j) : ED Z (.BinOp a .Mod b pos) ρ own (.int (i % j)) := es_bin op_mod ha hb fun v w Hf H S r1 r2 Q q => by
  cases r1; cases r2
  exact ⟨i, j, rfl, rfl, h, q _ Hf H (Same.refl _) S (.int _)⟩
theorem ed_pow (ha : ED Z a ρ own (.int i)) (hb : ED Z b ρ own (.int j)) (h : CPow i j) : ED Z (.BinOp a .Pow b pos) ρ own (.int (i ^ j.toNat)) := es_bin op_pow ha hb fun v w Hf H S r1 r2 Q q => by
  cases r1; cases r2
  exact ⟨i, j, rfl, rfl, h, q _ Hf H (Same.refl _) S (.int _)⟩
theorem ed_neg (ha : ED Z a ρ own (.int i)) : ED Z (.UnaryOp .USub a pos) ρ own (.int (-i)) := fun Hf σ H S R Q q =>
  wE.of (pe_un un_neg peW) (ha Hf σ H S R _ fun v Hf1 H1 m1 S1 r1 => by
    cases r1
    exact ⟨i, rfl, q _ Hf1 H1 m1 S1 (.int _)⟩)
def Lst (own : Own) (s : Slot) (ds : List PyData) : Prop := s = .d (.list ds) ∨ ∃ p, s = .raw (.ref p) ∧ (p, OO.lst ds) ∈ own
theorem Lst.d {ds : List PyData} : Lst own (.d (.list ds)) ds := .inl rfl
theorem Lst.o {p : Addr} {ds : List PyData} (h : (p, OO.lst ds) ∈ own) : Lst own (.raw (.ref p)) ds := .inr ⟨p, rfl, h⟩
theorem Lst.at {B : Bs} {Hf H : Hp} {ds : List PyData} {v : V} (L : Lst own s ds) (S : Sat B Hf H own) (r : SlotR Hf v s) : ∃ p vs, v = .ref p ∧ H p = some (.lst vs) ∧ Reps Hf vs ds := by
  rcases L with rfl | ⟨p, rfl, h⟩
  · cases r with
    | lst h1 h2 => exact ⟨_, _, rfl, S.e1 _ _ h1, h2⟩
  · obtain ⟨_, _, vs, h1, h2⟩ := S.at h
    exact ⟨p, vs, r, h1, h2⟩
/-- a + b of lists -/
theorem el_cat {xs ys : List PyData} (ha : ES Z a ρ own s) (hb : ES Z b ρ own t) (l1 : Lst own s xs) (l2 : Lst own t ys) (h : xs.length + ys.length ≤ 100000) : EL Z (.BinOp a .Add b pos) ρ own (xs ++ ys) := el_bin op_cat ha hb fun v w Hf H S r1 r2 Q q => by
  obtain ⟨p, vs, rfl, h1, g1⟩ := l1.at S r1
  obtain ⟨p', vs', rfl, h2, g2⟩ := l2.at S r2
  have e1 := g1.length
  have e2 := g2.length
  refine ⟨p, p', vs, vs', rfl, rfl, h1, h2, Nat.le_trans (by omega : _ ≤ 100000) (by decide), fun l hl => q l Hf _ (Same.refl _) (S.newOwn hl ⟨_, upd_same, g1.append g2⟩)⟩
theorem Reps.rep {H : Hp} {xs : List V} {us : List PyData} (h : Reps H xs us) : ∀ k : Nat, Reps H (List.replicate k xs).flatten (List.replicate k us).flatten
  | 0 => .nil
  | k + 1 => by
    rw [List.replicate_succ, List.replicate_succ, List.flatten_cons, List.flatten_cons]
    exact h.append (h.rep k)
/-- xs * n -/
theorem el_rep {xs : List PyData} (ha : ES Z a ρ own s) (hb : ED Z b ρ own (.int i)) (l1 : Lst own s xs) (h : i ≤ 1000 ∧ -1000 ≤ i) (h2 : xs.length ≤ 1000) : EL Z (.BinOp a .Mult b pos) ρ own (List.replicate i.toNat xs).flatten := el_bin op_rep ha hb fun v w Hf H S r1 r2 Q q => by
  obtain ⟨p, vs, rfl, h1, g1⟩ := l1.at S r1
  cases r2
  have e1 := g1.length
  refine ⟨p, i, vs, rfl, rfl, h1, by omega, by omega, ?_, fun l hl => q l Hf _ (Same.refl _) (S.newOwn hl ⟨_, upd_same, g1.rep _⟩)⟩
  have : vs.length * i.toNat ≤ 1000 * 1000 := Nat.mul_le_mul (by omega) (by omega)
  exact Nat.le_trans this (by decide)

/-! comparisons, tests -/
theorem es_cmp {op : CmpOp} {r : R2} {u : Slot} (ho : OpR Z.X (compareOp op) r) (hm : behindInMarks op b = false) (ha : ES Z a ρ own s) (hb : ES Z b ρ own t)
    (hr : ∀ v w Hf H, Sat Z.B Hf H own → SlotR Hf v s → SlotR Hf w t → ∀ Q : VK, (∀ z Hf' H', Same Hf Hf' → Sat Z.B Hf' H' own → SlotR Hf' z u → Q z H') → r v w H Q) : ES Z (.Compare a [op] [b] pos) ρ own u := fun Hf σ H S R Q q =>
  wE.of (pe_cmpR ho peW peW hm) (ha Hf σ H S R _ fun v Hf1 H1 m1 S1 r1 => hb Hf1 σ H1 S1 (R.mono m1) _ fun w Hf2 H2 m2 S2 r2 => hr v w Hf2 H2 S2 (r1.mono m2) r2 Q fun z Hf3 H3 m3 S3 r3 => q z Hf3 H3 ((m1.trans m2).trans m3) S3 r3)
/-- a comparison that is a bool: as a value and as a test -/
def CmpB (Z : Ctx) (op : CmpOp) (own : Own) (s t : Slot) (k : Bool) : Prop := ∃ r : R2, OpR Z.X (compareOp op) r ∧ ∀ v w Hf H, Sat Z.B Hf H own → SlotR Hf v s → SlotR Hf w t → ∀ Q : VK, Q (.bl k) H → r v w H Q
theorem ed_cmp {op : CmpOp} {k : Bool} (hc : CmpB Z op own s t k) (ha : ES Z a ρ own s) (hb : ES Z b ρ own t) (hm : behindInMarks op b = false := by first | exact nomark _ | rfl) : ED Z (.Compare a [op] [b] pos) ρ own (.bool k) := by
  obtain ⟨r, ho, hr⟩ := hc
  exact es_cmp ho hm ha hb fun v w Hf H S r1 r2 Q q => hr v w Hf H S r1 r2 Q (q _ Hf H (Same.refl _) S (.bl k))
theorem et_cmp {op : CmpOp} {k : Bool} (hc : CmpB Z op own s t k) (ha : ES Z a ρ own s) (hb : ES Z b ρ own t) (hm : behindInMarks op b = false := by first | exact nomark _ | rfl) : ET Z (.Compare a [op] [b] pos) ρ own k := by
  obtain ⟨r, ho, hr⟩ := hc
  exact fun Hf σ H S R Q q => wT.of (pt_cmpR ho peW peW hm) (ha Hf σ H S R _ fun v Hf1 H1 m1 S1 r1 => hb Hf1 σ H1 S1 (R.mono m1) _ fun w Hf2 H2 m2 S2 r2 => hr v w Hf2 H2 S2 (r1.mono m2) r2 _ ⟨k, rfl, q Hf2 H2 (m1.trans m2) S2⟩)
theorem c_lt : CmpB Z .Lt own (.d (.int i)) (.d (.int j)) (decide (i < j)) := ⟨_, op_lt, fun v w Hf H S r1 r2 Q q => by cases r1; cases r2; exact ⟨i, j, rfl, rfl, q⟩⟩
theorem c_le : CmpB Z .LtE own (.d (.int i)) (.d (.int j)) (decide (i ≤ j)) := ⟨_, op_le, fun v w Hf H S r1 r2 Q q => by cases r1; cases r2; exact ⟨i, j, rfl, rfl, q⟩⟩
theorem c_gt : CmpB Z .Gt own (.d (.int i)) (.d (.int j)) (decide (j < i)) := ⟨_, op_gt, fun v w Hf H S r1 r2 Q q => by cases r1; cases r2; exact ⟨i, j, rfl, rfl, q⟩⟩
theorem c_ge : CmpB Z .GtE own (.d (.int i)) (.d (.int j)) (decide (j ≤ i)) := ⟨_, op_ge, fun v w Hf H S r1 r2 Q q => by cases r1; cases r2; exact ⟨i, j, rfl, rfl, q⟩⟩
theorem c_eqI : CmpB Z .Eq own (.d (.int i)) (.d (.int j)) (decide (i = j)) := ⟨_, op_eq, fun v w Hf H S r1 r2 Q q => by
  cases r1; cases r2
  refine ⟨rfl, ?_⟩
  rw [dec_int, Bool.beq_eq_decide_eq]
  exact q⟩
theorem c_neI : CmpB Z .NotEq own (.d (.int i)) (.d (.int j)) (!decide (i = j)) := ⟨_, op_ne, fun v w Hf H S r1 r2 Q q => by
  cases r1; cases r2
  refine ⟨rfl, ?_⟩
  rw [dec_int, Bool.beq_eq_decide_eq]
  exact q⟩
theorem c_eqS {z w : Str} : CmpB Z .Eq own (.d (.str z)) (.d (.str w)) (decide (z = w)) := ⟨_, op_eq, fun v w Hf H S r1 r2 Q q => by
  cases r1; cases r2
  refine ⟨rfl, ?_⟩
  rw [dec_str, Bool.beq_eq_decide_eq]
  exact q⟩
/-- data, or a list of one's own, as data -/
def Dat (own : Own) (s : Slot) (x : PyData) : Prop := s = .d x ∨ ∃ ds, x = .list ds ∧ Lst own s ds
theorem Dat.at {B : Bs} {Hf H : Hp} {v : V} (L : Dat own s x) (S : Sat B Hf H own) (r : SlotR Hf v s) : Rep H v x := by
  rcases L with rfl | ⟨ds, rfl, L⟩
  · exact Rep.mono S.e1 r
  · obtain ⟨p, vs, rfl, h1, h2⟩ := L.at S r
    exact .lst h1 (h2.mono S.e1)
theorem Dat.d : Dat own (.d x) x := .inl rfl
theorem Dat.o {p : Addr} {ds : List PyData} (h : (p, OO.lst ds) ∈ own) : Dat own (.raw (.ref p)) (.list ds) := .inr ⟨ds, rfl, .o h⟩
theorem c_eq (g : Gd Z k) (d1 : Dat own s x) (d2 : Dat own t y) (h1 : SeqAt.shaped x = true) (h2 : SeqAt.shaped y = true) : CmpB Z .Eq own s t (PyData.eqv x y) := ⟨_, op_eqD g.hr.units, fun v w Hf H S r1 r2 Q q => ⟨x, y, (d1.at S r1).dp, (d2.at S r2).dp, h1, h2, q⟩⟩
theorem c_ne (g : Gd Z k) (d1 : Dat own s x) (d2 : Dat own t y) (h1 : SeqAt.shaped x = true) (h2 : SeqAt.shaped y = true) : CmpB Z .NotEq own s t (!PyData.eqv x y) := ⟨_, op_neD g.hr.units, fun v w Hf H S r1 r2 Q q => ⟨x, y, (d1.at S r1).dp, (d2.at S r2).dp, h1, h2, q⟩⟩
/-- is None -/
def isNone : Slot → Bool
  | .d .none => true
  | .raw .non => true
  | _ => false
theorem isNone_at {Hf : Hp} {v : V} (hs : s ≠ .un) (r : SlotR Hf v s) : decide (v = .non) = isNone s := by
  cases s with
  | un => exact absurd rfl hs
  | d x => cases r <;> rfl
  | raw w =>
    cases (show v = w from r)
    cases v <;> rfl
theorem c_isN (hs : s ≠ .un) : CmpB Z .Is own s (.d .none) (isNone s) := ⟨_, op_isN, fun v w Hf H S r1 r2 Q q => by
  cases r2
  exact ⟨rfl, by rw [isNone_at hs r1]; exact q⟩⟩
theorem c_notN (hs : s ≠ .un) : CmpB Z .IsNot own s (.d .none) (!isNone s) := ⟨_, op_notN, fun v w Hf H S r1 r2 Q q => by
  cases r2
  exact ⟨rfl, by rw [isNone_at hs r1]; exact q⟩⟩

/-- a bool as a test -/
theorem et_val {k : Bool} (h : ED Z e ρ own (.bool k)) (he : ∀ whole, isTrue e Z.X.env whole = (do let v ← whole; standAt e.pos; holding [v] (truthy v)) := by intro _; rfl) : ET Z e ρ own k := fun Hf σ H S R Q q =>
  wT.of (pt_val peW he) (h Hf σ H S R _ fun v Hf1 H1 m1 S1 r1 => by cases r1; exact ⟨k, rfl, q Hf1 H1 m1 S1⟩)
theorem EW.et {k : Bool} (h : EW Z e ρ own k) : ET Z e ρ own k := fun Hf σ H S R Q q => wT.of pwW.pt (h Hf σ H S R Q q)
theorem et_not {k : Bool} (h : ET Z e ρ own k) : ET Z (.UnaryOp .Not e pos) ρ own (!k) := fun Hf σ H S R Q q => wT.of (pt_not ptW) (h Hf σ H S R _ fun Hf1 H1 m1 S1 => q Hf1 H1 m1 S1)
variable {rest : List Expr}
theorem ew_or1 {k : Bool} (h : ET Z a ρ own k) : EW Z (.BoolOp .Or [a] pos) ρ own k := fun Hf σ H S R Q q => wW.of (pw_or1 ptW) (h Hf σ H S R Q q)
theorem ew_or {k l : Bool} (h1 : ET Z a ρ own k) (h2 : k = false → EW Z (.BoolOp .Or (b :: rest) pos) ρ own l) : EW Z (.BoolOp .Or (a :: b :: rest) pos) ρ own (k || l) := fun Hf σ H S R Q q => wW.of (pw_or ptW pwW) (h1 Hf σ H S R _ fun Hf1 H1 m1 S1 => by
  cases k with
  | true => exact iteT (q Hf1 H1 m1 S1)
  | false =>
    refine iteF (h2 rfl Hf1 σ H1 S1 (R.mono m1) Q fun Hf2 H2 m2 S2 => q Hf2 H2 (m1.trans m2) S2))
theorem ed_one {op : BoolOp} (h : ES Z a ρ own s) : ES Z (.BoolOp op [a] pos) ρ own s := fun Hf σ H S R Q q => wE.of (pe_one peW) (h Hf σ H S R Q q)
theorem ed_and {k l : Bool} (h1 : ED Z a ρ own (.bool k)) (h2 : k = true → ED Z (.BoolOp .And (b :: rest) pos) ρ own (.bool l)) : ED Z (.BoolOp .And (a :: b :: rest) pos) ρ own (.bool (k && l)) := fun Hf σ H S R Q q => wE.of (pe_and peW peW) (h1 Hf σ H S R _ fun v Hf1 H1 m1 S1 r1 => by
  cases r1
  refine ⟨k, rfl, ?_⟩
  cases k with
  | true => exact iteT (h2 rfl Hf1 σ H1 S1 (R.mono m1) Q fun v Hf2 H2 m2 S2 r2 => q v Hf2 H2 (m1.trans m2) S2 r2)
  | false => exact iteF (q _ Hf1 H1 m1 S1 (.bl false)))
theorem ed_not {k : Bool} (h : ED Z a ρ own (.bool k)) : ED Z (.UnaryOp .Not a pos) ρ own (.bool (!k)) := fun Hf σ H S R Q q => wE.of (pe_not peW) (h Hf σ H S R _ fun v Hf1 H1 m1 S1 r1 => by
  cases r1
  exact ⟨k, rfl, q _ Hf1 H1 m1 S1 (.bl _)⟩)
theorem es_if {k : Bool} (h : ET Z c ρ own k) (h1 : k = true → ES Z a ρ own s) (h2 : k = false → ES Z b ρ own s) : ES Z (.IfExp c a b pos) ρ own s := fun Hf σ H S R Q q => wE.of (pe_ifExp ptW peW peW) (h Hf σ H S R _ fun Hf1 H1 m1 S1 => by
  cases k with
  | true => exact iteT (h1 rfl Hf1 σ H1 S1 (R.mono m1) Q fun v Hf2 H2 m2 S2 r2 => q v Hf2 H2 (m1.trans m2) S2 r2)
  | false => exact iteF (h2 rfl Hf1 σ H1 S1 (R.mono m1) Q fun v Hf2 H2 m2 S2 r2 => q v Hf2 H2 (m1.trans m2) S2 r2))
theorem el_if {k : Bool} {ds : List PyData} (h : ET Z c ρ own k) (h1 : k = true → EL Z a ρ own ds) (h2 : k = false → EL Z b ρ own ds) : EL Z (.IfExp c a b pos) ρ own ds := fun Hf σ H S R Q q => wE.of (pe_ifExp ptW peW peW) (h Hf σ H S R _ fun Hf1 H1 m1 S1 => by
  cases k with
  | true => exact iteT (h1 rfl Hf1 σ H1 S1 (R.mono m1) Q fun v Hf2 H2 m2 S2 => q v Hf2 H2 (m1.trans m2) S2)
  | false => exact iteF (h2 rfl Hf1 σ H1 S1 (R.mono m1) Q fun v Hf2 H2 m2 S2 => q v Hf2 H2 (m1.trans m2) S2))
theorem et_chain {op op' : CmpOp} {k l : Bool} (hc1 : CmpB Z op own s t k) (hc2 : CmpB Z op' own t u l) (ha : ES Z a ρ own s) (hb : ES Z b ρ own t) (hd : ES Z c ρ own u) (hm : lastMarks [op, op'] [b, c] = false := by with_unfolding_all rfl) :
    ET Z (.Compare a [op, op'] [b, c] pos) ρ own (k && l) := by
  obtain ⟨r, ho, hr⟩ := hc1
  obtain ⟨r', ho', hr'⟩ := hc2
  refine fun Hf σ H S R Q q => wT.of (pt_chain ho ho' peW peW peW hm) (ha Hf σ H S R _ fun v Hf1 H1 m1 S1 r1 => hb Hf1 σ H1 S1 (R.mono m1) _ fun w Hf2 H2 m2 S2 r2 => hr v w Hf2 H2 S2 (r1.mono m2) r2 _ ⟨k, rfl, ?_⟩)
  cases k with
  | false => exact iteF ⟨_, rfl, q Hf2 H2 (m1.trans m2) S2⟩
  | true => exact iteT (hd Hf2 σ H2 S2 (R.mono (m1.trans m2)) _ fun z Hf3 H3 m3 S3 r3 => hr' w z Hf3 H3 S3 (r2.mono m3) r3 _ ⟨l, rfl, q Hf3 H3 ((m1.trans m2).trans m3) S3⟩)
theorem ed_chain {op op' : CmpOp} {k l : Bool} (hc1 : CmpB Z op own s t k) (hc2 : CmpB Z op' own t u l) (ha : ES Z a ρ own s) (hb : ES Z b ρ own t) (hd : ES Z c ρ own u) (hm : lastMarks [op, op'] [b, c] = false := by with_unfolding_all rfl) :
    ED Z (.Compare a [op, op'] [b, c] pos) ρ own (.bool (k && l)) := by
  obtain ⟨r, ho, hr⟩ := hc1
  obtain ⟨r', ho', hr'⟩ := hc2
  refine fun Hf σ H S R Q q => wE.of (pe_chain ho ho' peW peW peW hm) (ha Hf σ H S R _ fun v Hf1 H1 m1 S1 r1 => hb Hf1 σ H1 S1 (R.mono m1) _ fun w Hf2 H2 m2 S2 r2 => hr v w Hf2 H2 S2 (r1.mono m2) r2 _ ⟨k, rfl, ?_⟩)
  cases k with
  | false => exact iteF (q _ Hf2 H2 (m1.trans m2) S2 (.bl false))
  | true => exact iteT (hd Hf2 σ H2 S2 (R.mono (m1.trans m2)) _ fun z Hf3 H3 m3 S3 r3 => hr' w z Hf3 H3 S3 (r2.mono m3) r3 _ (q _ Hf3 H3 ((m1.trans m2).trans m3) S3 (.bl l)))

/-! arguments, displays -/
theorem ea_nil : EA Z [] ρ own [] := fun Hf σ H S R Q q => wA.of pa_nil (q [] Hf H (Same.refl _) S .nil)
theorem ea_cons {ss : List Slot} (h : ES Z e ρ own s) (hr : EA Z es ρ own ss) (hs : starEach (e :: es) Z.X.env = (false, eval e Z.X.env) :: starEach es Z.X.env := by rfl) : EA Z (e :: es) ρ own (s :: ss) := fun Hf σ H S R Q q => wA.of (pa_cons peW paW hs) (h Hf σ H S R _ fun v Hf1 H1 m1 S1 r1 =>
  hr Hf1 σ H1 S1 (R.mono m1) _ fun vs Hf2 H2 m2 S2 r2 => q (v :: vs) Hf2 H2 (m1.trans m2) S2 (.cons (r1.mono m2) r2))
theorem ed_tup {x1 : Nat} {ds : List PyData} (h : EA Z es ρ own (ds.map Slot.d)) (hl : ds.length ≤ 1000 := by exact Nat.le_of_ble_eq_true rfl) : ED Z (.Tuple es x1 pos) ρ own (.tuple ds) := fun Hf σ H S R Q q => wE.of (pe_tup paW) (h Hf σ H S R _ fun vs Hf1 H1 m1 S1 r1 => by
  have r := r1.data
  refine ⟨Nat.le_trans (by rw [r.length]; exact hl) (by decide), fun p hp => q (.ref p) _ _ (m1.trans (S1.new_same hp _)) (S1.new hp _) (.tup upd_same (r.mono (S1.new_same hp _)))⟩)
theorem el_lst {ds : List PyData} (h : EA Z es ρ own (ds.map Slot.d)) (hl : ds.length ≤ 1000 := by exact Nat.le_of_ble_eq_true rfl) : EL Z (.List es pos) ρ own ds := fun Hf σ H S R Q q => wE.of (pe_lst paW) (h Hf σ H S R _ fun vs Hf1 H1 m1 S1 r1 => by
  have r := r1.data
  refine ⟨Nat.le_trans (by rw [r.length]; exact hl) (by decide), fun p hp => q p _ _ m1 (S1.newOwn hp ⟨_, upd_same, r⟩)⟩)
theorem ed_lst {ds : List PyData} (h : EA Z es ρ own (ds.map Slot.d)) (hl : ds.length ≤ 1000 := by exact Nat.le_of_ble_eq_true rfl) : ED Z (.List es pos) ρ own (.list ds) := (el_lst h hl).ed

/-! items, slices -/
theorem atI_rep {H : Hp} {vs : List V} {ds : List PyData} {i : Int} {d : PyData} (r : Reps H vs ds) (h : atI ds i = some d) : ∃ v, atI vs i = some v ∧ Rep H v d := by
  unfold atI at h ⊢
  rw [r.length]
  cases e : ixN ds.length i with
  | none => rw [e] at h; cases h
  | some j =>
    rw [e] at h
    obtain ⟨v, h1, h2⟩ := r.get (show ds[j]? = some d from h)
    exact ⟨v, h1, h2⟩
theorem ed_ixL {ds : List PyData} {d : PyData} (ha : ES Z a ρ own s) (hb : ED Z b ρ own (.int i)) (l : Lst own s ds) (h : atI ds i = some d) (hs : PlainIx b := by exact fun _ _ => rfl) : ED Z (.Subscript a b pos) ρ own d := fun Hf σ H S R Q q =>
  wE.of (pe_ix ix_list peW peW hs) (ha Hf σ H S R _ fun v Hf1 H1 m1 S1 r1 => hb Hf1 σ H1 S1 (R.mono m1) _ fun w Hf2 H2 m2 S2 r2 => by
    obtain ⟨p, vs, rfl, h1, g1⟩ := l.at S2 (r1.mono m2)
    cases r2
    obtain ⟨z, h2, g2⟩ := atI_rep g1 h
    exact ⟨p, vs, i, z, rfl, rfl, SqL.of h1, h2, q z Hf2 H2 (m1.trans m2) S2 g2⟩)
theorem ed_ixT {ds : List PyData} {d : PyData} (ha : ED Z a ρ own (.tuple ds)) (hb : ED Z b ρ own (.int i)) (h : atI ds i = some d) (hs : PlainIx b := by exact fun _ _ => rfl) : ED Z (.Subscript a b pos) ρ own d := fun Hf σ H S R Q q =>
  wE.of (pe_ix ix_tup peW peW hs) (ha Hf σ H S R _ fun v Hf1 H1 m1 S1 r1 => hb Hf1 σ H1 S1 (R.mono m1) _ fun w Hf2 H2 m2 S2 r2 => by
    cases (show Rep Hf2 v (.tuple ds) from r1.mono m2) with
    | tup h1 g1 =>
      cases r2
      obtain ⟨z, h2, g2⟩ := atI_rep g1 h
      exact ⟨_, _, i, z, rfl, rfl, SqT.of (S2.e1 _ _ h1), h2, q z Hf2 H2 (m1.trans m2) S2 g2⟩)
def cutD (xs : List PyData) (lo hi : Option Int) : List PyData := (xs.drop (HT.sIx xs.length 0 lo)).take (HT.sIx xs.length xs.length hi - HT.sIx xs.length 0 lo)
theorem cut_rep {H : Hp} {vs : List V} {ds : List PyData} (r : Reps H vs ds) (lo hi : Option Int) : Reps H (cutV vs lo hi) (cutD ds lo hi) := by
  unfold cutV cutD
  rw [r.length]
  exact (r.drop _).take _
/-- an optional part of a slice -/
def PT2 (Z : Ctx) (e : Option Expr) (ρ : List Slot) (own : Own) (o : Option Int) : Prop := ∃ t : TO, PO Z.X e t ∧ ∀ Hf σ H, Sat Z.B Hf H own → EnvR Hf σ ρ → ∀ Q : Option Int → Hp → Prop, (∀ Hf' H', Same Hf Hf' → Sat Z.B Hf' H' own → Q o H') → t σ H Q
theorem po_no : PT2 Z none ρ own none := ⟨_, po_none, fun Hf σ H S R Q q => q Hf H (Same.refl _) S⟩
theorem po_yes (h : ED Z e ρ own (.int i)) : PT2 Z (some e) ρ own (some i) := ⟨_, po_some peW, fun Hf σ H S R Q q => h Hf σ H S R _ fun v Hf1 H1 m1 S1 r1 => by
  cases r1
  exact ⟨i, rfl, q Hf1 H1 m1 S1⟩⟩
theorem el_slice {ds : List PyData} {lo hi : Option Expr} {l h : Option Int} {p2 : Pos} (ha : ES Z a ρ own s) (hl : PT2 Z lo ρ own l) (hh : PT2 Z hi ρ own h) (L : Lst own s ds) : EL Z (.Subscript a (.Slice lo hi none p2) pos) ρ own (cutD ds l h) := by
  obtain ⟨tl, pl, ql⟩ := hl
  obtain ⟨th, ph, qh⟩ := hh
  refine fun Hf σ H S R Q q => wE.of (pe_slice sl_list peW pl ph) (ha Hf σ H S R _ fun v Hf1 H1 m1 S1 r1 => ql Hf1 σ H1 S1 (R.mono m1) _ fun Hf2 H2 m2 S2 => qh Hf2 σ H2 S2 (R.mono (m1.trans m2)) _ fun Hf3 H3 m3 S3 => ?_)
  obtain ⟨p, vs, rfl, h1, g1⟩ := L.at S3 (r1.mono (m2.trans m3))
  exact ⟨p, vs, rfl, SqL.of h1, fun l hl => q l Hf3 _ ((m1.trans m2).trans m3) (S3.newOwn hl ⟨_, upd_same, cut_rep g1 _ _⟩)⟩
end

/-! ### statements -/
structure DE where
  nx : List Slot → Own → Prop
  rt : Slot → Own → Prop
  bk : List Slot → Own → Prop := fun _ _ => False
  ct : List Slot → Own → Prop := fun _ _ => False
def lift (B : Bs) (H0 : Hp) (D : DE) : Ends where
  nx := fun σ H => ∃ Hf ρ own, Same H0 Hf ∧ Sat B Hf H own ∧ EnvR Hf σ ρ ∧ D.nx ρ own
  rt := fun v H => ∃ Hf s own, Same H0 Hf ∧ Sat B Hf H own ∧ SlotR Hf v s ∧ s ≠ .un ∧ D.rt s own
  bk := fun σ H => ∃ Hf ρ own, Same H0 Hf ∧ Sat B Hf H own ∧ EnvR Hf σ ρ ∧ D.bk ρ own
  ct := fun σ H => ∃ Hf ρ own, Same H0 Hf ∧ Sat B Hf H own ∧ EnvR Hf σ ρ ∧ D.ct ρ own
def SD (Z : Ctx) (st : Stmt) (D : DE) (ρ : List Slot) (own : Own) : Prop := ∀ H0 Hf σ H, Same H0 Hf → Sat Z.B Hf H own → EnvR Hf σ ρ → wS Z.X st (lift Z.B H0 D) σ H
def SDs (Z : Ctx) (st : List Stmt) (D : DE) (ρ : List Slot) (own : Own) : Prop := ∀ H0 Hf σ H, Same H0 Hf → Sat Z.B Hf H own → EnvR Hf σ ρ → wSs Z.X st (lift Z.B H0 D) σ H
section
variable {Z : Ctx} {D : DE} {ρ : List Slot} {own : Own} {pos : Pos} {st : Stmt} {sts A B : List Stmt} {e a b c : Expr} {x : PyData} {s t : Slot} {k : Nat}
theorem SP.imp {X : Cx} {pins : List (Addr × Obj)} {D D' : Ends} {f : Flow} {s' : Shared} (h : SP X pins D f s') (h1 : ∀ σ H, D.nx σ H → D'.nx σ H) (h2 : ∀ v H, D.rt v H → D'.rt v H) (h3 : ∀ σ H, D.bk σ H → D'.bk σ H) (h4 : ∀ σ H, D.ct σ H → D'.ct σ H) : SP X pins D' f s' := by
  cases f with
  | next => obtain ⟨σ, H, I, q⟩ := h; exact ⟨σ, H, I, h1 _ _ q⟩
  | brk => obtain ⟨σ, H, I, q⟩ := h; exact ⟨σ, H, I, h3 _ _ q⟩
  | cont => obtain ⟨σ, H, I, q⟩ := h; exact ⟨σ, H, I, h4 _ _ q⟩
  | ret u => obtain ⟨v, σ, H, I, r, q⟩ := h; exact ⟨v, σ, H, I, r, h2 _ _ q⟩
theorem wS.imp {X : Cx} {D D' : Ends} {σ : L2.St} {H : Hp} (h : wS X st D σ H) (h1 : ∀ σ H, D.nx σ H → D'.nx σ H) (h2 : ∀ v H, D.rt v H → D'.rt v H) (h3 : ∀ σ H, D.bk σ H → D'.bk σ H) (h4 : ∀ σ H, D.ct σ H → D'.ct σ H) : wS X st D' σ H :=
  ⟨fun pins s I => thn (h.run pins s I) fun f s' q => SP.imp q h1 h2 h3 h4⟩
theorem wSs.imp {X : Cx} {D D' : Ends} {σ : L2.St} {H : Hp} (h : wSs X sts D σ H) (h1 : ∀ σ H, D.nx σ H → D'.nx σ H) (h2 : ∀ v H, D.rt v H → D'.rt v H) (h3 : ∀ σ H, D.bk σ H → D'.bk σ H) (h4 : ∀ σ H, D.ct σ H → D'.ct σ H) : wSs X sts D' σ H :=
  ⟨fun pins s I => thn (h.run pins s I) fun f s' q => SP.imp q h1 h2 h3 h4⟩
theorem sds_nil (h : D.nx ρ own) : SDs Z [] D ρ own := fun H0 Hf σ H m0 S R => wSs.of pss_nil ⟨Hf, ρ, own, m0, S, R, h⟩
theorem sds_cons (h : SD Z st { D with nx := fun ρ own => SDs Z sts D ρ own } ρ own) : SDs Z (st :: sts) D ρ own := fun H0 Hf σ H m0 S R => wSs.of (pss_cons psW pssW) (wS.imp (h H0 Hf σ H m0 S R) (fun σ' H' ⟨Hf', ρ', own', m', S', R', q⟩ => q H0 Hf' σ' H' m' S' R') (fun _ _ q => q) (fun _ _ q => q) (fun _ _ q => q))
theorem sds_one (h : SD Z st D ρ own) : SDs Z [st] D ρ own := fun H0 Hf σ H m0 S R => wSs.of (pss_one psW) (h H0 Hf σ H m0 S R)
/-- name = e -/
theorem sd_set (i : Nat) {z : Str} {pos' : Pos} (hN : Z.X.N.Nodup) (he : ES Z e ρ own s) (h : D.nx (ρ.set i s) own) (hi : Z.X.N[i]? = some z := by rfl) (hx : Loc Z.X.env.scope z := by first | exact Or.inl rfl | exact Or.inr rfl) (hs : swapsWith e (some (.Name z pos')) pos.line Z.X.env = pure false := by rfl)
    (hf : Z.X.fn z = true ∨ Z.X.env.scope.names.lookup z = some .local := by first | exact .inl rfl | exact .inr rfl | assumption) : SD Z (.Assign [.Name z pos'] e pos) D ρ own := fun H0 Hf σ H m0 S R => wS.of (ps_set hN hi hx peW hs hf) (he Hf σ H S R _ fun v Hf1 H1 m1 S1 r1 => ⟨Hf1, _, own, m0.trans m1, S1, (R.mono m1).set r1 i, h⟩)
/-- name = a new list of one's own -/
theorem sd_setL (i : Nat) {z : Str} {pos' : Pos} {ds : List PyData} (hN : Z.X.N.Nodup) (he : EL Z e ρ own ds) (h : ∀ p, D.nx (ρ.set i (.raw (.ref p))) ((p, .lst ds) :: own)) (hi : Z.X.N[i]? = some z := by rfl) (hx : Loc Z.X.env.scope z := by first | exact Or.inl rfl | exact Or.inr rfl) (hs : swapsWith e (some (.Name z pos')) pos.line Z.X.env = pure false := by rfl)
    (hf : Z.X.fn z = true ∨ Z.X.env.scope.names.lookup z = some .local := by first | exact .inl rfl | exact .inr rfl | assumption) : SD Z (.Assign [.Name z pos'] e pos) D ρ own := fun H0 Hf σ H m0 S R => wS.of (ps_set hN hi hx peW hs hf) (he Hf σ H S R _ fun p Hf1 H1 m1 S1 => ⟨Hf1, _, _, m0.trans m1, S1, (R.mono m1).set (s := .raw (.ref p)) rfl i, h p⟩)
theorem sd_ret (he : ES Z e ρ own s) (hs : s ≠ .un) (h : D.rt s own) : SD Z (.Return (some e) pos) D ρ own := fun H0 Hf σ H m0 S R => wS.of (ps_ret peW) (he Hf σ H S R _ fun v Hf1 H1 m1 S1 r1 => ⟨Hf1, s, own, m0.trans m1, S1, r1, hs, h⟩)
theorem sd_retD (he : ED Z e ρ own x) (h : D.rt (.d x) own) : SD Z (.Return (some e) pos) D ρ own := sd_ret he (fun q => nomatch q) h
theorem sd_retL {ds : List PyData} (he : EL Z e ρ own ds) (h : ∀ p, D.rt (.raw (.ref p)) ((p, .lst ds) :: own)) : SD Z (.Return (some e) pos) D ρ own := fun H0 Hf σ H m0 S R => wS.of (ps_ret peW) (he Hf σ H S R _ fun p Hf1 H1 m1 S1 => ⟨Hf1, .raw (.ref p), _, m0.trans m1, S1, rfl, (fun q => nomatch q), h p⟩)
theorem sd_expr (he : ES Z e ρ own s) (h : D.nx ρ own) (hs : swapsWith e none pos.line Z.X.env = pure false := by rfl) : SD Z (.Expr e pos) D ρ own := fun H0 Hf σ H m0 S R => wS.of (ps_expr peW hs) (he Hf σ H S R _ fun v Hf1 H1 m1 S1 r1 => ⟨Hf1, ρ, own, m0.trans m1, S1, R.mono m1, h⟩)
theorem sd_exprX (he : EX Z e ρ own) (hs : swapsWith e none pos.line Z.X.env = pure false := by rfl) : SD Z (.Expr e pos) D ρ own := fun H0 Hf σ H m0 S R => wS.of (ps_expr peW hs) (he Hf σ H S R _)
theorem sd_if {l : Bool} (hc : ET Z c ρ own l) (h1 : l = true → SDs Z A D ρ own) (h2 : l = false → SDs Z B D ρ own) : SD Z (.If c A B pos) D ρ own := fun H0 Hf σ H m0 S R => wS.of (ps_if ptW pssW pssW) (hc Hf σ H S R _ fun Hf1 H1 m1 S1 => by
  cases l with
  | true => exact iteT (h1 rfl H0 Hf1 σ H1 (m0.trans m1) S1 (R.mono m1))
  | false => exact iteF (h2 rfl H0 Hf1 σ H1 (m0.trans m1) S1 (R.mono m1)))
/-- weaker ends -/
theorem SDs.imp {D' : DE} (h : SDs Z sts D ρ own) (h1 : ∀ ρ own, D.nx ρ own → D'.nx ρ own) (h2 : ∀ s own, D.rt s own → D'.rt s own) (h3 : ∀ ρ own, D.bk ρ own → D'.bk ρ own) (h4 : ∀ ρ own, D.ct ρ own → D'.ct ρ own) : SDs Z sts D' ρ own := fun H0 Hf σ H m0 S R => wSs.imp (h H0 Hf σ H m0 S R)
  (fun _ _ ⟨a, b, c, m, d, e, f⟩ => ⟨a, b, c, m, d, e, h1 _ _ f⟩) (fun _ _ ⟨a, b, c, m, d, e, g, f⟩ => ⟨a, b, c, m, d, e, g, h2 _ _ f⟩) (fun _ _ ⟨a, b, c, m, d, e, f⟩ => ⟨a, b, c, m, d, e, h3 _ _ f⟩) (fun _ _ ⟨a, b, c, m, d, e, f⟩ => ⟨a, b, c, m, d, e, h4 _ _ f⟩)
/-- a list of one's own is data from here on (its name: slot i) -/
theorem sds_freeze (i : Nat) {oa ob : Own} {p : Addr} {ds : List PyData} (hi : ρ[i]? = some (.raw (.ref p))) (h : SDs Z sts D (ρ.set i (.d (.list ds))) (oa ++ ob)) : SDs Z sts D ρ (oa ++ (p, .lst ds) :: ob) := fun H0 Hf σ H m0 S R => by
  obtain ⟨Hf', m, S', r⟩ := S.freeze
  refine h H0 Hf' σ H (m0.trans m) S' ?_
  have hv := (R.mono m).raw hi
  have R' := (R.mono m).set (v := .ref p) (s := .d (.list ds)) r i
  have e : σ.set i (some (.ref p)) = σ := by
    refine List.ext_getElem? fun j => ?_
    by_cases hj : i = j
    · subst hj
      have hl : i < σ.length := by
        obtain ⟨h, _⟩ := List.getElem?_eq_some_iff.mp hv
        exact h
      rw [List.getElem?_set_self hl, hv]
    · rw [List.getElem?_set_ne hj]
  rw [e] at R'
  exact R'
theorem sds_drop {oa ob : Own} {p : Addr} {oo : OO} (h : SDs Z sts D ρ (oa ++ ob)) : SDs Z sts D ρ (oa ++ (p, oo) :: ob) := fun H0 Hf σ H m0 S R => h H0 Hf σ H m0 S.drop R
end
end Sd


namespace Sd
open PySem PySem.Spec PyProof.Rows L2
/-! ### values with a change of what is owned -/
def EG (Z : Ctx) (e : Expr) (ρ : List Slot) (own : Own) (R : Slot → Own → Prop) : Prop := ∀ Hf σ H, Sat Z.B Hf H own → EnvR Hf σ ρ → ∀ Q : VK, (∀ v Hf' H' s own', Same Hf Hf' → Sat Z.B Hf' H' own' → SlotR Hf' v s → s ≠ .un → R s own' → Q v H') → wE Z.X e σ H Q
section
variable {Z : Ctx} {e a b c : Expr} {es : List Expr} {ρ : List Slot} {own : Own} {pos : Pos} {x y : PyData} {i j : Int} {s t u : Slot} {k : Nat} {R : Slot → Own → Prop}
theorem ES.toEG (h : ES Z e ρ own s) (hs : s ≠ .un) (q : R s own) : EG Z e ρ own R := fun Hf σ H S E Q k => h Hf σ H S E Q fun v Hf' H' m S' r => k v Hf' H' s own m S' r hs q
theorem EG.toES (h : EG Z e ρ own fun t o => t = s ∧ o = own) : ES Z e ρ own s := fun Hf σ H S E Q k => h Hf σ H S E Q fun v Hf' H' t o m S' r _ q => by
  obtain ⟨rfl, rfl⟩ := q
  exact k v Hf' H' m S' r
theorem EG.toEL {ds : List PyData} (h : EG Z e ρ own fun t o => ∃ p, t = .raw (.ref p) ∧ o = (p, .lst ds) :: own) : EL Z e ρ own ds := fun Hf σ H S E Q k => h Hf σ H S E Q fun v Hf' H' t o m S' r _ q => by
  obtain ⟨p, rfl, rfl⟩ := q
  cases (show v = .ref p from r)
  exact k p Hf' H' m S'
theorem EL.toEG {ds : List PyData} (h : EL Z e ρ own ds) (q : ∀ p, R (.raw (.ref p)) ((p, .lst ds) :: own)) : EG Z e ρ own R := fun Hf σ H S E Q k => h Hf σ H S E Q fun p Hf' H' m S' => k _ Hf' H' (.raw (.ref p)) _ m S' rfl (fun z => nomatch z) (q p)
theorem EG.imp {R' : Slot → Own → Prop} (h : EG Z e ρ own R) (q : ∀ s o, R s o → R' s o) : EG Z e ρ own R' := fun Hf σ H S E Q k => h Hf σ H S E Q fun v Hf' H' s o m S' r hs z => k v Hf' H' s o m S' r hs (q s o z)
/-- a op b, the right one with a change -/
theorem eg_bin {op : Operator} {r : R2} {R1 : Slot → Own → Prop} (ho : OpR Z.X (binaryOp op) r) (ha : ES Z a ρ own s) (hb : EG Z b ρ own R1)
    (hr : ∀ v w Hf H t own', Sat Z.B Hf H own' → SlotR Hf v s → SlotR Hf w t → R1 t own' → ∀ Q : VK, (∀ z Hf' H' u, Same Hf Hf' → Sat Z.B Hf' H' own' → SlotR Hf' z u → u ≠ .un → R u own' → Q z H') → r v w H Q) : EG Z (.BinOp a op b pos) ρ own R := fun Hf σ H S E Q q =>
  wE.of (pe_op ho peW peW) (ha Hf σ H S E _ fun v Hf1 H1 m1 S1 r1 => hb Hf1 σ H1 S1 (E.mono m1) _ fun w Hf2 H2 t own' m2 S2 r2 _ q2 => hr v w Hf2 H2 t own' S2 (r1.mono m2) r2 q2 Q fun z Hf3 H3 u m3 S3 r3 hu q3 => q z Hf3 H3 u own' ((m1.trans m2).trans m3) S3 r3 hu q3)
theorem eg_add {P : Int → Own → Prop} (ha : ED Z a ρ own (.int i)) (hb : EG Z b ρ own fun t o => ∃ j, t = .d (.int j) ∧ P j o) : EG Z (.BinOp a .Add b pos) ρ own (fun t o => ∃ j, t = .d (.int (i + j)) ∧ P j o) := eg_bin op_add ha hb fun v w Hf H t own' S r1 r2 q2 Q q => by
  obtain ⟨j, rfl, hp⟩ := q2
  cases r1; cases r2
  exact ⟨i, j, rfl, rfl, q _ Hf H (.d (.int (i + j))) (Same.refl _) S (Rep.int (i + j)) (fun z => nomatch z) ⟨j, rfl, hp⟩⟩
end

/-! ### built-ins called by name -/
section
variable {Z : Ctx} {e a b c : Expr} {es : List Expr} {ρ : List Slot} {own : Own} {pos p : Pos} {x y : PyData} {i j : Int} {s t u : Slot} {k : Nat} {ss : List Slot}
theorem es_callB {id : String} {z : Str} {r : List V → Hp → VK → Prop} (hc : CallR Z.X (.builtin id) r) (hg : Gl Z.X z) (hm : Z.X.mg z = none) (hv : bootBuiltins z = some (.builtin id)) (ha : EA Z (e :: es) ρ own ss)
    (hr : ∀ vs Hf H, Sat Z.B Hf H own → SlotsR Hf vs ss → ∀ Q : VK, (∀ v Hf' H', Same Hf Hf' → Sat Z.B Hf' H' own → SlotR Hf' v s → Q v H') → r vs H Q)
    (hn : z ≠ "__name__" := by decide) (hdb : (z == ("__debug__" : Str)) = false := by decide) (hs : starEach (e :: es) Z.X.env = (false, eval e Z.X.env) :: starEach es Z.X.env := by first | assumption | rfl) (hpl : (backTo pos (starEach es Z.X.env)).any (·.1) = false := by first | assumption | rfl) : ES Z (.Call (.Name z p) (e :: es) [] pos) ρ own s := fun Hf σ H S E Q q =>
  wE.of (pe_callB hc hg hm hv paW hn hdb hs hpl) (ha Hf σ H S E _ fun vs Hf1 H1 m1 S1 r1 => hr vs Hf1 H1 S1 r1 Q fun v Hf2 H2 m2 S2 r2 => q v Hf2 H2 (m1.trans m2) S2 r2)
theorem el_callB {id : String} {z : Str} {ds : List PyData} {r : List V → Hp → VK → Prop} (hc : CallR Z.X (.builtin id) r) (hg : Gl Z.X z) (hm : Z.X.mg z = none) (hv : bootBuiltins z = some (.builtin id)) (ha : EA Z (e :: es) ρ own ss)
    (hr : ∀ vs Hf H, Sat Z.B Hf H own → SlotsR Hf vs ss → ∀ Q : VK, (∀ p Hf' H', Same Hf Hf' → Sat Z.B Hf' H' ((p, .lst ds) :: own) → Q (.ref p) H') → r vs H Q)
    (hn : z ≠ "__name__" := by decide) (hdb : (z == ("__debug__" : Str)) = false := by decide) (hs : starEach (e :: es) Z.X.env = (false, eval e Z.X.env) :: starEach es Z.X.env := by first | assumption | rfl) (hpl : (backTo pos (starEach es Z.X.env)).any (·.1) = false := by first | assumption | rfl) : EL Z (.Call (.Name z p) (e :: es) [] pos) ρ own ds := fun Hf σ H S E Q q =>
  wE.of (pe_callB hc hg hm hv paW hn hdb hs hpl) (ha Hf σ H S E _ fun vs Hf1 H1 m1 S1 r1 => hr vs Hf1 H1 S1 r1 Q fun v Hf2 H2 m2 S2 => q v Hf2 H2 (m1.trans m2) S2)
theorem es_callTy {T : String} {z : Str} {r : List V → Hp → VK → Prop} (hc : CallR Z.X (.type T) r) (hg : Gl Z.X z) (hm : Z.X.mg z = none) (hv : bootBuiltins z = some (.type T)) (ha : EA Z (e :: es) ρ own ss)
    (hr : ∀ vs Hf H, Sat Z.B Hf H own → SlotsR Hf vs ss → ∀ Q : VK, (∀ v Hf' H', Same Hf Hf' → Sat Z.B Hf' H' own → SlotR Hf' v s → Q v H') → r vs H Q)
    (hn : z ≠ "__name__" := by decide) (hdb : (z == ("__debug__" : Str)) = false := by decide) (hs : starEach (e :: es) Z.X.env = (false, eval e Z.X.env) :: starEach es Z.X.env := by first | assumption | rfl) (hpl : (backTo pos (starEach es Z.X.env)).any (·.1) = false := by first | assumption | rfl) : ES Z (.Call (.Name z p) (e :: es) [] pos) ρ own s := fun Hf σ H S E Q q =>
  wE.of (pe_callTy hc hg hm hv paW hn hdb hs hpl) (ha Hf σ H S E _ fun vs Hf1 H1 m1 S1 r1 => hr vs Hf1 H1 S1 r1 Q fun v Hf2 H2 m2 S2 r2 => q v Hf2 H2 (m1.trans m2) S2 r2)
theorem el_callTy {T : String} {z : Str} {ds : List PyData} {r : List V → Hp → VK → Prop} (hc : CallR Z.X (.type T) r) (hg : Gl Z.X z) (hm : Z.X.mg z = none) (hv : bootBuiltins z = some (.type T)) (ha : EA Z (e :: es) ρ own ss)
    (hr : ∀ vs Hf H, Sat Z.B Hf H own → SlotsR Hf vs ss → ∀ Q : VK, (∀ p Hf' H', Same Hf Hf' → Sat Z.B Hf' H' ((p, .lst ds) :: own) → Q (.ref p) H') → r vs H Q)
    (hn : z ≠ "__name__" := by decide) (hdb : (z == ("__debug__" : Str)) = false := by decide) (hs : starEach (e :: es) Z.X.env = (false, eval e Z.X.env) :: starEach es Z.X.env := by first | assumption | rfl) (hpl : (backTo pos (starEach es Z.X.env)).any (·.1) = false := by first | assumption | rfl) : EL Z (.Call (.Name z p) (e :: es) [] pos) ρ own ds := fun Hf σ H S E Q q =>
  wE.of (pe_callTy hc hg hm hv paW hn hdb hs hpl) (ha Hf σ H S E _ fun vs Hf1 H1 m1 S1 r1 => hr vs Hf1 H1 S1 r1 Q fun v Hf2 H2 m2 S2 => q v Hf2 H2 (m1.trans m2) S2)
theorem SlotsR.one {Hf : Hp} {vs : List V} (h : SlotsR Hf vs [s]) : ∃ v, vs = [v] ∧ SlotR Hf v s := by
  cases h with
  | cons a b => cases b; exact ⟨_, rfl, a⟩
theorem SlotsR.two {Hf : Hp} {vs : List V} (h : SlotsR Hf vs [s, t]) : ∃ v w, vs = [v, w] ∧ SlotR Hf v s ∧ SlotR Hf w t := by
  cases h with
  | cons a b =>
    obtain ⟨w, rfl, c⟩ := b.one
    exact ⟨_, w, rfl, a, c⟩
/-- len of a list -/
theorem ed_len {ds : List PyData} (hm : Z.X.mg "len" = none) (h : ES Z e ρ own s) (L : Lst own s ds) (hg : Gl Z.X "len" := by rfl) (hs : starEach [e] Z.X.env = (false, eval e Z.X.env) :: starEach [] Z.X.env := by rfl) : ED Z (.Call (.Name "len" p) [e] [] pos) ρ own (.int ds.length) :=
  es_callB call_len_seq hg hm PySem.boot_len (ea_cons h ea_nil hs) fun vs Hf H S r0 Q q => by
    obtain ⟨v, rfl, r⟩ := r0.one
    obtain ⟨p, vs, rfl, h1, h2⟩ := L.at S r
    exact ⟨p, vs, rfl, .inl (SqL.of h1), by rw [h2.length]; exact q _ Hf H (Same.refl _) S (.int _)⟩
theorem ed_lenT {ds : List PyData} (hm : Z.X.mg "len" = none) (h : ED Z e ρ own (.tuple ds)) (hg : Gl Z.X "len" := by rfl) (hs : starEach [e] Z.X.env = (false, eval e Z.X.env) :: starEach [] Z.X.env := by rfl) : ED Z (.Call (.Name "len" p) [e] [] pos) ρ own (.int ds.length) :=
  es_callB call_len_seq hg hm PySem.boot_len (ea_cons h ea_nil hs) fun vs Hf H S r0 Q q => by
    obtain ⟨v, rfl, r⟩ := r0.one
    cases (show Rep Hf v (.tuple ds) from r) with
    | tup h1 h2 => exact ⟨_, _, rfl, .inr (SqT.of (S.e1 _ _ h1)), by rw [h2.length]; exact q _ Hf H (Same.refl _) S (.int _)⟩
/-- sum of a list of ints -/
theorem ed_sum {ns : List Int} (g : Gd Z k) (hm : Z.X.mg "sum" = none) (h : ES Z e ρ own s) (L : Lst own s (ns.map PyData.int)) (hg : Gl Z.X "sum" := by rfl) (hs : starEach [e] Z.X.env = (false, eval e Z.X.env) :: starEach [] Z.X.env := by rfl) : ED Z (.Call (.Name "sum" p) [e] [] pos) ρ own (.int ns.sum) :=
  es_callB (cr_sum g.calm) hg hm (by decide +kernel) (ea_cons h ea_nil hs) fun vs Hf H S r0 Q q => by
    obtain ⟨v, rfl, r⟩ := r0.one
    obtain ⟨p, vs, rfl, h1, h2⟩ := L.at S r
    cases h2.of_ints
    exact ⟨p, ns, rfl, SqL.of h1, q _ Hf H (Same.refl _) S (.int _)⟩
theorem ed_abs (hm : Z.X.mg "abs" = none) (h : ED Z e ρ own (.int i)) (hg : Gl Z.X "abs" := by rfl) (hs : starEach [e] Z.X.env = (false, eval e Z.X.env) :: starEach [] Z.X.env := by rfl) : ED Z (.Call (.Name "abs" p) [e] [] pos) ρ own (.int (if i < 0 then -i else i)) :=
  es_callB call_abs hg hm (by decide +kernel) (ea_cons h ea_nil hs) fun vs Hf H S r0 Q q => by
    obtain ⟨v, rfl, r⟩ := r0.one
    cases r
    exact ⟨i, rfl, q _ Hf H (Same.refl _) S (.int _)⟩
theorem ed_all {ns : List Bool} (g : Gd Z k) (hm : Z.X.mg "all" = none) (h : ES Z e ρ own s) (L : Lst own s (ns.map PyData.bool)) (hg : Gl Z.X "all" := by rfl) (hs : starEach [e] Z.X.env = (false, eval e Z.X.env) :: starEach [] Z.X.env := by rfl) : ED Z (.Call (.Name "all" p) [e] [] pos) ρ own (.bool (ns.all id)) :=
  es_callB (cr_all g.calm) hg hm (by decide +kernel) (ea_cons h ea_nil hs) fun vs Hf H S r0 Q q => by
    obtain ⟨v, rfl, r⟩ := r0.one
    obtain ⟨p, vs, rfl, e1, e2⟩ := L.at S r
    cases e2.of_bls
    exact ⟨p, ns, rfl, SqL.of e1, q _ Hf H (Same.refl _) S (.bl _)⟩
theorem el_list {ds : List PyData} (hm : Z.X.mg "list" = none) (h : ES Z e ρ own s) (L : Lst own s ds) (hg : Gl Z.X "list" := by rfl) (hs : starEach [e] Z.X.env = (false, eval e Z.X.env) :: starEach [] Z.X.env := by rfl) : EL Z (.Call (.Name "list" p) [e] [] pos) ρ own ds :=
  el_callTy call_list_of hg hm (by decide +kernel) (ea_cons h ea_nil hs) fun vs Hf H S r0 Q q => by
    obtain ⟨v, rfl, r⟩ := r0.one
    obtain ⟨p, vs, rfl, e1, e2⟩ := L.at S r
    exact ⟨p, vs, rfl, .inl (SqL.of e1), fun l hl => q l Hf _ (Same.refl _) (S.newOwn hl ⟨_, upd_same, e2⟩)⟩
/-- isinstance of data -/
def tyD : PyData → String
  | .none => "NoneType"
  | .bool _ => "bool"
  | .int _ => "int"
  | .str _ => "str"
  | .list _ => "list"
  | .tuple _ => "tuple"
  | .dict _ => "dict"
theorem tyX_rep {K : PySem.W.Frag} {H : Hp} {v : V} {d : PyData} (r : Rep H v d) : TyX K H v (.type (tyD d)) := by
  cases r with
  | non => exact .base .non
  | bl b => exact .base (.bl b)
  | int i => exact .base (.int i)
  | str z => exact .base (.str z)
  | lst h _ => exact .base (.lst h)
  | tup h _ => exact .base (.tup h)
theorem ed_isi {T : String} {l : Bool} (hm : Z.X.mg "isinstance" = none) (h : ES Z a ρ own s) (d : Dat own s x) (hc : EV Z b ρ own (.ty T)) (hk : kitB (tyD x) T = some l) (hg : Gl Z.X "isinstance" := by rfl) (hs : starEach [a, b] Z.X.env = (false, eval a Z.X.env) :: starEach [b] Z.X.env := by rfl) (hs2 : starEach [b] Z.X.env = (false, eval b Z.X.env) :: starEach [] Z.X.env := by rfl) (hpl : (backTo pos (starEach [b] Z.X.env)).any (·.1) = false := by rfl) :
    ED Z (.Call (.Name "isinstance" p) [a, b] [] pos) ρ own (.bool l) :=
  es_callB call_isi hg hm (by decide +kernel) (ea_cons h (ea_cons hc ea_nil hs2) hs) (fun vs Hf H S r0 Q q => by
    obtain ⟨v, w, rfl, r1, r2⟩ := r0.two
    cases (show w = .ty T from r2)
    exact ⟨v, .ty T, .type (tyD x), .type T, l, rfl, .ty T, tyX_rep (d.at S r1), kit_ty hk, q _ Hf H (Same.refl _) S (.bl l)⟩) (by decide) (by decide) hs hpl
end

/-! ### targets -/
structure wG (X : Cx) (tg : Expr) (v : V) (σ : L2.St) (H : Hp) (Q : L2.St → Hp → Prop) : Prop where
  run : ∀ (pins : List (Addr × Obj)) (s : Shared) (u : Value), Inv X pins σ H s → RelV v u → wpAny (model X.prog X.w) X.A (assign tg X.env u) (fun _ s' => ∃ σ' H', Inv X pins σ' H' s' ∧ Q σ' H') X.xe s
structure wGs (X : Cx) (ts : List Expr) (vs : List V) (σ : L2.St) (H : Hp) (Q : L2.St → Hp → Prop) : Prop where
  run : ∀ (pins : List (Addr × Obj)) (s : Shared) (us : List Value), Inv X pins σ H s → Vals vs us → wpAny (model X.prog X.w) X.A (assignInOrder ((assignEach ts X.env).map (·.2)) us) (fun _ s' => ∃ σ' H', Inv X pins σ' H' s' ∧ Q σ' H') X.xe s
theorem pgW {X : Cx} {tg : Expr} : PG X tg (wG X tg) := ⟨fun pins s _ _ _ u _ I r h => h.run pins s u I r⟩
theorem pgsW {X : Cx} {ts : List Expr} : PGs X ts (wGs X ts) := ⟨fun pins s _ _ _ us _ I r h => h.run pins s us I r⟩
theorem wG.of {X : Cx} {tg : Expr} {g : TG} (h : PG X tg g) {v : V} {σ : L2.St} {H : Hp} {Q : L2.St → Hp → Prop} (q : g v σ H Q) : wG X tg v σ H Q := ⟨fun pins s u I r => h.run pins s σ H v u Q I r q⟩
theorem wGs.of {X : Cx} {ts : List Expr} {g : TGs} (h : PGs X ts g) {v : List V} {σ : L2.St} {H : Hp} {Q : L2.St → Hp → Prop} (q : g v σ H Q) : wGs X ts v σ H Q := ⟨fun pins s u I r => h.run pins s σ H v u Q I r q⟩
/-- σ' is σ but for the slots is -/
def But (is : List Nat) (σ σ' : L2.St) : Prop := σ'.length = σ.length ∧ ∀ i : Nat, i ∉ is → σ'[i]? = σ[i]?
def GT (Z : Ctx) (tg : Expr) (x : PyData) (ρ ρ' : List Slot) (is : List Nat) : Prop := ∀ own Hf σ H v, Sat Z.B Hf H own → EnvR Hf σ ρ → Rep Hf v x → ∀ Q : L2.St → Hp → Prop, (∀ σ', EnvR Hf σ' ρ' → But is σ σ' → Q σ' H) → wG Z.X tg v σ H Q
def GTs (Z : Ctx) (ts : List Expr) (xs : List PyData) (ρ ρ' : List Slot) (is : List Nat) : Prop := ∀ own Hf σ H vs, Sat Z.B Hf H own → EnvR Hf σ ρ → Reps Hf vs xs → ∀ Q : L2.St → Hp → Prop, (∀ σ', EnvR Hf σ' ρ' → But is σ σ' → Q σ' H) → wGs Z.X ts vs σ H Q
section
variable {Z : Ctx} {e : Expr} {es : List Expr} {ρ ρ' ρ'' : List Slot} {x : PyData} {xs : List PyData} {is js : List Nat} {pos : Pos}
theorem gt_name (i : Nat) {z : Str} (nd : Z.X.N.Nodup) (hi : Z.X.N[i]? = some z := by rfl) (hx : Loc Z.X.env.scope z := by first | exact Or.inl rfl | exact Or.inr rfl) (hf : Z.X.fn z = true ∨ Z.X.env.scope.names.lookup z = some .local := by first | exact .inl rfl | exact .inr rfl | assumption) : GT Z (.Name z pos) x ρ (ρ.set i (.d x)) [i] := fun own Hf σ H v S R r Q q =>
  wG.of (pg_name nd hi hx hf) (q _ (R.set (s := .d x) r i) ⟨by rw [List.length_set], fun j hj => by rw [List.getElem?_set_ne (fun z => hj (by simp [z]))]⟩)
theorem gts_nil : GTs Z [] [] ρ ρ [] := fun own Hf σ H v S R r Q q => wGs.of pgs_nil (by
  cases r
  exact ⟨rfl, q σ R ⟨rfl, fun _ _ => rfl⟩⟩)
theorem gts_cons (h1 : GT Z e x ρ ρ' is) (h2 : GTs Z es xs ρ' ρ'' js) (hs : (assignEach (e :: es) Z.X.env).map (·.2) = assign e Z.X.env :: (assignEach es Z.X.env).map (·.2) := by rfl) : GTs Z (e :: es) (x :: xs) ρ ρ'' (is ++ js) := fun own Hf σ H vs S R r Q q => wGs.of (pgs_cons pgW pgsW hs) (by
  cases r with
  | cons a b =>
    refine ⟨_, _, rfl, h1 own Hf σ H _ S R a _ fun σ1 R1 b1 => h2 own Hf σ1 H _ S R1 b Q fun σ2 R2 b2 => q σ2 R2 ⟨b2.1.trans b1.1, fun i hi => ?_⟩⟩
    rw [b2.2 i (fun z => hi (List.mem_append_right _ z)), b1.2 i (fun z => hi (List.mem_append_left _ z))])
theorem gt_tup {n : Nat} {kk : Nat} (hc : Z.X.calm = true) (h : GTs Z es xs ρ ρ' is) (hl : xs.length = n) (hn : (assignEach es Z.X.env).length = n := by rfl) (hst : (assignEach es Z.X.env).findIdx? (·.1) = none := by rfl) : GT Z (.Tuple es kk pos) (.tuple xs) ρ ρ' is := fun own Hf σ H v S R r Q q => wG.of (pg_tup hc pgsW hn hst) (by
  cases r with
  | tup h1 h2 => exact ⟨_, _, rfl, SqT.of (S.e1 _ _ h1), by rw [h2.length, hl], h own Hf σ H _ S R h2 Q q⟩)
end

/-! ### what is walked -/
structure Walk (B : Bs) (J : It) (Hf : Hp) (ys : List PyData) (Po : Own → Prop) : Prop where
  go : ∀ i Hf' H' own', Same Hf Hf' → Sat B Hf' H' own' → Po own' → i < ys.length → J.go i H'
  yld : ∀ i y Hf' H' own' x H2, Same Hf Hf' → Sat B Hf' H' own' → Po own' → ys[i]? = some y → J.yld i H' x H2 → ∃ Hf2, Same Hf' Hf2 ∧ Sat B Hf2 H2 own' ∧ Rep Hf2 x y
  stop : ∀ i Hf' H' own', Same Hf Hf' → Sat B Hf' H' own' → Po own' → ys.length ≤ i → J.stop i H'
def IT (Z : Ctx) (tg iter : Expr) (ρ : List Slot) (own : Own) (Po : Own → Prop) (ys : List PyData) : Prop := ∃ wi : TI, PI Z.X tg iter wi ∧ ∀ Hf σ H, Sat Z.B Hf H own → EnvR Hf σ ρ → ∀ R : It → Hp → Prop, (∀ J Hf' H', Same Hf Hf' → Sat Z.B Hf' H' own → Walk Z.B J Hf' ys Po → R J H') → wi σ H R
section
variable {Z : Ctx} {e tg a b c : Expr} {ρ : List Slot} {own : Own} {pos p : Pos} {i j : Int} {k : Nat} {s : Slot} {ds : List PyData}
theorem it_list (h : ED Z e ρ own (.list ds)) : IT Z tg e ρ own (fun _ => True) ds := ⟨_, pi_list peW, fun Hf σ H S E R q => h Hf σ H S E _ fun v Hf1 H1 m1 S1 r1 => by
  cases r1 with
  | @lst a xs _ h1 h2 =>
    refine ⟨a, rfl, ⟨xs, SqL.of (S1.e1 _ _ h1)⟩, q _ Hf1 H1 m1 S1 ⟨fun i Hf' H' own' m S' _ hi => ?_, fun i y Hf' H' own' x H2 m S' _ hy hx => ?_, fun i Hf' H' own' m S' _ hi => ?_⟩⟩
    · have hl : i < xs.length := by rw [h2.length]; exact hi
      exact ⟨xs, xs[i], SqL.of (S'.e1 _ _ (m _ _ h1)), List.getElem?_eq_getElem hl⟩
    · obtain ⟨rfl, hx⟩ := hx
      obtain ⟨v, h3, h4⟩ := h2.get hy
      have e1 := hx xs (SqL.of (S'.e1 _ _ (m _ _ h1)))
      rw [h3] at e1
      cases e1
      exact ⟨Hf', Same.refl _, S', h4.mono m⟩
    · exact ⟨xs, SqL.of (S'.e1 _ _ (m _ _ h1)), by rw [h2.length]; exact hi⟩⟩
/-- over a list of one's own that stays -/
theorem it_own {q : Addr} (h : EV Z e ρ own (.ref q)) (hq : (q, OO.lst ds) ∈ own) : IT Z tg e ρ own (fun o => (q, OO.lst ds) ∈ o) ds := ⟨_, pi_list peW, fun Hf σ H S E R qq => h Hf σ H S E _ fun v Hf1 H1 m1 S1 r1 => by
  cases (show v = .ref q from r1)
  obtain ⟨_, _, xs0, h1, h2⟩ := S1.at hq
  have inj : ∀ {H' : Hp} {xs ys : List V}, H' q = some (.lst xs) → SqL Z.X.K H' q ys → True := fun _ _ => trivial
  refine ⟨q, rfl, ⟨xs0, SqL.of h1⟩, qq _ Hf1 H1 m1 S1 ⟨fun i Hf' H' own' m S' ho hi => ?_, fun i y Hf' H' own' x H2 m S' ho hy hx => ?_, fun i Hf' H' own' m S' ho hi => ?_⟩⟩
  · obtain ⟨_, _, xs, h3, h4⟩ := S'.at ho
    have hl : i < xs.length := by rw [h4.length]; exact hi
    exact ⟨xs, xs[i], SqL.of h3, List.getElem?_eq_getElem hl⟩
  · obtain ⟨rfl, hx⟩ := hx
    obtain ⟨_, _, xs, h3, h4⟩ := S'.at ho
    obtain ⟨v, h5, h6⟩ := h4.get hy
    have e1 := hx xs (SqL.of h3)
    rw [h5] at e1
    cases e1
    exact ⟨Hf', Same.refl _, S', h6⟩
  · obtain ⟨_, _, xs, h3, h4⟩ := S'.at ho
    exact ⟨xs, SqL.of h3, by rw [h4.length]; exact hi⟩⟩
theorem it_tup (h : ED Z e ρ own (.tuple ds)) : IT Z tg e ρ own (fun _ => True) ds := ⟨_, pi_tup peW, fun Hf σ H S E R q => h Hf σ H S E _ fun v Hf1 H1 m1 S1 r1 => by
  cases r1 with
  | @tup a xs _ h1 h2 =>
    refine ⟨a, rfl, ⟨xs, SqT.of (S1.e1 _ _ h1)⟩, q _ Hf1 H1 m1 S1 ⟨fun i Hf' H' own' m S' _ hi => ?_, fun i y Hf' H' own' x H2 m S' _ hy hx => ?_, fun i Hf' H' own' m S' _ hi => ?_⟩⟩
    · have hl : i < xs.length := by rw [h2.length]; exact hi
      exact ⟨xs, xs[i], SqT.of (S'.e1 _ _ (m _ _ h1)), List.getElem?_eq_getElem hl⟩
    · obtain ⟨rfl, hx⟩ := hx
      obtain ⟨v, h3, h4⟩ := h2.get hy
      have e1 := hx xs (SqT.of (S'.e1 _ _ (m _ _ h1)))
      rw [h3] at e1
      cases e1
      exact ⟨Hf', Same.refl _, S', h4.mono m⟩
    · exact ⟨xs, SqT.of (S'.e1 _ _ (m _ _ h1)), by rw [h2.length]; exact hi⟩⟩
/-- lo, lo + 1, .. as data -/
def rng (lo : Int) (n : Nat) : List PyData := (List.range n).map fun (k : Nat) => PyData.int (lo + (k : Int))
theorem rng_length (lo : Int) (n : Nat) : (rng lo n).length = n := by simp [rng]
theorem rng_get {lo : Int} {n k : Nat} {y : PyData} (h : (rng lo n)[k]? = some y) : k < n ∧ y = .int (lo + (k : Int)) := by
  unfold rng at h
  rw [List.getElem?_map] at h
  cases e : (List.range n)[k]? with
  | none => rw [e] at h; cases h
  | some m =>
    rw [e] at h
    obtain ⟨h1, h2⟩ := List.getElem?_eq_some_iff.mp e
    rw [List.getElem_range] at h2
    subst h2
    cases h
    exact ⟨by simpa using h1, rfl⟩
theorem walk_rng {B : Bs} {Hf : Hp} (lo : Int) (n : Nat) : Walk B (Itr lo n) Hf (rng lo n) (fun _ => True) where
  go := fun i _ _ _ _ _ _ hi => by rw [rng_length] at hi; exact hi
  yld := fun i y Hf' H' own' x H2 m S _ hy hx => by
    obtain ⟨rfl, rfl⟩ := hx
    obtain ⟨_, rfl⟩ := rng_get hy
    exact ⟨Hf', Same.refl _, S, .int _⟩
  stop := fun i _ _ _ _ _ _ hi => by rw [rng_length] at hi; exact hi
theorem it_range1 (hm : Z.X.mg "range" = none) (h : ED Z a ρ own (.int i)) (hi : -1000000 ≤ i ∧ i ≤ 1000000) (hg : Gl Z.X "range" := by rfl) (hs : starEach [a] Z.X.env = [(false, eval a Z.X.env)] := by rfl) : IT Z tg (.Call (.Name "range" p) [a] [] pos) ρ own (fun _ => True) (rng 0 i.toNat) :=
  ⟨_, pi_range1 hg hm paW hs, fun Hf σ H S E R q => (ea_cons h ea_nil hs) Hf σ H S E _ fun vs Hf1 H1 m1 S1 r1 => by
    obtain ⟨v, rfl, r⟩ := r1.one
    cases r
    exact ⟨i, rfl, by omega, by omega, q _ Hf1 H1 m1 S1 (walk_rng 0 _)⟩⟩
theorem it_range2 (hm : Z.X.mg "range" = none) (h : ED Z a ρ own (.int i)) (h' : ED Z b ρ own (.int j)) (hi : -1000000 ≤ i ∧ i ≤ 1000000 ∧ -1000000 ≤ j ∧ j ≤ 1000000) (hg : Gl Z.X "range" := by rfl) (hs : starEach [a, b] Z.X.env = [(false, eval a Z.X.env), (false, eval b Z.X.env)] := by rfl) (hs2 : starEach [b] Z.X.env = [(false, eval b Z.X.env)] := by rfl) : IT Z tg (.Call (.Name "range" p) [a, b] [] pos) ρ own (fun _ => True) (rng i (j - i).toNat) :=
  ⟨_, pi_range2 hg hm paW hs hs2, fun Hf σ H S E R q => (ea_cons h (ea_cons h' ea_nil hs2) (by rw [hs, hs2])) Hf σ H S E _ fun vs Hf1 H1 m1 S1 r0 => by
    obtain ⟨v, w, rfl, r1, r2⟩ := r0.two
    cases r1; cases r2
    exact ⟨i, j, rfl, by omega, q _ Hf1 H1 m1 S1 (walk_rng i _)⟩⟩
/-- enumerate of a list -/
def enumD (ds : List PyData) : List PyData := (List.range ds.length).map fun (k : Nat) => PyData.tuple [.int (k : Int), ds.getD k .none]
theorem enumD_get {ds : List PyData} {k : Nat} {y : PyData} (h : (enumD ds)[k]? = some y) : ∃ d, ds[k]? = some d ∧ y = .tuple [.int (k : Int), d] := by
  unfold enumD at h
  rw [List.getElem?_map] at h
  cases e : (List.range ds.length)[k]? with
  | none => rw [e] at h; cases h
  | some m =>
    rw [e] at h
    obtain ⟨h1, h2⟩ := List.getElem?_eq_some_iff.mp e
    rw [List.getElem_range] at h2
    subst h2
    cases h
    have h1' : k < ds.length := by simpa using h1
    exact ⟨ds[k], List.getElem?_eq_getElem h1', by dsimp only; rw [List.getD_eq_getElem?_getD, List.getElem?_eq_getElem h1']; rfl⟩
theorem it_enum {elts : List Expr} {kk : Nat} {tpos : Pos} (hm : Z.X.mg "enumerate" = none) (h : ED Z e ρ own (.list ds)) (hg : Gl Z.X "enumerate" := by rfl) (hs : starEach [e] Z.X.env = [(false, eval e Z.X.env)] := by rfl) : IT Z (.Tuple elts kk tpos) (.Call (.Name "enumerate" p) [e] [] pos) ρ own (fun _ => True) (enumD ds) :=
  ⟨_, pi_enum hg hm paW hs, fun Hf σ H S E R q => (ea_cons h ea_nil hs) Hf σ H S E _ fun vs Hf1 H1 m1 S1 r1 => by
    obtain ⟨v, rfl, r⟩ := r1.one
    cases (show Rep Hf1 v (.list ds) from r) with
    | @lst a xs _ h1 h2 =>
      refine ⟨a, xs, rfl, SqL.of (S1.e1 _ _ h1), q _ Hf1 H1 m1 S1 ⟨fun i Hf' H' own' m S' _ hi => ?_, fun i y Hf' H' own' x H2 m S' _ hy hx => ?_, fun i Hf' H' own' m S' _ hi => ?_⟩⟩
      · have hl : i < xs.length := by rw [h2.length]; simpa [enumD] using hi
        exact ⟨xs, xs[i], SqL.of (S'.e1 _ _ (m _ _ h1)), List.getElem?_eq_getElem hl⟩
      · obtain ⟨T, z, rfl, nT, rfl, hx⟩ := hx
        obtain ⟨d, hd, rfl⟩ := enumD_get hy
        obtain ⟨v, h3, h4⟩ := h2.get hd
        have e1 := hx xs (SqL.of (S'.e1 _ _ (m _ _ h1)))
        rw [h3] at e1
        cases e1
        exact ⟨_, S'.new_same nT _, S'.new nT _, .tup upd_same (.cons (.int _) (.cons (h4.mono (m.trans (S'.new_same nT _))) .nil))⟩
      · exact ⟨xs, SqL.of (S'.e1 _ _ (m _ _ h1)), by rw [h2.length]; simpa [enumD] using hi⟩⟩
/-- zip of two lists -/
def zipD (xs ys : List PyData) : List PyData := (xs.zip ys).map fun p => PyData.tuple [p.1, p.2]
theorem it_zip {e2 : Expr} {ys : List PyData} {elts : List Expr} {kk : Nat} {tpos : Pos} (hm : Z.X.mg "zip" = none) (h : ED Z e ρ own (.list ds)) (h' : ED Z e2 ρ own (.list ys)) (hg : Gl Z.X "zip" := by rfl) (hs : starEach [e, e2] Z.X.env = (false, eval e Z.X.env) :: starEach [e2] Z.X.env := by rfl) (hs2 : starEach [e2] Z.X.env = (false, eval e2 Z.X.env) :: starEach [] Z.X.env := by rfl) (hpl : (backTo pos (starEach [e2] Z.X.env)).any (·.1) = false := by rfl) : IT Z (.Tuple elts kk tpos) (.Call (.Name "zip" p) [e, e2] [] pos) ρ own (fun _ => True) (zipD ds ys) :=
  ⟨_, pi_zip hg hm paW hs hpl, fun Hf σ H S E R q => (ea_cons h (ea_cons h' ea_nil hs2) hs) Hf σ H S E _ fun vs Hf1 H1 m1 S1 r0 => by
    obtain ⟨v, w, rfl, r1, r2⟩ := r0.two
    cases (show Rep Hf1 v (.list ds) from r1) with
    | @lst a xs _ h1 h2 =>
      cases (show Rep Hf1 w (.list ys) from r2) with
      | @lst b zs _ g1 g2 =>
        have ln : (zipD ds ys).length = min xs.length zs.length := by rw [h2.length, g2.length]; simp [zipD]
        refine ⟨a, b, xs, zs, rfl, SqL.of (S1.e1 _ _ h1), SqL.of (S1.e1 _ _ g1), q _ Hf1 H1 m1 S1 ⟨fun i Hf' H' own' m S' _ hi => ?_, fun i y Hf' H' own' x H2 m S' _ hy hx => ?_, fun i Hf' H' own' m S' _ hi => ?_⟩⟩
        · rw [ln] at hi
          have hl : i < xs.length := by omega
          have hl2 : i < zs.length := by omega
          exact ⟨xs, zs, xs[i], zs[i], SqL.of (S'.e1 _ _ (m _ _ h1)), SqL.of (S'.e1 _ _ (m _ _ g1)), List.getElem?_eq_getElem hl, List.getElem?_eq_getElem hl2⟩
        · obtain ⟨T, z1, z2, rfl, nT, rfl, hx1, hx2⟩ := hx
          unfold zipD at hy
          rw [List.getElem?_map] at hy
          cases ez : (ds.zip ys)[i]? with
          | none => rw [ez] at hy; cases hy
          | some pr =>
            rw [ez] at hy
            cases hy
            obtain ⟨d1, d2⟩ := pr
            rw [List.getElem?_zip_eq_some] at ez
            obtain ⟨v1, h3, h4⟩ := h2.get ez.1
            obtain ⟨v2, h5, h6⟩ := g2.get ez.2
            have e1 := hx1 xs (SqL.of (S'.e1 _ _ (m _ _ h1)))
            rw [h3] at e1
            cases e1
            have e2 := hx2 zs (SqL.of (S'.e1 _ _ (m _ _ g1)))
            rw [h5] at e2
            cases e2
            exact ⟨_, S'.new_same nT _, S'.new nT _, .tup upd_same (.cons (h4.mono (m.trans (S'.new_same nT _))) (.cons (h6.mono (m.trans (S'.new_same nT _))) .nil))⟩
        · rw [ln] at hi
          exact ⟨xs, zs, SqL.of (S'.e1 _ _ (m _ _ h1)), SqL.of (S'.e1 _ _ (m _ _ g1)), by omega⟩⟩
end

/-! ### loops -/
section
variable {Z : Ctx} {D : DE} {ρ : List Slot} {own : Own} {pos : Pos} {body : List Stmt} {tg iter c : Expr} {ys : List PyData} {Po : Own → Prop} {k : Nat}
theorem sd_for (g : Gd Z k) (it : IT Z tg iter ρ own Po ys) (I : Nat → List Slot → Own → Prop) (h0 : I 0 ρ own) (hp : ∀ i ρ own, I i ρ own → Po own)
    (step : ∀ i y ρ1 own1, ys[i]? = some y → I i ρ1 own1 → ∃ ρ2 is, GT Z tg y ρ1 ρ2 is ∧ SDs Z body { D with nx := I (i + 1), ct := I (i + 1), bk := D.nx } ρ2 own1) (hd : ∀ ρ1 own1, I ys.length ρ1 own1 → D.nx ρ1 own1)
    (hs : ∀ x, foldedSetIterable iter Z.X.env x = pure x := by intro _; rfl) : SD Z (.For tg iter body [] pos) D ρ own := by
  obtain ⟨wi, hi, hw⟩ := it
  refine fun H0 Hf σ H m0 S E => wS.of (ps_for g.po g.calm hi pgW pssW hs) (hw Hf σ H S E _ fun J Hf1 H1 m1 S1 W => ?_)
  refine ⟨fun i m σ' H' => m = ys.length - i ∧ i ≤ ys.length ∧ ∃ Hf' ρ' own', Same Hf1 Hf' ∧ Sat Z.B Hf' H' own' ∧ EnvR Hf' σ' ρ' ∧ I i ρ' own', ⟨ys.length, by omega, by omega, Hf1, ρ, own, Same.refl _, S1, E.mono m1, h0⟩, ?_⟩
  rintro i m σ' H' ⟨rfl, hi, Hf', ρ', own', m', S', E', q⟩
  by_cases hlt : i < ys.length
  · refine .inr ⟨W.go i Hf' H' own' m' S' (hp _ _ _ q) hlt, fun σ2 H2 => ∃ Hf2 ρ2 own2, Same Hf1 Hf2 ∧ Sat Z.B Hf2 H2 own2 ∧ EnvR Hf2 σ2 ρ2 ∧ I (i + 1) ρ2 own2, fun σ2 H2 ⟨Hf2, ρ2, own2, m2, S2, E2, q2⟩ => ⟨ys.length - (i + 1), by omega, rfl, hlt, Hf2, ρ2, own2, m2, S2, E2, q2⟩, fun x H2 hx => ?_⟩
    obtain ⟨Hf2, m2, S2, r2⟩ := W.yld i _ Hf' H' own' x H2 m' S' (hp _ _ _ q) (List.getElem?_eq_getElem hlt) hx
    obtain ⟨ρ2, is, gt, sb⟩ := step i _ ρ' own' (List.getElem?_eq_getElem hlt) q
    refine gt own' Hf2 σ' H2 x S2 (E'.mono m2) r2 _ fun σ3 E3 _ => ?_
    refine wSs.imp (sb Hf1 Hf2 σ3 H2 (m'.trans m2) S2 E3) (fun _ _ q => q) (fun v H3 ⟨a1, a2, a3, a4, a5⟩ => ⟨a1, a2, a3, (m0.trans m1).trans a4, a5⟩) (fun v H3 ⟨a1, a2, a3, a4, a5⟩ => ⟨a1, a2, a3, (m0.trans m1).trans a4, a5⟩) (fun _ _ q => q)
  · have e : i = ys.length := by omega
    subst e
    exact .inl ⟨W.stop _ Hf' H' own' m' S' (hp _ _ _ q) (Nat.le_refl _), Hf', ρ', own', (m0.trans m1).trans m', S', E', hd _ _ q⟩
end
end Sd


namespace Sd
open PySem PySem.Spec PyProof.Rows L2
/-! ### promises of defs, over data -/
inductive Out where
  | ret (s : Slot) (own : Own)
  | exc (C : Addr) (own : Own)
abbrev Pr := List Slot → Own → (Out → Prop) → Prop
def spG (Pre : Pr) : Sp := fun vs H Q E => ∃ Hf HB ss own post, Sat ⟨Hf, HB⟩ Hf H own ∧ SlotsR Hf vs ss ∧ Pre ss own post ∧ (∀ s own' v Hf' H', post (.ret s own') → Sat ⟨Hf, HB⟩ Hf' H' own' → SlotR Hf' v s → s ≠ .un → Q v H') ∧
  (∀ C own' Hf' H', post (.exc C own') → Sat ⟨Hf, HB⟩ Hf' H' own' → E (.ref C) none H')
/-- the heap without some addresses -/
def less (H : Hp) (l : List Addr) : Hp := fun p => if p ∈ l then none else H p
theorem less_out {H : Hp} {l : List Addr} {p : Addr} (h : p ∉ l) : less H l p = H p := by unfold less; rw [if_neg h]
theorem less_in {H : Hp} {l : List Addr} {p : Addr} (h : p ∈ l) : less H l p = none := by unfold less; rw [if_pos h]
theorem less_none {H : Hp} {l : List Addr} {p : Addr} (h : less H l p = none) : p ∈ l ∨ H p = none := by
  by_cases hp : p ∈ l
  · exact .inl hp
  · rw [less_out hp] at h; exact .inr h
/-- into a callee with part of what is owned, and back -/
theorem Sat.into {B : Bs} {Hf H : Hp} {oa o1 ob : Own} (S : Sat B Hf H (oa ++ o1 ++ ob)) : Sat ⟨Hf, less H (o1.map (·.1))⟩ Hf H o1 := by
  have nd := S.nd
  rw [List.map_append, List.map_append] at nd
  refine ⟨Same.refl _, S.e1, fun p o h => ?_, fun p o h hb => ?_, fun q hq => ?_, (List.nodup_append.mp (List.nodup_append.mp nd).1).2.1, S.tp⟩
  · have h : less H (o1.map (·.1)) p = some o := h
    by_cases hp : p ∈ o1.map (·.1)
    · rw [show less H (o1.map (·.1)) p = none from less_in hp] at h; cases h
    · rw [← less_out (H := H) hp]; exact h
  · rw [show Hf p = none from hb] at h; cases h
  · obtain ⟨a, b, c⟩ := S.ow q (by simp [hq])
    exact ⟨a, less_in (List.mem_map.mpr ⟨q, hq, rfl⟩), c⟩
theorem Sat.back {B : Bs} {Hf H Hf' H' : Hp} {oa o1 o1' ob : Own} (S : Sat B Hf H (oa ++ o1 ++ ob)) (S' : Sat ⟨Hf, less H (o1.map (·.1))⟩ Hf' H' o1') : Sat B Hf' H' (oa ++ o1' ++ ob) := by
  have nd := S.nd
  rw [List.map_append, List.map_append] at nd
  obtain ⟨nd12, nd3, d3⟩ := List.nodup_append.mp nd
  obtain ⟨nd1, nd2, d1⟩ := List.nodup_append.mp nd12
  have b1 : ∀ p, p ∈ o1.map (·.1) → B.HB p = none := fun p hp => by
    obtain ⟨q, hq, rfl⟩ := List.mem_map.mp hp
    exact (S.ow q (by simp [hq])).2.1
  have other : ∀ q, q ∈ oa ∨ q ∈ ob → q ∈ oa ++ o1 ++ ob ∧ q.1 ∉ o1.map (·.1) := fun q hq => by
    rcases hq with h | h
    · exact ⟨by simp [h], fun z => d1 _ (List.mem_map.mpr ⟨q, h, rfl⟩) _ z rfl⟩
    · exact ⟨by simp [h], fun z => d3 _ (List.mem_append_right _ z) _ (List.mem_map.mpr ⟨q, h, rfl⟩) rfl⟩
  have there : ∀ q, q ∈ oa ∨ q ∈ ob → ∃ u, less H (o1.map (·.1)) q.1 = some u ∧ H q.1 = some u := fun q hq => by
    obtain ⟨hm, hn⟩ := other q hq
    obtain ⟨u, hu⟩ := (S.ow q hm).2.2.there
    exact ⟨u, by rw [less_out hn]; exact hu, hu⟩
  have keyO : ∀ q, q ∈ oa ∨ q ∈ ob → Hf' q.1 = none ∧ B.HB q.1 = none ∧ OwnOk Hf' H' q.1 q.2 := fun q hq => by
    obtain ⟨hm, hn⟩ := other q hq
    obtain ⟨a, b, c⟩ := S.ow q hm
    obtain ⟨u, h1, h2⟩ := there q hq
    refine ⟨?_, b, c.mono S'.e0 fun u' hu' => S'.eb _ _ (by show less H _ q.1 = _; rw [less_out hn]; exact hu')⟩
    cases e : Hf' q.1 with
    | none => rfl
    | some o =>
      have z := S'.fr q.1 o e a
      have z' : less H (o1.map (·.1)) q.1 = none := z
      rw [h1] at z'; cases z'
  refine ⟨S.e0.trans S'.e0, S'.e1, fun p o h => ?_, fun p o h hb => ?_, fun q hq => ?_, ?_, S'.tp⟩
  · refine S'.eb p o ?_
    show less H _ p = some o
    rw [less_out (fun z => by rw [b1 p z] at h; cases h)]
    exact S.eb p o h
  · cases e : Hf p with
    | some u => exact S.fr p u e hb
    | none =>
      have z : less H (o1.map (·.1)) p = none := S'.fr p o h e
      rcases less_none z with z | z
      · exact b1 p z
      · exact S.eb.free z
  · rcases List.mem_append.mp hq with h | h
    · rcases List.mem_append.mp h with h | h
      · exact keyO q (.inl h)
      · obtain ⟨a, b, c⟩ := S'.ow q h
        refine ⟨a, ?_, c⟩
        rcases less_none (show less H (o1.map (·.1)) q.1 = none from b) with z | z
        · exact b1 _ z
        · exact S.eb.free z
    · exact keyO q (.inr h)
  · have dj : ∀ q q', (q ∈ oa ∨ q ∈ ob) → q' ∈ o1' → q.1 ≠ q'.1 := fun q q' hq hq' e => by
      obtain ⟨u, h1, _⟩ := there q hq
      have z : less H (o1.map (·.1)) q'.1 = none := (S'.ow q' hq').2.1
      rw [← e, h1] at z; cases z
    rw [List.map_append, List.map_append]
    refine List.nodup_append.mpr ⟨List.nodup_append.mpr ⟨nd1, S'.nd, fun x hx y hy => ?_⟩, nd3, fun x hx y hy => ?_⟩
    · obtain ⟨q, hq, rfl⟩ := List.mem_map.mp hx
      obtain ⟨q', hq', rfl⟩ := List.mem_map.mp hy
      exact dj q q' (.inl hq) hq'
    · obtain ⟨q', hq', rfl⟩ := List.mem_map.mp hy
      rcases List.mem_append.mp hx with hx | hx
      · exact d3 _ (List.mem_append_left _ hx) _ (List.mem_map.mpr ⟨q', hq', rfl⟩)
      · obtain ⟨q, hq, rfl⟩ := List.mem_map.mp hx
        exact fun e => dj q' q (.inr hq') hq e.symm

/-! ### a def keeps its promise -/
section
variable {P : Program} {w : World} {K : PySem.W.Frag} {mg : Str → Option Value} {base : Heap}
theorem SlotsR.env {Hf : Hp} : ∀ {vs : List V} {ss : List Slot}, SlotsR Hf vs ss → ∀ n : Nat, EnvR Hf (vs.map some ++ List.replicate n none) (ss ++ List.replicate n .un)
  | _, _, .nil, n => ⟨by simp, fun i s h => .inl (by
      have h' : (List.replicate n Slot.un)[i]? = some s := h
      rw [List.getElem?_replicate] at h'
      split at h'
      · cases h'; rfl
      · cases h')⟩
  | _, _, .cons (s := s₀) a b, n => by
    have ih := SlotsR.env b n
    refine ⟨by simpa using ih.len, fun i s h => ?_⟩
    cases i with
    | zero =>
      have e : s₀ = s := by simpa using h
      subst e
      exact .inr ⟨_, rfl, a⟩
    | succ i => exact ih.at_ i s (by simpa using h)
/-- the context of a def's body -/
abbrev ctxOf (P : Program) (w : World) (K : PySem.W.Frag) (mg : Str → Option Value) (base : Heap) (N : List Str) (qual : Str) (st : Stmt) (f : Addr) (cdv : Value) (A : Around) (outer : List Env) (s : Shared) (H : Hp) (E : XK) (B : Bs) (ex : Addr → List Slot → Own → Prop) : Ctx :=
  ⟨cxOf (L2.CX P w) P w K mg base N qual (defScope st) f cdv A outer s H E, B, ex⟩
/-- what a body may lean on: the module's facts, the def's names -/
structure Bd (Z : Ctx) (P : Program) (w : World) (K : PySem.W.Frag) (mg : Str → Option Value) (base : Heap) : Prop where
  p : Z.X.prog = P
  w_ : Z.X.w = w
  k : Z.X.K = K
  mg : Z.X.mg = mg
  b : Z.X.base = base
theorem okG {x qual : Str} {st : Stmt} {f : Addr} {fd : FuncData} {N ps : List Str} {k : Nat} {Pre : Pr} (F : Fun K x qual st f fd) (S : FnScope N ps (defScope st)) (len : ∀ ss own post, Pre ss own post → ss.length = ps.length)
    (hbody : ∀ (ss : List Slot) (own : Own) (post : Out → Prop), Pre ss own post → ∀ (cdv : Value) (A : Around) (outer : List Env) (s : Shared) (H : Hp) (E : XK) (B : Bs), Gd (ctxOf P w K mg base N qual st f cdv A outer s H E B (fun C _ own => post (.exc C own))) k →
      SDs (ctxOf P w K mg base N qual st f cdv A outer s H E B (fun C _ own => post (.exc C own))) (defBody st) { nx := fun _ own => post (.ret (.d .none) own), rt := fun s own => post (.ret s own) } (ss ++ List.replicate (N.length - ss.length) .un) own) :
    FnOk P w K mg base (L2.CX P w) (k + 1) f fd ps (spG Pre) := by
  refine F.okX S (fun vs H Q E h => ?_) (fun cdv A outer s H vs Q E hr h => ?_)
  · obtain ⟨Hf, HB, ss, own, post, _, r, h, _⟩ := h
    rw [r.length]
    exact len _ _ _ h
  · obtain ⟨Hf, HB, ss, own, post, S0, r, h, q1, q2⟩ := h
    refine ⟨_, pssW, ?_⟩
    have g : Gd (ctxOf P w K mg base N qual st f cdv A outer s H E ⟨Hf, HB⟩ (fun C _ own => post (.exc C own))) k := by
      refine ⟨?_, passes_of rfl, rfl, S.nd, hr⟩
      refine Takes.imp (takes_of (E := E) rfl rfl rfl rfl) fun c d σ H' hw => ?_
      obtain ⟨C, Hf', ρ, own', rfl, rfl, S', _, hx⟩ := hw
      exact q2 C own' Hf' H' hx S'
    have z := hbody ss own post h cdv A outer s H E ⟨Hf, HB⟩ g Hf Hf (L2.start N vs) H (Same.refl _) S0 (by unfold L2.start; rw [r.length]; exact r.env _)
    refine wSs.imp z (fun σ H' hz => ?_) (fun v H' hz => ?_) (fun _ _ hz => ?_) (fun _ _ hz => ?_)
    · obtain ⟨Hf', ρ, own', _, S', _, hp⟩ := hz
      exact q1 _ own' _ Hf' H' hp S' (Rep.non) (fun z => nomatch z)
    · obtain ⟨Hf', t, own', _, S', r', hu, hp⟩ := hz
      exact q1 t own' v Hf' H' hp S' r' hu
    · obtain ⟨_, _, _, _, _, _, hp⟩ := hz
      exact hp.elim
    · obtain ⟨_, _, _, _, _, _, hp⟩ := hz
      exact hp.elim
end

/-! ### calls of defs -/
/-- all that a call of the def named z wants -/
structure Fn (K : PySem.W.Frag) (mg : Str → Option Value) (P : Program) (w : World) (base : Heap) (z : Str) (ps : List Str) (k : Nat) (Pre : Pr) : Prop where
  ex : ∃ f fd, FnOk P w K mg base (L2.CX P w) k f fd ps (spG Pre) ∧ mg z = some (.ref f) ∧ PySem.W.keepIn K (.ref f) = true ∧ Binds K fd ps []
section
variable {Z : Ctx} {e a b c : Expr} {es : List Expr} {ρ : List Slot} {own oa o1 ob : Own} {pos p : Pos} {x y : PyData} {s t u : Slot} {k j : Nat} {ss : List Slot} {z : Str} {ps : List Str} {Pre : Pr} {post : Out → Prop} {R : Slot → Own → Prop}
theorem eg_call (F : Fn Z.X.K Z.X.mg Z.X.prog Z.X.w Z.X.base z ps j Pre) (g : Gd Z k) (hj : j ≤ k) (ha : EA Z (e :: es) ρ (oa ++ o1 ++ ob) ss) (hp : Pre ss o1 post) (h1 : ∀ s o1', post (.ret s o1') → R s (oa ++ o1' ++ ob)) (h2 : ∀ C o1', post (.exc C o1') → Z.ex C ρ (oa ++ o1' ++ ob))
    (hg : Gl Z.X z := by rfl) (hdb : (z == ("__debug__" : Str)) = false := by decide) (he : starEach (e :: es) Z.X.env = (false, eval e Z.X.env) :: starEach es Z.X.env := by rfl) (hpl : (backTo pos (starEach es Z.X.env)).any (·.1) = false := by rfl) :
    EG Z (.Call (.Name z p) (e :: es) [] pos) ρ (oa ++ o1 ++ ob) R := by
  obtain ⟨f, fd, ok, hm, hk, hb⟩ := F.ex
  refine fun Hf σ H S E Q q => wE.of (pe_callS (E := WE (Wish Z)) ok (g.hr.mono hj) hg hm hk hb (fun σ => passAt g.tk σ) paW hdb he hpl) (ha Hf σ H S E _ fun vs Hf1 H1 m1 S1 r1 => ?_)
  refine ⟨Hf1, less H1 (o1.map (·.1)), ss, o1, post, S1.into, r1, hp, fun s own' v Hf' H' hq S' r' hs => ?_, fun C own' Hf' H' hq S' => ?_⟩
  · exact q v Hf' H' s _ (m1.trans S'.e0) (S1.back S') r' hs (h1 s own' hq)
  · exact ⟨C, Hf', ρ, _, rfl, rfl, S1.back S', E.mono (m1.trans S'.e0), h2 C own' hq⟩
/-- a def called upon data, that gives data -/
theorem es_call (F : Fn Z.X.K Z.X.mg Z.X.prog Z.X.w Z.X.base z ps j Pre) (g : Gd Z k) (hj : j ≤ k) (ha : EA Z (e :: es) ρ own ss) (hp : Pre ss [] (fun o => o = .ret (.d x) []))
    (hg : Gl Z.X z := by rfl) (hdb : (z == ("__debug__" : Str)) = false := by decide) (he : starEach (e :: es) Z.X.env = (false, eval e Z.X.env) :: starEach es Z.X.env := by rfl) (hpl : (backTo pos (starEach es Z.X.env)).any (·.1) = false := by rfl) : ED Z (.Call (.Name z p) (e :: es) [] pos) ρ own x := by
  have := eg_call (p := p) (oa := []) (o1 := []) (ob := own) (R := fun t o => t = .d x ∧ o = own) F g hj ha hp (fun s o1' h => by cases h; exact ⟨rfl, rfl⟩) (fun C o1' h => nomatch h) hg hdb he hpl
  exact EG.toES this
/-- .. that raises C -/
theorem ex_call {C : Addr} (F : Fn Z.X.K Z.X.mg Z.X.prog Z.X.w Z.X.base z ps j Pre) (g : Gd Z k) (hj : j ≤ k) (ha : EA Z (e :: es) ρ own ss) (hp : Pre ss [] (fun o => o = .exc C [])) (hx : Z.ex C ρ own)
    (hg : Gl Z.X z := by rfl) (hdb : (z == ("__debug__" : Str)) = false := by decide) (he : starEach (e :: es) Z.X.env = (false, eval e Z.X.env) :: starEach es Z.X.env := by rfl) (hpl : (backTo pos (starEach es Z.X.env)).any (·.1) = false := by rfl) : EX Z (.Call (.Name z p) (e :: es) [] pos) ρ own := by
  have := eg_call (p := p) (oa := []) (o1 := []) (ob := own) (R := fun _ _ => False) F g hj ha hp (fun s o1' h => nomatch h) (fun C' o1' h => by cases h; exact hx) hg hdb he hpl
  exact fun Hf σ H S E Q => this Hf σ H S E Q fun v Hf' H' s own' _ _ _ _ h => h.elim
/-- .. that gives a new list -/
theorem el_call {ds : List PyData} (F : Fn Z.X.K Z.X.mg Z.X.prog Z.X.w Z.X.base z ps j Pre) (g : Gd Z k) (hj : j ≤ k) (ha : EA Z (e :: es) ρ own ss) (hp : Pre ss [] (fun o => ∃ p, o = .ret (.raw (.ref p)) [(p, .lst ds)]))
    (hg : Gl Z.X z := by rfl) (hdb : (z == ("__debug__" : Str)) = false := by decide) (he : starEach (e :: es) Z.X.env = (false, eval e Z.X.env) :: starEach es Z.X.env := by rfl) (hpl : (backTo pos (starEach es Z.X.env)).any (·.1) = false := by rfl) : EL Z (.Call (.Name z p) (e :: es) [] pos) ρ own ds := by
  have := eg_call (p := p) (oa := []) (o1 := []) (ob := own) (R := fun t o => ∃ p, t = .raw (.ref p) ∧ o = (p, .lst ds) :: own) F g hj ha hp (fun s o1' h => by obtain ⟨p, h⟩ := h; cases h; exact ⟨p, rfl, rfl⟩) (fun C o1' h => by obtain ⟨p, h⟩ := h; cases h) hg hdb he hpl
  exact EG.toEL this
end

/-! ### statements with a change of what is owned -/
section
variable {Z : Ctx} {D : DE} {ρ : List Slot} {own : Own} {pos : Pos} {e : Expr} {R : Slot → Own → Prop}
theorem sd_setG (i : Nat) {z : Str} {pos' : Pos} (hN : Z.X.N.Nodup) (he : EG Z e ρ own R) (h : ∀ s own', R s own' → D.nx (ρ.set i s) own') (hi : Z.X.N[i]? = some z := by rfl) (hx : Loc Z.X.env.scope z := by first | exact Or.inl rfl | exact Or.inr rfl) (hs : swapsWith e (some (.Name z pos')) pos.line Z.X.env = pure false := by rfl)
    (hf : Z.X.fn z = true ∨ Z.X.env.scope.names.lookup z = some .local := by first | exact .inl rfl | exact .inr rfl | assumption) : SD Z (.Assign [.Name z pos'] e pos) D ρ own := fun H0 Hf σ H m0 S E => wS.of (ps_set hN hi hx peW hs hf) (he Hf σ H S E _ fun v Hf1 H1 s own' m1 S1 r1 _ q => ⟨Hf1, _, own', m0.trans m1, S1, (E.mono m1).set r1 i, h s own' q⟩)
theorem sd_exprG (he : EG Z e ρ own R) (h : ∀ s own', R s own' → D.nx ρ own') (hs : swapsWith e none pos.line Z.X.env = pure false := by rfl) : SD Z (.Expr e pos) D ρ own := fun H0 Hf σ H m0 S E => wS.of (ps_expr peW hs) (he Hf σ H S E _ fun v Hf1 H1 s own' m1 S1 r1 _ q => ⟨Hf1, ρ, own', m0.trans m1, S1, E.mono m1, h s own' q⟩)
theorem sd_retG (he : EG Z e ρ own R) (h : ∀ s own', R s own' → D.rt s own') : SD Z (.Return (some e) pos) D ρ own := fun H0 Hf σ H m0 S E => wS.of (ps_ret peW) (he Hf σ H S E _ fun v Hf1 H1 s own' m1 S1 r1 hs q => ⟨Hf1, s, own', m0.trans m1, S1, r1, hs, h s own' q⟩)
end

/-! ### raise -/
section
variable {Z : Ctx} {D : DE} {ρ : List Slot} {own : Own} {pos p p2 pos' : Pos} {k : Nat}
/-- a class of errors of the program -/
structure ErrC (K : PySem.W.Frag) (mg : Str → Option Value) (z : Str) (C : Addr) : Prop where
  g : mg z = some (.ref C)
  x : PySem.W.excIn K C [.type "ValueError", .type "Exception", .type "BaseException", .type "object"] "ValueError.__new__" = true
  k : PySem.W.keepIn K (.ref C) = true
  b : PySem.W.subIn K (.ref C) (.type "BaseException") = some true
  t : PySem.W.typeIn K (.ref C) = some (.type "type")
theorem sd_raise {z m : Str} {C : Addr} {j : Nat} (g : Gd Z k) (T : ErrC Z.X.K Z.X.mg z C) (h : Z.ex C ρ own) (hg : Gl Z.X z := by rfl) (hdb : (z == ("__debug__" : Str)) = false := by decide) : SD Z (.Raise (some (.Call (.Name z p) [.Constant (.str m) j p2] [] pos')) none pos) D ρ own := fun H0 Hf σ H m0 S E =>
  wS.of (ps_raise g.calm g.tk (pmk_own PySem.F.excBase_ValueError T.x T.g T.k (raises_own T.b T.t) hg hdb)) ⟨C, Hf, ρ, own, rfl, rfl, S, E, h⟩
end

/-! ### while, augmented assignments, items stored, append -/
section
variable {Z : Ctx} {D : DE} {ρ : List Slot} {own oa ob : Own} {pos tpos : Pos} {body : List Stmt} {c e a b : Expr} {k : Nat} {i j : Int} {s t : Slot} {ds : List PyData} {x : PyData}
theorem sd_while (g : Gd Z k) (I : Nat → List Slot → Own → Prop) (m : Nat) (h0 : I m ρ own)
    (step : ∀ m ρ1 own1, I m ρ1 own1 → ∃ l, ET Z c ρ1 own1 l ∧ (l = true → SDs Z body { D with nx := fun ρ2 own2 => ∃ m', m' < m ∧ I m' ρ2 own2, ct := fun ρ2 own2 => ∃ m', m' < m ∧ I m' ρ2 own2, bk := D.nx } ρ1 own1) ∧ (l = false → D.nx ρ1 own1)) : SD Z (.While c body [] pos) D ρ own := by
  refine fun H0 Hf σ H m0 S E => wS.of (ps_while g.po ptW pssW) ?_
  refine ⟨fun m σ' H' => ∃ Hf' ρ' own', Same H0 Hf' ∧ Sat Z.B Hf' H' own' ∧ EnvR Hf' σ' ρ' ∧ I m ρ' own', ⟨m, Hf, ρ, own, m0, S, E, h0⟩, ?_⟩
  rintro m σ' H' ⟨Hf', ρ', own', m', S', E', q⟩
  obtain ⟨l, ht, h1, h2⟩ := step m ρ' own' q
  refine ht Hf' σ' H' S' E' _ fun Hf2 H2 m2 S2 => ?_
  cases l with
  | true =>
    refine iteT ⟨fun σ3 H3 => ∃ Hf3 ρ3 own3, Same H0 Hf3 ∧ Sat Z.B Hf3 H3 own3 ∧ EnvR Hf3 σ3 ρ3 ∧ ∃ m', m' < m ∧ I m' ρ3 own3, fun σ3 H3 ⟨Hf3, ρ3, own3, m3, S3, E3, m', hm, q3⟩ => ⟨m', hm, Hf3, ρ3, own3, m3, S3, E3, q3⟩, ?_⟩
    exact wSs.imp (h1 rfl H0 Hf2 σ' H2 (m'.trans m2) S2 (E'.mono m2)) (fun _ _ q => q) (fun _ _ q => q) (fun _ _ q => q) (fun _ _ q => q)
  | false => exact iteF ⟨Hf2, ρ', own', m'.trans m2, S2, E'.mono m2, h2 rfl⟩
/-- x op= e for ints -/
theorem sd_aug (n : Nat) {z : Str} {op : Operator} {C : Int → Int → Prop} {f : Int → Int → Int} {pos' : Pos} (ho : OpR Z.X (inplaceOp op) (rI C fun i j => .int (f i j))) (hN : Z.X.N.Nodup) (hv : ρ[n]? = some (.d (.int i))) (he : ED Z e ρ own (.int j)) (hc : C i j) (h : D.nx (ρ.set n (.d (.int (f i j)))) own)
    (hi : Z.X.N[n]? = some z := by rfl) (hx : Loc Z.X.env.scope z := by first | exact Or.inl rfl | exact Or.inr rfl) (hf : Z.X.fn z = true ∨ Z.X.env.scope.names.lookup z = some .local := by first | exact .inl rfl | exact .inr rfl | assumption) : SD Z (.AugAssign (.Name z pos') op e pos) D ρ own := fun H0 Hf σ H m0 S E => wS.of (ps_aug hN hi hx peW ho hf) (by
  obtain ⟨v, hv1, hv2⟩ := E.d hv
  cases hv2
  refine ⟨.int i, hv1, he Hf σ H S E _ fun w Hf1 H1 m1 S1 r1 => ?_⟩
  cases r1
  exact ⟨i, j, rfl, rfl, hc, Hf1, _, own, m0.trans m1, S1, (E.mono m1).set (s := .d (.int (f i j))) (Rep.int _) n, h⟩)
theorem iop_addC {X : Cx} : OpR X (inplaceOp .Add) (rI (fun _ _ => True) fun i j => .int (i + j)) := opI fun _ _ _ _ _ _ _ _ q => iadd_int q
theorem iop_subC {X : Cx} : OpR X (inplaceOp .Sub) (rI (fun _ _ => True) fun i j => .int (i - j)) := opI fun _ _ _ _ _ _ _ _ q => isub_int q
theorem iop_mulW {X : Cx} : OpR X (inplaceOp .Mult) (rI CMulW fun i j => .int (i * j)) := opI fun _ _ _ _ _ _ _ hc q => imul_int q hc.ok
/-- xs[i] = e, xs one's own -/
theorem sd_setitem {p : Addr} {n : Nat} (he : ED Z e ρ (oa ++ (p, .lst ds) :: ob) x) (ha : EV Z a ρ (oa ++ (p, .lst ds) :: ob) (.ref p)) (hb : ED Z b ρ (oa ++ (p, .lst ds) :: ob) (.int i)) (hi : ixN ds.length i = some n) (h : D.nx ρ (oa ++ (p, .lst (ds.set n x)) :: ob))
    (hs : swapsWithSole [.Subscript a b tpos] e pos.line Z.X.env = pure false := by rfl) (hw : swappedStores [.Subscript a b tpos] e Z.X.env = pure none := by rfl) (h1 : (assignEach [.Subscript a b tpos] Z.X.env).map (·.2) = [assign (.Subscript a b tpos) Z.X.env] := by rfl)
    (hq : ∀ v, assign (.Subscript a b tpos) Z.X.env v = (do
      let ov ← holding [v] (eval a Z.X.env)
      let iv ← holding [v, ov] (eval b Z.X.env)
      standAt tpos
      holding [v, ov, iv] (setItem ov iv v)
      release [v, ov, iv] []) := by intro _; rfl) : SD Z (.Assign [.Subscript a b tpos] e pos) D ρ (oa ++ (p, .lst ds) :: ob) := fun H0 Hf σ H m0 S E => wS.of (ps_asg peW (pg_sub peW peW set_list hq) hs hw h1) (he Hf σ H S E _ fun v Hf1 H1 m1 S1 r1 => ha Hf1 σ H1 S1 (E.mono m1) _ fun w Hf2 H2 m2 S2 r2 =>
  hb Hf2 σ H2 S2 (E.mono (m1.trans m2)) _ fun z Hf3 H3 m3 S3 r3 => by
    cases r3
    cases (show w = .ref p from r2)
    obtain ⟨_, _, vs, g1, g2⟩ := S3.at (p := p) (oo := .lst ds) (by simp)
    refine ⟨p, vs, i, n, rfl, rfl, g1, by rw [g2.length]; exact hi, Hf3, ρ, _, ((m0.trans m1).trans m2).trans m3, S3.write (oo' := .lst (ds.set n x)) ⟨_, upd_same, g2.set ((show Rep Hf1 v x from r1).mono (m2.trans m3)) n⟩, E.mono ((m1.trans m2).trans m3), h⟩)
/-- xs.append(e), xs one's own -/
theorem sd_append {p : Addr} {apos cpos : Pos} (ha : EV Z a ρ (oa ++ (p, .lst ds) :: ob) (.ref p)) (he : ED Z e ρ (oa ++ (p, .lst ds) :: ob) x) (hl : ds.length < 100000) (h : D.nx ρ (oa ++ (p, .lst (ds ++ [x])) :: ob))
    (hs0 : swapsWith (.Call (.Attribute a "append" apos) [e] [] cpos) none pos.line Z.X.env = pure false := by rfl) (hbase : attributeBase a "append" Z.X.env (eval a Z.X.env) = eval a Z.X.env := by rfl)
    (hfew : ((backTo cpos (starEach [e] Z.X.env)).all (fun x => !x.1) && (backToKw cpos (keywordEach [] Z.X.env)).all (fun x => x.1.isSome)
      && decide ([e].length + ([] : List Keyword).length + (if ([] : List Keyword).isEmpty then 0 else 1) < 30)) = true := by rfl)
    (hline : (apos.endLine == cpos.line) = true := by rfl) (hs : starEach [e] Z.X.env = (false, eval e Z.X.env) :: starEach [] Z.X.env := by rfl) (hplain : (backTo cpos (starEach [] Z.X.env)).any (·.1) = false := by rfl) :
    SD Z (.Expr (.Call (.Attribute a "append" apos) [e] [] cpos) pos) D ρ (oa ++ (p, .lst ds) :: ob) := fun H0 Hf σ H m0 S E => wS.of (ps_expr (pe_bm PySem.F.plainAttrs_list PySem.F.slot_list_append PySem.F.type_list_append mt_append peW (pa_cons peW pa_nil hs) hbase hfew hline hs hplain) hs0)
  (ha Hf σ H S E _ fun v Hf1 H1 m1 S1 r1 => by
    cases (show v = .ref p from r1)
    obtain ⟨_, _, vs, g1, g2⟩ := S1.at (p := p) (oo := .lst ds) (by simp)
    refine ⟨.inl ⟨rfl, _, SqL.of g1⟩, he Hf1 σ H1 S1 (E.mono m1) _ fun w Hf2 H2 m2 S2 r2 => ?_⟩
    obtain ⟨_, _, vs, g1, g2⟩ := S2.at (p := p) (oo := .lst ds) (by simp)
    refine ⟨p, vs, w, rfl, rfl, g1, by rw [g2.length]; exact Nat.lt_of_lt_of_le hl (by decide), Hf2, ρ, _, (m0.trans m1).trans m2, S2.write (oo' := .lst (ds ++ [x])) ⟨_, upd_same, g2.append (.cons r2 .nil)⟩, E.mono (m1.trans m2), h⟩)
/-- xs[i], by values -/
theorem get_list {X : Cx} : PGet X (rIxL X.K) := by
  intro pins s σ H x y v u Q I rx ry h
  obtain ⟨p, xs, i, z, rfl, rfl, hq, he, q⟩ := h
  cases (show v = Value.ref p from rx)
  obtain ⟨t, rfl⟩ := ry
  obtain ⟨its, r, pl, hz⟩ := I.list hq
  obtain ⟨j, h1, h2, h3, h4, h5⟩ := atI_get he
  obtain ⟨w, ew, rw'⟩ := r.get h2
  have hl := r.length
  have hn := line63
  have fin : EP X pins σ Q w s := ⟨z, H, I, rw', q⟩
  by_cases h0 : 0 ≤ i
  · have hj : i.toNat = j := by
      rw [seqIndex_of h0 h5] at h1
      exact Option.some.inj h1
    exact wpAny_getItem_list pl.isList h0 (by omega) (by rw [hj]; simpa using ew) fin
  · have hj : (i + (its.toArray.size : Int)).toNat = j := by
      rw [seqIndex_neg (by omega) h4] at h1
      rw [List.size_toArray, ← hl]
      exact Option.some.inj h1
    exact wpAny_getItem_list_neg pl.isList (by omega) (by rw [List.size_toArray] <;> omega) (by omega) (by rw [hj]; simpa using ew) fin
theorem atI_ixN {α : Type} {xs : List α} {i : Int} {n : Nat} {v : α} (h : ixN xs.length i = some n) (hv : xs[n]? = some v) : atI xs i = some v := by
  unfold atI
  rw [h]
  exact hv
/-- xs[i] op= e, ints, xs one's own -/
theorem sd_augitem {p : Addr} {n : Nat} {op : Operator} {C : Int → Int → Prop} {f : Int → Int → Int} {y z : Int} (ho : OpR Z.X (inplaceOp op) (rI C fun i j => .int (f i j))) (ha : EV Z a ρ (oa ++ (p, .lst ds) :: ob) (.ref p)) (hb : ED Z b ρ (oa ++ (p, .lst ds) :: ob) (.int i)) (he : ED Z e ρ (oa ++ (p, .lst ds) :: ob) (.int z))
    (hi : ixN ds.length i = some n) (hy : ds[n]? = some (.int y)) (hc : C y z) (h : D.nx ρ (oa ++ (p, .lst (ds.set n (.int (f y z)))) :: ob))
    (hq : ∀ ov iv new, augStore b ov iv new = (do holding [new, ov, iv] (setItem ov iv new); release [new, ov, iv] []; pure .next) := by intros; rfl) : SD Z (.AugAssign (.Subscript a b tpos) op e pos) D ρ (oa ++ (p, .lst ds) :: ob) := fun H0 Hf σ H m0 S E => wS.of (ps_augS peW peW get_list peW ho set_list hq)
  (ha Hf σ H S E _ fun w Hf1 H1 m1 S1 r1 => hb Hf1 σ H1 S1 (E.mono m1) _ fun w2 Hf2 H2 m2 S2 r2 => by
    cases r2
    cases (show w = .ref p from r1)
    obtain ⟨_, _, vs, g1, g2⟩ := S2.at (p := p) (oo := .lst ds) (by simp)
    obtain ⟨u, g3, g4⟩ := g2.get hy
    cases g4
    refine ⟨p, vs, i, .int y, rfl, rfl, SqL.of g1, atI_ixN (by rw [g2.length]; exact hi) g3, he Hf2 σ H2 S2 (E.mono (m1.trans m2)) _ fun w3 Hf3 H3 m3 S3 r3 => ?_⟩
    cases r3
    obtain ⟨_, _, vs, g1, g2⟩ := S3.at (p := p) (oo := .lst ds) (by simp)
    exact ⟨y, z, rfl, rfl, hc, p, vs, i, n, rfl, rfl, g1, by rw [g2.length]; exact hi, Hf3, ρ, _, ((m0.trans m1).trans m2).trans m3, S3.write (oo' := .lst (ds.set n (.int (f y z)))) ⟨_, upd_same, g2.set (.int _) n⟩, E.mono ((m1.trans m2).trans m3), h⟩)
/-- a, b = x, y with plain local names -/
theorem sd_par (n m : Nat) {x y : Str} {px py pt pt2 : Pos} {kt k2 : Nat} {s t : Slot} (g : Gd Z k) (ha : EA Z [a, b] ρ own [s, t]) (h : D.nx ((ρ.set n s).set m t) own) (hi : Z.X.N[n]? = some x := by rfl) (hj : Z.X.N[m]? = some y := by rfl) (hij : n ≠ m := by decide)
    (hx : Z.X.env.scope.names.lookup x = some .local := by rfl) (hy : Z.X.env.scope.names.lookup y = some .local := by rfl)
    (hw : swappedStores [.Tuple [.Name x px, .Name y py] kt pt] (.Tuple [a, b] k2 pt2) Z.X.env = pure (some [x, y]) := by rfl)
    (hs : swapsWithSole [.Tuple [.Name x px, .Name y py] kt pt] (.Tuple [a, b] k2 pt2) pos.line Z.X.env = pure false := by rfl) : SD Z (.Assign [.Tuple [.Name x px, .Name y py] kt pt] (.Tuple [a, b] k2 pt2) pos) D ρ own := fun H0 Hf σ H m0 S E => wS.of (ps_par g.calm g.nd hi hj hij hx hy paW hw hs)
  (ha Hf σ H S E _ fun vs Hf1 H1 m1 S1 r1 => by
    obtain ⟨v, w, rfl, r1, r2⟩ := r1.two
    exact ⟨v, w, rfl, Hf1, _, own, m0.trans m1, S1, ((E.mono m1).set r1 n).set r2 m, h⟩)
end
end Sd


namespace Sd
open PySem PySem.Spec PyProof.Rows L2
/-! ### comprehensions -/
abbrev blkZ (Z : Ctx) (scope : Scope) (s : Shared) (H : Hp) (C : Addr) (cl : List (Str × Addr)) (fp : List Addr) : Ctx := ⟨Z.X.blk s H scope (compEnvC scope cl C Z.X.env) fp, Z.B, fun _ _ _ => False⟩
structure wTs (X : Cx) (ifs : List Expr) (σ : L2.St) (H : Hp) (Q : Bool → Hp → Prop) : Prop where
  run : ∀ (pins : List (Addr × Obj)) (s : Shared), Inv X pins σ H s → wpAny (model X.prog X.w) X.A (forIn ifs true fun c r => if r = true then do let ok ← isTrue c X.env (eval c X.env); pure (ForInStep.yield ok) else pure (ForInStep.yield r)) (TP X pins σ Q) X.xe s
theorem wTs.of {X : Cx} {ifs : List Expr} {t : TT} (h : PTs X ifs t) {σ : L2.St} {H : Hp} {Q : Bool → Hp → Prop} (q : t σ H Q) : wTs X ifs σ H Q := ⟨fun pins s I => h.run pins s σ H Q I q⟩
def ETs (Z : Ctx) (ifs : List Expr) (ρ : List Slot) (own : Own) (b : Bool) : Prop := ∀ Hf σ H, Sat Z.B Hf H own → EnvR Hf σ ρ → ∀ Q : Bool → Hp → Prop, (∀ Hf' H', Same Hf Hf' → Sat Z.B Hf' H' own → Q b H') → wTs Z.X ifs σ H Q
theorem ets_nil {Z : Ctx} {ρ : List Slot} {own : Own} : ETs Z [] ρ own true := fun Hf σ H S R Q q => wTs.of pts_nil (q Hf H (Same.refl _) S)
theorem ets_one {Z : Ctx} {c : Expr} {ρ : List Slot} {own : Own} {l : Bool} (h : ET Z c ρ own l) : ETs Z [c] ρ own l := fun Hf σ H S R Q q => wTs.of (pts_one ptW) (h Hf σ H S R Q q)
theorem Gd.blk {Z : Ctx} {k : Nat} (g : Gd Z k) (scope : Scope) (s : Shared) (H : Hp) (C : Addr) (cl : List (Str × Addr)) (fp : List Addr) : Gd (blkZ Z scope s H C cl fp) k :=
  ⟨Takes.imp takes0 fun _ _ _ _ ⟨_, _, _, _, _, _, _, _, h⟩ => h, PassesOwn.never, g.calm, g.nd, g.hr⟩
theorem wipe_get {σ : L2.St} {i : Nat} : ∀ {vs : List Nat}, (wipe σ vs)[i]? = if i ∈ vs then (σ[i]?).map (fun _ => none) else σ[i]?
  | [] => by simp [wipe]
  | v :: vs => by
    unfold wipe
    by_cases hi : v = i
    · subst hi
      rw [if_pos (by simp)]
      by_cases hl : v < σ.length
      · rw [List.getElem?_set_self (by rw [wipe_length]; exact hl), List.getElem?_eq_getElem hl]
        rfl
      · rw [List.getElem?_eq_none (by rw [List.length_set, wipe_length]; omega), List.getElem?_eq_none (by omega)]
        rfl
    · rw [List.getElem?_set_ne hi, wipe_get]
      by_cases h2 : i ∈ vs
      · rw [if_pos h2, if_pos (List.mem_cons_of_mem _ h2)]
      · rw [if_neg h2, if_neg (by simp only [List.mem_cons, not_or]; exact ⟨fun e => hi e.symm, h2⟩)]
theorem wipe_but {σ σ2 : L2.St} {is vs : List Nat} (hb : But is (wipe σ vs) σ2) (hi : ∀ i ∈ is, i ∈ vs) : wipe σ2 vs = wipe σ vs := by
  refine List.ext_getElem? fun i => ?_
  rw [wipe_get, wipe_get]
  by_cases h : i ∈ vs
  · rw [if_pos h, if_pos h]
    have hl : σ2.length = σ.length := by rw [hb.1, wipe_length]
    by_cases hn : i < σ.length
    · rw [List.getElem?_eq_getElem hn, List.getElem?_eq_getElem (by omega)]
      rfl
    · rw [List.getElem?_eq_none (by omega), List.getElem?_eq_none (by omega)]
  · rw [if_neg h, if_neg h, hb.2 i (fun z => h (hi i z)), wipe_get, if_neg h]
/-- a comprehension: what it needs, and what its list may be at the end -/
def CP (Z : Ctx) (elt tg iter : Expr) (ifs : List Expr) (scope : Scope) (ρ : List Slot) (own : Own) (Fin : List PyData → Own → Prop) : Prop :=
  ∃ (wi : TI) (g : TG) (tt : TT) (te : TE) (on : List (Str × Nat)), PI Z.X tg iter wi ∧ BlkOk Z.X.N Z.X.env.scope scope on ∧ (∀ (s : Shared) (H : Hp) (C : Addr) (cl : List (Str × Addr)) (fp : List Addr), PG (Z.X.blk s H scope (compEnvC scope cl C Z.X.env) fp) tg g) ∧
    (∀ (s : Shared) (H : Hp) (C : Addr) (cl : List (Str × Addr)) (fp : List Addr), PTs (Z.X.blk s H scope (compEnvC scope cl C Z.X.env) fp) ifs tt) ∧ (∀ (s : Shared) (H : Hp) (C : Addr) (cl : List (Str × Addr)) (fp : List Addr), PE (Z.X.blk s H scope (compEnvC scope cl C Z.X.env) fp) elt te) ∧
    ∀ Hf σ H, Sat Z.B Hf H own → EnvR Hf σ ρ → ∀ Q : VK, (∀ p Hf' H' ds own', Same Hf Hf' → Sat Z.B Hf' H' ((p, .lst ds) :: own') → Fin ds own' → Q (.ref p) H') → tLc wi g tt te (on.map (·.2)) σ H Q
section
variable {Z : Ctx} {elt tg iter : Expr} {ifs : List Expr} {scope : Scope} {ρ : List Slot} {own : Own} {Fin : List PyData → Own → Prop} {k : Nat} {Po : Own → Prop} {ys : List PyData} {pos : Pos} {D : DE}
theorem comp (g : Gd Z k) (it : IT Z tg iter ρ own Po ys) (on : List (Str × Nat)) (ok : BlkOk Z.X.N Z.X.env.scope scope on) (I : Nat → List PyData → Own → Prop) (h0 : I 0 [] own) (hpo : ∀ i acc o D, I i acc o → Po ((D, .lst acc) :: o)) (hlen : ∀ i acc o, I i acc o → acc.length < 100000)
    (step : ∀ i y acc o D, ys[i]? = some y → I i acc o → ∃ ρ2 is l, (∀ i ∈ is, i ∈ on.map (·.2)) ∧ (∀ s H C cl fp, GT (blkZ Z scope s H C cl fp) tg y (wipeR ρ (on.map (·.2))) ρ2 is) ∧ (∀ s H C cl fp, ETs (blkZ Z scope s H C cl fp) ifs ρ2 ((D, .lst acc) :: o) l) ∧
      (l = true → ∀ s H C cl fp, EG (blkZ Z scope s H C cl fp) elt ρ2 ((D, .lst acc) :: o) (fun t o2 => ∃ d o', t = .d d ∧ o2 = (D, .lst acc) :: o' ∧ I (i + 1) (acc ++ [d]) o')) ∧ (l = false → I (i + 1) acc o)) :
    CP Z elt tg iter ifs scope ρ own (fun ds o => I ys.length ds o) := by
  obtain ⟨wi, hi, hw⟩ := it
  refine ⟨wi, fun v σ H Q => ∀ s' H' C cl fp, wG (Z.X.blk s' H' scope (compEnvC scope cl C Z.X.env) fp) tg v σ H Q, fun σ H Q => ∀ s' H' C cl fp, wTs (Z.X.blk s' H' scope (compEnvC scope cl C Z.X.env) fp) ifs σ H Q, fun σ H Q => ∀ s' H' C cl fp, wE (Z.X.blk s' H' scope (compEnvC scope cl C Z.X.env) fp) elt σ H Q, on, hi, ok,
    fun s' H' C cl fp => ⟨fun pins s σ H v u Q I r h => (h s' H' C cl fp).run pins s u I r⟩, fun s' H' C cl fp => ⟨fun pins s σ H Q I h => (h s' H' C cl fp).run pins s I⟩, fun s' H' C cl fp => ⟨fun pins s σ H Q I h => (h s' H' C cl fp).run pins s I⟩, fun Hf σ H S E Q q => ?_⟩
  refine hw Hf σ H S E _ fun J Hf1 H1 m1 S1 W D hD => ?_
  refine ⟨fun i m H' => m = ys.length - i ∧ i ≤ ys.length ∧ ∃ Hf' acc o, Same Hf1 Hf' ∧ Sat Z.B Hf' H' ((D, .lst acc) :: o) ∧ I i acc o, ⟨ys.length, by omega, by omega, Hf1, [], own, Same.refl _, S1.newOwn hD ⟨[], upd_same, .nil⟩, h0⟩, ?_⟩
  rintro i m H' ⟨rfl, hil, Hf', acc, o, m', S', q'⟩
  by_cases hlt : i < ys.length
  · refine .inr ⟨W.go i Hf' H' _ m' S' (hpo i acc o D q') hlt, fun H2 => ∃ Hf2 acc2 o2, Same Hf1 Hf2 ∧ Sat Z.B Hf2 H2 ((D, .lst acc2) :: o2) ∧ I (i + 1) acc2 o2, fun H2 ⟨Hf2, acc2, o2, m2, S2, q2⟩ => ⟨ys.length - (i + 1), by omega, rfl, hlt, Hf2, acc2, o2, m2, S2, q2⟩, fun x H2 hx => ?_⟩
    obtain ⟨Hf2, m2, S2, r2⟩ := W.yld i _ Hf' H' _ x H2 m' S' (hpo i acc o D q') (List.getElem?_eq_getElem hlt) hx
    obtain ⟨ρ2, is, l, hin, gt, et, h1, h2⟩ := step i _ acc o D (List.getElem?_eq_getElem hlt) q'
    have E2 : EnvR Hf2 (wipe σ (on.map (·.2))) (wipeR ρ (on.map (·.2))) := (E.mono ((m1.trans m').trans m2)).wipe _
    intro s' H'' C cl fp
    refine gt s' H'' C cl fp _ Hf2 _ H2 x S2 E2 r2 _ fun σ3 E3 b3 => ⟨wipe_but b3 hin, ?_⟩
    intro s' H'' C cl fp
    refine et s' H'' C cl fp Hf2 σ3 H2 S2 E3 _ fun Hf3 H3 m3 S3 => ?_
    cases l with
    | false => exact iteF ⟨Hf3, acc, o, (m'.trans m2).trans m3, S3, h2 rfl⟩
    | true =>
      refine iteT ?_
      intro s' H'' C cl fp
      refine h1 rfl s' H'' C cl fp Hf3 σ3 H3 S3 (E3.mono m3) _ fun v Hf4 H4 t o2 m4 S4 r4 _ hq => ?_
      obtain ⟨d, o', rfl, rfl, hI⟩ := hq
      obtain ⟨_, _, vs, g1, g2⟩ := S4.at (p := D) (oo := .lst acc) (by simp)
      exact ⟨vs, g1, by rw [g2.length]; exact Nat.lt_of_lt_of_le (hlen _ _ _ q') (by decide), Hf4, acc ++ [d], o', ((m'.trans m2).trans m3).trans m4, S4.write (oa := []) (oo' := .lst (acc ++ [d])) ⟨_, upd_same, g2.append (.cons r4 .nil)⟩, hI⟩
  · have e : i = ys.length := by omega
    subst e
    exact .inl ⟨W.stop _ Hf' H' _ m' S' (hpo _ _ _ _ q') (Nat.le_refl _), q D Hf' H' acc o (m1.trans m') S' q'⟩
theorem eg_comp (g : Gd Z k) (h : CP Z elt tg iter ifs scope ρ own Fin) (hs : ∀ x, foldedSetIterable iter Z.X.env x = pure x := by intro _; rfl) : EG Z (.ListComp elt [⟨tg, iter, ifs, 0⟩] scope pos) ρ own (fun s o => ∃ p ds o', s = .raw (.ref p) ∧ o = (p, .lst ds) :: o' ∧ Fin ds o') := by
  obtain ⟨wi, gg, tt, te, on, hi, ok, hg, ht, he, hq⟩ := h
  exact fun Hf σ H S E Q q => wE.of (pe_lc g.calm g.nd hi ok hg ht he hs) (hq Hf σ H S E Q fun p Hf' H' ds own' m S' hf => q _ Hf' H' (.raw (.ref p)) _ m S' rfl (fun z => nomatch z) ⟨p, ds, own', rfl, rfl, hf⟩)
theorem el_comp {ds : List PyData} (g : Gd Z k) (h : CP Z elt tg iter ifs scope ρ own (fun xs o => xs = ds ∧ o = own)) (hs : ∀ x, foldedSetIterable iter Z.X.env x = pure x := by intro _; rfl) : EL Z (.ListComp elt [⟨tg, iter, ifs, 0⟩] scope pos) ρ own ds :=
  EG.toEL ((eg_comp g h hs).imp fun s o ⟨p, xs, o', e1, e2, e3, e4⟩ => ⟨p, e1, by rw [e2, e3, e4]⟩)
/-- .. whose elements change nothing -/
theorem compP {α : Type} (g : Gd Z k) (it : IT Z tg iter ρ own Po ys) (on : List (Str × Nat)) (ok : BlkOk Z.X.N Z.X.env.scope scope on) (xs : List α) (enc : α → PyData) (hy : ys = xs.map enc) (F : α → Option PyData) (ρ2 : α → List Slot) (is : List Nat)
    (his : ∀ i ∈ is, i ∈ on.map (·.2)) (hl : xs.length < 100000) (hpo : ∀ acc D, Po ((D, .lst acc) :: own)) (gt : ∀ a ∈ xs, ∀ s H C cl fp, Gd (blkZ Z scope s H C cl fp) k → GT (blkZ Z scope s H C cl fp) tg (enc a) (wipeR ρ (on.map (·.2))) (ρ2 a) is)
    (et : ∀ a ∈ xs, ∀ s H C cl fp o, Gd (blkZ Z scope s H C cl fp) k → ETs (blkZ Z scope s H C cl fp) ifs (ρ2 a) o (F a).isSome) (ed : ∀ a ∈ xs, ∀ d, F a = some d → ∀ s H C cl fp o, Gd (blkZ Z scope s H C cl fp) k → ED (blkZ Z scope s H C cl fp) elt (ρ2 a) o d) :
    CP Z elt tg iter ifs scope ρ own (fun ds o => ds = xs.filterMap F ∧ o = own) := by
  subst hy
  have := comp (Po := Po) (ys := xs.map enc) (elt := elt) (ifs := ifs) (scope := scope) g it on ok (fun i acc o => acc = (xs.take i).filterMap F ∧ o = own ∧ i ≤ xs.length) ⟨rfl, rfl, Nat.zero_le _⟩ (fun i acc o D h => by rw [h.2.1]; exact hpo acc D) (fun i acc o h => by
    rw [h.1]
    have h1 := List.length_filterMap_le F (xs.take i)
    rw [List.length_take] at h1
    omega) (fun i y acc o D hy h => by
      obtain ⟨rfl, rfl, hi⟩ := h
      rw [List.getElem?_map] at hy
      cases ea : xs[i]? with
      | none => rw [ea] at hy; cases hy
      | some a =>
        rw [ea] at hy
        cases hy
        have hm : a ∈ xs := List.mem_of_getElem? ea
        have hlt : i < xs.length := (List.getElem?_eq_some_iff.mp ea).1
        have tk : (xs.take (i + 1)).filterMap F = (xs.take i).filterMap F ++ (F a).toList := by
          rw [List.take_add_one, ea, List.filterMap_append]
          cases hF : F a <;> simp [hF]
        refine ⟨ρ2 a, is, (F a).isSome, his, fun s H C cl fp => gt a hm s H C cl fp (g.blk ..), fun s H C cl fp => et a hm s H C cl fp _ (g.blk ..), fun hs s H C cl fp => ?_, fun hs => ?_⟩
        · obtain ⟨d, hd⟩ := Option.isSome_iff_exists.mp hs
          exact ES.toEG (ed a hm d hd s H C cl fp _ (g.blk ..)) (fun z => nomatch z) ⟨d, o, rfl, rfl, by rw [tk, hd]; rfl, rfl, hlt⟩
        · refine ⟨?_, rfl, hlt⟩
          rw [tk]
          cases hF : F a with
          | none => simp
          | some d => rw [hF] at hs; cases hs)
  obtain ⟨a1, a2, a3, a4, a5, b1, b2, b3, b4, b5, b6⟩ := this
  refine ⟨a1, a2, a3, a4, a5, b1, b2, b3, b4, b5, fun Hf σ H S E Q q => b6 Hf σ H S E Q fun p Hf' H' ds own' m S' hf => q p Hf' H' ds own' m S' ⟨?_, hf.2.1⟩⟩
  rw [hf.1, List.length_map, List.take_length]
end

/-! ### more values -/
section
variable {Z : Ctx} {D : DE} {e a b : Expr} {ρ : List Slot} {own oa ob : Own} {pos p1 p2 p3 : Pos} {s t : Slot} {k j : Nat} {ds ys : List PyData}
theorem c_isB {x y : Bool} : CmpB Z .Is own (.d (.bool x)) (.d (.bool y)) (decide (x = y)) := ⟨_, op_isBl, fun v w Hf H S r1 r2 Q q => by cases r1; cases r2; exact ⟨x, y, rfl, rfl, q⟩⟩
/-- xs += ys -/
theorem sd_ext (n : Nat) {z : Str} {p : Addr} {pos' : Pos} (hN : Z.X.N.Nodup) (hv : ρ[n]? = some (.raw (.ref p))) (he : ES Z e ρ (oa ++ (p, .lst ds) :: ob) t) (L : Lst (oa ++ (p, .lst ds) :: ob) t ys) (hl : ds.length + ys.length ≤ 100000) (h : D.nx ρ (oa ++ (p, .lst (ds ++ ys)) :: ob))
    (hi : Z.X.N[n]? = some z := by rfl) (hx : Loc Z.X.env.scope z := by first | exact Or.inl rfl | exact Or.inr rfl) (hf : Z.X.fn z = true ∨ Z.X.env.scope.names.lookup z = some .local := by first | exact .inl rfl | exact .inr rfl | assumption) : SD Z (.AugAssign (.Name z pos') .Add e pos) D ρ (oa ++ (p, .lst ds) :: ob) := fun H0 Hf σ H m0 S E => wS.of (ps_aug hN hi hx peW iop_ext hf) (by
  have hv1 := E.raw hv
  refine ⟨.ref p, hv1, he Hf σ H S E _ fun w Hf1 H1 m1 S1 r1 => ?_⟩
  obtain ⟨q, vs, rfl, h1, g1⟩ := L.at S1 r1
  obtain ⟨_, _, us, h2, g2⟩ := S1.at (p := p) (oo := .lst ds) (by simp)
  refine ⟨p, q, us, vs, rfl, rfl, h2, h1, by rw [g1.length, g2.length]; exact Nat.le_trans hl (by decide), Hf1, ρ, _, m0.trans m1, S1.write (oo' := .lst (ds ++ ys)) ⟨_, upd_same, g2.append g1⟩, ?_, h⟩
  have R' := (E.mono m1).set (v := .ref p) (s := .raw (.ref p)) rfl n
  have e : ρ.set n (.raw (.ref p)) = ρ := by
    refine List.ext_getElem? fun j => ?_
    by_cases hj : n = j
    · subst hj
      have hl : n < ρ.length := (List.getElem?_eq_some_iff.mp hv).1
      rw [List.getElem?_set_self hl, hv]
    · rw [List.getElem?_set_ne hj]
  rw [e] at R'
  exact R')
end
end Sd


namespace Sd
open PySem PySem.Spec PyProof.Rows L2
/-! ### lists of values, one's own (raw); items with a change of what is owned -/
section
variable {Z : Ctx} {D : DE} {e a b c : Expr} {es : List Expr} {ρ : List Slot} {own oa ob : Own} {pos tpos p : Pos} {i j : Int} {s t : Slot} {k : Nat} {ds : List PyData} {x : PyData} {q : Addr} {vs : List V} {R : Slot → Own → Prop}
theorem es_ixR {v : V} (hq : (q, OO.raw (.lst vs)) ∈ own) (ha : EV Z a ρ own (.ref q)) (hb : ED Z b ρ own (.int i)) (h : atI vs i = some v) (hs : ∀ H, SlotR H v s) (hp : PlainIx b := by exact fun _ _ => rfl) : ES Z (.Subscript a b pos) ρ own s := fun Hf σ H S E Q k =>
  wE.of (pe_ix ix_list peW peW hp) (ha Hf σ H S E _ fun w Hf1 H1 m1 S1 r1 => hb Hf1 σ H1 S1 (E.mono m1) _ fun w2 Hf2 H2 m2 S2 r2 => by
    cases r2
    cases (show w = .ref q from r1)
    obtain ⟨_, _, g⟩ := S2.at hq
    exact ⟨q, vs, i, v, rfl, rfl, SqL.of g, h, k v Hf2 H2 (m1.trans m2) S2 (hs _)⟩)
theorem sd_setitemR {v : V} {n : Nat} (he : ES Z e ρ (oa ++ (q, .raw (.lst vs)) :: ob) s) (hv : ∀ H w, SlotR H w s → w = v) (ha : EV Z a ρ (oa ++ (q, .raw (.lst vs)) :: ob) (.ref q)) (hb : ED Z b ρ (oa ++ (q, .raw (.lst vs)) :: ob) (.int i)) (hi : ixN vs.length i = some n) (h : D.nx ρ (oa ++ (q, .raw (.lst (vs.set n v))) :: ob))
    (hs : swapsWithSole [.Subscript a b tpos] e pos.line Z.X.env = pure false := by rfl) (hw : swappedStores [.Subscript a b tpos] e Z.X.env = pure none := by rfl) (h1 : (assignEach [.Subscript a b tpos] Z.X.env).map (·.2) = [assign (.Subscript a b tpos) Z.X.env] := by rfl)
    (hq : ∀ v, assign (.Subscript a b tpos) Z.X.env v = (do
      let ov ← holding [v] (eval a Z.X.env)
      let iv ← holding [v, ov] (eval b Z.X.env)
      standAt tpos
      holding [v, ov, iv] (setItem ov iv v)
      release [v, ov, iv] []) := by intro _; rfl) : SD Z (.Assign [.Subscript a b tpos] e pos) D ρ (oa ++ (q, .raw (.lst vs)) :: ob) := fun H0 Hf σ H m0 S E => wS.of (ps_asg peW (pg_sub peW peW set_list hq) hs hw h1) (he Hf σ H S E _ fun v1 Hf1 H1 m1 S1 r1 => ha Hf1 σ H1 S1 (E.mono m1) _ fun w Hf2 H2 m2 S2 r2 =>
  hb Hf2 σ H2 S2 (E.mono (m1.trans m2)) _ fun z Hf3 H3 m3 S3 r3 => by
    cases r3
    cases (show w = .ref q from r2)
    cases hv _ _ r1
    obtain ⟨_, _, g⟩ := S3.at (p := q) (oo := .raw (.lst vs)) (by simp)
    exact ⟨q, vs, i, n, rfl, rfl, g, hi, Hf3, ρ, _, ((m0.trans m1).trans m2).trans m3, S3.write (oo' := .raw (.lst (vs.set n v))) upd_same, E.mono ((m1.trans m2).trans m3), h⟩)
/-- a new list turned into data -/
theorem EG.frz {P : List PyData → Own → Prop} (h : EG Z e ρ own fun s o => ∃ p ds o', s = .raw (.ref p) ∧ o = (p, .lst ds) :: o' ∧ P ds o') (hR : ∀ ds o, P ds o → R (.d (.list ds)) o) : EG Z e ρ own R := fun Hf σ H S E Q k => h Hf σ H S E Q fun v Hf1 H1 s o m1 S1 r1 hs hq => by
  obtain ⟨p, ds, o', rfl, rfl, hq⟩ := hq
  obtain ⟨Hf2, m2, S2, r2⟩ := Sat.freeze (oa := []) S1
  cases (show v = .ref p from r1)
  exact k _ Hf2 H1 (.d (.list ds)) o' (m1.trans m2) S2 r2 (fun z => nomatch z) (hR ds o' hq)
/-- arguments, the first with a change -/
def EAG (Z : Ctx) (es : List Expr) (ρ : List Slot) (own : Own) (R : List Slot → Own → Prop) : Prop := ∀ Hf σ H, Sat Z.B Hf H own → EnvR Hf σ ρ → ∀ Q : List V → Hp → Prop, (∀ vs Hf' H' ss own', Same Hf Hf' → Sat Z.B Hf' H' own' → SlotsR Hf' vs ss → R ss own' → Q vs H') → wA Z.X es σ H Q
theorem EA.toEAG {ss : List Slot} {R : List Slot → Own → Prop} (h : EA Z es ρ own ss) (q : R ss own) : EAG Z es ρ own R := fun Hf σ H S E Q k => h Hf σ H S E Q fun vs Hf' H' m S' r => k vs Hf' H' ss own m S' r q
theorem eag_cons {R : List Slot → Own → Prop} {P : Slot → Own → Prop} (h : EG Z e ρ own P) (hr : ∀ s o, P s o → s ≠ .un → EAG Z es ρ o (fun ss o' => R (s :: ss) o')) (hs : starEach (e :: es) Z.X.env = (false, eval e Z.X.env) :: starEach es Z.X.env := by rfl) : EAG Z (e :: es) ρ own R := fun Hf σ H S E Q k => wA.of (pa_cons peW paW hs) (h Hf σ H S E _ fun v Hf1 H1 s o m1 S1 r1 hu q1 =>
  hr s o q1 hu Hf1 σ H1 S1 (E.mono m1) _ fun vs Hf2 H2 ss o2 m2 S2 r2 q2 => k (v :: vs) Hf2 H2 (s :: ss) o2 (m1.trans m2) S2 (.cons (r1.mono m2) r2) q2)
/-- displays whose items change what is owned -/
theorem eg_lst {P : List PyData → Own → Prop} (h : EAG Z es ρ own fun ss o => ∃ ds, ss = ds.map Slot.d ∧ ds.length ≤ 1000 ∧ P ds o) : EG Z (.List es pos) ρ own (fun s o => ∃ p ds o', s = .raw (.ref p) ∧ o = (p, .lst ds) :: o' ∧ P ds o') := fun Hf σ H S E Q q => wE.of (pe_lst paW) (h Hf σ H S E _ fun vs Hf1 H1 ss o m1 S1 r1 hq => by
  obtain ⟨ds, rfl, hl, hq⟩ := hq
  have r := r1.data
  refine ⟨Nat.le_trans (by rw [r.length]; exact hl) (by decide), fun p hp => q _ _ _ (.raw (.ref p)) _ m1 (S1.newOwn (oo := .lst ds) hp ⟨_, upd_same, r⟩) rfl (fun z => nomatch z) ⟨p, ds, o, rfl, rfl, hq⟩⟩)
end
/-! ### a range whose end changes what is owned, walked by a comprehension -/
section
variable {Z : Ctx} {elt tg iter a : Expr} {ifs : List Expr} {scope : Scope} {ρ : List Slot} {own : Own} {k : Nat} {pos p : Pos}
end
/-! ### a def of the text as the top has left it -/
structure Df (K : PySem.W.Frag) (mg : Str → Option Value) (z : Str) (st : Stmt) (ps : List Str) : Prop where
  ex : ∃ f fd, Fun K z z st f fd ∧ mg z = some (.ref f) ∧ ∀ us : List Value, us.length = ps.length → bindArgs fd ⟨us, []⟩ = pure (ps.zip us)
theorem Df.fn {K : PySem.W.Frag} {mg : Str → Option Value} {P : Program} {w : World} {base : Heap} {z : Str} {st : Stmt} {ps : List Str} {k : Nat} {Pre : Pr} (D : Df K mg z st ps) (h : ∀ f fd, Fun K z z st f fd → FnOk P w K mg base (L2.CX P w) k f fd ps (spG Pre)) : Fn K mg P w base z ps k Pre := by
  obtain ⟨f, fd, F, hm, hb⟩ := D.ex
  exact ⟨f, fd, h f fd F, hm, F.kp, Binds.all hb⟩
theorem df_mk {K : PySem.W.Frag} {mg : Str → Option Value} {h : Heap} {z : Str} {st : Stmt} {ps : List Str} {f : Addr} {oc : Value} {od an : Option Addr} {sl : Array (Option Value)} {kV dc pm cd ct : Value} (X : K.In h) (G : h.Ns mainGlobals mg)
    (hb : ∀ (kV doc pm : Value) (an : Option Addr) (cdv ct : Value) (us : List Value), us.length = ps.length → bindArgs (PySem.W.fnOf z z (defArgs st) (defBody st) (defScope st) .none kV doc pm an cdv ct) ⟨us, []⟩ = pure (ps.zip us))
    (a : PySem.W.nsIn K mainGlobals z = some (some (.ref f))) (l : K.lookup f = some ⟨oc, od, .func (PySem.W.fnOf z z (defArgs st) (defBody st) (defScope st) .none kV dc pm an cd ct), sl⟩) (c : PySem.W.codeIn K cd z = true) (k : PySem.W.keepIn K (.ref f) = true) : Df K mg z st ps :=
  have F := fun_mk (st := st) l c k
  ⟨f, _, F, PySem.W.mg_of X G a, fun us hl => hb _ _ _ _ _ _ us hl⟩
theorem err_mk {K : PySem.W.Frag} {mg : Str → Option Value} {h : Heap} {z : Str} {C : Addr} (X : K.In h) (G : h.Ns mainGlobals mg) (a : PySem.W.nsIn K mainGlobals z = some (some (.ref C)))
    (x : PySem.W.excIn K C [.type "ValueError", .type "Exception", .type "BaseException", .type "object"] "ValueError.__new__" = true) (k : PySem.W.keepIn K (.ref C) = true) (b : PySem.W.subIn K (.ref C) (.type "BaseException") = some true) (t : PySem.W.typeIn K (.ref C) = some (.type "type")) : ErrC K mg z C := ⟨PySem.W.mg_of X G a, x, k, b, t⟩
/-- the classes of the program -/
structure Cl where
  DayError : Addr
  BadYear : Addr
  BadDay : Addr
  BadNumber : Addr
  BadShare : Addr
  BadText : Addr
  NotFound : Addr
  Calendar : Addr
end Sd


/-! fractions as data, sizes -/
namespace Sd
open PySem PySem.Spec PyProof.Rows L2
def fr (q : Rat) : PyData := .tuple [.int q.num, .int (q.den : Int)]
theorem low_eq (a b : Int) (hb : 0 < b) : ((a : Rat) / b).num = a / (Int.gcd a b) ∧ (((a : Rat) / b).den : Int) = b / (Int.gcd a b) := by
  rw [← Rat.divInt_eq_div]
  refine ⟨?_, ?_⟩
  · rw [Rat.num_divInt, Int.sign_eq_one_of_pos hb, Int.one_mul, Int.gcd_comm]
  · rw [Rat.den_divInt, if_neg (by omega), Int.gcd_comm, Int.natCast_ediv, Int.natAbs_of_nonneg (by omega)]
theorem fr_low (a b : Int) (hb : 0 < b) : PyData.tuple [.int (a / (Int.gcd a b : Nat)), .int (b / (Int.gcd a b : Nat))] = fr ((a : Rat) / b) := by
  unfold fr
  rw [(low_eq a b hb).1, (low_eq a b hb).2]
theorem den_pos (q : Rat) : (0 : Int) < (q.den : Int) := by
  have := q.den_nz
  omega
theorem num_den (q : Rat) : (q.num : Rat) / ((q.den : Int) : Rat) = q := by
  rw [← Rat.divInt_eq_div, Rat.num_divInt_den]
theorem den_ne (q : Rat) : ((q.den : Int) : Rat) ≠ 0 := by
  intro h
  have : (q.den : Int) = 0 := by exact_mod_cast h
  have := den_pos q
  omega
theorem num_eq (q : Rat) : (q.num : Rat) = q * ((q.den : Int) : Rat) := by
  have h := num_den q
  have h2 := den_ne q
  grind
theorem eqv_fr (p q : Rat) : PyData.eqv (fr p) (fr q) = decide (p = q) := by
  have e : PyData.eqv (fr p) (fr q) = (decide (p.num = q.num) && decide ((p.den : Int) = (q.den : Int))) := by
    simp [fr, PyData.eqv, PyData.eqvAll, Bool.beq_eq_decide_eq]
  rw [e, Bool.eq_iff_iff]
  simp only [Bool.and_eq_true, decide_eq_true_eq]
  constructor
  · rintro ⟨h1, h2⟩
    exact Rat.ext h1 (by omega)
  · rintro rfl
    exact ⟨rfl, rfl⟩
/-! shapes -/
def Shp (n : Nat) (d : PyData) : Prop := d.canLay0 = true ∧ d.depth ≤ n
theorem Shp.shaped {n : Nat} {d : PyData} (h : Shp n d) (hn : n ≤ 64) : SeqAt.shaped d = true := by
  unfold SeqAt.shaped
  rw [h.1, decide_eq_true (Nat.le_trans h.2 hn)]
  rfl
theorem depthAll_le {n : Nat} : ∀ {ds : List PyData}, (∀ d ∈ ds, d.depth ≤ n) → PyData.depthAll ds ≤ n
  | [], _ => Nat.zero_le _
  | d :: ds, h => by
    unfold PyData.depthAll
    exact Nat.max_le.mpr ⟨h d (by simp), depthAll_le fun x hx => h x (by simp [hx])⟩
theorem canAll_of : ∀ {ds : List PyData}, (∀ d ∈ ds, d.canLay0 = true) → PyData.canLayAll0 ds = true
  | [], _ => by simp [PyData.canLayAll0]
  | d :: ds, h => by
    unfold PyData.canLayAll0
    rw [h d (by simp), canAll_of fun x hx => h x (by simp [hx])]
    rfl
theorem shp_int (i : Int) : Shp 0 (.int i) := ⟨by simp [PyData.canLay0], by simp [PyData.depth]⟩
theorem shp_list {n : Nat} {ds : List PyData} (h : ∀ d ∈ ds, Shp n d) : Shp (n + 1) (.list ds) := ⟨by unfold PyData.canLay0; exact canAll_of fun d hd => (h d hd).1, by unfold PyData.depth; have := depthAll_le (n := n) fun d hd => (h d hd).2; omega⟩
theorem shp_tup {n : Nat} {ds : List PyData} (h : ∀ d ∈ ds, Shp n d) : Shp (n + 1) (.tuple ds) := ⟨by unfold PyData.canLay0; exact canAll_of fun d hd => (h d hd).1, by unfold PyData.depth; have := depthAll_le (n := n) fun d hd => (h d hd).2; omega⟩
theorem shp_fr (q : Rat) : Shp 1 (fr q) := shp_tup fun d hd => by
  simp only [List.mem_cons, List.not_mem_nil, or_false] at hd
  rcases hd with rfl | rfl <;> exact shp_int _
theorem shp_ints (ns : List Int) : Shp 1 (.list (ns.map PyData.int)) := shp_list fun d hd => by
  obtain ⟨n, _, rfl⟩ := List.mem_map.mp hd
  exact shp_int n
theorem sh_fr (q : Rat) : SeqAt.shaped (fr q) = true := (shp_fr q).shaped (by decide)
theorem sh_ints (ns : List Int) : SeqAt.shaped (.list (ns.map PyData.int)) = true := (shp_ints ns).shaped (by decide)
def Sz (n : Nat) (i : Int) : Prop := i.natAbs < 2 ^ n
def Sq (n : Nat) (q : Rat) : Prop := q.num.natAbs < 2 ^ n ∧ q.den < 2 ^ n
theorem pow_le {m n : Nat} (h : m ≤ n) : 2 ^ m ≤ 2 ^ n := Nat.pow_le_pow_right (by decide) h
theorem Sz.mono {m n : Nat} {i : Int} (h : Sz m i) (hn : m ≤ n) : Sz n i := Nat.lt_of_lt_of_le h (pow_le hn)
theorem Sq.mono {m n : Nat} {q : Rat} (h : Sq m q) (hn : m ≤ n) : Sq n q := ⟨Nat.lt_of_lt_of_le h.1 (pow_le hn), Nat.lt_of_lt_of_le h.2 (pow_le hn)⟩
theorem Sz.mul {m n : Nat} {i j : Int} (h : Sz m i) (h' : Sz n j) : Sz (m + n) (i * j) := wide_lt h h'
theorem Sz.add {m n : Nat} {i j : Int} (h : Sz m i) (h' : Sz n j) : Sz (max m n + 1) (i + j) := by
  have h1 := (h.mono (Nat.le_max_left m n))
  have h2 := (h'.mono (Nat.le_max_right m n))
  unfold Sz at *
  rw [Nat.pow_succ]
  omega
theorem Sz.neg {m : Nat} {i : Int} (h : Sz m i) : Sz m (-i) := by unfold Sz at *; rw [Int.natAbs_neg]; exact h
theorem Sz.sub {m n : Nat} {i j : Int} (h : Sz m i) (h' : Sz n j) : Sz (max m n + 1) (i - j) := by rw [Int.sub_eq_add_neg]; exact h.add h'.neg
theorem Sq.num {m : Nat} {q : Rat} (h : Sq m q) : Sz m q.num := h.1
theorem Sq.den {m : Nat} {q : Rat} (h : Sq m q) : Sz m (q.den : Int) := by unfold Sz; rw [Int.natAbs_natCast]; exact h.2
theorem cmul_of {a b : Nat} {i j : Int} (ha : Sz a i) (hb : Sz b j) (h : a + b ≤ 999998) : CMulW i j := wide_mul (a := a + 1) (b := b + 1) (ha.mono (by omega)) (hb.mono (by omega)) (by omega) (by omega) (by omega)
theorem cdiv_of {b : Nat} {i j : Int} (h : 0 < j) (hb : Sz b j) (h9 : b ≤ 8999) : CDivW i j := wide_div (b := b + 1) h (hb.mono (by omega)) (by omega) (by omega)
theorem ediv_le_natAbs (a : Int) (g : Nat) (hd : (g : Int) ∣ a) : (a / (g : Int)).natAbs ≤ a.natAbs := by
  rw [Int.natAbs_ediv_of_dvd hd]
  exact Nat.div_le_self _ _
theorem Sq.of_div {n : Nat} {a b : Int} (hb : 0 < b) (h1 : Sz n a) (h2 : Sz n b) : Sq n ((a : Rat) / b) := by
  obtain ⟨e1, e2⟩ := low_eq a b hb
  constructor
  · rw [e1]
    exact Nat.lt_of_le_of_lt (ediv_le_natAbs a _ (Int.gcd_dvd_left a b)) h1
  · have h3 := ediv_le_natAbs b _ (Int.gcd_dvd_right a b)
    rw [← e2] at h3
    rw [Int.natAbs_natCast] at h3
    exact Nat.lt_of_le_of_lt h3 h2
theorem plus_eq (p q : Rat) : ((p.num * (q.den : Int) + q.num * (p.den : Int) : Int) : Rat) / ((p.den : Int) * (q.den : Int) : Int) = p + q := by
  have h1 := num_eq p
  have h2 := num_eq q
  have h3 := den_ne p
  have h4 := den_ne q
  push_cast at *
  rw [h1, h2]
  grind
theorem minus_eq (p q : Rat) : ((p.num * (q.den : Int) - q.num * (p.den : Int) : Int) : Rat) / ((p.den : Int) * (q.den : Int) : Int) = p - q := by
  have h1 := num_eq p
  have h2 := num_eq q
  have h3 := den_ne p
  have h4 := den_ne q
  push_cast at *
  rw [h1, h2]
  grind
theorem Sq.add {m n : Nat} {p q : Rat} (h : Sq m p) (h' : Sq n q) : Sq (m + n + 1) (p + q) := by
  rw [← plus_eq]
  refine Sq.of_div (Int.mul_pos (den_pos p) (den_pos q)) ?_ ((h.den.mul h'.den).mono (by omega))
  exact ((h.num.mul h'.den).add (h'.num.mul h.den)).mono (by omega)
theorem Sq.sub {m n : Nat} {p q : Rat} (h : Sq m p) (h' : Sq n q) : Sq (m + n + 1) (p - q) := by
  rw [← minus_eq]
  refine Sq.of_div (Int.mul_pos (den_pos p) (den_pos q)) ?_ ((h.den.mul h'.den).mono (by omega))
  exact ((h.num.mul h'.den).sub (h'.num.mul h.den)).mono (by omega)
theorem le_fr (p q : Rat) : (p.num * (q.den : Int) ≤ q.num * (p.den : Int)) ↔ p ≤ q := (Rat.le_iff p q).symm
theorem gcd_step (a b : Int) (ha : 0 ≤ a) (hb : 0 < b) : Int.gcd b (a % b) = Int.gcd a b := by
  have e : (a % b).natAbs = a.natAbs % b.natAbs := by
    rw [Int.natAbs_emod_of_nonneg ha]
  unfold Int.gcd
  rw [e, Nat.gcd_comm b.natAbs, ← Nat.gcd_rec, Nat.gcd_comm]
/-! no data is a dict -/
theorem Rep.nd {H : Hp} {v : V} {x : PyData} (h : Rep H v x) : ∀ kvs, x ≠ .dict kvs := fun kvs e => by
  subst e
  cases h
theorem Reps.nd {H : Hp} : ∀ {vs : List V} {ds : List PyData}, Reps H vs ds → ∀ d ∈ ds, ∀ kvs, d ≠ .dict kvs
  | _, _, .nil, _, h => nomatch h
  | _, _, .cons a b, d, h => by
    rcases List.mem_cons.mp h with rfl | h
    · exact a.nd
    · exact b.nd d h
def NoD (x : PyData) : Prop := (∀ kvs, x ≠ .dict kvs) ∧ ∀ ds, x = .list ds ∨ x = .tuple ds → ∀ d ∈ ds, ∀ kvs, d ≠ .dict kvs
theorem Rep.noD {H : Hp} {v : V} {x : PyData} (h : Rep H v x) : NoD x := ⟨h.nd, fun ds e => by
  rcases e with rfl | rfl
  · cases h with
    | lst _ r => exact r.nd
  · cases h with
    | tup _ r => exact r.nd⟩
theorem sds_nd {Z : Ctx} {sts : List Stmt} {D : DE} {ρ : List Slot} {own : Own} (i : Nat) {x : PyData} (hi : ρ[i]? = some (.d x)) (k : NoD x → SDs Z sts D ρ own) : SDs Z sts D ρ own := fun H0 Hf σ H m0 S E => by
  obtain ⟨v, _, r⟩ := E.d hi
  exact k r.noD H0 Hf σ H m0 S E
/-! years -/
def isInt (x : PyData) (lo hi : Int) : Bool := match x with
  | .int i => decide (lo ≤ i) && decide (i ≤ hi)
  | _ => false
def isYear (x : PyData) : Bool := match x with
  | .list ds => decide (1 ≤ (ds.length : Int)) && decide ((ds.length : Int) ≤ 8) && (ds.map fun d => isInt d 1 20).all id
  | _ => false
/-- a year of ints -/
structure Yr (ys : List Int) : Prop where
  lo : 1 ≤ ys.length
  hi : ys.length ≤ 8
  it : ∀ y ∈ ys, 1 ≤ y ∧ y ≤ 20
abbrev li (ns : List Int) : PyData := .list (ns.map PyData.int)
theorem Yr.is {ys : List Int} (h : Yr ys) : isYear (li ys) = true := by
  have e : isYear (li ys) = (decide (1 ≤ ((ys.map PyData.int).length : Int)) && decide (((ys.map PyData.int).length : Int) ≤ 8) && ((ys.map PyData.int).map fun d => isInt d 1 20).all id) := rfl
  have h1 := h.lo
  have h2 := h.hi
  rw [e, List.length_map, decide_eq_true (by omega), decide_eq_true (by omega), List.map_map]
  simp only [Bool.and_self, Bool.true_and, List.all_eq_true, List.mem_map]
  rintro x ⟨y, hy, rfl⟩
  have := h.it y hy
  simp [isInt, this.1, this.2]
theorem Sz.pow {k : Nat} {b : Int} (h : Sz k b) : ∀ n : Nat, Sz (k * n + 1) (b ^ n)
  | 0 => by unfold Sz; simp
  | n + 1 => by
    rw [Int.pow_succ]
    exact ((Sz.pow h n).mul h).mono (by rw [Nat.mul_succ]; omega)
/-! binomials -/
def bin : Nat → Nat → Nat
  | _, 0 => 1
  | 0, _ + 1 => 0
  | n + 1, k + 1 => bin n k + bin n (k + 1)
theorem bin_zero (n : Nat) : bin n 0 = 1 := by cases n <;> rfl
theorem bin_succ (n k : Nat) : bin (n + 1) (k + 1) = bin n k + bin n (k + 1) := rfl
theorem bin_mul : ∀ (n k : Nat), (n + 1) * bin n k = bin (n + 1) (k + 1) * (k + 1)
  | 0, 0 => rfl
  | 0, k + 1 => by simp [bin]
  | n + 1, 0 => by
    have h := bin_mul n 0
    rw [bin_zero] at *
    rw [bin_succ, bin_zero]
    omega
  | n + 1, k + 1 => by
    have h1 := bin_mul n k
    have h2 := bin_mul n (k + 1)
    rw [bin_succ (n + 1) (k + 1)]
    rw [bin_succ n (k + 1)] at h2 ⊢
    rw [bin_succ n k] at h1 ⊢
    grind
theorem bin_next (n k : Nat) (h : k ≤ n) : bin n (k + 1) * (k + 1) = bin n k * (n - k) := by
  have h1 := bin_mul n k
  rw [bin_succ] at h1
  obtain ⟨m, rfl⟩ : ∃ m, n = k + m := ⟨n - k, by omega⟩
  have e : k + m - k = m := by omega
  rw [e]
  grind
theorem bin_step (n i : Nat) (h : i ≤ n) : ((bin n i : Nat) : Int) * ((n : Int) - (0 + (i : Int))) / (0 + (i : Int) + 1) = (bin n (i + 1) : Nat) := by
  have h1 := bin_next n i h
  have h2 : ((bin n i : Nat) : Int) * ((n : Int) - (0 + (i : Int))) = ((bin n (i + 1) : Nat) : Int) * (0 + (i : Int) + 1) := by
    have e1 : ((n : Int) - (0 + (i : Int))) = ((n - i : Nat) : Int) := by omega
    have e2 : (0 + (i : Int) + 1) = ((i + 1 : Nat) : Int) := by omega
    rw [e1, e2]
    exact_mod_cast h1.symm
  rw [h2, Int.mul_ediv_cancel _ (by omega)]
theorem bin_le : ∀ (n k : Nat), bin n k ≤ 2 ^ n
  | n, 0 => by rw [bin_zero]; exact Nat.one_le_two_pow
  | 0, k + 1 => by simp [bin]
  | n + 1, k + 1 => by
    have h1 := bin_le n k
    have h2 := bin_le n (k + 1)
    rw [bin_succ, Nat.pow_succ]
    omega
theorem bin_lt (n i : Nat) {k : Nat} (h : i < k) (hk : k ≤ n) : bin n i < 2 ^ n := by
  cases n with
  | zero => omega
  | succ n =>
    cases i with
    | zero => rw [bin_zero]; exact Nat.one_lt_two_pow (by omega)
    | succ i =>
      have h1 := bin_le n i
      have h2 := bin_le n (i + 1)
      rw [bin_succ, Nat.pow_succ]
      by_cases e : i = n
      · omega
      · have : ∀ (n i : Nat), i < n → bin n i < 2 ^ n := fun n i hi => by
          induction n generalizing i with
          | zero => omega
          | succ n ih =>
            cases i with
            | zero => rw [bin_zero]; exact Nat.one_lt_two_pow (by omega)
            | succ i =>
              have a1 := ih i (by omega)
              have a2 := bin_le n (i + 1)
              rw [bin_succ, Nat.pow_succ]
              omega
        have a := this n i (by omega)
        omega
/-! lists of ints walked -/
theorem fm_congr {α β : Type} {f g : α → Option β} : ∀ {l : List α}, (∀ a ∈ l, f a = g a) → l.filterMap f = l.filterMap g
  | [], _ => rfl
  | a :: l, h => by
    rw [List.filterMap_cons, List.filterMap_cons, h a (by simp), fm_congr fun x hx => h x (by simp [hx])]

theorem zipD_ints (xs ys : List Int) : zipD (xs.map PyData.int) (ys.map PyData.int) = (xs.zip ys).map fun p => PyData.tuple [.int p.1, .int p.2] := by
  unfold zipD
  rw [List.zip_map, List.map_map]
  rfl
theorem sum_le_mul {b : Int} : ∀ {ys : List Int}, (∀ y ∈ ys, y ≤ b) → ys.sum ≤ b * ys.length
  | [], _ => by simp
  | y :: ys, h => by
    have h1 := sum_le_mul (ys := ys) fun z hz => h z (by simp [hz])
    have h2 := h y (by simp)
    rw [List.sum_cons, List.length_cons]
    push_cast
    rw [Int.mul_add]
    omega
theorem sum_ge_mul {b : Int} : ∀ {ys : List Int}, (∀ y ∈ ys, b ≤ y) → b * ys.length ≤ ys.sum
  | [], _ => by simp
  | y :: ys, h => by
    have h1 := sum_ge_mul (ys := ys) fun z hz => h z (by simp [hz])
    have h2 := h y (by simp)
    rw [List.sum_cons, List.length_cons]
    push_cast
    rw [Int.mul_add]
    omega
theorem Yr.sum_lo {ys : List Int} (h : Yr ys) : 1 ≤ ys.sum := by
  have h1 := sum_ge_mul (b := 1) fun y hy => (h.it y hy).1
  have := h.lo
  omega
theorem Yr.sum_hi {ys : List Int} (h : Yr ys) : ys.sum ≤ 160 := by
  have h1 := sum_le_mul (b := 20) fun y hy => (h.it y hy).2
  have := h.hi
  omega
theorem Yr.szW {ys : List Int} (h : Yr ys) : Sz 8 ys.sum := by
  have h1 := h.sum_lo
  have h2 := h.sum_hi
  unfold Sz
  omega
theorem Yr.szy {ys : List Int} (h : Yr ys) {y : Int} (hy : y ∈ ys) : Sz 8 y := by
  have h3 := h.it y hy
  unfold Sz
  omega
theorem Yr.posP {ys : List Int} (h : Yr ys) (n : Nat) : 0 < ys.sum ^ n := Int.pow_pos (by have := h.sum_lo; omega)
theorem Sz.nat {n k : Nat} (h : n < 2 ^ k) : Sz k (n : Int) := by unfold Sz; rw [Int.natAbs_natCast]; exact h
theorem Sz.one : Sz 1 1 := by unfold Sz; decide
theorem fr_zero : fr 0 = .tuple [.int 0, .int 1] := rfl
theorem Sq.one : Sq 1 1 := ⟨by decide, by decide⟩
theorem Sq.zero : Sq 1 0 := ⟨by decide, by decide⟩
theorem getI {ys : List Int} {j : Nat} {y : Int} (h : ys[j]? = some y) : atI (ys.map PyData.int) (j : Int) = some (.int y) := atI_nat (by rw [List.getElem?_map, h]; rfl)
theorem bin_sz (n k : Nat) : Sz (n + 1) (bin n k : Nat) := Sz.nat (Nat.lt_of_le_of_lt (bin_le n k) (by rw [Nat.pow_succ]; have := Nat.one_le_two_pow (n := n); omega))
/-- told numbers on the days: ways -/
def plcW : List Int → List Nat → Nat → Int
  | y :: ys, k :: ks, left => (bin left k : Nat) * y ^ k * plcW ys ks (left - k)
  | _, _, _ => 1
def maxL (ys : List Int) : Int := ys.foldl max 0
theorem maxL_aux : ∀ (ys : List Int) (a : Int), a ≤ ys.foldl max a ∧ (∀ y ∈ ys, y ≤ ys.foldl max a) ∧ (ys.foldl max a = a ∨ ys.foldl max a ∈ ys)
  | [], a => ⟨Int.le_refl _, by simp, .inl rfl⟩
  | y :: ys, a => by
    obtain ⟨h1, h2, h3⟩ := maxL_aux ys (max a y)
    rw [List.foldl_cons]
    refine ⟨by omega, fun z hz => ?_, ?_⟩
    · rcases List.mem_cons.mp hz with rfl | hz
      · omega
      · exact h2 z hz
    · rcases h3 with h3 | h3
      · rw [h3]
        by_cases h : a ≤ y
        · right
          rw [Int.max_eq_right h]
          simp
        · left
          exact Int.max_eq_left (by omega)
      · exact .inr (by simp [h3])
theorem Yr.max_le {ys : List Int} (h : Yr ys) : ∀ y ∈ ys, y ≤ maxL ys := (maxL_aux ys 0).2.1
/-- a list of numbers for the days -/
structure Ct (ys : List Int) (cs : List Nat) : Prop where
  len : cs.length = ys.length
  sum : cs.sum ≤ 12
def nI (cs : List Nat) : List Int := cs.map fun (n : Nat) => (n : Int)
theorem nI_sum : ∀ cs : List Nat, (nI cs).sum = (cs.sum : Nat)
  | [] => rfl
  | k :: ks => by
    have := nI_sum ks
    unfold nI at *
    rw [List.map_cons, List.sum_cons, List.sum_cons, this]
    push_cast
    rfl
theorem nat_mem_sum : ∀ {cs : List Nat} {k : Nat}, k ∈ cs → k ≤ cs.sum
  | y :: ys, k, h => by
    rw [List.sum_cons]
    rcases List.mem_cons.mp h with rfl | h
    · omega
    · have := nat_mem_sum h
      omega
end Sd


/-! the script, the draws -/
namespace Sd
open PySem PySem.Spec PyProof.Rows L2
def ScrAt (K : PySem.W.Frag) (own : Own) (a : Addr) (xs : List Int) : Prop := ∀ (Hf H : Hp), (∀ q ∈ own, OwnOk Hf H q.1 q.2) → SqL K H a (xs.map V.int)
theorem ScrAt.at {K : PySem.W.Frag} {own : Own} {a : Addr} {xs : List Int} {B : Bs} {Hf H : Hp} (h : ScrAt K own a xs) (S : Sat B Hf H own) : SqL K H a (xs.map V.int) := h Hf H fun q hq => (S.ow q hq).2.2
theorem dp_ints {K : PySem.W.Frag} {H : Hp} : ∀ xs : List Int, DpAll K H (xs.map V.int) (xs.map PyData.int)
  | [] => .nil
  | x :: xs => .cons (.int x) (dp_ints xs)
section
variable {Z : Ctx} {e a b c : Expr} {ρ : List Slot} {own : Own} {pos p : Pos} {i : Int} {k : Nat} {q : Addr} {xs : List Int}
theorem c_neScr (g : Gd Z k) (h : ScrAt Z.X.K own q xs) : CmpB Z .NotEq own (.raw (.ref q)) (.d (.list [])) (!decide (xs = [])) := ⟨_, op_neD g.hr.units, fun v w Hf H S r1 r2 Q k => by
  cases (show v = .ref q from r1)
  refine ⟨.list (xs.map PyData.int), .list [], .lst (h.at S) (dp_ints xs), (Rep.mono S.e1 r2).dp, sh_ints xs, (shp_list (n := 0) (ds := []) (fun d hd => absurd hd (by simp))).shaped (by decide), ?_⟩
  have e : PyData.eqv (.list (xs.map PyData.int)) (.list []) = decide (xs = []) := by
    cases xs <;> simp [PyData.eqv, PyData.eqvAll]
  rw [e]
  exact k⟩
theorem el_listScr (hm : Z.X.mg "list" = none) (h : EV Z e ρ own (.ref q)) (hs' : ScrAt Z.X.K own q xs) (hg : Gl Z.X "list" := by rfl) (hs : starEach [e] Z.X.env = (false, eval e Z.X.env) :: starEach [] Z.X.env := by rfl) : EL Z (.Call (.Name "list" p) [e] [] pos) ρ own (xs.map PyData.int) :=
  el_callTy call_list_of hg hm (by decide +kernel) (ea_cons h ea_nil hs) fun vs Hf H S r0 Q k => by
    obtain ⟨v, rfl, r⟩ := r0.one
    cases (show v = .ref q from r)
    exact ⟨q, _, rfl, .inl (hs'.at S), fun l hl => k l Hf _ (Same.refl _) (S.newOwn (oo := .lst (xs.map PyData.int)) hl ⟨_, upd_same, Reps.ints xs⟩)⟩
/-- [a, i], the first a value with a change -/
theorem eg_lst2 {P : V → Own → Prop} (h1 : EG Z a ρ own fun s o => ∃ v, s = .raw v ∧ P v o) (h2 : ∀ v o, P v o → ED Z b ρ o (.int i)) (hs : starEach [a, b] Z.X.env = (false, eval a Z.X.env) :: starEach [b] Z.X.env := by rfl) (hs2 : starEach [b] Z.X.env = (false, eval b Z.X.env) :: starEach [] Z.X.env := by rfl) :
    EG Z (.List [a, b] pos) ρ own (fun s o => ∃ q v o', s = .raw (.ref q) ∧ o = (q, .raw (.lst [v, .int i])) :: o' ∧ P v o') := fun Hf σ H S E Q k => wE.of (pe_lst paW)
  ((eag_cons (R := fun ss o => ∃ v, ss = [.raw v, .d (.int i)] ∧ P v o) h1 (fun s o hq _ => by
      obtain ⟨v, rfl, hq⟩ := hq
      exact EA.toEAG (ea_cons (h2 v o hq) ea_nil hs2) ⟨v, rfl, hq⟩) hs) Hf σ H S E _ fun vs Hf1 H1 ss o m1 S1 r1 hq => by
    obtain ⟨v, rfl, hq⟩ := hq
    obtain ⟨v1, v2, rfl, r2, r3⟩ := r1.two
    cases (show v1 = v from r2)
    cases r3
    exact ⟨by show 2 ≤ sizeLine; decide, fun p hp => k _ Hf1 _ (.raw (.ref p)) _ m1 (S1.newOwn (oo := .raw (.lst [v, .int i])) hp upd_same) rfl (fun z => nomatch z) ⟨p, v, o, rfl, rfl, hq⟩⟩)
end
/-- what the draws are: a list of a list of ints and a count -/
def drw (d n : Addr) (cells : List Int) (cnt : Int) : Own := [(d, .raw (.lst [.ref n, .int cnt])), (n, .lst (cells.map PyData.int))]
theorem cx_no {P : Program} {w : World} {H : Hp} {s : Shared} {e : Value} {s' : Shared} (h : L2.CX P w [] H s (fun _ _ _ => False) e s') : False := by
  obtain ⟨_, _, _, _, _, _, _, _, _, _, _, _, z⟩ := h
  exact z
def pre_law (K : PySem.W.Frag) : Pr := fun ss own post => ∃ (a : Addr) (ns : List Int), ss = [.raw (.ref a)] ∧ ScrAt K own a ns ∧ ns.length ≤ 63 ∧ post = fun o => ∃ own', o = .ret (.d (.bool true)) own'
theorem law_in {K : PySem.W.Frag} {H : Hp} {a : Addr} {ns : List Int} (hl : ns.length ≤ 63) (hO : Only H) (hS : SqL K H a (ns.map V.int)) : spG (pre_law K) [.ref a] H (fun v _ => v = .bl true) (fun _ _ _ => False) := by
  have fin : ∀ (own : Own) (HB : Hp), Sat ⟨fun _ => none, HB⟩ (fun _ => none) H own → ScrAt K own a ns → spG (pre_law K) [.ref a] H (fun v _ => v = .bl true) (fun _ _ _ => False) := fun own HB S hs =>
    ⟨fun _ => none, HB, [.raw (.ref a)], own, _, S, .cons rfl .nil, ⟨a, ns, rfl, hs, hl, rfl⟩, fun s own' v Hf' H' hq S' r hu => by
      obtain ⟨o, hq⟩ := hq
      cases hq
      cases r
      rfl, fun C own' Hf' H' hq S' => by
      obtain ⟨o, hq⟩ := hq
      cases hq⟩
  have nt : ∀ (p : Addr) (xs : List V), H p = some (.tup xs) → (none : Option HO) = some (.tup xs) := fun p xs h => by
    rcases hO p with z | ⟨o, ys, z⟩
    · rw [z] at h; cases h
    · rw [z] at h; cases h
  rcases hS with (h | ⟨o, h⟩) | h
  · rcases hO a with z | ⟨o, xs, z⟩
    · rw [z] at h; cases h
    · rw [z] at h; cases h
  · refine fin [(a, .raw (.frz o (.lst (ns.map V.int))))] (less H [a]) ⟨fun _ _ h => h, fun _ _ h => (by cases h), fun p u h => ?_, fun p u h => (by cases h), fun q hq => ?_, by simp, nt⟩ (fun Hf H' hq => ?_)
    · by_cases hp : p ∈ [a]
      · have h : less H [a] p = some u := h
        rw [less_in hp] at h; cases h
      · have h : less H [a] p = some u := h
        rw [less_out hp] at h; exact h
    · have e : q = (a, .raw (.frz o (.lst (ns.map V.int)))) := by simpa using hq
      subst e
      exact ⟨rfl, less_in (by simp), h⟩
    · have h' := hq (a, .raw (.frz o (.lst (ns.map V.int)))) (by simp)
      exact .inl (.inr ⟨o, h'⟩)
  · exact fin [] H ⟨fun _ _ h => h, fun _ _ h => (by cases h), fun _ _ h => h, fun p u h => (by cases h), fun q hq => (nomatch hq), by simp, nt⟩ (fun Hf H' _ => .inr h)
end Sd


/-! more statements -/
namespace Sd
open PySem PySem.Spec PyProof.Rows L2
section
variable {Z : Ctx} {D : DE} {e a b c tg : Expr} {es : List Expr} {ρ : List Slot} {own oa ob : Own} {pos tpos p : Pos} {i j : Int} {s t : Slot} {k : Nat} {ds : List PyData} {x : PyData} {q : Addr} {R : Slot → Own → Prop}
end
section
variable {Z : Ctx} {e : Expr} {es : List Expr} {ρ : List Slot} {o1 : Own} {pos p : Pos} {k j : Nat} {ss : List Slot} {z : Str} {ps : List Str} {Pre : Pr} {post : Out → Prop} {R : Slot → Own → Prop}
/-- a def that gets all that is owned -/
theorem eg_callW (F : Fn Z.X.K Z.X.mg Z.X.prog Z.X.w Z.X.base z ps j Pre) (g : Gd Z k) (hj : j ≤ k) (ha : EA Z (e :: es) ρ o1 ss) (hp : Pre ss o1 post) (h1 : ∀ s o1', post (.ret s o1') → R s o1') (h2 : ∀ C o1', post (.exc C o1') → Z.ex C ρ o1')
    (hg : Gl Z.X z := by rfl) (hdb : (z == ("__debug__" : Str)) = false := by decide) (he : starEach (e :: es) Z.X.env = (false, eval e Z.X.env) :: starEach es Z.X.env := by rfl) (hpl : (backTo pos (starEach es Z.X.env)).any (·.1) = false := by rfl) :
    EG Z (.Call (.Name z p) (e :: es) [] pos) ρ o1 R := by
  have e0 : ∀ o : Own, [] ++ o ++ [] = o := fun o => by rw [List.nil_append, List.append_nil]
  have := eg_call (p := p) (R := R) (oa := []) (o1 := o1) (ob := []) F g hj (by rw [e0]; exact ha) hp (fun s o h => by rw [e0]; exact h1 s o h) (fun C o h => by rw [e0]; exact h2 C o h) hg hdb he hpl
  rw [e0] at this
  exact this
end
theorem eqv_self {n : Nat} {d : PyData} (h : Shp n d) : PyData.eqv d d = true := SeqAt.eqv_refl d h.1
end Sd


/-! still more rules -/
namespace Sd
open PySem PySem.Spec PyProof.Rows L2
section
variable {Z : Ctx} {D : DE} {e a b c tg : Expr} {es : List Expr} {ρ : List Slot} {own oa ob : Own} {pos tpos p : Pos} {i j : Int} {s t : Slot} {k : Nat} {ds : List PyData} {x y : PyData} {q : Addr} {R : Slot → Own → Prop}
theorem c_isND : CmpB Z .Is own (.d x) (.d .none) (isNone (.d x)) := c_isN (fun z => nomatch z)
theorem c_notND : CmpB Z .IsNot own (.d x) (.d .none) (!isNone (.d x)) := c_notN (fun z => nomatch z)
/-- a test that fails: nothing happens -/
theorem sd_ifF {A : List Stmt} (hc : ET Z c ρ own false) (h : D.nx ρ own) : SD Z (.If c A [] pos) D ρ own := sd_if hc (fun e => nomatch e) fun _ => sds_nil h
end
theorem cutD_from (xs : List PyData) (k : Nat) (h : k ≤ xs.length) : cutD xs (some (k : Int)) none = xs.drop k := by
  unfold cutD
  rw [HT.sIx_nat, HT.sIx_none, Nat.min_eq_left h]
  exact List.take_of_length_le (by rw [List.length_drop]; omega)
theorem cutD_to (xs : List PyData) (k : Nat) (h : k ≤ xs.length) : cutD xs none (some (k : Int)) = xs.take k := by
  unfold cutD
  rw [HT.sIx_nat, HT.sIx_none, Nat.min_eq_left h]
  simp
theorem eqvAll_ints : ∀ a b : List Int, PyData.eqvAll (a.map PyData.int) (b.map PyData.int) = decide (a = b)
  | [], [] => by simp [PyData.eqvAll]
  | [], b :: bs => by simp [PyData.eqvAll]
  | a :: as, [] => by simp [PyData.eqvAll]
  | a :: as, b :: bs => by
    rw [List.map_cons, List.map_cons, PyData.eqvAll, eqvAll_ints as bs, Bool.eq_iff_iff]
    simp [PyData.eqv]
theorem eqv_ints (a b : List Int) : PyData.eqv (li a) (li b) = decide (a = b) := by rw [PyData.eqv, eqvAll_ints]
end Sd


/-! an exception that is caught and kept in a name -/
namespace Sd
open PySem PySem.Spec PyProof.Rows L2
section
variable {X : Cx} {pins : List (Addr × Obj)} {σ : L2.St} {H : Hp} {s : Shared}
end
section
variable {Z : Ctx} {D : DE} {ρ : List Slot} {own : Own} {k : Nat} {x n z : Str} {c : Value} {body : List Stmt} {np pos pos' p1 p2 p3 : Pos}
end
/-! ### isinstance of a kept exception -/
section
variable {Z : Ctx} {a b o e : Expr} {ρ : List Slot} {own : Own} {pos p cpos apos : Pos} {k : Nat} {q D : Addr} {s t : Slot} {ds : List PyData} {x : PyData}
theorem mt_countD {X : Cx} (hu : X.A.units + 65 < cLine) : MtR X "list.count" (fun x xs H Q => ∃ (a : Addr) (y : V) (d : PyData) (ds : List PyData), x = V.ref a ∧ xs = [y] ∧ Dp X.K H (V.ref a) (.list ds) ∧ Dp X.K H y d ∧ PyData.plainAll ds = true ∧ d.plain = true ∧ d.depth ≤ 64 ∧ Q (.int (ds.countP (fun z => PyData.eqv z d) : Nat)) H) := by
  intro pins s σ H x xs v us Q I rx rxs h
  obtain ⟨a, y, d, ds, rfl, rfl, hl, hy, h1, h2, h3, q⟩ := h
  cases rx
  obtain ⟨uy, rfl, ry⟩ := rxs.one
  obtain ⟨bs, r1⟩ := Dp.reads I d y uy hy ry
  cases hl with
  | lst hs ha =>
    obtain ⟨its, rv, ⟨⟨cls, dd, data, sls⟩, n, ho, hc, hdn, hdt⟩, hlen⟩ := I.list hs
    obtain ⟨as, h4⟩ := Dp.readsAll I ds _ its ha rv
    exact SeqAt.count_list_data (vs := its.toArray) ⟨_, ho, hc, n, hdt⟩ h4 r1 h1 h2 (by omega) ⟨.int _, H, I.tok _, ⟨s.toks, rfl⟩, q⟩
theorem ed_count (g : Gd Z (k + 1)) (ho : ES Z o ρ own s) (L : Lst own s ds) (he : ED Z e ρ own x) (h1 : PyData.plainAll ds = true) (h2 : x.plain = true) (h3 : x.depth ≤ 64)
    (hbase : attributeBase o "count" Z.X.env (eval o Z.X.env) = eval o Z.X.env := by rfl)
    (hfew : ((backTo cpos (starEach [e] Z.X.env)).all (fun x => !x.1) && (backToKw cpos (keywordEach [] Z.X.env)).all (fun x => x.1.isSome)
      && decide ([e].length + ([] : List Keyword).length + (if ([] : List Keyword).isEmpty then 0 else 1) < 30)) = true := by rfl)
    (hline : (apos.endLine == cpos.line) = true := by rfl) (hs : starEach [e] Z.X.env = (false, eval e Z.X.env) :: starEach [] Z.X.env := by rfl) (hplain : (backTo cpos (starEach [] Z.X.env)).any (·.1) = false := by rfl) :
    ED Z (.Call (.Attribute o "count" apos) [e] [] cpos) ρ own (.int (ds.countP (fun z => PyData.eqv z x) : Nat)) := fun Hf σ H S E Q q => wE.of (pe_bm PySem.F.plainAttrs_list PySem.F.slot_list_count PySem.F.type_list_count (mt_countD (by have := g.hr.un; omega)) peW (pa_cons peW pa_nil hs) hbase hfew hline hs hplain)
  (ho Hf σ H S E _ fun v Hf1 H1 m1 S1 r1 => by
    obtain ⟨p, vs, rfl, g1, _⟩ := L.at S1 r1
    refine ⟨.inl ⟨rfl, _, SqL.of g1⟩, he Hf1 σ H1 S1 (E.mono m1) _ fun w Hf2 H2 m2 S2 r2 => ?_⟩
    obtain ⟨p', vs', e', g1, g2⟩ := L.at S2 (r1.mono m2)
    cases e'
    exact ⟨p, w, x, ds, rfl, rfl, (Rep.lst g1 (g2.mono S2.e1)).dp, (Rep.mono S2.e1 r2).dp, h1, h2, h3, q _ Hf2 H2 (m1.trans m2) S2 (.int _)⟩)
end
/-- what is known of a class of errors beside the others -/
structure ErrK (K : PySem.W.Frag) (C y d n s t o D : Addr) (by_ bd bn bs bt bo : Bool) : Prop where
  xc : ExcC K C
  y : PySem.W.kitOne K (.ref C) (.ref y) = some by_
  d : PySem.W.kitOne K (.ref C) (.ref d) = some bd
  n : PySem.W.kitOne K (.ref C) (.ref n) = some bn
  s : PySem.W.kitOne K (.ref C) (.ref s) = some bs
  t : PySem.W.kitOne K (.ref C) (.ref t) = some bt
  o : PySem.W.kitOne K (.ref C) (.ref o) = some bo
  de : PySem.W.kitOne K (.ref C) (.ref D) = some true
  ve : PySem.W.kitOne K (.ref C) (.type "ValueError") = some true
  ex : PySem.W.exmOne K (.ref C) (.ref D) = some true
end Sd


/-! sets of ints -/
namespace Sd
open PySem PySem.Spec PyProof.Rows L2
theorem ixN_of {n j : Nat} (hj : j < n) : ixN n (j : Int) = some j := by
  unfold ixN
  rw [if_pos (by omega), if_pos (by omega)]
  rfl
/-- how many different ones -/
def dst (ns : List Int) : Nat := (firstMet (fun i => ns.getD i 0) ns.length).length
section
variable {X : Cx}
def tLenS (K : PySem.W.Frag) (ta : TE) : TE := fun σ H Q => ta σ H fun x H1 => ∃ (l : Addr) (ns : List Int), x = .ref l ∧ SqL K H1 l (ns.map V.int) ∧ ns.length ≤ 1000 ∧ Q (.int (dst ns : Nat)) H1
theorem pe_lenS {a : Expr} {ta : TE} {p p2 q pos : Pos} (hc : X.calm = true) (hg : Gl X "len") (hm : X.mg "len" = none) (hg2 : Gl X "set") (hm2 : X.mg "set" = none) (ha : PE X a ta)
    (na : starEach [a] X.env = (false, eval a X.env) :: starEach [] X.env := by rfl) : PE X (.Call (.Name "len" p) [.Call (.Name "set" p2) [a] [] q] [] pos) (tLenS X.K ta) := by
  refine ⟨fun pins s σ H Q I h => Call_ (ld_blt I hg hm boot_len (PyProof.Rows.callWith_builtin1 (PyProof.Rows.args_cons (Call_ (ld_blt I hg2 hm2 boot_set (PyProof.Rows.callWith_type1 (PyProof.Rows.args_cons (thn (ha.run pins s σ H _ I h) fun v t hq => PyProof.Rows.args_nil ?_) na) na rfl))) rfl) rfl rfl))⟩
  obtain ⟨x, H1, J, r, l, ns, rfl, hl, hn, hQ⟩ := hq
  cases r
  obtain ⟨its, rv, pl, _⟩ := J.list hl
  have hi := ints_of_vals rv
  have hz : its.length = ns.length := IntsAre.length hi
  refine call_set_list (J.ok.hd hc) pl.isList (by simpa using hi) (by rw [List.size_toArray, hz]; show ns.length + 1 < 4096; omega) fun h' tk hS hk => ?_
  have hz2 : its.toArray.size = ns.length := by rw [List.size_toArray, hz]
  rw [hz2] at hS
  obtain ⟨o, es, ep, t', ho, hex, hd, _, _, _, hf, hn'⟩ := hS
  have hle := firstMet_length_le (fun i => ns.getD i 0) ns.length
  have J2 : Inv X pins σ H1 { t with heap := h', toks := tk } := J.kept fun b o e => hk b o (Heap.lt_size e) e
  exact PyProof.Rows.args_nil (call_len_set ho hex hd hf (by rw [hn']; omega) ⟨.int (dst ns : Nat), H1, J2.tok _, ⟨_, by rw [hn']; rfl⟩, hQ⟩)
end
section
variable {Z : Ctx} {e : Expr} {ρ : List Slot} {own : Own} {pos p p2 q : Pos} {k : Nat} {s : Slot}
theorem ed_lenset {ns : List Int} (g : Gd Z k) (hm : Z.X.mg "len" = none) (hm2 : Z.X.mg "set" = none) (h : ES Z e ρ own s) (L : Lst own s (ns.map PyData.int)) (hn : ns.length ≤ 1000) (hg : Gl Z.X "len" := by rfl) (hg2 : Gl Z.X "set" := by rfl) (hs : starEach [e] Z.X.env = (false, eval e Z.X.env) :: starEach [] Z.X.env := by rfl) :
    ED Z (.Call (.Name "len" p) [.Call (.Name "set" p2) [e] [] q] [] pos) ρ own (.int (dst ns : Nat)) := fun Hf σ H S E Q k => wE.of (pe_lenS g.calm hg hm hg2 hm2 peW hs) (h Hf σ H S E _ fun v Hf1 H1 m1 S1 r1 => by
  obtain ⟨p, vs, rfl, e1, e2⟩ := L.at S1 r1
  cases e2.of_ints
  exact ⟨p, ns, rfl, SqL.of e1, hn, k _ Hf1 H1 m1 S1 (.int _)⟩)
end
theorem sdd_mem (l : List Int) (x : Int) : ∀ k, k ∈ step_dedup l x ↔ k ∈ l ∨ k = x := by
  intro k
  unfold step_dedup
  split
  · rename_i h
    constructor
    · exact fun z => .inl z
    · rintro (z | rfl)
      · exact z
      · simpa using h
  · simp [List.mem_append]
theorem fm_mem (val : Nat → Int) : ∀ (i : Nat) (k : Int), k ∈ firstMet val i ↔ ∃ j, j < i ∧ val j = k
  | 0, k => by simp [firstMet_zero]
  | i + 1, k => by
    rw [firstMet_succ, sdd_mem, fm_mem val i]
    constructor
    · rintro (⟨j, hj, e⟩ | rfl)
      · exact ⟨j, by omega, e⟩
      · exact ⟨i, by omega, rfl⟩
    · rintro ⟨j, hj, e⟩
      by_cases hji : j = i
      · right; rw [← e, hji]
      · exact .inl ⟨j, by omega, e⟩
theorem fm_nodup (val : Nat → Int) : ∀ i : Nat, (firstMet val i).Nodup
  | 0 => by simp [firstMet_zero]
  | i + 1 => by
    rw [firstMet_succ]
    have ih := fm_nodup val i
    unfold step_dedup
    split
    · exact ih
    · rename_i h
      refine List.nodup_append.mpr ⟨ih, by simp, fun a ha b hb => ?_⟩
      have hb : b = val i := by simpa using hb
      subst hb
      rintro rfl
      exact h (by simpa using ha)
/-- one value alone -/
theorem dst_one {ns : List Int} (hne : ns ≠ []) : dst ns = 1 ↔ ∀ x ∈ ns, ∀ y ∈ ns, x = y := by
  have hm : ∀ k, k ∈ firstMet (fun i => ns.getD i 0) ns.length ↔ k ∈ ns := fun k => by
    rw [fm_mem]
    constructor
    · rintro ⟨j, hj, e⟩
      rw [List.getD_eq_getElem?_getD, List.getElem?_eq_getElem hj, Option.getD_some] at e
      rw [← e]
      exact List.getElem_mem hj
    · intro hk
      obtain ⟨j, hj, e⟩ := List.getElem_of_mem hk
      exact ⟨j, hj, by rw [List.getD_eq_getElem?_getD, List.getElem?_eq_getElem hj, Option.getD_some, e]⟩
  have hnd := fm_nodup (fun i => ns.getD i 0) ns.length
  unfold dst
  generalize firstMet (fun i => ns.getD i 0) ns.length = l at hm hnd
  constructor
  · intro h x hx y hy
    obtain ⟨z, rfl⟩ := List.length_eq_one_iff.mp h
    have h1 : x = z := by simpa using (hm x).mpr hx
    have h2 : y = z := by simpa using (hm y).mpr hy
    rw [h1, h2]
  · intro h
    cases l with
    | nil =>
      obtain ⟨x, hx⟩ := List.exists_mem_of_ne_nil _ hne
      exact absurd ((hm x).mpr hx) (by simp)
    | cons a l =>
      cases l with
      | nil => rfl
      | cons b l =>
        have e := h a ((hm a).mp (by simp)) b ((hm b).mp (by simp))
        subst e
        simp at hnd
/-! ### what is owned may be dropped where a def returns -/
theorem Sat.nil {B : Bs} {Hf H : Hp} {own : Own} (S : Sat B Hf H own) : Sat B Hf H [] := ⟨S.e0, S.e1, S.eb, S.fr, (fun q hq => nomatch hq), by simp, S.tp⟩
section
variable {Z : Ctx} {D : DE} {ρ : List Slot} {own : Own} {sts : List Stmt} {a b c : Expr} {pos : Pos} {R : Slot → Own → Prop}
theorem sds_rtdrop (h : SDs Z sts { D with rt := fun s _ => D.rt s [] } ρ own) : SDs Z sts D ρ own := fun H0 Hf σ H m0 S E => wSs.imp (h H0 Hf σ H m0 S E) (fun _ _ q => q) (fun v H' ⟨Hf', s, o, m, S', r, hs, q⟩ => ⟨Hf', s, [], m, S'.nil, r, hs, q⟩) (fun _ _ q => q) (fun _ _ q => q)
end
/-! ### one class of errors beside another -/
end Sd


/-! sorted of pairs of ints -/
namespace Sd
open PySem PySem.Spec PyProof.Rows L2
def lexB (p q : Int × Int) : Bool := decide (p.1 < q.1) || (decide (p.1 = q.1) && decide (p.2 ≤ q.2))
def insP (x : Int × Int) : List (Int × Int) → List (Int × Int)
  | [] => [x]
  | y :: ys => if lexB x y then x :: y :: ys else y :: insP x ys
def srtP : List (Int × Int) → List (Int × Int)
  | [] => []
  | x :: xs => insP x (srtP xs)
theorem lexB_total {p q : Int × Int} (h : lexB p q = false) : lexB q p = true := by
  unfold lexB at *
  simp only [Bool.or_eq_false_iff, Bool.and_eq_false_iff, decide_eq_false_iff_not, Bool.or_eq_true, Bool.and_eq_true, decide_eq_true_eq] at *
  omega
theorem lexB_trans {p q r : Int × Int} (h : lexB p q = true) (h' : lexB q r = true) : lexB p r = true := by
  unfold lexB at *
  simp only [Bool.or_eq_true, Bool.and_eq_true, decide_eq_true_eq] at *
  omega
theorem lexB_anti {p q : Int × Int} (h : lexB p q = true) (h' : lexB q p = true) : p = q := by
  unfold lexB at *
  simp only [Bool.or_eq_true, Bool.and_eq_true, decide_eq_true_eq] at *
  exact Prod.ext (by omega) (by omega)
theorem insP_perm (x : Int × Int) : ∀ l, (insP x l).Perm (x :: l)
  | [] => .refl _
  | y :: l => by
    unfold insP
    split
    · exact .refl _
    · exact (List.Perm.cons y (insP_perm x l)).trans (.swap x y l)
theorem srtP_perm : ∀ l, (srtP l).Perm l
  | [] => .refl _
  | x :: l => (insP_perm x (srtP l)).trans (.cons x (srtP_perm l))
theorem insP_sorted (x : Int × Int) : ∀ l, l.Pairwise (fun p q => lexB p q = true) → (insP x l).Pairwise (fun p q => lexB p q = true)
  | [], _ => by simp [insP]
  | y :: l, h => by
    have h1 := List.pairwise_cons.mp h
    unfold insP
    split
    · rename_i hxy
      refine List.pairwise_cons.mpr ⟨fun z hz => ?_, h⟩
      rcases List.mem_cons.mp hz with e | hz
      · rw [e]; exact hxy
      · exact lexB_trans hxy (h1.1 z hz)
    · rename_i hxy
      refine List.pairwise_cons.mpr ⟨fun z hz => ?_, insP_sorted x l h1.2⟩
      rcases List.mem_cons.mp ((insP_perm x l).mem_iff.mp hz) with e | hz
      · rw [e]; exact lexB_total (by simpa using hxy)
      · exact h1.1 z hz
theorem srtP_sorted : ∀ l, (srtP l).Pairwise (fun p q => lexB p q = true)
  | [] => .nil
  | x :: l => insP_sorted x _ (srtP_sorted l)
theorem perm_srtP {a b : List (Int × Int)} (h : a.Perm b) (ha : a.Pairwise (fun p q => lexB p q = true)) : a = srtP b :=
  List.Perm.eq_of_pairwise (fun x y _ _ h1 h2 => lexB_anti h1 h2) ha (srtP_sorted b) (h.trans (srtP_perm b).symm)
abbrev pr (p : Int × Int) : PyData := .tuple [.int p.1, .int p.2]
def kOf (H : Hp) (x : V) : Int × Int := match x with
  | .ref t => match H t with
    | some (.tup [.int i, .int j]) => (i, j)
    | _ => (0, 0)
  | _ => (0, 0)
theorem Rep.pair {H : Hp} {v : V} {p : Int × Int} (h : Rep H v (pr p)) : ∃ t, v = .ref t ∧ H t = some (.tup [.int p.1, .int p.2]) ∧ kOf H v = p := by
  cases h with
  | tup h1 h2 =>
    cases h2 with
    | cons a b =>
      cases b with
      | cons b c =>
        cases c
        cases a
        cases b
        exact ⟨_, rfl, h1, by unfold kOf; simp only [h1]⟩
theorem Reps.pairs {H : Hp} : ∀ {vs : List V} {ps : List (Int × Int)}, Reps H vs (ps.map pr) → vs.map (kOf H) = ps
  | [], [], .nil => rfl
  | v :: vs, p :: ps, .cons a b => by
    obtain ⟨_, _, _, e⟩ := a.pair
    rw [List.map_cons, e, Reps.pairs b]
theorem Reps.mem {H : Hp} : ∀ {vs : List V} {ds : List PyData}, Reps H vs ds → ∀ v ∈ vs, ∃ d ∈ ds, Rep H v d
  | _, _, .nil, _, h => nomatch h
  | _, _, .cons a b, v, h => by
    rcases List.mem_cons.mp h with e | h
    · rw [e]; exact ⟨_, by simp, a⟩
    · obtain ⟨d, hd, r⟩ := Reps.mem b v h
      exact ⟨d, by simp [hd], r⟩
theorem Reps.of_all {H : Hp} {f : V → PyData} : ∀ {vs : List V}, (∀ v ∈ vs, Rep H v (f v)) → Reps H vs (vs.map f)
  | [], _ => .nil
  | v :: vs, h => .cons (h v (by simp)) (Reps.of_all fun w hw => h w (by simp [hw]))
section
variable {Z : Ctx} {e : Expr} {ρ : List Slot} {own : Own} {pos p : Pos} {s : Slot}
theorem el_sortedP {ps : List (Int × Int)} (hm : Z.X.mg "sorted" = none) (h : ES Z e ρ own s) (L : Lst own s (ps.map pr)) (hg : Gl Z.X "sorted" := by rfl) (hs : starEach [e] Z.X.env = (false, eval e Z.X.env) :: starEach [] Z.X.env := by rfl) : EL Z (.Call (.Name "sorted" p) [e] [] pos) ρ own ((srtP ps).map pr) :=
  el_callB cr_sortedPO hg hm (by decide +kernel) (ea_cons h ea_nil hs) fun vs Hf H S r0 Q k => by
    obtain ⟨v, rfl, r⟩ := r0.one
    obtain ⟨q, vs, rfl, e1, e2⟩ := L.at S r
    have hpr : ∀ x ∈ vs, ∃ p, Rep Hf x (pr p) ∧ kOf Hf x = p := fun x hx => by
      obtain ⟨d, hd, r⟩ := e2.mem x hx
      obtain ⟨p, _, rfl⟩ := List.mem_map.mp hd
      obtain ⟨t, _, _, e⟩ := r.pair
      exact ⟨p, r, e⟩
    refine ⟨q, vs, kOf Hf, rfl, SqL.of e1, fun x hx => ?_, fun ys l h1 h2 hn => ?_⟩
    · obtain ⟨p, r, e⟩ := hpr x hx
      obtain ⟨t, rfl, ht, _⟩ := r.pair
      rw [e]
      exact ⟨t, rfl, S.e1 _ _ ht⟩
    · have hy : ∀ v ∈ ys, Rep Hf v (pr (kOf Hf v)) := fun v hv => by
        obtain ⟨p, r, e⟩ := hpr v (h2.perm.mem_iff.mp hv)
        rw [e]
        exact r
      have ey : ys.map (kOf Hf) = srtP ps := by
        refine perm_srtP ?_ ?_
        · have := h2.perm.map (kOf Hf)
          rw [e2.pairs] at this
          exact this
        · rw [List.pairwise_map]
          refine List.Pairwise.imp (fun {a b} hab => ?_) h1
          have hab := SrtO.lexB_no.mp hab
          unfold lexB
          simp only [Bool.or_eq_true, Bool.and_eq_true, decide_eq_true_eq]
          omega
      have ry := Reps.of_all hy
      have e3 : ys.map (fun v => pr (kOf Hf v)) = (srtP ps).map pr := by rw [← ey, List.map_map]; rfl
      rw [e3] at ry
      exact k l Hf _ (Same.refl _) (S.newOwn (oo := .lst ((srtP ps).map pr)) hn ⟨_, upd_same, ry⟩)
end
end Sd


/-! texts -/
namespace Sd
open PySem PySem.Spec PyProof.Rows L2
abbrev lstr (zs : List Str) : List PyData := zs.map PyData.str
section
variable {Z : Ctx} {e o a b tg : Expr} {ρ : List Slot} {own : Own} {pos p apos cpos : Pos} {s : Slot} {i n : Int} {z y : Str} {k : Nat}
theorem ed_strI (hm : Z.X.mg "str" = none) (h : ED Z e ρ own (.int i)) (hi : i.natAbs.log2 < 1920) (hg : Gl Z.X "str" := by rfl) (hs : starEach [e] Z.X.env = (false, eval e Z.X.env) :: starEach [] Z.X.env := by rfl) : ED Z (.Call (.Name "str" p) [e] [] pos) ρ own (.str (toString i)) :=
  es_callTy call_str_int hg hm (by decide +kernel) (ea_cons h ea_nil hs) fun vs Hf H S r0 Q q => by
    obtain ⟨v, rfl, r⟩ := r0.one
    cases r
    exact ⟨i, rfl, hi, q _ Hf H (Same.refl _) S (.str _)⟩
theorem ed_join {zs : List Str} (ho : ED Z o ρ own (.str z)) (he : ES Z e ρ own s) (L : Lst own s (lstr zs)) (hl : (zs.map (·.length)).sum + zs.length * z.length ≤ 16777216)
    (hbase : attributeBase o "join" Z.X.env (eval o Z.X.env) = eval o Z.X.env := by rfl)
    (hfew : ((backTo cpos (starEach [e] Z.X.env)).all (fun x => !x.1) && (backToKw cpos (keywordEach [] Z.X.env)).all (fun x => x.1.isSome)
      && decide ([e].length + ([] : List Keyword).length + (if ([] : List Keyword).isEmpty then 0 else 1) < 30)) = true := by rfl)
    (hline : (apos.endLine == cpos.line) = true := by rfl) (hs : starEach [e] Z.X.env = (false, eval e Z.X.env) :: starEach [] Z.X.env := by rfl) (hplain : (backTo cpos (starEach [] Z.X.env)).any (·.1) = false := by rfl) :
    ED Z (.Call (.Attribute o "join" apos) [e] [] cpos) ρ own (.str (Txt.join z zs)) := fun Hf σ H S E Q q => wE.of (pe_bm PySem.F.plainAttrs_str PySem.F.slot_str_join PySem.F.type_str_join mt_join peW (pa_cons peW pa_nil hs) hbase hfew hline hs hplain)
  (ho Hf σ H S E _ fun v Hf1 H1 m1 S1 r1 => by
    cases r1
    refine ⟨rfl, he Hf1 σ H1 S1 (E.mono m1) _ fun w Hf2 H2 m2 S2 r2 => ?_⟩
    obtain ⟨p', vs', e', g1, g2⟩ := L.at S2 r2
    subst e'
    cases g2.of_strs
    exact ⟨z, p', zs, rfl, rfl, .inl (SqL.of g1), hl, q _ Hf2 H2 (m1.trans m2) S2 (.str _)⟩)
end
end Sd


namespace Sd
open PySem PySem.Spec PyProof.Rows L2
/-! sums over ints, lists given by functions -/
def sumN (f : Nat → Int) : Nat → Int
  | 0 => 0
  | n + 1 => sumN f n + f n
theorem sumN_congr {f g : Nat → Int} : ∀ {n : Nat}, (∀ i, i < n → f i = g i) → sumN f n = sumN g n
  | 0, _ => rfl
  | n + 1, h => by rw [sumN, sumN, sumN_congr fun i hi => h i (by omega), h n (by omega)]
theorem sumN_zero : ∀ n : Nat, sumN (fun _ => 0) n = 0
  | 0 => rfl
  | n + 1 => by rw [sumN, sumN_zero n]; rfl
theorem sumN_sz {b : Nat} {f : Nat → Int} : ∀ {n : Nat}, (∀ i, i < n → Sz b (f i)) → Sz (b + n) (sumN f n)
  | 0, _ => by unfold Sz; simp only [sumN]; exact Nat.two_pow_pos _
  | n + 1, h => by
    have h1 := sumN_sz (f := f) (n := n) fun i hi => h i (by omega)
    have h2 := h n (by omega)
    exact (h1.add h2).mono (by omega)
/-- f 0, f 1, .. as data -/
def tabZ (f : Nat → Int) (n : Nat) : List PyData := (List.range n).map fun (k : Nat) => PyData.int (f k)
theorem tabZ_len (f : Nat → Int) (n : Nat) : (tabZ f n).length = n := by simp [tabZ]
theorem tabZ_get {f : Nat → Int} {n i : Nat} (h : i < n) : (tabZ f n)[i]? = some (.int (f i)) := by
  unfold tabZ
  rw [List.getElem?_map, List.getElem?_range h]
  rfl
theorem tabZ_congr {f g : Nat → Int} {n : Nat} (h : ∀ k, k < n → f k = g k) : tabZ f n = tabZ g n := by
  unfold tabZ
  refine List.map_congr_left fun k hk => ?_
  rw [h k (List.mem_range.mp hk)]
theorem tabZ_set (f : Nat → Int) (n i : Nat) (z : Int) : (tabZ f n).set i (.int z) = tabZ (fun k => if k = i then z else f k) n := by
  refine List.ext_getElem? fun j => ?_
  by_cases hj : j < n
  · rw [tabZ_get hj]
    by_cases e : i = j
    · subst e
      rw [List.getElem?_set_self (by rw [tabZ_len]; exact hj), if_pos rfl]
    · rw [List.getElem?_set_ne e, tabZ_get hj, if_neg (fun z => e z.symm)]
  · rw [List.getElem?_eq_none (by rw [List.length_set, tabZ_len]; omega), List.getElem?_eq_none (by rw [tabZ_len]; omega)]
theorem tabZ_const (z : Int) (n : Nat) : (List.replicate n [PyData.int z]).flatten = tabZ (fun _ => z) n := by
  induction n with
  | zero => rfl
  | succ n ih =>
    rw [List.replicate_succ', List.flatten_append, ih]
    unfold tabZ
    rw [List.range_succ, List.map_append]
    rfl
theorem tabZ_unit (n : Nat) : [PyData.int 1] ++ (List.replicate n [PyData.int 0]).flatten = tabZ (fun k => if k = 0 then 1 else 0) (n + 1) := by
  rw [tabZ_const]
  unfold tabZ
  rw [List.range_succ_eq_map, List.map_cons, List.map_map]
  rfl
theorem tabZ_at {f : Nat → Int} {n i : Nat} (h : i < n) : atI (tabZ f n) (i : Int) = some (.int (f i)) := atI_nat (tabZ_get h)
theorem sz_pw {w : Int} (h : 1 ≤ w ∧ w ≤ 20) {o : Nat} (ho : o ≤ 12) : Sz 61 (w ^ o) := by
  have : Sz 5 w := by unfold Sz; omega
  exact (this.pow o).mono (by omega)
theorem sz_bin {n o : Nat} (hn : n ≤ 12) : Sz 13 (bin n o : Nat) := (bin_sz n o).mono (by omega)

/-! lists of lists under change -/
theorem Sat.perm {B : Bs} {Hf H : Hp} {o o' : Own} (h : o.Perm o') (S : Sat B Hf H o) : Sat B Hf H o' := ⟨S.e0, S.e1, S.eb, S.fr, fun q hq => S.ow q (h.mem_iff.mpr hq), (h.map Prod.fst).nodup_iff.mp S.nd, S.tp⟩
def rowsO : List Addr → (Nat → List PyData) → Own
  | [], _ => []
  | a :: as, tb => (a, .lst (tb 0)) :: rowsO as (fun i => tb (i + 1))
theorem rowsO_congr : ∀ {as : List Addr} {f g : Nat → List PyData}, (∀ k, k < as.length → f k = g k) → rowsO as f = rowsO as g
  | [], _, _, _ => rfl
  | a :: as, f, g, h => by
    show (a, OO.lst (f 0)) :: rowsO as _ = (a, OO.lst (g 0)) :: rowsO as _
    rw [h 0 (by simp), rowsO_congr fun k hk => h (k + 1) (by rw [List.length_cons]; omega)]
theorem rowsO_snoc (a : Addr) : ∀ (as : List Addr) (tb : Nat → List PyData), rowsO (as ++ [a]) tb = rowsO as tb ++ [(a, .lst (tb as.length))]
  | [], _ => rfl
  | b :: as, tb => by
    show (b, OO.lst (tb 0)) :: rowsO (as ++ [a]) _ = (b, OO.lst (tb 0)) :: (rowsO as _ ++ _)
    rw [rowsO_snoc a as]
    rfl
theorem rowsO_split : ∀ {as : List Addr} {tb : Nat → List PyData} {i : Nat}, i < as.length → ∃ oa ob a, as[i]? = some a ∧ rowsO as tb = oa ++ (a, .lst (tb i)) :: ob ∧ ∀ r, rowsO as (fun k => if k = i then r else tb k) = oa ++ (a, .lst r) :: ob
  | [], _, _, h => absurd h (by simp)
  | a :: as, tb, 0, _ => ⟨[], rowsO as (fun i => tb (i + 1)), a, rfl, rfl, fun r => by
      show (a, OO.lst (if 0 = 0 then r else tb 0)) :: rowsO as (fun i => if i + 1 = 0 then r else tb (i + 1)) = _
      rw [if_pos rfl, rowsO_congr (g := fun i => tb (i + 1)) fun k _ => if_neg (by omega)]
      rfl⟩
  | a :: as, tb, i + 1, h => by
    obtain ⟨oa, ob, b, h1, h2, h3⟩ := rowsO_split (as := as) (tb := fun i => tb (i + 1)) (i := i) (by rw [List.length_cons] at h; omega)
    refine ⟨(a, .lst (tb 0)) :: oa, ob, b, by simpa using h1, ?_, fun r => ?_⟩
    · show (a, OO.lst (tb 0)) :: rowsO as _ = _
      rw [h2]
      rfl
    · show (a, OO.lst (if 0 = i + 1 then r else tb 0)) :: rowsO as (fun k => if k + 1 = i + 1 then r else tb (k + 1)) = _
      rw [if_neg (by omega), rowsO_congr (g := fun k => if k = i then r else tb (k + 1)) fun k _ => ?_, h3 r]
      · rfl
      · by_cases e : k = i
        · rw [if_pos e, if_pos (by omega)]
        · rw [if_neg e, if_neg (by omega)]
section
variable {Z : Ctx} {elt tg iter : Expr} {scope : Scope} {ρ : List Slot} {own : Own} {k : Nat} {Po : Own → Prop} {ys : List PyData} {pos : Pos} {D : DE}
/-- a comprehension that makes new lists, all one's own -/
def CPR (Z : Ctx) (elt tg iter : Expr) (scope : Scope) (ρ : List Slot) (own : Own) (tb : Nat → List PyData) (n : Nat) : Prop :=
  ∃ (wi : TI) (g : TG) (tt : TT) (te : TE) (on : List (Str × Nat)), PI Z.X tg iter wi ∧ BlkOk Z.X.N Z.X.env.scope scope on ∧ (∀ (s : Shared) (H : Hp) (C : Addr) (cl : List (Str × Addr)) (fp : List Addr), PG (Z.X.blk s H scope (compEnvC scope cl C Z.X.env) fp) tg g) ∧
    (∀ (s : Shared) (H : Hp) (C : Addr) (cl : List (Str × Addr)) (fp : List Addr), PTs (Z.X.blk s H scope (compEnvC scope cl C Z.X.env) fp) [] tt) ∧ (∀ (s : Shared) (H : Hp) (C : Addr) (cl : List (Str × Addr)) (fp : List Addr), PE (Z.X.blk s H scope (compEnvC scope cl C Z.X.env) fp) elt te) ∧
    ∀ Hf σ H, Sat Z.B Hf H own → EnvR Hf σ ρ → ∀ Q : VK, (∀ p Hf' H' as, Same Hf Hf' → Sat Z.B Hf' H' ((p, .raw (.lst (as.map V.ref))) :: (rowsO as tb ++ own)) → as.length = n → Q (.ref p) H') → tLc wi g tt te (on.map (·.2)) σ H Q
theorem compR (g : Gd Z k) (it : IT Z tg iter ρ own Po ys) (on : List (Str × Nat)) (ok : BlkOk Z.X.N Z.X.env.scope scope on) (tb : Nat → List PyData) (hpo : ∀ D as, Po ((D, .raw (.lst (as.map V.ref))) :: (rowsO as tb ++ own))) (hlen : ys.length < 100000)
    (step : ∀ i y as D, ys[i]? = some y → ∃ ρ2 is, (∀ i ∈ is, i ∈ on.map (·.2)) ∧ (∀ s H C cl fp, GT (blkZ Z scope s H C cl fp) tg y (wipeR ρ (on.map (·.2))) ρ2 is) ∧
      (∀ s H C cl fp, EL (blkZ Z scope s H C cl fp) elt ρ2 ((D, .raw (.lst (as.map V.ref))) :: (rowsO as tb ++ own)) (tb i))) :
    CPR Z elt tg iter scope ρ own tb ys.length := by
  obtain ⟨wi, hi, hw⟩ := it
  refine ⟨wi, fun v σ H Q => ∀ s' H' C cl fp, wG (Z.X.blk s' H' scope (compEnvC scope cl C Z.X.env) fp) tg v σ H Q, fun σ H Q => ∀ s' H' C cl fp, wTs (Z.X.blk s' H' scope (compEnvC scope cl C Z.X.env) fp) [] σ H Q, fun σ H Q => ∀ s' H' C cl fp, wE (Z.X.blk s' H' scope (compEnvC scope cl C Z.X.env) fp) elt σ H Q, on, hi, ok,
    fun s' H' C cl fp => ⟨fun pins s σ H v u Q I r h => (h s' H' C cl fp).run pins s u I r⟩, fun s' H' C cl fp => ⟨fun pins s σ H Q I h => (h s' H' C cl fp).run pins s I⟩, fun s' H' C cl fp => ⟨fun pins s σ H Q I h => (h s' H' C cl fp).run pins s I⟩, fun Hf σ H S E Q q => ?_⟩
  refine hw Hf σ H S E _ fun J Hf1 H1 m1 S1 W D hD => ?_
  refine ⟨fun i m H' => m = ys.length - i ∧ i ≤ ys.length ∧ ∃ Hf' as, Same Hf1 Hf' ∧ Sat Z.B Hf' H' ((D, .raw (.lst (as.map V.ref))) :: (rowsO as tb ++ own)) ∧ as.length = i, ⟨ys.length, by omega, by omega, Hf1, [], Same.refl _, S1.newOwn (oo := .raw (.lst [])) hD upd_same, rfl⟩, ?_⟩
  rintro i m H' ⟨rfl, hil, Hf', as, m', S', q'⟩
  by_cases hlt : i < ys.length
  · refine .inr ⟨W.go i Hf' H' _ m' S' (hpo D as) hlt, fun H2 => ∃ Hf2 as2, Same Hf1 Hf2 ∧ Sat Z.B Hf2 H2 ((D, .raw (.lst (as2.map V.ref))) :: (rowsO as2 tb ++ own)) ∧ as2.length = i + 1, fun H2 ⟨Hf2, as2, m2, S2, q2⟩ => ⟨ys.length - (i + 1), by omega, rfl, hlt, Hf2, as2, m2, S2, q2⟩, fun x H2 hx => ?_⟩
    obtain ⟨Hf2, m2, S2, r2⟩ := W.yld i _ Hf' H' _ x H2 m' S' (hpo D as) (List.getElem?_eq_getElem hlt) hx
    obtain ⟨ρ2, is, hin, gt, h1⟩ := step i _ as D (List.getElem?_eq_getElem hlt)
    have E2 : EnvR Hf2 (wipe σ (on.map (·.2))) (wipeR ρ (on.map (·.2))) := (E.mono ((m1.trans m').trans m2)).wipe _
    intro s' H'' C cl fp
    refine gt s' H'' C cl fp _ Hf2 _ H2 x S2 E2 r2 _ fun σ3 E3 b3 => ⟨wipe_but b3 hin, ?_⟩
    intro s' H'' C cl fp
    refine ets_nil (Z := blkZ Z scope s' H'' C cl fp) Hf2 σ3 H2 S2 E3 _ fun Hf3 H3 m3 S3 => ?_
    refine iteT ?_
    intro s' H'' C cl fp
    refine h1 s' H'' C cl fp Hf3 σ3 H3 S3 (E3.mono m3) _ fun a Hf4 H4 m4 S4 => ?_
    obtain ⟨_, _, g1⟩ := S4.at (p := D) (oo := .raw (.lst (as.map V.ref))) (by simp)
    refine ⟨as.map V.ref, g1, by rw [List.length_map]; exact Nat.lt_of_lt_of_le (by omega : _ < 100000) (by decide), Hf4, as ++ [a], ((m'.trans m2).trans m3).trans m4, ?_, by simp [q']⟩
    have S5 := S4.write (oa := [(a, .lst (tb i))]) (p := D) (o := .lst (as.map V.ref ++ [V.ref a])) (oo' := .raw (.lst (as.map V.ref ++ [V.ref a]))) upd_same
    refine S5.perm ?_
    rw [rowsO_snoc, List.map_append, q']
    simp only [List.cons_append, List.nil_append, List.append_assoc, List.map_cons, List.map_nil]
    refine (List.Perm.swap _ _ _).trans (List.Perm.cons _ ?_)
    exact (List.perm_middle (l₁ := rowsO as tb)).symm
  · have e : i = ys.length := by omega
    subst e
    exact .inl ⟨W.stop _ Hf' H' _ m' S' (hpo D as) (Nat.le_refl _), q D Hf' H' as (m1.trans m') S' q'⟩
theorem sd_setCR (n : Nat) {y : Str} {py spos : Pos} {tb : Nat → List PyData} {N : Nat} (g : Gd Z k) (h : CPR Z elt tg iter scope ρ own tb N) (hn : ∀ p as, as.length = N → D.nx (ρ.set n (.raw (.ref p))) ((p, .raw (.lst (as.map V.ref))) :: (rowsO as tb ++ own)))
    (hsw : swapsWith (.ListComp elt [⟨tg, iter, [], 0⟩] scope pos) (some (.Name y py)) spos.line Z.X.env = pure true) (hy : Z.X.N[n]? = some y := by rfl) (hyl : Z.X.env.scope.names.lookup y = some .local := by rfl) (hs : ∀ x, foldedSetIterable iter Z.X.env x = pure x := by intro _; rfl) :
    SD Z (.Assign [.Name y py] (.ListComp elt [⟨tg, iter, [], 0⟩] scope pos) spos) D ρ own := by
  obtain ⟨wi, gg, tt, te, on, hi, ok, hg, ht, he, hq⟩ := h
  exact fun H0 Hf σ H m0 S E => wS.of (ps_setLc g.calm g.nd hy hyl hsw hi ok hg ht he hs) (hq Hf σ H S E _ fun p Hf' H' as m S' hf => ⟨Hf', _, _, m0.trans m, S', (E.mono m).set (s := .raw (.ref p)) rfl n, hn p as hf⟩)
end
/-- the rows will not change any more -/
theorem Sat.freezeRows {B : Bs} {H : Hp} : ∀ {as : List Addr} {tb : Nat → List PyData} {own : Own} {Hf : Hp}, Sat B Hf H (rowsO as tb ++ own) → ∃ Hf', Same Hf Hf' ∧ Sat B Hf' H own ∧ Reps Hf' (as.map V.ref) ((List.range as.length).map fun k => PyData.list (tb k))
  | [], _, _, Hf, S => ⟨Hf, Same.refl _, S, .nil⟩
  | a :: as, tb, own, Hf, S => by
    obtain ⟨Hf1, m1, S1, r1⟩ := Sat.freeze (oa := []) (p := a) (ob := rowsO as (fun i => tb (i + 1)) ++ own) S
    obtain ⟨Hf2, m2, S2, r2⟩ := Sat.freezeRows (as := as) S1
    refine ⟨Hf2, m1.trans m2, S2, ?_⟩
    rw [List.length_cons, List.range_succ_eq_map, List.map_cons, List.map_cons, List.map_map]
    exact .cons (r1.mono m2) r2
theorem sds_freezeRows {Z : Ctx} {D : DE} {ρ : List Slot} {own : Own} {sts : List Stmt} (i : Nat) {q : Addr} {as : List Addr} {tb : Nat → List PyData} (hi : ρ[i]? = some (.raw (.ref q))) (h : SDs Z sts D (ρ.set i (.d (.list ((List.range as.length).map fun k => PyData.list (tb k))))) own) : SDs Z sts D ρ ((q, .raw (.lst (as.map V.ref))) :: (rowsO as tb ++ own)) := fun H0 Hf σ H m0 S E => by
  have S0 : Sat Z.B Hf H (rowsO as tb ++ (q, .raw (.lst (as.map V.ref))) :: own) := S.perm (List.perm_middle (l₁ := rowsO as tb)).symm
  obtain ⟨Hf1, m1, S1, r1⟩ := Sat.freezeRows S0
  obtain ⟨a1, b1, c1⟩ := S1.at (p := q) (oo := .raw (.lst (as.map V.ref))) (by simp)
  have S2 : Sat Z.B Hf1 H ([] ++ (q, .lst ((List.range as.length).map fun k => PyData.list (tb k))) :: own) := by
    refine ⟨S1.e0, S1.e1, S1.eb, S1.fr, fun z hz => ?_, S1.nd, S1.tp⟩
    rcases List.mem_cons.mp hz with rfl | hz
    · exact ⟨a1, b1, _, c1, r1⟩
    · exact S1.ow z (List.mem_cons_of_mem _ hz)
  obtain ⟨Hf2, m2, S3, r3⟩ := S2.freeze
  have ei : σ[i]? = some (some (.ref q)) := E.raw hi
  have E2 := (E.mono (m1.trans m2)).set (v := .ref q) (s := .d (.list ((List.range as.length).map fun k => PyData.list (tb k)))) r3 i
  have hσ : σ.set i (some (.ref q)) = σ := by
    refine List.ext_getElem? fun j => ?_
    by_cases e : i = j
    · subst e
      rw [List.getElem?_set_self (List.getElem?_eq_some_iff.mp ei).1, ei]
    · rw [List.getElem?_set_ne e]
  rw [hσ] at E2
  exact h H0 Hf2 σ H ((m0.trans m1).trans m2) S3 E2
/-- xs[a][b] += z -/
theorem sd_aug2 {Z : Ctx} {D : DE} {ρ : List Slot} {own : Own} {fr ia ib e : Expr} {q : Addr} {as : List Addr} {F : Nat → Nat → Int} {M a b : Nat} {z : Int} {p1 p2 pos : Pos} (hf : ∀ o, EV Z fr ρ o (.ref q)) (ha : ∀ o, ED Z ia ρ o (.int (a : Int))) (hb : ∀ o, ED Z ib ρ o (.int (b : Int))) (he : ∀ o, ED Z e ρ o (.int z)) (h1 : a < as.length) (h2 : b < M)
    (h : D.nx ρ ((q, .raw (.lst (as.map V.ref))) :: (rowsO as (fun k => tabZ (fun n => if k = a ∧ n = b then F k n + z else F k n) M) ++ own)))
    (hs : PlainIx ia := by exact fun _ _ => rfl) (hq : ∀ ov iv new, augStore ib ov iv new = (do holding [new, ov, iv] (setItem ov iv new); release [new, ov, iv] []; pure .next) := by intros; rfl) :
    SD Z (.AugAssign (.Subscript (.Subscript fr ia p1) ib p2) .Add e pos) D ρ ((q, .raw (.lst (as.map V.ref))) :: (rowsO as (fun k => tabZ (F k) M) ++ own)) := by
  obtain ⟨oa, ob, p, hp, e1, e2⟩ := rowsO_split (tb := fun k => tabZ (F k) M) h1
  have e3 := e2 (tabZ (fun n => if n = b then F a b + z else F a n) M)
  rw [rowsO_congr (f := fun k => if k = a then tabZ (fun n => if n = b then F a b + z else F a n) M else tabZ (F k) M) (g := fun k => tabZ (fun n => if k = a ∧ n = b then F k n + z else F k n) M) fun k _ => by
    by_cases ek : k = a
    · subst ek
      rw [if_pos rfl]
      refine tabZ_congr fun n _ => ?_
      by_cases en : n = b
      · subst en
        rw [if_pos rfl, if_pos ⟨rfl, rfl⟩]
      · rw [if_neg en, if_neg fun z => en z.2]
    · rw [if_neg ek]
      exact tabZ_congr fun n _ => (if_neg fun z => ek z.1).symm] at e3
  rw [e3] at h
  rw [e1]
  have key := sd_augitem (Z := Z) (D := D) (ρ := ρ) (oa := (q, .raw (.lst (as.map V.ref))) :: oa) (ob := ob ++ own) (p := p) (ds := tabZ (F a) M) (n := b) (y := F a b) (z := z) (a := .Subscript fr ia p1) (b := ib) (e := e) (tpos := p2) (pos := pos) iop_addC (es_ixR (s := .raw (.ref p)) (q := q) (vs := as.map V.ref) (v := .ref p) (by simp) (hf _) (ha _) (atI_nat (by rw [List.getElem?_map, hp]; rfl)) (fun _ => rfl) hs) (hb _) (he _) (ixN_of (by rw [tabZ_len]; exact h2)) (tabZ_get h2) trivial (by
    rw [tabZ_set]
    simpa using h) hq
  simpa using key
end Sd


/-! list(range(..)), tuple(range(..)), sorted of a tuple of ints -/
namespace Sd
open PySem PySem.Spec PyProof.Rows L2
section
variable {Z : Ctx} {a b e : Expr} {ρ : List Slot} {own : Own} {pos p p2 q : Pos} {k : Nat} {i j : Int}
end
end Sd


/-! dicts with tuples of ints as keys -/
namespace Sd
open PySem PySem.Spec PyProof.Rows L2
/-! ### walking d.items() -/
section
variable {X : Cx} {pins : List (Addr × Obj)} {σ : L2.St} {H : Hp} {s : Shared}
theorem frzT2 {d : Addr} {o : Obj} {kvs : List (List Key × V)} (I : Inv X pins σ H s) (h : H d = some (.frz o (.dT kvs))) :
    (d == sysModules) = false ∧ s.heap.get? d = some o ∧ o.ExactDict ∧ ∃ (es : Array DictEntry) (ep : Nat), o.data = .dict es ep ∧ es.size = kvs.length ∧ es.size ≤ sizeLine ∧
      ∀ (i : Nat) (k : List Key) (v : V), kvs[i]? = some (k, v) → ∃ (en : DictEntry) (q : Addr), es[i]? = some en ∧ en.key = .ref q ∧ H q = some (.tup (k.map kV)) ∧ RelV v en.val := by
  obtain ⟨hd, z, hs, xs, pr, o', es, ep, ho, hx, hdt, he, _⟩ := I.hok d _ h
  rw [hd] at ho
  cases ho
  have l1 : es.size = xs.length := size_of_entries he
  have l2 : kvs.length = xs.length := Paired.length pr
  refine ⟨hs, hd, hx, es, ep, hdt, by omega, by omega, fun i k v e => ?_⟩
  obtain ⟨b, hb, e1, e2, e3⟩ := paired_get pr e
  have q := entry_at he i
  rw [hb] at q
  exact ⟨_, b.2.1, q, rfl, e2, e3⟩
/-- the pairs of a dict with tuple keys, each a new tuple -/
def Itit (d : Addr) (o : Obj) (kvs : List (List Key × V)) : It :=
  ⟨fun i H => H d = some (.frz o (.dT kvs)) ∧ i < kvs.length, fun i H x H' => ∃ T k v q, kvs[i]? = some (k, v) ∧ x = .ref T ∧ H T = none ∧ H q = some (.tup (k.map kV)) ∧ H' = upd H T (.tup [.ref q, v]), fun i H => H d = some (.frz o (.dT kvs)) ∧ kvs.length ≤ i⟩
theorem turn_itemsT {P : Program} {w : World} {K : PySem.W.Frag} {d : Addr} {o : Obj} {es : Array DictEntry} {ep : Nat} {kvs : List (List Key × V)} {elts : List Expr} {kk : Nat} {tpos : Pos} (it : Addr) (hod : o.data = .dict es ep) :
    Turn P w K (.Tuple elts kk tpos) (Itit d o kvs) [it] it (fun i h => ∃ ok ov, IsItemIter h it d i es.size ep ok ov) where
  mem := by simp
  obj := fun i h st b hb => by
    have e : b = it := by simpa using hb
    subst e
    obtain ⟨ok, ov, e⟩ := st
    exact ⟨_, e, fun v z => nomatch z⟩
  keep := fun i h h' st k => let ⟨ok, ov, e⟩ := st; ⟨ok, ov, k it (by simp) _ e⟩
  item := by
    intro X hP hw hK hc i pins s σ H E I hf st hg
    subst hP hw hK
    obtain ⟨hd, hi⟩ := hg
    obtain ⟨hs, hgd, hx, es', ep', hdt, hsz, _, ent⟩ := frzT2 I hd
    obtain ⟨rfl, rfl⟩ := dict_ep hod hdt
    obtain ⟨⟨k, v⟩, hkv⟩ : ∃ p, kvs[i]? = some p := ⟨kvs[i], List.getElem?_eq_getElem hi⟩
    obtain ⟨en, q, hen, hkey, hq, hv⟩ := ent i k v hkv
    obtain ⟨ok, ov, he⟩ := st
    have hlt : it < s.heap.objs.size := Heap.lt_size he
    have hie : i < es'.size := by omega
    have hee : es'[i] = en := by
      rw [Array.getElem?_eq_getElem hie] at hen
      exact Option.some.inj hen
    refine DT.nextI he ⟨o, hgd, hx, hdt⟩ hie fun h' ho hT hz hk => ?_
    refine ⟨_, rfl, wpAny_letOwnedTupleGo_items (s := { s with heap := h' }) ho fun h'' he' sb => ?_⟩
    rw [hee, hkey] at hT
    have hT2 : h''.get? s.heap.objs.size = some { cls := .type "tuple", data := .seq #[.ref q, en.val] } := (sb.2 _ (Nat.ne_of_gt hlt)).trans hT
    have new : ObjOk X.prog X.w (upd H s.heap.objs.size (.tup [.ref q, v])) h'' s.heap.objs.size (.tup [.ref q, v]) :=
      ⟨by show 2 ≤ sizeLine; decide, [.ref q, en.val], .cons rfl (.cons hv .nil), ⟨_, hT2, rfl, _, rfl⟩⟩
    have I1 : Inv X pins σ (upd H s.heap.objs.size (.tup [.ref q, v])) { s with heap := h'' } :=
      I.turnedNew (t' := s.toks) (ch := [it]) (fun b ob hb e => (sb.2 b (by simpa using hb)).trans (hk b ob (by simpa using hb) e)) hf (Nat.le_refl _) new
    refine ⟨.ref s.heap.objs.size, _, I1, rfl, ⟨_, k, v, q, hkv, rfl, I.hok.fresh (Nat.le_refl _), hq, rfl⟩, ⟨_, _, he'⟩, fun b hb => ?_⟩
    have e : b = it := by simpa using hb
    rw [e, upd_ne (Nat.ne_of_lt hlt)]
    exact (hf it (by simp)).1
  done := by
    intro X hP hw hK hc i pins s σ H E I hf st hg
    subst hP hw hK
    obtain ⟨hd, hi⟩ := hg
    obtain ⟨f0, f1, f2, f3, f4, f5⟩ := hf it (by simp)
    obtain ⟨hs, hgd, hx, es', ep', hdt, hsz, _, ent⟩ := frzT2 I hd
    obtain ⟨rfl, rfl⟩ := dict_ep hod hdt
    obtain ⟨ok, ov, he⟩ := st
    exact DT.endI (I.ok.hd hc) he ⟨o, hgd, hx, hdt⟩ (by omega) fun h' eb => ⟨rfl, I.turned (t' := s.toks) (fun b ob hb e => eb b ob hb e) f0 f1 f3 f4 f5⟩
  self := fun A i s Q E st h => let ⟨_, _, e⟩ := st; PySem.W.kcp_self e h
theorem pi_itemsT {e : Expr} {td : TE} {apos cpos tpos : Pos} {elts : List Expr} {kk : Nat} (he : PE X e td) (hbase : attributeBase e "items" X.env (eval e X.env) = eval e X.env := by rfl) (hline : (apos.endLine == cpos.line) = true := by rfl) :
    PI X (.Tuple elts kk tpos) (.Call (.Attribute e "items" apos) [] [] cpos) (fun σ H R => td σ H fun x H1 => ∃ d o kvs, x = .ref d ∧ H1 d = some (.frz o (.dT kvs)) ∧ R (Itit d o kvs) H1) := by
  refine ⟨fun pins s σ H R I h => ?_⟩
  refine wpAny_Call_method (T := "dict") (id := "dict.items") hbase rfl hline F.plainAttrs_dict F.slot_dict_items F.type_dict_items (thn (he.run pins s σ H _ I h) fun u s1 ⟨x, H1, I1, rx, d, o, kvs, ex, hd, q⟩ => ?_)
  subst ex
  obtain rfl : u = Value.ref d := rx
  obtain ⟨hs, hgd, hx, es, ep, hdt, hsz, _, ent⟩ := frzT2 I1 hd
  obtain ⟨t1, t2, _⟩ := isD_at I1 (.inr ⟨kvs, .inr ⟨o, hd⟩⟩)
  refine ⟨t1, t2, ?_⟩
  have raw : DT.Raw s1.heap d es ep := ⟨o, hgd, hx, hdt⟩
  have I2 : Inv X pins σ H1 { s1 with heap := s1.heap.push { cls := .type "dict_items", data := .fields #[.ref d] } } := I1.kept (t' := s1.toks) fun b ob q => Heap.get?_push_of_some _ q
  have fin : wpAny (model X.prog X.w) X.A (pyIter (.ref s1.heap.objs.size)) (PIE X pins σ (.Tuple elts kk tpos) R) X.xe { s1 with heap := s1.heap.push { cls := .type "dict_items", data := .fields #[.ref d] } } := by
    refine DT.iterI (d := d) ⟨_, Heap.get?_push_size _ rfl, rfl, rfl⟩ (raw.push _) (pi_one (tk := s1.toks) I2 _ (turn_itemsT _ hdt) ⟨.none, .none, ?_⟩ q)
    exact Heap.get?_push_size _ rfl
  show wpAny _ _ (callWith cpos (.builtin "dict.items") [.ref d] [] []) _ X.xe s1
  exact method_meetsIn F.slot_dict_items F.entry_dict_items rfl (PySem.evalArgs_none ⟨rfl, t1, F.args_dict_items_1 _, _, DT.meetsItems (es := es) (ep := ep) hs, ⟨raw, fin⟩⟩)
end

/-! ### a display of one pair -/
theorem pe_disp1T {X : Cx} {pos : Pos} {k v : Expr} {tk tv : TE} (hu : X.A.units < cLine) (hk : PE X k tk) (hv : PE X v tv) : PE X (.Dict [some k] [v] pos) (fun σ H Q => ∀ p, H p = none → tk σ (upd H p (.dT [])) fun x H1 => tv σ H1 fun y H2 => ∃ b ks, x = .ref b ∧ H2 p = some (.dT []) ∧ H2 b = some (.tup (ks.map kV)) ∧ Q (.ref p) (upd H2 p (.dT [(ks, y)]))) := by
  refine ⟨fun pins s σ H Q I q => ?_⟩
  have hn := I.hok.fresh (Nat.le_refl s.heap.objs.size)
  have I1 := I.laid (a := s.heap.objs.size) (o := .dT []) (h' := s.heap.push { cls := .type "dict", data := .dict #[] }) (t' := s.toks) (fun _ _ q => Heap.get?_push_of_some _ q) (Nat.le_refl _) (dt_empty s.heap I.big)
  have hs := zip_pairTrees [some k] [v] X.env pos rfl rfl
  have hl : (pairTrees [some k] [v] X.env pos).length = 1 := pairTrees_length [some k] [v] X.env pos rfl rfl
  rw [arm_eval_Dict, hs, dictDisplay_pairs (pairTrees [some k] [v] X.env pos) (by intro z; rw [z] at hl; cases hl) (by rw [hl]; decide)]
  refine wpAny_bind (wpAny_standAt (wpAny_bind (wpAny_subDictH (knd := tupleKind (mixKind X.prog X.w)) (Q := fun d s' => wpAny (model X.prog X.w) X.A (pure (Value.ref d)) (EP X pins σ Q) X.xe s') (show X.A.units < cLine from hu) (by rw [hl]; decide) ?_)))
  refine thn ((pps_cons hk hv pps_nil).run pins _ σ _ (fun ps H2 => match ps with
    | [(x, y)] => ∃ b ks, x = .ref b ∧ H2 s.heap.objs.size = some (.dT []) ∧ H2 b = some (.tup (ks.map kV)) ∧ Q (.ref s.heap.objs.size) (upd H2 s.heap.objs.size (.dT [(ks, y)]))
    | _ => False) I1 (q _ hn)) fun ws s2 ⟨ps, H2, I2, rel, hh⟩ => ?_
  cases ps with
  | nil => exact hh.elim
  | cons pq ps =>
    cases ps with
    | cons _ _ => exact hh.elim
    | nil =>
      obtain ⟨x, y⟩ := pq
      obtain ⟨b, ks, ex, e, eb, q2⟩ := hh
      have ex : x = .ref b := ex
      subst ex
      obtain ⟨u1, u2, rfl, ru, rv⟩ : ∃ u1 u2, ws = [(u1, u2)] ∧ RelV (.ref b) u1 ∧ RelV y u2 := by
        cases rel with
        | cons r1 r2 =>
          cases r2
          exact ⟨_, _, rfl, r1.1, r1.2⟩
      cases (show u1 = Value.ref b from ru)
      obtain ⟨z, hd, xs, r0, dd⟩ := dt_of I2.hok e
      cases r0
      refine ⟨[(ks, b, u2)], ⟨rfl, rfl, key_of I2.hok eb, trivial⟩, dd, fun h' tk' dd' sb => wpAny_pure ⟨.ref s.heap.objs.size, _, ?_, rfl, q2⟩⟩
      obtain ⟨o', es, ep', hq, h2, h3, h4, _, h5⟩ := dd'
      refine d_write I2 (by rw [e]; exact True.intro) sb ⟨o', hq⟩ ⟨by show 1 ≤ sizeLine; decide, hd, [(ks, b, u2)], .cons ⟨rfl, ?_, rv⟩ .nil, o', es, ep', hq, h2, h3, h4, h5⟩
      rw [upd_ne (ne_of eb e (fun z => nomatch z))]
      exact eb
/-! ### as data -/
def getT {κ α : Type} [DecidableEq κ] (tb : List (κ × α)) (k : κ) : Option α := (tb.find? fun e => decide (e.1 = k)).map (·.2)
def putT {κ α : Type} [DecidableEq κ] (tb : List (κ × α)) (k : κ) (v : α) : List (κ × α) :=
  if (tb.any fun e => decide (e.1 = k)) = true then tb.map (fun e => if e.1 = k then (e.1, v) else e) else tb ++ [(k, v)]
theorem inl_inj : ∀ {a b : List Int}, (a.map Sum.inl : List Key) = b.map Sum.inl → a = b
  | [], [], _ => rfl
  | [], _ :: _, h => nomatch h
  | _ :: _, [], h => nomatch h
  | x :: a, y :: b, h => by
    rw [List.map_cons, List.map_cons] at h
    injection h with h1 h2
    injection h1 with h1
    rw [h1, inl_inj h2]
theorem DtOk.nil {Hf : Hp} : DtOk Hf [] [] := ⟨rfl, .nil⟩
theorem DtOk.inv {Hf : Hp} {kvs : List (List Key × V)} {e : List Int × PyData} {tb : List (List Int × PyData)} (h : DtOk Hf kvs (e :: tb)) : ∃ v r, kvs = (e.1.map Sum.inl, v) :: r ∧ Rep Hf v e.2 ∧ DtOk Hf r tb := by
  obtain ⟨h1, h2⟩ := h
  match kvs, h1, h2 with
  | [], h1, _ => exact nomatch h1
  | (k, v) :: r, h1, h2 =>
    rw [List.map_cons, List.map_cons] at h1
    injection h1 with h3 h4
    cases h2 with
    | cons a b => exact ⟨v, r, by rw [← h3], a, h4, b⟩
theorem DtOk.inv0 {Hf : Hp} {kvs : List (List Key × V)} (h : DtOk Hf kvs []) : kvs = [] := by
  have := h.ks
  simpa using this
theorem DtOk.cons {Hf : Hp} {r : List (List Key × V)} {e : List Int × PyData} {tb : List (List Int × PyData)} {v : V} (a : Rep Hf v e.2) (h : DtOk Hf r tb) : DtOk Hf ((e.1.map Sum.inl, v) :: r) (e :: tb) :=
  ⟨by rw [List.map_cons, List.map_cons, h.ks], .cons a h.vs⟩
theorem DtOk.length {Hf : Hp} {kvs : List (List Key × V)} {tb : List (List Int × PyData)} (h : DtOk Hf kvs tb) : kvs.length = tb.length := by
  have := congrArg List.length h.ks
  simpa using this
theorem DtOk.any {Hf : Hp} (k : List Int) : ∀ {tb : List (List Int × PyData)} {kvs : List (List Key × V)}, DtOk Hf kvs tb → (kvs.any fun kv => decide (kv.1 = k.map Sum.inl)) = tb.any fun e => decide (e.1 = k)
  | [], kvs, h => by rw [h.inv0]; rfl
  | e :: tb, kvs, h => by
    obtain ⟨v, r, rfl, _, h2⟩ := h.inv
    rw [List.any_cons, List.any_cons, DtOk.any k h2]
    congr 1
    refine decide_eq_decide.mpr ⟨fun z => inl_inj z, fun z => by rw [z]⟩
theorem DtOk.get {Hf : Hp} (k : List Int) : ∀ {tb : List (List Int × PyData)} {kvs : List (List Key × V)}, DtOk Hf kvs tb → (getT tb k = none → valV kvs (k.map Sum.inl) = none) ∧ ∀ d, getT tb k = some d → ∃ v, valV kvs (k.map Sum.inl) = some v ∧ Rep Hf v d
  | [], kvs, h => by rw [h.inv0]; exact ⟨fun _ => rfl, fun d z => nomatch z⟩
  | e :: tb, kvs, h => by
    obtain ⟨v, r, rfl, hv, h2⟩ := h.inv
    have ih := DtOk.get k h2
    by_cases hk : e.1 = k
    · have g : getT (e :: tb) k = some e.2 := by simp [getT, List.find?_cons, hk]
      rw [g]
      refine ⟨(fun z => nomatch z), fun d z => ?_⟩
      cases z
      exact ⟨v, valV_pos (by rw [hk]), hv⟩
    · have g : getT (e :: tb) k = getT tb k := by simp [getT, List.find?_cons, hk]
      rw [g, valV_neg (fun z => hk (inl_inj z))]
      exact ih
theorem DtOk.repl {Hf : Hp} (k : List Int) {x : V} {d : PyData} (hx : Rep Hf x d) : ∀ {tb : List (List Int × PyData)} {kvs : List (List Key × V)}, DtOk Hf kvs tb → DtOk Hf (kvs.map fun kv => if kv.1 = k.map Sum.inl then (kv.1, x) else kv) (tb.map fun e => if e.1 = k then (e.1, d) else e)
  | [], kvs, h => by rw [h.inv0]; exact .nil
  | e :: tb, kvs, h => by
    obtain ⟨v, r, rfl, hv, h2⟩ := h.inv
    have ih := DtOk.repl k hx h2
    rw [List.map_cons, List.map_cons]
    by_cases hk : e.1 = k
    · rw [if_pos (by rw [hk]), if_pos hk]
      exact .cons (e := (e.1, d)) hx ih
    · rw [if_neg (fun z => hk (inl_inj z)), if_neg hk]
      exact .cons hv ih
theorem DtOk.put {Hf : Hp} (k : List Int) {x : V} {d : PyData} (hx : Rep Hf x d) {tb : List (List Int × PyData)} {kvs : List (List Key × V)} (h : DtOk Hf kvs tb) : DtOk Hf (putK kvs (k.map Sum.inl) x) (putT tb k d) := by
  unfold putK putT
  rw [h.any k]
  by_cases q : (tb.any fun e => decide (e.1 = k)) = true
  · rw [if_pos q, if_pos q]
    exact h.repl k hx
  · rw [if_neg q, if_neg q]
    exact ⟨by rw [List.map_append, List.map_append, h.ks]; rfl, by rw [List.map_append, List.map_append]; exact h.vs.append (.cons hx .nil)⟩
theorem DtOk.at {Hf : Hp} : ∀ {tb : List (List Int × PyData)} {kvs : List (List Key × V)} {i : Nat} {k : List Key} {v : V}, DtOk Hf kvs tb → kvs[i]? = some (k, v) → ∃ e, tb[i]? = some e ∧ k = e.1.map Sum.inl ∧ Rep Hf v e.2
  | [], kvs, i, k, v, h, q => by rw [h.inv0] at q; simp at q
  | e :: tb, kvs, 0, k, v, h, q => by
    obtain ⟨v', r, rfl, hv, h2⟩ := h.inv
    simp at q
    obtain ⟨rfl, rfl⟩ := q
    exact ⟨e, rfl, rfl, hv⟩
  | e :: tb, kvs, i + 1, k, v, h, q => by
    obtain ⟨v', r, rfl, hv, h2⟩ := h.inv
    exact DtOk.at (i := i) h2 (by simpa using q)
theorem kv_ints (k : List Int) : (k.map Sum.inl : List Key).map kV = k.map V.int := by
  rw [List.map_map]
  rfl
section
variable {Z : Ctx} {D : DE} {e f o a : Expr} {ρ : List Slot} {own oa ob : Own} {pos p tpos apos cpos : Pos} {q : Addr} {tb : List (List Int × PyData)} {k : List Int} {d d0 x : PyData} {n : Nat} {R : Slot → Own → Prop}
/-- {} -/
theorem eg_dnew (h : ∀ p, R (.raw (.ref p)) ((p, .dt []) :: own)) : EG Z (.Dict [] [] pos) ρ own R := fun Hf σ H S E Q q =>
  wE.of pe_dnewT fun p hp => q (.ref p) Hf _ (.raw (.ref p)) _ (Same.refl _) (S.newOwn (oo := .dt []) hp ⟨[], upd_same, .nil⟩) rfl (fun z => nomatch z) (h p)
theorem keyAt {Hf : Hp} {v : V} (r : Rep Hf v (.tuple (k.map PyData.int))) : ∃ b, v = .ref b ∧ Hf b = some (.tup ((k.map Sum.inl : List Key).map kV)) := by
  cases r with
  | tup h1 h2 =>
    cases h2.of_ints
    exact ⟨_, rfl, by rw [kv_ints]; exact h1⟩
/-- {k: v} -/
theorem eg_disp1 (g : Gd Z n) (hk : ∀ o, ED Z e ρ o (.tuple (k.map PyData.int))) (hv : ∀ o, ED Z f ρ o x) (h : ∀ p, R (.raw (.ref p)) ((p, .dt [(k, x)]) :: own)) : EG Z (.Dict [some e] [f] pos) ρ own R := fun Hf σ H S E Q q =>
  wE.of (pe_disp1T g.hr.units0 peW peW) fun p hp => hk ((p, .dt []) :: own) Hf σ _ (S.newOwn (oo := .dt []) hp ⟨[], upd_same, .nil⟩) E _ fun v1 Hf1 H1 m1 S1 r1 => hv _ Hf1 σ H1 S1 (E.mono m1) _ fun v2 Hf2 H2 m2 S2 r2 => by
    obtain ⟨b, rfl, hb⟩ := keyAt (r1.mono m2)
    obtain ⟨_, _, kvs, g1, g2⟩ := S2.at (p := p) (oo := .dt []) (by simp)
    cases g2.inv0
    exact ⟨b, _, rfl, g1, S2.e1 _ _ hb, q (.ref p) Hf2 _ (.raw (.ref p)) _ (m1.trans m2) (S2.write (oa := []) (oo' := .dt [(k, x)]) ⟨_, upd_same, .cons (e := (k, x)) r2 .nil⟩) rfl (fun z => nomatch z) (h p)⟩
/-- d.get(k, x) -/
theorem ed_dget2 (g : Gd Z n) (hq : (q, OO.dt tb) ∈ own) (ho : EV Z o ρ own (.ref q)) (hk : ED Z e ρ own (.tuple (k.map PyData.int))) (hd : ED Z f ρ own d0)
    (hbase : attributeBase o "get" Z.X.env (eval o Z.X.env) = eval o Z.X.env := by rfl)
    (hfew : ((backTo cpos (starEach [e, f] Z.X.env)).all (fun x => !x.1) && (backToKw cpos (keywordEach [] Z.X.env)).all (fun x => x.1.isSome)
      && decide (([e, f] : List Expr).length + ([] : List Keyword).length + (if ([] : List Keyword).isEmpty then 0 else 1) < 30)) = true := by rfl)
    (hline : (apos.endLine == cpos.line) = true := by rfl) (ht : backTo cpos (starEach [e, f] Z.X.env) = [(false, eval e Z.X.env), (false, eval f Z.X.env)] := by rfl) :
    ED Z (.Call (.Attribute o "get" apos) [e, f] [] cpos) ρ own ((getT tb k).getD d0) := fun Hf σ H S E Q kq =>
  wE.of (pe_dget2 (by have := g.hr.units; omega) peW peW peW ⟨hbase, hfew, hline, ht⟩) (ho Hf σ H S E _ fun w Hf1 H1 m1 S1 r1 => by
    cases (show w = .ref q from r1)
    obtain ⟨_, _, kvs, g1, g2⟩ := S1.at hq
    refine ⟨q, rfl, .inr ⟨kvs, .inl g1⟩, hk Hf1 σ H1 S1 (E.mono m1) _ fun v2 Hf2 H2 m2 S2 r2 => hd Hf2 σ H2 S2 (E.mono (m1.trans m2)) _ fun v3 Hf3 H3 m3 S3 r3 => ?_⟩
    obtain ⟨b, rfl, hb⟩ := keyAt (r2.mono m3)
    obtain ⟨_, _, kvs3, g3, g4⟩ := S3.at hq
    obtain ⟨n1, n2⟩ := g4.get k
    refine ⟨_, .t g3 (S3.e1 _ _ hb), kq _ Hf3 H3 ((m1.trans m2).trans m3) S3 ?_⟩
    cases eg : getT tb k with
    | none => rw [n1 eg]; exact r3
    | some d =>
      obtain ⟨v, h1, h2⟩ := n2 d eg
      rw [h1]
      exact h2)
/-- d[k] = x -/
theorem sd_dput (g : Gd Z n) (he : ED Z f ρ (oa ++ (q, .dt tb) :: ob) x) (ho : EV Z o ρ (oa ++ (q, .dt tb) :: ob) (.ref q)) (hk : ED Z e ρ (oa ++ (q, .dt tb) :: ob) (.tuple (k.map PyData.int))) (hl : tb.length < 100000) (h : D.nx ρ (oa ++ (q, .dt (putT tb k x)) :: ob))
    (hs : swapsWith f (some (.Subscript o e tpos)) pos.line Z.X.env = pure false := by rfl) : SD Z (.Assign [.Subscript o e tpos] f pos) D ρ (oa ++ (q, .dt tb) :: ob) := fun H0 Hf σ H m0 S E =>
  wS.of (ps_dput (by have := g.hr.units; omega) peW peW peW hs) (he Hf σ H S E _ fun v1 Hf1 H1 m1 S1 r1 => ho Hf1 σ H1 S1 (E.mono m1) _ fun w Hf2 H2 m2 S2 r2 => hk Hf2 σ H2 S2 (E.mono (m1.trans m2)) _ fun v3 Hf3 H3 m3 S3 r3 => by
    cases (show w = .ref q from r2)
    obtain ⟨b, rfl, hb⟩ := keyAt r3
    obtain ⟨_, _, kvs3, g3, g4⟩ := S3.at (p := q) (oo := .dt tb) (by simp)
    refine ⟨q, _, rfl, .t g3 (S3.e1 _ _ hb) (by rw [g4.length, sizeLine_eq]; omega), Hf3, ρ, _, ((m0.trans m1).trans m2).trans m3, S3.write (oo' := .dt (putT tb k x)) ⟨_, upd_same, g4.put k (r1.mono (m2.trans m3))⟩, E.mono ((m1.trans m2).trans m3), h⟩)
/-! ### a dict that is walked is locked -/
theorem Sat.lock {B : Bs} {Hf H : Hp} {od : Obj} {kvs : List (List Key × V)} (S : Sat B Hf H (oa ++ (q, .dt tb) :: ob)) (ok : DtOk Hf kvs tb) : Sat B Hf (upd H q (.frz od (.dT kvs))) (oa ++ (q, .dl od kvs tb) :: ob) := S.write (oo' := .dl od kvs tb) ⟨upd_same, ok⟩
theorem Sat.unlock {B : Bs} {Hf H : Hp} {od : Obj} {kvs : List (List Key × V)} (S : Sat B Hf H (oa ++ (q, .dl od kvs tb) :: ob)) : H q = some (.frz od (.dT kvs)) ∧ Sat B Hf (upd H q (.dT kvs)) (oa ++ (q, .dt tb) :: ob) := by
  obtain ⟨_, _, g3, g4⟩ := S.at (p := q) (oo := .dl od kvs tb) (by simp)
  exact ⟨g3, S.write (p := q) (o := .dT kvs) (oo' := .dt tb) ⟨kvs, upd_same, g4⟩⟩
/-- what is owned but for a lock -/
def Unl (q : Addr) (od : Obj) (kvs : List (List Key × V)) (tb : List (List Int × PyData)) (Q : Own → Prop) (o' : Own) : Prop := ∃ oa' ob', o' = oa' ++ (q, .dl od kvs tb) :: ob' ∧ Q (oa' ++ (q, .dt tb) :: ob')
theorem sd_lock {st : Stmt} (h : ∀ od kvs, SD Z st ⟨fun ρ' => Unl q od kvs tb (D.nx ρ'), fun s' => Unl q od kvs tb (D.rt s'), fun ρ' => Unl q od kvs tb (D.bk ρ'), fun ρ' => Unl q od kvs tb (D.ct ρ')⟩ ρ (oa ++ (q, .dl od kvs tb) :: ob)) : SD Z st D ρ (oa ++ (q, .dt tb) :: ob) := fun H0 Hf σ H m0 S E => by
  obtain ⟨_, _, kvs, g1, g2⟩ := S.at (p := q) (oo := .dt tb) (by simp)
  refine wS.of (ps_lock psW) ⟨q, .dT kvs, g1, True.intro, fun od => wS.imp (h od kvs H0 Hf σ _ m0 (S.lock g2) E) ?_ ?_ ?_ ?_⟩
  · rintro σ' H' ⟨Hf', ρ', o', m', S', E', oa', ob', rfl, hq⟩
    exact ⟨S'.unlock.1, Hf', ρ', _, m', S'.unlock.2, E', hq⟩
  · rintro v H' ⟨Hf', s', o', m', S', r', hs, oa', ob', rfl, hq⟩
    exact ⟨S'.unlock.1, Hf', s', _, m', S'.unlock.2, r', hs, hq⟩
  · rintro σ' H' ⟨Hf', ρ', o', m', S', E', oa', ob', rfl, hq⟩
    exact ⟨S'.unlock.1, Hf', ρ', _, m', S'.unlock.2, E', hq⟩
  · rintro σ' H' ⟨Hf', ρ', o', m', S', E', oa', ob', rfl, hq⟩
    exact ⟨S'.unlock.1, Hf', ρ', _, m', S'.unlock.2, E', hq⟩
/-- an expression that walks a dict and makes a new list -/
theorem el_lock {ds : List PyData} (h : ∀ od kvs, EL Z e ρ (oa ++ (q, .dl od kvs tb) :: ob) ds) : EL Z e ρ (oa ++ (q, .dt tb) :: ob) ds := fun Hf σ H S E Q k => by
  obtain ⟨_, _, kvs, g1, g2⟩ := S.at (p := q) (oo := .dt tb) (by simp)
  refine wE.of (pe_lock peW) ⟨q, .dT kvs, g1, True.intro, fun od => h od kvs Hf σ _ (S.lock g2) E _ fun p Hf' H' m S' => ?_⟩
  have S2 : Sat Z.B Hf' H' (((p, .lst ds) :: oa) ++ (q, .dl od kvs tb) :: ob) := S'
  exact ⟨S2.unlock.1, k p Hf' _ m S2.unlock.2⟩
def itemD (t : List Int × PyData) : PyData := .tuple [.tuple (t.1.map PyData.int), t.2]
/-- d.items(), d locked -/
theorem it_items {elts : List Expr} {kk : Nat} {od : Obj} {kvs : List (List Key × V)} (hq : (q, OO.dl od kvs tb) ∈ own) (h : EV Z e ρ own (.ref q)) (hbase : attributeBase e "items" Z.X.env (eval e Z.X.env) = eval e Z.X.env := by rfl) (hline : (apos.endLine == cpos.line) = true := by rfl) :
    IT Z (.Tuple elts kk tpos) (.Call (.Attribute e "items" apos) [] [] cpos) ρ own (fun o => (q, OO.dl od kvs tb) ∈ o) (tb.map itemD) :=
  ⟨_, pi_itemsT peW hbase hline, fun Hf σ H S E R k => h Hf σ H S E _ fun w Hf1 H1 m1 S1 r1 => by
    cases (show w = .ref q from r1)
    obtain ⟨_, _, g3, g4⟩ := S1.at hq
    have hlen := g4.length
    refine ⟨q, od, kvs, rfl, g3, k _ Hf1 H1 m1 S1 ⟨fun i Hf' H' o' m' S' hp hi => ?_, fun i y Hf' H' o' x H2 m' S' hp hy hx => ?_, fun i Hf' H' o' m' S' hp hi => ?_⟩⟩
    · obtain ⟨_, _, g5, _⟩ := S'.at hp
      rw [List.length_map] at hi
      exact ⟨g5, by omega⟩
    · obtain ⟨T, k, v, b, hkv, rfl, hT, hb, rfl⟩ := hx
      obtain ⟨_, _, g5, g6⟩ := S'.at hp
      obtain ⟨t, ht, ek, hv⟩ := g6.at hkv
      rw [List.getElem?_map, ht] at hy
      cases hy
      have hb' := S'.tp _ _ hb
      rw [ek, kv_ints] at hb'
      have sm := S'.new_same hT (.tup [.ref b, v])
      exact ⟨upd Hf' T (.tup [.ref b, v]), sm, S'.new hT _, .tup upd_same (.cons (.tup (sm _ _ hb') (Reps.ints t.1)) (.cons (hv.mono sm) .nil))⟩
    · obtain ⟨_, _, g5, _⟩ := S'.at hp
      rw [List.length_map] at hi
      exact ⟨g5, by omega⟩⟩
end
/-! ### what is not needed any more -/
theorem Sat.sub {B : Bs} {Hf H : Hp} {o o' : Own} (h : o'.Sublist o) (S : Sat B Hf H o) : Sat B Hf H o' := ⟨S.e0, S.e1, S.eb, S.fr, fun q hq => S.ow q (h.subset hq), (h.map Prod.fst).nodup S.nd, S.tp⟩
theorem sds_rtsub {Z : Ctx} {D : DE} {sts : List Stmt} {ρ : List Slot} {own : Own} (h : SDs Z sts { D with rt := fun s o => ∃ o', o'.Sublist o ∧ D.rt s o' } ρ own) : SDs Z sts D ρ own := fun H0 Hf σ H m0 S E => wSs.imp (h H0 Hf σ H m0 S E) (fun _ _ q => q) (fun v H' ⟨Hf', s, o, m, S', r, hs, o', hsub, q⟩ => ⟨Hf', s, o', m, S'.sub hsub, r, hs, q⟩) (fun _ _ q => q) (fun _ _ q => q)
end Sd


/-! a list of one's own, lent: data while an expression runs -/
namespace Sd
open PySem PySem.Spec PyProof.Rows L2
/-- no list within -/
inductive Fre : PyData → Prop
  | non : Fre .none
  | bl (b : Bool) : Fre (.bool b)
  | int (i : Int) : Fre (.int i)
  | str (z : Str) : Fre (.str z)
  | tup {ds : List PyData} : (∀ d ∈ ds, Fre d) → Fre (.tuple ds)
section
variable {Z : Ctx} {D : DE} {e : Expr} {ρ : List Slot} {own : Own} {p : Addr} {ds : List PyData} {R R' : Slot → Own → Prop}
end
/-! ### a def without parameters -/
end Sd


/-! sorted(d), d a dict with tuples of ints as keys -/
namespace Sd
open PySem PySem.Spec PyProof.Rows L2
section
variable {X : Cx}
end
end Sd
namespace Sd
open PySem PySem.Spec PyProof.Rows L2
section
variable {Z : Ctx} {e : Expr} {ρ : List Slot} {own : Own} {pos p : Pos} {s : Slot} {k : Nat}
end
end Sd
namespace Sd
open PySem PySem.Spec PyProof.Rows L2
/-! a comprehension whose elements read what is owned -/
section
variable {Z : Ctx} {elt tg iter : Expr} {ifs : List Expr} {scope : Scope} {ρ : List Slot} {own : Own} {Fin : List PyData → Own → Prop} {k : Nat} {Po : Own → Prop} {ys : List PyData} {pos : Pos} {D : DE}
theorem compO {α : Type} (g : Gd Z k) (it : IT Z tg iter ρ own Po ys) (on : List (Str × Nat)) (ok : BlkOk Z.X.N Z.X.env.scope scope on) (xs : List α) (enc : α → PyData) (hy : ys = xs.map enc) (F : α → Option PyData) (ρ2 : α → List Slot) (is : List Nat)
    (his : ∀ i ∈ is, i ∈ on.map (·.2)) (hl : xs.length < 100000) (hpo : ∀ acc D, Po ((D, .lst acc) :: own)) (gt : ∀ a ∈ xs, ∀ s H C cl fp, Gd (blkZ Z scope s H C cl fp) k → GT (blkZ Z scope s H C cl fp) tg (enc a) (wipeR ρ (on.map (·.2))) (ρ2 a) is)
    (et : ∀ a ∈ xs, ∀ s H C cl fp D acc, Gd (blkZ Z scope s H C cl fp) k → ETs (blkZ Z scope s H C cl fp) ifs (ρ2 a) ((D, .lst acc) :: own) (F a).isSome) (ed : ∀ a ∈ xs, ∀ d, F a = some d → ∀ s H C cl fp D acc, Gd (blkZ Z scope s H C cl fp) k → ED (blkZ Z scope s H C cl fp) elt (ρ2 a) ((D, .lst acc) :: own) d) :
    CP Z elt tg iter ifs scope ρ own (fun ds o => ds = xs.filterMap F ∧ o = own) := by
  subst hy
  have := comp (Po := Po) (ys := xs.map enc) (elt := elt) (ifs := ifs) (scope := scope) g it on ok (fun i acc o => acc = (xs.take i).filterMap F ∧ o = own ∧ i ≤ xs.length) ⟨rfl, rfl, Nat.zero_le _⟩ (fun i acc o D h => by rw [h.2.1]; exact hpo acc D) (fun i acc o h => by
    rw [h.1]
    have h1 := List.length_filterMap_le F (xs.take i)
    rw [List.length_take] at h1
    omega) (fun i y acc o D hy h => by
      obtain ⟨rfl, rfl, hi⟩ := h
      rw [List.getElem?_map] at hy
      cases ea : xs[i]? with
      | none => rw [ea] at hy; cases hy
      | some a =>
        rw [ea] at hy
        cases hy
        have hm : a ∈ xs := List.mem_of_getElem? ea
        have hlt : i < xs.length := (List.getElem?_eq_some_iff.mp ea).1
        have tk : (xs.take (i + 1)).filterMap F = (xs.take i).filterMap F ++ (F a).toList := by
          rw [List.take_add_one, ea, List.filterMap_append]
          cases hF : F a <;> simp [hF]
        refine ⟨ρ2 a, is, (F a).isSome, his, fun s H C cl fp => gt a hm s H C cl fp (g.blk ..), fun s H C cl fp => et a hm s H C cl fp _ _ (g.blk ..), fun hs s H C cl fp => ?_, fun hs => ?_⟩
        · obtain ⟨d, hd⟩ := Option.isSome_iff_exists.mp hs
          exact ES.toEG (ed a hm d hd s H C cl fp _ _ (g.blk ..)) (fun z => nomatch z) ⟨d, o, rfl, rfl, by rw [tk, hd]; rfl, rfl, hlt⟩
        · refine ⟨?_, rfl, hlt⟩
          rw [tk]
          cases hF : F a with
          | none => simp
          | some d => rw [hF] at hs; cases hs)
  obtain ⟨a1, a2, a3, a4, a5, b1, b2, b3, b4, b5, b6⟩ := this
  refine ⟨a1, a2, a3, a4, a5, b1, b2, b3, b4, b5, fun Hf σ H S E Q q => b6 Hf σ H S E Q fun p Hf' H' ds own' m S' hf => q p Hf' H' ds own' m S' ⟨?_, hf.2.1⟩⟩
  rw [hf.1, List.length_map, List.take_length]
end

/-! x in a tuple of ints -/
section
variable {Z : Ctx} {own : Own}
end
end Sd


/-! dicts with int keys -/
namespace Sd
open PySem PySem.Spec PyProof.Rows L2
theorem DkOk.nil {Hf : Hp} : DkOk Hf [] [] := ⟨rfl, .nil⟩
theorem DkOk.inv {Hf : Hp} {kvs : List (Key × V)} {e : Int × PyData} {tb : List (Int × PyData)} (h : DkOk Hf kvs (e :: tb)) : ∃ v r, kvs = ((Sum.inl e.1 : Key), v) :: r ∧ Rep Hf v e.2 ∧ DkOk Hf r tb := by
  obtain ⟨h1, h2⟩ := h
  match kvs, h1, h2 with
  | [], h1, _ => exact nomatch h1
  | (k, v) :: r, h1, h2 =>
    rw [List.map_cons, List.map_cons] at h1
    injection h1 with h3 h4
    cases h2 with
    | cons a b => exact ⟨v, r, by rw [← h3], a, h4, b⟩
theorem DkOk.inv0 {Hf : Hp} {kvs : List (Key × V)} (h : DkOk Hf kvs []) : kvs = [] := by
  have := h.ks
  simpa using this
theorem DkOk.cons {Hf : Hp} {r : List (Key × V)} {e : Int × PyData} {tb : List (Int × PyData)} {v : V} (a : Rep Hf v e.2) (h : DkOk Hf r tb) : DkOk Hf (((Sum.inl e.1 : Key), v) :: r) (e :: tb) :=
  ⟨by rw [List.map_cons, List.map_cons, h.ks], .cons a h.vs⟩
theorem DkOk.length {Hf : Hp} {kvs : List (Key × V)} {tb : List (Int × PyData)} (h : DkOk Hf kvs tb) : kvs.length = tb.length := by
  have := congrArg List.length h.ks
  simpa using this
theorem DkOk.any {Hf : Hp} (k : Int) : ∀ {tb : List (Int × PyData)} {kvs : List (Key × V)}, DkOk Hf kvs tb → (kvs.any fun kv => decide (kv.1 = Sum.inl k)) = tb.any fun e => decide (e.1 = k)
  | [], kvs, h => by rw [h.inv0]; rfl
  | e :: tb, kvs, h => by
    obtain ⟨v, r, rfl, _, h2⟩ := h.inv
    rw [List.any_cons, List.any_cons, DkOk.any k h2]
    congr 1
    refine decide_eq_decide.mpr ⟨fun z => Sum.inl.inj z, fun z => by rw [z]⟩
theorem DkOk.get {Hf : Hp} (k : Int) : ∀ {tb : List (Int × PyData)} {kvs : List (Key × V)}, DkOk Hf kvs tb → (getT tb k = none → valV kvs (Sum.inl k) = none) ∧ ∀ d, getT tb k = some d → ∃ v, valV kvs (Sum.inl k) = some v ∧ Rep Hf v d
  | [], kvs, h => by rw [h.inv0]; exact ⟨fun _ => rfl, fun d z => nomatch z⟩
  | e :: tb, kvs, h => by
    obtain ⟨v, r, rfl, hv, h2⟩ := h.inv
    have ih := DkOk.get k h2
    by_cases hk : e.1 = k
    · have g : getT (e :: tb) k = some e.2 := by simp [getT, List.find?_cons, hk]
      rw [g]
      refine ⟨(fun z => nomatch z), fun d z => ?_⟩
      cases z
      exact ⟨v, valV_pos (by rw [hk]), hv⟩
    · have g : getT (e :: tb) k = getT tb k := by simp [getT, List.find?_cons, hk]
      rw [g, valV_neg (fun z => hk (Sum.inl.inj z))]
      exact ih
theorem DkOk.repl {Hf : Hp} (k : Int) {x : V} {d : PyData} (hx : Rep Hf x d) : ∀ {tb : List (Int × PyData)} {kvs : List (Key × V)}, DkOk Hf kvs tb → DkOk Hf (kvs.map fun kv => if kv.1 = Sum.inl k then (kv.1, x) else kv) (tb.map fun e => if e.1 = k then (e.1, d) else e)
  | [], kvs, h => by rw [h.inv0]; exact .nil
  | e :: tb, kvs, h => by
    obtain ⟨v, r, rfl, hv, h2⟩ := h.inv
    have ih := DkOk.repl k hx h2
    rw [List.map_cons, List.map_cons]
    by_cases hk : e.1 = k
    · rw [if_pos (by rw [hk]), if_pos hk]
      exact .cons (e := (e.1, d)) hx ih
    · rw [if_neg (fun z => hk (Sum.inl.inj z)), if_neg hk]
      exact .cons hv ih
theorem DkOk.put {Hf : Hp} (k : Int) {x : V} {d : PyData} (hx : Rep Hf x d) {tb : List (Int × PyData)} {kvs : List (Key × V)} (h : DkOk Hf kvs tb) : DkOk Hf (putK kvs (Sum.inl k) x) (putT tb k d) := by
  unfold putK putT
  rw [h.any k]
  by_cases q : (tb.any fun e => decide (e.1 = k)) = true
  · rw [if_pos q, if_pos q]
    exact h.repl k hx
  · rw [if_neg q, if_neg q]
    exact ⟨by rw [List.map_append, List.map_append, h.ks]; rfl, by rw [List.map_append, List.map_append]; exact h.vs.append (.cons hx .nil)⟩
section
variable {Z : Ctx} {D : DE} {e f o a : Expr} {ρ : List Slot} {own oa ob : Own} {pos p tpos apos cpos : Pos} {q : Addr} {tb : List (Int × PyData)} {k : Int} {d d0 x : PyData} {n : Nat} {R : Slot → Own → Prop}
end
end Sd


namespace Sd
open PySem PySem.Spec PyProof.Rows L2
/-! displays of constants: the step over a constant is proved once, for any constant (quick) -/
section
variable {Z : Sd.Ctx} {ρ : List Slot} {own : Own} {es : List Expr} {s : Slot} {ss : List Slot} {p pos : Pos} {x1 : Nat}
theorem eb_k {x : Const} {j : Nat} (h : ES Z (.Constant x j p) ρ own s) (hr : EA Z es ρ own ss) : EA Z (.Constant x j p :: es) ρ own (s :: ss) := ea_cons h hr
theorem eb_b {a b : Expr} {op : Operator} (h : ES Z (.BinOp a op b p) ρ own s) (hr : EA Z es ρ own ss) : EA Z (.BinOp a op b p :: es) ρ own (s :: ss) := ea_cons h hr
theorem eb_c {f : Expr} {as : List Expr} {ks : List Keyword} (h : ES Z (.Call f as ks p) ρ own s) (hr : EA Z es ρ own ss) : EA Z (.Call f as ks p :: es) ρ own (s :: ss) := ea_cons h hr
theorem ed_lb1 {x : PyData} (h : EA Z es ρ own [.d x]) : ED Z (.List es pos) ρ own (.list [x]) := ed_lst (ds := [x]) h
theorem ed_tb2 {x y : PyData} (h : EA Z es ρ own [.d x, .d y]) : ED Z (.Tuple es x1 pos) ρ own (.tuple [x, y]) := ed_tup (ds := [x, y]) h
theorem ed_k2 {i i' : Int} {j j' : Nat} {p' : Pos} : ED Z (.Tuple [.Constant (.int i) j p, .Constant (.int i') j' p'] x1 pos) ρ own (.tuple [.int i, .int i']) := by with_reducible exact ed_tb2 (eb_k ed_int (eb_k ed_int ea_nil))
theorem eb_t {xs : List Expr} {j : Nat} (h : ES Z (.Tuple xs j p) ρ own s) (hr : EA Z es ρ own ss) : EA Z (.Tuple xs j p :: es) ρ own (s :: ss) := ea_cons h hr
theorem ed_k1 {i : Int} {j : Nat} : ED Z (.List [.Constant (.int i) j p] pos) ρ own (.list [.int i]) := by with_reducible exact ed_lb1 (eb_k ed_int ea_nil)
end
end Sd


/-! objects of a class of the program -/
namespace Sd
open PySem PySem.Spec PyProof.Rows L2
section
variable {X : Cx} {CX : CXT} {k : Nat} {f C : Addr} {fd : FuncData} {ps : List Str} {sp : Sp} {E : L2.St → XK} {x m : Str} {p pos apos : Pos} {e o : Expr} {es : List Expr} {ta : TE} {t : TA}
theorem pe_methE {pl : Sem Bool} (he : PE X o ta) (c : Cls X.K C) (hm : Meth X.K C m f) (F : FnOk X.prog X.w X.K X.mg X.base CX k f fd ps sp) (hr : Room k X.A) (hb : Binds X.K fd ps []) (hx : ∀ σ, PassesAt CX X σ (E σ)) (ha : PA X (e :: es) t)
    (hst : starEach (e :: es) X.env = (false, eval e X.env) :: starEach es X.env := by rfl) (hpl : (backTo pos (starEach es X.env)).any (·.1) = false := by rfl)
    (ht : eval (.Call (.Attribute o m apos) (e :: es) [] pos) X.env = (do
      let ov ← eval o X.env
      standAt apos.atName
      let (f, first) ← holding [ov] (getMethod ov m pl)
      callWith pos f first (backTo pos (starEach (e :: es) X.env)) (backToKw pos (keywordEach [] X.env))) := by rfl) :
    PE X (.Call (.Attribute o m apos) (e :: es) [] pos) (fun σ H Q => ta σ H fun x H1 => ∃ a dx fs, x = .ref a ∧ H1 a = some (.ins C dx fs) ∧ fs.lookup m = none ∧ t σ H1 fun vs H2 => sp (.ref a :: vs) H2 Q (E σ)) := by
  refine ⟨fun pins s σ H Q I h => PySem.W.methodCall_KW (pl := pl) (thn (he.run pins s σ H _ I h) fun u s1 hq => ?_) ht⟩
  obtain ⟨x, H1, I1, rx, a, dx, fs, rfl, ea, l, q⟩ := hq
  cases (show u = Value.ref a from rx)
  refine getmeth_ok I1 ea c hm l (PySem.W.callWith_K (first := [.ref a]) (h₀ := X.base) I.ok.mod.kin hm.kp (thn (ha.run pos pins s1 σ H1 _ I1 q) fun us s2 hq2 => ?_) hst hpl)
  obtain ⟨vs, H2, I2, r, q2⟩ := hq2
  exact ⟨I2.kIn, run_fnS (us := .ref a :: us) (vs := .ref a :: vs) F hr hb (hx σ) I2 (.cons rfl r) q2⟩
theorem pe_methE0 {pl : Sem Bool} (he : PE X o ta) (c : Cls X.K C) (hm : Meth X.K C m f) (F : FnOk X.prog X.w X.K X.mg X.base CX k f fd ps sp) (hr : Room k X.A) (hb : Binds X.K fd ps []) (hx : ∀ σ, PassesAt CX X σ (E σ))
    (ht : eval (.Call (.Attribute o m apos) [] [] pos) X.env = (do
      let ov ← eval o X.env
      standAt apos.atName
      let (f, first) ← holding [ov] (getMethod ov m pl)
      callWith pos f first (backTo pos (starEach [] X.env)) (backToKw pos (keywordEach [] X.env))) := by rfl) :
    PE X (.Call (.Attribute o m apos) [] [] pos) (fun σ H Q => ta σ H fun x H1 => ∃ a dx fs, x = .ref a ∧ H1 a = some (.ins C dx fs) ∧ fs.lookup m = none ∧ sp [.ref a] H1 Q (E σ)) := by
  refine ⟨fun pins s σ H Q I h => PySem.W.methodCall_KW (pl := pl) (thn (he.run pins s σ H _ I h) fun u s1 hq => ?_) ht⟩
  obtain ⟨x, H1, I1, rx, a, dx, fs, rfl, ea, l, q⟩ := hq
  cases (show u = Value.ref a from rx)
  exact getmeth_ok I1 ea c hm l (PySem.W.callWith_K0 (first := [.ref a]) I1.kIn hm.kp (run_fnS (us := [.ref a]) (vs := [.ref a]) F hr hb (hx σ) I1 (.cons rfl .nil) q))
end
/-- a method of the program's class, by its promise -/
structure Mth (K : PySem.W.Frag) (mg : Str → Option Value) (P : Program) (w : World) (base : Heap) (C : Addr) (m : Str) (ps : List Str) (k : Nat) (Pre : Pr) : Prop where
  ex : ∃ f fd, FnOk P w K mg base (L2.CX P w) k f fd ps (spG Pre) ∧ Meth K C m f ∧ Binds K fd ps []
section
variable {Z : Ctx} {D : DE} {e o : Expr} {es : List Expr} {ρ : List Slot} {own oa o1 ob : Own} {pos p apos tpos : Pos} {s : Slot} {k j : Nat} {ss : List Slot} {m f : Str} {ps : List Str} {Pre : Pr} {post : Out → Prop} {R : Slot → Own → Prop} {C x dx : Addr} {fs : List (Str × V)} {v : V} {ds : List PyData} {d : PyData}
theorem ev_fld (cl : Cls Z.X.K C) (nA : NoAttr Z.X.K C f) (hq : (x, OO.raw (.ins C dx fs)) ∈ own) (ho : EV Z o ρ own (.ref x)) (hl : fs.lookup f = some v) (hb : attributeBase o f Z.X.env (eval o Z.X.env) = eval o Z.X.env := by rfl) : EV Z (.Attribute o f pos) ρ own v := fun Hf σ H S E Q q => wE.of (pe_fld peW hb) (ho Hf σ H S E _ fun w Hf1 H1 m1 S1 r1 => by
  cases (show w = .ref x from r1)
  obtain ⟨_, _, g⟩ := S1.at hq
  exact ⟨x, C, dx, fs, v, rfl, g, cl, nA, hl, q v Hf1 H1 m1 S1 rfl⟩)
theorem eg_meth (M : Mth Z.X.K Z.X.mg Z.X.prog Z.X.w Z.X.base C m ps j Pre) (cl : Cls Z.X.K C) (g : Gd Z k) (hj : j ≤ k) (ho : EV Z o ρ (oa ++ o1 ++ ob) (.ref x)) (hq : (x, OO.raw (.ins C dx fs)) ∈ oa ++ o1 ++ ob) (hl : fs.lookup m = none) (ha : EA Z (e :: es) ρ (oa ++ o1 ++ ob) ss) (hp : Pre (.raw (.ref x) :: ss) o1 post) (h1 : ∀ s o1', post (.ret s o1') → R s (oa ++ o1' ++ ob)) (h2 : ∀ C o1', post (.exc C o1') → Z.ex C ρ (oa ++ o1' ++ ob))
    (hst : starEach (e :: es) Z.X.env = (false, eval e Z.X.env) :: starEach es Z.X.env := by rfl) (hpl : (backTo pos (starEach es Z.X.env)).any (·.1) = false := by rfl) {pl : Sem Bool}
    (ht : eval (.Call (.Attribute o m apos) (e :: es) [] pos) Z.X.env = (do
      let ov ← eval o Z.X.env
      standAt apos.atName
      let (f, first) ← holding [ov] (getMethod ov m pl)
      callWith pos f first (backTo pos (starEach (e :: es) Z.X.env)) (backToKw pos (keywordEach [] Z.X.env))) := by rfl) :
    EG Z (.Call (.Attribute o m apos) (e :: es) [] pos) ρ (oa ++ o1 ++ ob) R := by
  obtain ⟨f, fd, ok, hm, hb⟩ := M.ex
  refine fun Hf σ H S E Q q => wE.of (pe_methE (E := WE (Wish Z)) (pl := pl) peW cl hm ok (g.hr.mono hj) hb (fun σ => passAt g.tk σ) paW hst hpl ht) (ho Hf σ H S E _ fun w Hf1 H1 m1 S1 r1 => ?_)
  cases (show w = .ref x from r1)
  obtain ⟨_, _, gx⟩ := S1.at hq
  refine ⟨x, dx, fs, rfl, gx, hl, ha Hf1 σ H1 S1 (E.mono m1) _ fun vs Hf2 H2 m2 S2 r2 => ?_⟩
  refine ⟨Hf2, less H2 (o1.map (·.1)), .raw (.ref x) :: ss, o1, post, S2.into, .cons rfl r2, hp, fun s own' v Hf' H' hq S' r' hs => ?_, fun C own' Hf' H' hq S' => ?_⟩
  · exact q v Hf' H' s _ ((m1.trans m2).trans S'.e0) (S2.back S') r' hs (h1 s own' hq)
  · exact ⟨C, Hf', ρ, _, rfl, rfl, S2.back S', E.mono ((m1.trans m2).trans S'.e0), h2 C own' hq⟩
theorem eg_meth0 (M : Mth Z.X.K Z.X.mg Z.X.prog Z.X.w Z.X.base C m ps j Pre) (cl : Cls Z.X.K C) (g : Gd Z k) (hj : j ≤ k) (ho : EV Z o ρ (oa ++ o1 ++ ob) (.ref x)) (hq : (x, OO.raw (.ins C dx fs)) ∈ oa ++ o1 ++ ob) (hl : fs.lookup m = none) (hp : Pre [.raw (.ref x)] o1 post) (h1 : ∀ s o1', post (.ret s o1') → R s (oa ++ o1' ++ ob)) (h2 : ∀ C o1', post (.exc C o1') → Z.ex C ρ (oa ++ o1' ++ ob)) {pl : Sem Bool}
    (ht : eval (.Call (.Attribute o m apos) [] [] pos) Z.X.env = (do
      let ov ← eval o Z.X.env
      standAt apos.atName
      let (f, first) ← holding [ov] (getMethod ov m pl)
      callWith pos f first (backTo pos (starEach [] Z.X.env)) (backToKw pos (keywordEach [] Z.X.env))) := by rfl) :
    EG Z (.Call (.Attribute o m apos) [] [] pos) ρ (oa ++ o1 ++ ob) R := by
  obtain ⟨f, fd, ok, hm, hb⟩ := M.ex
  refine fun Hf σ H S E Q q => wE.of (pe_methE0 (E := WE (Wish Z)) (pl := pl) peW cl hm ok (g.hr.mono hj) hb (fun σ => passAt g.tk σ) ht) (ho Hf σ H S E _ fun w Hf1 H1 m1 S1 r1 => ?_)
  cases (show w = .ref x from r1)
  obtain ⟨_, _, gx⟩ := S1.at hq
  refine ⟨x, dx, fs, rfl, gx, hl, Hf1, less H1 (o1.map (·.1)), [.raw (.ref x)], o1, post, S1.into, .cons rfl .nil, hp, fun s own' v Hf' H' hq S' r' hs => ?_, fun C own' Hf' H' hq S' => ?_⟩
  · exact q v Hf' H' s _ (m1.trans S'.e0) (S1.back S') r' hs (h1 s own' hq)
  · exact ⟨C, Hf', ρ, _, rfl, rfl, S1.back S', E.mono (m1.trans S'.e0), h2 C own' hq⟩
/-- self.f = a new list -/
theorem sd_fldL (cl : Cls Z.X.K C) (nA : NoAttr Z.X.K C f) (he : EL Z e ρ (oa ++ (x, .raw (.ins C dx fs)) :: ob) ds) (ho : ∀ p', EV Z o ρ ((p', .lst ds) :: (oa ++ (x, .raw (.ins C dx fs)) :: ob)) (.ref x)) (hfew : fs.length < 1000) (h : ∀ p', D.nx ρ ((p', .lst ds) :: (oa ++ (x, .raw (.ins C dx (putF f (.ref p') fs))) :: ob)))
    (hs : swapsWith e (some (.Attribute o f tpos)) pos.line Z.X.env = pure false := by rfl) : SD Z (.Assign [.Attribute o f tpos] e pos) D ρ (oa ++ (x, .raw (.ins C dx fs)) :: ob) := fun H0 Hf σ H m0 S E => wS.of (ps_fld peW peW hs) (he Hf σ H S E _ fun p' Hf1 H1 m1 S1 => ho p' Hf1 σ H1 S1 (E.mono m1) _ fun w Hf2 H2 m2 S2 r2 => by
    cases (show w = .ref x from r2)
    obtain ⟨_, _, g⟩ := S2.at (p := x) (oo := .raw (.ins C dx fs)) (by simp)
    exact ⟨x, C, dx, fs, rfl, g, cl, nA, hfew, Hf2, ρ, _, (m0.trans m1).trans m2, S2.write (oa := (p', .lst ds) :: oa) (oo' := .raw (.ins C dx (putF f (.ref p') fs))) upd_same, E.mono (m1.trans m2), h p'⟩)
end
end Sd


/-! sorted(set(xs)) of a list of ints; pop; making an object; its length -/
namespace Sd
open PySem PySem.Spec PyProof.Rows L2
section
variable {P : Program} {w : World} {A : Around} {E : Value → Shared → Prop} {s : Shared}
/-- set(xs) of a list of ints, as sorted wants it -/
theorem set_of_list {l : Addr} {items : Array Value} (ns : List Int) {Q : Value → Shared → Prop} (calm : A.handled = none) (hl : s.heap.IsList l items) (hit : IntsAre items.toList ns) (hb : ns.length + 1 < scanBound)
    (h : ∀ (h' : Heap) (tk c : Nat), SetR w h' s.heap.objs.size (fun j => decide (j ∈ ns)) c → c ≤ ns.length → (∀ b o, s.heap.get? b = some o → h'.get? b = some o) → Q (.ref s.heap.objs.size) { s with heap := h', toks := tk }) : wpAny (model P w) A (call (.type "set") [.ref l]) Q E s := by
  have size_ns : items.size = ns.length := by rw [← Array.length_toList]; exact IntsAre.length hit
  obtain ⟨m0, m1, mro⟩ := F.called_set.mro
  have made := F.called_set.made
  have subs := F.called_set.sub
  refine wpAny_call (codeAny_of_tree (show wpAny _ _ (callAny (.type "set") _) _ _ _ from wpAny_pure ⟨Code.quiet_builtin _ (by decide +kernel), codeAny_builtin F.entry_type_call ?_⟩))
  rw [Around.under_plain (weight_type_call_type "set" [.ref l] []) rfl]
  have f1 := F.called_set.notType
  have f2 := F.called_set.canCreate
  have f3 := F.typeCall_set_1 (.ref l)
  repeat (any_goals (first | assumption | wp_step))
  refine codeAny_mono (code_set_led1 (.ref l) (E := E) (Q₁ := fun obj t => obj = .ref s.heap.objs.size ∧ t = { s with heap := s.heap.push { cls := .type "set", dict := none, data := .set #[] 0 (.fresh 0 0 (!w.params.followText "set-order")) } }) ⟨rfl, rfl⟩) fun res t hres => ?_
  rcases res with er | fl
  · exact hres
  rcases fl with _ | _ | _ | obj
  all_goals first | exact hres.elim | skip
  obtain ⟨rfl, rfl⟩ := hres
  generalize hN : (⟨.type "set", none, .set #[] 0 (.fresh 0 0 (!w.params.followText "set-order")), #[]⟩ : Obj) = N
  have gS : (s.heap.push N).get? s.heap.objs.size = some N := Heap.get?_push_size _ (by rw [← hN]; rfl)
  have tS : Shared.TypeIs { s with heap := s.heap.push N } (.ref s.heap.objs.size) "set" := ⟨_, gS, by rw [← hN]⟩
  have g1 := F.called_set.init.lookup
  have g2 := F.called_set.init.bind (.ref s.heap.objs.size)
  repeat (any_goals (first | assumption | wp_step))
  refine codeAny_mono (codeAny_call_builtin (R := wants (fun res t => res = .none ∧ ∃ h' tk c, t = { s with heap := h', toks := tk } ∧ SetR w h' s.heap.objs.size (fun j => decide (j ∈ ns)) c ∧ c ≤ ns.length ∧ ∀ b o, s.heap.get? b = some o → h'.get? b = some o) E) F.called_set.init.plain F.entry_set_init (check_set_init_1 tS ?_)) fun res t hres => ?_
  · subst hN
    obtain ⟨⟨lc, ld, lda, ls⟩, gl, rfl, ln, rfl⟩ := hl
    have gl' : (s.heap.push { cls := .type "set", dict := none, data := .set #[] 0 (.fresh 0 0 (!w.params.followText "set-order")) }).get? l = some ⟨.type "list", ld, .seq items ln, ls⟩ := Heap.get?_push_of_some _ gl
    have u1 := F.sub_list_set
    have u2 := F.sub_list_frozenset
    have u3 : (Value.type "list" == Value.type "dict") = false := by decide
    have isl : (s.heap.push { cls := .type "set", dict := none, data := .set #[] 0 (.fresh 0 0 (!w.params.followText "set-order")) }).IsList l items := ⟨_, gl', rfl, ln, rfl⟩
    unfold Builtin.«set.__init__» noKeywords Builtin.Frozenset.updateFrom
    generalize ePI : pyIter = PI
    wp_walk
    subst ePI
    refine wpAny_pyIter_list (s := { s with heap := s.heap.push { cls := .type "set", dict := none, data := .set #[] 0 (.fresh 0 0 (!w.params.followText "set-order")) } }) isl ?_
    refine wpAny_bind (wpAny_runValue ?_)
    have lS : l < s.heap.objs.size := Heap.lt_size gl
    have zN : (s.heap.push { cls := .type "set", dict := none, data := .set #[] 0 (.fresh 0 0 (!w.params.followText "set-order")) }).objs.size = s.heap.objs.size + 1 := Heap.size_push ..
    have lI : l ≠ (s.heap.push { cls := .type "set", dict := none, data := .set #[] 0 (.fresh 0 0 (!w.params.followText "set-order")) }).objs.size := by rw [zN]; exact Nat.ne_of_lt (Nat.lt_succ_of_lt lS)
    have out : s.heap.objs.size ∉ [(s.heap.push { cls := .type "set", dict := none, data := .set #[] 0 (.fresh 0 0 (!w.params.followText "set-order")) }).objs.size, l] := by
      rw [zN]
      simp only [List.mem_cons, List.not_mem_nil, or_false, not_or]
      exact ⟨by omega, Nat.ne_of_gt lS⟩
    refine set_update_ints ((Walks.list (show A.in1.in1.in1.handled = none by simp [calm]) _ l lI items).toS) s.heap.objs.size out ns size_ns hb (fun i v hv => ?_) (items.size - 0) 0 _ (by omega) (Nat.zero_le _) ⟨⟨_, Heap.get?_push_size _ rfl, rfl, rfl⟩, isl.push _⟩ ?_ ?_
    · have hi : i < ns.length := by rw [← size_ns]; exact (Array.getElem?_eq_some_iff.mp hv).1
      obtain ⟨t, e⟩ := IntsAre.int_at hit i v (by rw [Array.getElem?_toList]; exact hv)
      refine ⟨ns[i], t, List.getElem?_eq_getElem hi, ?_⟩
      rw [List.getD_eq_getElem?_getD, List.getElem?_eq_getElem hi] at e
      exact e
    · refine ⟨0, Nat.le_refl 0, setR_new_at ?_⟩
      have := Heap.get?_push_of_some { cls := .type "list_iterator", data := .fields #[.ref l, .int 0 0] } gS
      exact this
    · intro t c' hm hc' hS'
      obtain ⟨h', g', d', tk', os'⟩ := t
      cases (show g' = s.gens from hm.gens)
      cases (show d' = s.drawn from hm.drawn)
      cases (show os' = s.os from hm.os)
      rw [size_ns] at hc'
      show wpAny _ _ _ _ _ _
      refine wpAny_pure ?_
      show wpAny _ _ (ret Value.none) _ _ _
      refine wpAny_pure ⟨rfl, h', tk', c', rfl, hS', hc', fun b o e => ?_⟩
      have b0 : b < s.heap.objs.size := Heap.lt_size e
      refine hm.heap b o ?_ (Heap.get?_push_of_some _ (Heap.get?_push_of_some _ e))
      simp only [List.mem_cons, List.not_mem_nil, or_false, not_or]
      rw [zN]
      exact ⟨Nat.ne_of_lt b0, Nat.ne_of_lt (Nat.lt_succ_of_lt b0)⟩
  · rcases res with er | fl
    · exact hres
    rcases fl with _ | _ | _ | r
    all_goals first | exact hres.elim | skip
    obtain ⟨rfl, h', tk, c', rfl, hS', hc', hk'⟩ := hres
    repeat (any_goals (first | assumption | wp_step))
    exact h _ _ _ hS' hc' hk'
end
section
variable {X : Cx}
def rSetL (K : PySem.W.Frag) (w : World) : List V → Hp → VK → Prop := fun xs H Q => ∃ (l : Addr) (ns : List Int), xs = [.ref l] ∧ SqL K H l (ns.map V.int) ∧ ns.length ≤ 1000 ∧ ∀ p c, c ≤ ns.length → H p = none → Q (.ref p) (upd H p (SetO w p (fun j => decide (j ∈ ns)) c))
theorem call_setL (hc : X.calm = true) : CallR X (.type "set") (rSetL X.K X.w) := by
  intro pins s σ H xs us Q I r h
  obtain ⟨l, ns, rfl, hl, hn, q⟩ := h
  rw [Vals.ref1 r]
  obtain ⟨its, rv, pl, _⟩ := I.list hl
  refine set_of_list ns (I.ok.hd hc) pl.isList (by simpa using ints_of_vals rv) (by show ns.length + 1 < 4096; omega) fun h' tk c hS hc' hk => ?_
  exact ⟨.ref _, upd H s.heap.objs.size (SetO X.w s.heap.objs.size (fun j => decide (j ∈ ns)) c), I.laid (t' := tk) hk (Nat.le_refl _) (setO_new hS), rfl, q _ c hc' (I.hok.fresh (Nat.le_refl _))⟩
end
end Sd


/-! making an object; its length; pop; sorted(set(..)) -/
namespace Sd
open PySem PySem.Spec PyProof.Rows L2
section
variable {X : Cx} {CX : CXT} {k : Nat} {f C : Addr} {fd : FuncData} {ps : List Str} {sp : Sp} {E : L2.St → XK} {x : Str} {p pos : Pos} {e : Expr} {es : List Expr} {t : TA}
theorem run_makeE {pins : List (Addr × Obj)} {σ : L2.St} {H : Hp} {s : Shared} {Q : VK} {us : List Value} {vs : List V} (M : Mk X.K C f) (F : FnOk X.prog X.w X.K X.mg X.base CX k f fd ps sp) (hr : Room (k + 1) X.A) (hb : Binds X.K fd ps [])
    (hx : ∀ σ, PassesAt CX X σ (E σ)) (I : Inv X pins σ H s) (r : Vals vs us)
    (h : ∀ x dx, H x = none → H dx = none → dx ≠ x → sp (.ref x :: vs) (upd (upd H dx (.own x)) x (.ins C dx [])) (fun v H2 => v = .non ∧ Q (.ref x) H2) (E σ)) :
    wpAny (model X.prog X.w) X.A (call (.ref C) us) (EP X pins σ Q) X.xe s := by
  have hq := h (s.heap.objs.size + 1) s.heap.objs.size (I.hok.fresh (Nat.le_succ _)) (I.hok.fresh (Nat.le_refl _)) (Nat.ne_of_lt (Nat.lt_succ_self _))
  have I2 := Inv.made (C := C) I
  have r2 : Vals (V.ref (s.heap.objs.size + 1) :: vs) (Value.ref (s.heap.objs.size + 1) :: us) := .cons rfl r
  have hl : (Value.ref (s.heap.objs.size + 1) :: us).length = ps.length := by
    have e := r2.length
    rw [F.len _ _ _ _ hq] at e
    exact e.symm
  have hbb := hb _ (Value.ref (s.heap.objs.size + 1) :: us) I2.kIn (by rw [List.append_nil]; exact hl)
  rw [List.append_nil] at hbb
  refine wpAny_call (make_map (f := f) I.kIn M.makes M.init (beq_iff_eq.mp M.fn) (codeAny_mono (F.run _ X.stack _ _ ⟨Value.ref (s.heap.objs.size + 1) :: us, []⟩ (Value.ref (s.heap.objs.size + 1) :: us) _ _ (E σ) (hr.make C us [])
    (I2.env0.make C us []) hbb r2 hq) fun r s' hq' => ?_))
  cases r with
  | error e => exact hx σ pins _ _ e s' I2 hq'
  | ok fl =>
    cases fl with
    | ret u =>
      obtain ⟨v, H', I3, rv, ev, q3⟩ := I2.after hq'
      subst ev
      exact ⟨rv, ⟨V.ref (s.heap.objs.size + 1), H', I3, rfl, q3⟩⟩
    | next => exact False.elim hq'
    | brk => exact False.elim hq'
    | cont => exact False.elim hq'
theorem pe_makeE (M : Mk X.K C f) (F : FnOk X.prog X.w X.K X.mg X.base CX k f fd ps sp) (hr : Room (k + 1) X.A) (hg : Gl X x) (hm : X.mg x = some (.ref C)) (hb : Binds X.K fd ps []) (hx : ∀ σ, PassesAt CX X σ (E σ))
    (ha : PA X (e :: es) t) (hdb : (x == ("__debug__" : Str)) = false := by decide) (he : starEach (e :: es) X.env = (false, eval e X.env) :: starEach es X.env := by rfl) (hpl : (backTo pos (starEach es X.env)).any (·.1) = false := by rfl) :
    PE X (.Call (.Name x p) (e :: es) [] pos) (fun σ H Q => t σ H fun vs H1 => ∀ x dx, H1 x = none → H1 dx = none → dx ≠ x → sp (.ref x :: vs) (upd (upd H1 dx (.own x)) x (.ins C dx [])) (fun v H2 => v = .non ∧ Q (.ref x) H2) (E σ)) := by
  refine ⟨fun pins s σ H Q I h => ?_⟩
  refine wpAny_Call_Name_kw (ld_glob I hg hm ?_ hdb)
  refine PySem.W.callWith_K (h₀ := X.base) I.ok.mod.kin M.kp (thn (ha.run pos pins s σ H _ I h) fun us s1 hq => ?_) he hpl
  obtain ⟨vs, H1, I1, r, q⟩ := hq
  exact ⟨I1.kIn, run_makeE M F hr hb hx I1 r q⟩
end
/-- a class of the program that can be made -/
structure MkT (K : PySem.W.Frag) (mg : Str → Option Value) (P : Program) (w : World) (base : Heap) (z : Str) (C : Addr) (ps : List Str) (k : Nat) (Pre : Pr) : Prop where
  ex : ∃ f fd, FnOk P w K mg base (L2.CX P w) k f fd ps (spG Pre) ∧ Mk K C f ∧ mg z = some (.ref C) ∧ Binds K fd ps []
section
variable {Z : Ctx} {D : DE} {e o : Expr} {es : List Expr} {ρ : List Slot} {own oa ob : Own} {pos p p2 q apos cpos : Pos} {s : Slot} {k j : Nat} {ss : List Slot} {z : Str} {ps : List Str} {Pre : Pr} {R : Slot → Own → Prop} {C x dx : Addr} {fs : List (Str × V)} {ds : List PyData} {d : PyData}
theorem eg_make {post : Addr → Addr → Out → Prop} (M : MkT Z.X.K Z.X.mg Z.X.prog Z.X.w Z.X.base z C ps j Pre) (g : Gd Z k) (hj : j + 1 ≤ k) (ha : EA Z (e :: es) ρ own ss) (hp : ∀ x dx, Pre (.raw (.ref x) :: ss) [(x, .raw (.ins C dx [])), (dx, .raw (.own x))] (post x dx)) (h1 : ∀ x dx s o1, post x dx (.ret s o1) → s = .d .none ∧ R (.raw (.ref x)) (o1 ++ own)) (h2 : ∀ x dx C o1, post x dx (.exc C o1) → Z.ex C ρ (o1 ++ own))
    (hg : Gl Z.X z := by rfl) (hdb : (z == ("__debug__" : Str)) = false := by decide) (he : starEach (e :: es) Z.X.env = (false, eval e Z.X.env) :: starEach es Z.X.env := by rfl) (hpl : (backTo pos (starEach es Z.X.env)).any (·.1) = false := by rfl) :
    EG Z (.Call (.Name z p) (e :: es) [] pos) ρ own R := by
  obtain ⟨f, fd, ok, mk, hm, hb⟩ := M.ex
  refine fun Hf σ H S E Q q => wE.of (pe_makeE (E := WE (Wish Z)) mk ok (g.hr.mono hj) hg hm hb (fun σ => passAt g.tk σ) paW hdb he hpl) (ha Hf σ H S E _ fun vs Hf1 H1 m1 S1 r1 => ?_)
  intro x dx nx nd ne
  have S2 : Sat Z.B Hf1 _ ((dx, .raw (.own x)) :: own) := S1.newOwn (o := .own x) nd upd_same
  have S3 : Sat Z.B Hf1 _ ([] ++ [(x, .raw (.ins C dx [])), (dx, .raw (.own x))] ++ own) := S2.newOwn (p := x) (o := .ins C dx []) (oo := .raw (.ins C dx [])) (by rw [upd_ne (Ne.symm ne)]; exact nx) upd_same
  refine ⟨Hf1, _, .raw (.ref x) :: ss, _, post x dx, S3.into, .cons rfl r1, hp x dx, fun s own' v Hf' H' hq S' r' hs => ?_, fun C own' Hf' H' hq S' => ?_⟩
  · obtain ⟨rfl, hR⟩ := h1 x dx s own' hq
    cases (show Rep Hf' v .none from r')
    have S4 := S3.back S'
    exact ⟨rfl, q (.ref x) Hf' H' (.raw (.ref x)) _ (m1.trans S'.e0) S4 rfl (fun z => nomatch z) hR⟩
  · exact ⟨C, Hf', ρ, _, rfl, rfl, S3.back S', E.mono (m1.trans S'.e0), h2 x dx C own' hq⟩
end
/-! sorted(set(xs)) -/
def insU (x : Int) : List Int → List Int
  | [] => [x]
  | y :: ys => if x < y then x :: y :: ys else if x = y then y :: ys else y :: insU x ys
def srtU : List Int → List Int
  | [] => []
  | x :: xs => insU x (srtU xs)
theorem insU_mem (x k : Int) : ∀ l, k ∈ insU x l ↔ k = x ∨ k ∈ l
  | [] => by simp [insU]
  | y :: ys => by
    unfold insU
    split
    · simp
    · split
      · rename_i h
        subst h
        simp
      · rw [List.mem_cons, insU_mem x k ys, List.mem_cons]
        constructor
        · rintro (h | h | h)
          · exact .inr (.inl h)
          · exact .inl h
          · exact .inr (.inr h)
        · rintro (h | h | h)
          · exact .inr (.inl h)
          · exact .inl h
          · exact .inr (.inr h)
theorem srtU_mem (k : Int) : ∀ l, k ∈ srtU l ↔ k ∈ l
  | [] => by simp [srtU]
  | x :: xs => by rw [srtU, insU_mem, srtU_mem k xs, List.mem_cons]
theorem insU_pw (x : Int) : ∀ l, l.Pairwise (· < ·) → (insU x l).Pairwise (· < ·)
  | [], _ => by simp [insU]
  | y :: ys, h => by
    have h' := List.pairwise_cons.mp h
    unfold insU
    split
    · rename_i hx
      refine List.pairwise_cons.mpr ⟨fun z hz => ?_, h⟩
      rcases List.mem_cons.mp hz with e | hz
      · rw [e]; exact hx
      · exact Int.lt_trans hx (h'.1 z hz)
    · split
      · exact h
      · refine List.pairwise_cons.mpr ⟨fun z hz => ?_, insU_pw x ys h'.2⟩
        rcases (insU_mem x z ys).mp hz with e | hz
        · omega
        · exact h'.1 z hz
theorem srtU_pw : ∀ l, (srtU l).Pairwise (· < ·)
  | [] => .nil
  | x :: xs => insU_pw x _ (srtU_pw xs)
theorem pw_ext : ∀ {a b : List Int}, a.Pairwise (· < ·) → b.Pairwise (· < ·) → (∀ k, k ∈ a ↔ k ∈ b) → a = b
  | [], [], _, _, _ => rfl
  | [], y :: b, _, _, h => absurd ((h y).mpr (by simp)) (by simp)
  | x :: a, [], _, _, h => absurd ((h x).mp (by simp)) (by simp)
  | x :: a, y :: b, ha, hb, h => by
    have ha' := List.pairwise_cons.mp ha
    have hb' := List.pairwise_cons.mp hb
    have e : x = y := by
      have h1 := (h x).mp (by simp)
      have h2 := (h y).mpr (by simp)
      rcases List.mem_cons.mp h1 with e | h1
      · exact e
      · rcases List.mem_cons.mp h2 with e | h2
        · exact e.symm
        · have := ha'.1 y h2
          have := hb'.1 x h1
          omega
    subst e
    rw [pw_ext ha'.2 hb'.2 fun k => ⟨fun hk => ?_, fun hk => ?_⟩]
    · rcases List.mem_cons.mp ((h k).mp (by simp [hk])) with e | z
      · have := ha'.1 k hk
        omega
      · exact z
    · rcases List.mem_cons.mp ((h k).mpr (by simp [hk])) with e | z
      · have := hb'.1 k hk
        omega
      · exact z
section
variable {Z : Ctx} {e : Expr} {ρ : List Slot} {own : Own} {pos p p2 q : Pos} {s : Slot} {k : Nat}
theorem el_sortedSet {ns : List Int} (g : Gd Z k) (hm : Z.X.mg "sorted" = none) (hm2 : Z.X.mg "set" = none) (h : ES Z e ρ own s) (L : Lst own s (ns.map PyData.int)) (hn : ns.length < 64) (hg : Gl Z.X "sorted" := by rfl) (hg2 : Gl Z.X "set" := by rfl) (hs : starEach [e] Z.X.env = (false, eval e Z.X.env) :: starEach [] Z.X.env := by rfl)
    (hs2 : starEach [.Call (.Name "set" p2) [e] [] q] Z.X.env = (false, eval (.Call (.Name "set" p2) [e] [] q) Z.X.env) :: starEach [] Z.X.env := by rfl) :
    EL Z (.Call (.Name "sorted" p) [.Call (.Name "set" p2) [e] [] q] [] pos) ρ own ((srtU ns).map PyData.int) := fun Hf σ H S E Q k =>
  wE.of (pe_callB (cr_sortedSet g.calm) hg hm (by decide +kernel) (pa_cons (pe_callTy (call_setL g.calm) hg2 hm2 boot_set (pa_cons peW pa_nil hs) (he := hs)) pa_nil hs2) (he := hs2)) (h Hf σ H S E _ fun v Hf1 H1 m1 S1 r1 => by
    obtain ⟨l, vs, rfl, e1, e2⟩ := L.at S1 r1
    cases e2.of_ints
    refine ⟨l, ns, rfl, SqL.of e1, by omega, fun p c hc hp => ?_⟩
    have S2 := S1.new hp (SetO Z.X.w p (fun j => decide (j ∈ ns)) c)
    refine ⟨p, _, c, rfl, upd_same, by omega, fun ms p' h1 h2 h3 hp' => ?_⟩
    have em : ms = srtU ns := pw_ext h1 (srtU_pw ns) fun k => by rw [h2 k, srtU_mem]; simp
    subst em
    exact k p' _ _ (m1.trans (S1.new_same hp _)) (S2.newOwn hp' ⟨_, upd_same, Reps.ints _⟩))
end
/-! ### a class of the text as the top has left it -/
structure ClsT (K : PySem.W.Frag) (mg : Str → Option Value) (z : Str) (C : Addr) : Prop where
  cl : Cls K C
  mks : PySem.W.makesIn K C = true
  kp : PySem.W.keepIn K (.ref C) = true
  at_ : mg z = some (.ref C)
structure DfM (K : PySem.W.Frag) (C : Addr) (z qual : Str) (st : Stmt) (ps : List Str) : Prop where
  ex : ∃ f fd, Fun K z qual st f fd ∧ PySem.W.findIn K (.ref C) z = some (some (.ref f)) ∧ PySem.W.isFn K (.ref f) = true ∧ ∀ us : List Value, us.length = ps.length → bindArgs fd ⟨us, []⟩ = pure (ps.zip us)
theorem DfM.mth {K : PySem.W.Frag} {mg : Str → Option Value} {P : Program} {w : World} {base : Heap} {C : Addr} {z qual : Str} {st : Stmt} {ps : List Str} {k : Nat} {Pre : Pr} (D : DfM K C z qual st ps) (h : ∀ f fd, Fun K z qual st f fd → FnOk P w K mg base (L2.CX P w) k f fd ps (spG Pre)) : Mth K mg P w base C z ps k Pre := by
  obtain ⟨f, fd, F, hm, hf, hb⟩ := D.ex
  exact ⟨f, fd, h f fd F, ⟨hm, hf, F.kp⟩, Binds.all hb⟩
theorem DfM.mkt {K : PySem.W.Frag} {mg : Str → Option Value} {P : Program} {w : World} {base : Heap} {C : Addr} {y qual : Str} {st : Stmt} {ps : List Str} {k : Nat} {Pre : Pr} (D : DfM K C "__init__" qual st ps) (c : ClsT K mg y C) (h : ∀ f fd, Fun K "__init__" qual st f fd → FnOk P w K mg base (L2.CX P w) k f fd ps (spG Pre)) : MkT K mg P w base y C ps k Pre := by
  obtain ⟨f, fd, F, hm, hf, hb⟩ := D.ex
  exact ⟨f, fd, h f fd F, ⟨c.mks, hm, hf, c.kp⟩, c.at_, Binds.all hb⟩
theorem dfm_mk {K : PySem.W.Frag} {C : Addr} {z qual : Str} {st : Stmt} {ps : List Str} {f : Addr} {oc : Value} {od an : Option Addr} {sl : Array (Option Value)} {kV dc pm cd ct : Value}
    (hb : ∀ (kV doc pm : Value) (an : Option Addr) (cdv ct : Value) (us : List Value), us.length = ps.length → bindArgs (PySem.W.fnOf z qual (defArgs st) (defBody st) (defScope st) .none kV doc pm an cdv ct) ⟨us, []⟩ = pure (ps.zip us))
    (a : PySem.W.findIn K (.ref C) z = some (some (.ref f))) (i : PySem.W.isFn K (.ref f) = true) (l : K.lookup f = some ⟨oc, od, .func (PySem.W.fnOf z qual (defArgs st) (defBody st) (defScope st) .none kV dc pm an cd ct), sl⟩) (c : PySem.W.codeIn K cd qual = true) (k : PySem.W.keepIn K (.ref f) = true) : DfM K C z qual st ps :=
  have F := fun_mk (st := st) l c k
  ⟨f, _, F, a, i, fun us hl => hb _ _ _ _ _ _ us hl⟩
theorem cls_mk {K : PySem.W.Frag} {mg : Str → Option Value} {h : Heap} {z : Str} {C : Addr} (X : K.In h) (G : h.Ns mainGlobals mg) (a : PySem.W.nsIn K mainGlobals z = some (some (.ref C))) (pg : PySem.W.plainGet K C Str.empty = true) (hd : PySem.W.hasDictIn K C = true) (po : PySem.W.plainOver K C = true)
    (sa : PySem.W.findIn K (.ref C) "__setattr__" = some (some (.builtin "object.__setattr__"))) (mk : PySem.W.makesIn K C = true) (kc : PySem.W.keepIn K (.ref C) = true) : ClsT K mg z C := ⟨⟨pg, hd, po, sa⟩, mk, kc, PySem.W.mg_of X G a⟩
end Sd


/-! plain defs (no defaults): what the binder makes, once for all -/
namespace Sd
open PySem PySem.Spec PyProof.Rows L2
def plainA (a : Arguments) (ps : List Str) : Bool := a.posonlyargs.isEmpty && (a.args.map (·.arg) == ps && (a.vararg.isNone && (a.kwonlyargs.isEmpty && (a.kwarg.isNone && decide ps.Nodup))))
theorem lookz_bind : ∀ {ps : List Str} {us : List Value}, us.length = ps.length → ∀ n ∈ ps, (List.lookup n (ps.zip us)).isSome = true
  | [], _, _, n, h => nomatch h
  | p :: ps, [], hl, _, _ => nomatch hl
  | p :: ps, u :: us, hl, n, h => by
    rw [List.zip_cons_cons, List.lookup_cons]
    split
    · rfl
    · rename_i hne
      rcases List.mem_cons.mp h with rfl | h
      · simp at hne
      · exact lookz_bind (by simpa using hl) n h
theorem fmc_bind {α β : Type} {f g : α → Option β} : ∀ {l : List α}, (∀ x ∈ l, f x = g x) → l.filterMap f = l.filterMap g
  | [], _ => rfl
  | x :: l, h => by rw [List.filterMap_cons, List.filterMap_cons, h x (.head _), fmc_bind fun y hy => h y (.tail _ hy)]
theorem mapz_bind : ∀ {ps : List Str} {us : List Value}, us.length = ps.length → ps.Nodup → ps.filterMap (fun n => (List.lookup n (ps.zip us)).map (Prod.mk n)) = ps.zip us
  | [], _, _, _ => rfl
  | p :: ps, [], hl, _ => nomatch hl
  | p :: ps, u :: us, hl, nd => by
    rw [List.nodup_cons] at nd
    rw [List.zip_cons_cons, List.filterMap_cons, List.lookup_cons]
    simp only [beq_self_eq_true, Option.map_some]
    congr 1
    refine Eq.trans ?_ (mapz_bind (ps := ps) (us := us) (by simpa using hl) nd.2)
    refine fmc_bind fun n hn => ?_
    rw [List.lookup_cons, beq_eq_false_iff_ne.mpr (show n ≠ p from fun e => nd.1 (by rw [← e]; exact hn))]
theorem bind_plain {fd : FuncData} {ps : List Str} {us : List Value} (h : plainA fd.params ps = true) (hd : fd.defaults = .none) (hl : us.length = ps.length) : bindArgs fd ⟨us, []⟩ = pure (ps.zip us) := by
  simp only [plainA, Bool.and_eq_true, List.isEmpty_iff, beq_iff_eq, Option.isNone_iff_eq_none, decide_eq_true_eq] at h
  obtain ⟨h1, h2, h3, h4, h5, nd⟩ := h
  have hm : (ps.filter fun n => (List.lookup n (ps.zip us)).isNone) = [] := List.filter_eq_nil_iff.mpr fun n hn => by
    have := lookz_bind hl n hn
    cases h : List.lookup n (ps.zip us) <;> simp_all
  have hz := mapz_bind hl nd
  have hq : seqItems? Value.none = pure none := rfl
  have hg : decide (us.length > ps.length) = false := decide_eq_false (by omega)
  unfold bindArgs
  simp only [h1, h2, h3, h4, h5, hd, hq, hg, List.map_nil, List.nil_append, List.append_nil, List.forIn_nil, pure_bind, Option.getD_none, List.drop_nil, List.length_nil, Nat.sub_zero, List.take_length, List.drop_length, List.zip_nil_right, hm, List.isEmpty_nil, Bool.not_true, Bool.false_and, Bool.false_eq_true, if_false]
  exact congrArg pure hz
theorem df_mk2 {K : PySem.W.Frag} {mg : Str → Option Value} {h : Heap} {z : Str} {st : Stmt} {ps : List Str} {f : Addr} {oc : Value} {od an : Option Addr} {sl : Array (Option Value)} {kV dc pm cd ct : Value} (X : K.In h) (G : h.Ns mainGlobals mg) (hb : plainA (defArgs st) ps = true)
    (a : PySem.W.nsIn K mainGlobals z = some (some (.ref f))) (l : K.lookup f = some ⟨oc, od, .func (PySem.W.fnOf z z (defArgs st) (defBody st) (defScope st) .none kV dc pm an cd ct), sl⟩) (c : PySem.W.codeIn K cd z = true) (k : PySem.W.keepIn K (.ref f) = true) : Df K mg z st ps :=
  df_mk X G (fun _ _ _ _ _ _ _ hl => bind_plain hb rfl hl) a l c k
end Sd


/-! sums, binomial laws -/
namespace Sd
def sumTo (f : Nat → Rat) : Nat → Rat
  | 0 => 0
  | n + 1 => sumTo f n + f n
end Sd


namespace Pg
open PySem PySem.Spec PyProof.Rows L2 Sd
def topS (i : Nat) : Stmt := PySem.Challenge.pw_samedays_k13_examples.main.body.getD i (.Pass ⟨0, 0, 0, 0⟩)
abbrev s_wall : Stmt := topS 0
theorem pa_wall : plainA (defArgs s_wall) ["k"] = true := by decide +kernel
abbrev s_is_int : Stmt := topS 9
theorem sc_is_int : FnScope ["value", "low", "high"] ["value", "low", "high"] (defScope s_is_int) := ⟨rfl, rfl, rfl, by decide +kernel, rfl, by decide +kernel, by decide +kernel⟩
theorem pa_is_int : plainA (defArgs s_is_int) ["value", "low", "high"] = true := by decide +kernel
abbrev s_common : Stmt := topS 10
theorem sc_common : FnScope ["one", "other"] ["one", "other"] (defScope s_common) := ⟨rfl, rfl, rfl, by decide +kernel, rfl, by decide +kernel, by decide +kernel⟩
theorem pa_common : plainA (defArgs s_common) ["one", "other"] = true := by decide +kernel
abbrev s_is_year : Stmt := topS 11
theorem sc_is_year : FnScope ["value", "one"] ["value"] (defScope s_is_year) := ⟨rfl, rfl, rfl, by decide +kernel, rfl, by decide +kernel, by decide +kernel⟩
theorem pa_is_year : plainA (defArgs s_is_year) ["value"] = true := by decide +kernel
abbrev s_is_share : Stmt := topS 12
theorem sc_is_share : FnScope ["value", "part"] ["value"] (defScope s_is_share) := ⟨rfl, rfl, rfl, by decide +kernel, rfl, by decide +kernel, by decide +kernel⟩
theorem pa_is_share : plainA (defArgs s_is_share) ["value"] = true := by decide +kernel
abbrev s_check_year : Stmt := topS 13
theorem sc_check_year : FnScope ["value"] ["value"] (defScope s_check_year) := ⟨rfl, rfl, rfl, by decide +kernel, rfl, by decide +kernel, by decide +kernel⟩
theorem pa_check_year : plainA (defArgs s_check_year) ["value"] = true := by decide +kernel
abbrev s_check_day : Stmt := topS 14
theorem sc_check_day : FnScope ["year", "value"] ["year", "value"] (defScope s_check_day) := ⟨rfl, rfl, rfl, by decide +kernel, rfl, by decide +kernel, by decide +kernel⟩
theorem pa_check_day : plainA (defArgs s_check_day) ["year", "value"] = true := by decide +kernel
abbrev s_check_many : Stmt := topS 15
theorem sc_check_many : FnScope ["value"] ["value"] (defScope s_check_many) := ⟨rfl, rfl, rfl, by decide +kernel, rfl, by decide +kernel, by decide +kernel⟩
theorem pa_check_many : plainA (defArgs s_check_many) ["value"] = true := by decide +kernel
abbrev s_check_share : Stmt := topS 16
theorem sc_check_share : FnScope ["value"] ["value"] (defScope s_check_share) := ⟨rfl, rfl, rfl, by decide +kernel, rfl, by decide +kernel, by decide +kernel⟩
theorem pa_check_share : plainA (defArgs s_check_share) ["value"] = true := by decide +kernel
abbrev s_lowest : Stmt := topS 18
theorem sc_lowest : FnScope ["top", "below", "divisor"] ["top", "below"] (defScope s_lowest) := ⟨rfl, rfl, rfl, by decide +kernel, rfl, by decide +kernel, by decide +kernel⟩
theorem pa_lowest : plainA (defArgs s_lowest) ["top", "below"] = true := by decide +kernel
abbrev s_plus : Stmt := topS 19
theorem sc_plus : FnScope ["one", "other"] ["one", "other"] (defScope s_plus) := ⟨rfl, rfl, rfl, by decide +kernel, rfl, by decide +kernel, by decide +kernel⟩
theorem pa_plus : plainA (defArgs s_plus) ["one", "other"] = true := by decide +kernel
abbrev s_minus : Stmt := topS 20
theorem sc_minus : FnScope ["one", "other"] ["one", "other"] (defScope s_minus) := ⟨rfl, rfl, rfl, by decide +kernel, rfl, by decide +kernel, by decide +kernel⟩
theorem pa_minus : plainA (defArgs s_minus) ["one", "other"] = true := by decide +kernel
abbrev s_at_most : Stmt := topS 21
theorem sc_at_most : FnScope ["one", "other"] ["one", "other"] (defScope s_at_most) := ⟨rfl, rfl, rfl, by decide +kernel, rfl, by decide +kernel, by decide +kernel⟩
theorem pa_at_most : plainA (defArgs s_at_most) ["one", "other"] = true := by decide +kernel
abbrev s_power : Stmt := topS 22
theorem sc_power : FnScope ["base", "exponent", "found", "turn"] ["base", "exponent"] (defScope s_power) := ⟨rfl, rfl, rfl, by decide +kernel, rfl, by decide +kernel, by decide +kernel⟩
theorem pa_power : plainA (defArgs s_power) ["base", "exponent"] = true := by decide +kernel
abbrev s_choose : Stmt := topS 23
theorem sc_choose : FnScope ["whole", "part", "found", "k"] ["whole", "part"] (defScope s_choose) := ⟨rfl, rfl, rfl, by decide +kernel, rfl, by decide +kernel, by decide +kernel⟩
theorem pa_choose : plainA (defArgs s_choose) ["whole", "part"] = true := by decide +kernel
abbrev s_ordered : Stmt := topS 24
theorem sc_ordered : FnScope ["many", "found", "k"] ["many"] (defScope s_ordered) := ⟨rfl, rfl, rfl, by decide +kernel, rfl, by decide +kernel, by decide +kernel⟩
theorem pa_ordered : plainA (defArgs s_ordered) ["many"] = true := by decide +kernel
abbrev s_product_sums : Stmt := topS 25
theorem sc_product_sums : FnScope ["year", "found", "weight", "longer", "k"] ["year"] (defScope s_product_sums) := ⟨rfl, rfl, rfl, by decide +kernel, rfl, by decide +kernel, by decide +kernel⟩
theorem pa_product_sums : plainA (defArgs s_product_sums) ["year"] = true := by decide +kernel
abbrev s_unlike_of : Stmt := topS 27
theorem sc_unlike_of : FnScope ["year", "many", "sums"] ["year", "many"] (defScope s_unlike_of) := ⟨rfl, rfl, rfl, by decide +kernel, rfl, by decide +kernel, by decide +kernel⟩
theorem pa_unlike_of : plainA (defArgs s_unlike_of) ["year", "many"] = true := by decide +kernel
abbrev s_all_unlike : Stmt := topS 28
theorem sc_all_unlike : FnScope ["year", "many"] ["year", "many"] (defScope s_all_unlike) := ⟨rfl, rfl, rfl, by decide +kernel, rfl, by decide +kernel, by decide +kernel⟩
theorem pa_all_unlike : plainA (defArgs s_all_unlike) ["year", "many"] = true := by decide +kernel
abbrev s_some_same : Stmt := topS 29
theorem sc_some_same : FnScope ["year", "many"] ["year", "many"] (defScope s_some_same) := ⟨rfl, rfl, rfl, by decide +kernel, rfl, by decide +kernel, by decide +kernel⟩
theorem pa_some_same : plainA (defArgs s_some_same) ["year", "many"] = true := by decide +kernel
abbrev s_mean_until_same : Stmt := topS 30
theorem sc_mean_until_same : FnScope ["year", "found", "many"] ["year"] (defScope s_mean_until_same) := ⟨rfl, rfl, rfl, by decide +kernel, rfl, by decide +kernel, by decide +kernel⟩
theorem pa_mean_until_same : plainA (defArgs s_mean_until_same) ["year"] = true := by decide +kernel
abbrev s_needed : Stmt := topS 31
theorem sc_needed : FnScope ["year", "share", "many"] ["year", "share"] (defScope s_needed) := ⟨rfl, rfl, rfl, by decide +kernel, rfl, by decide +kernel, by decide +kernel⟩
theorem pa_needed : plainA (defArgs s_needed) ["year", "share"] = true := by decide +kernel
abbrev s_pair_ways : Stmt := topS 33
theorem sc_pair_ways : FnScope ["year", "many", "known", "weight", "fresh", "whole", "pairs", "ways", "own", "key"] ["year", "many"] (defScope s_pair_ways) := ⟨rfl, rfl, rfl, by decide +kernel, rfl, by decide +kernel, by decide +kernel⟩
theorem pa_pair_ways : plainA (defArgs s_pair_ways) ["year", "many"] = true := by decide +kernel
abbrev s_pair_chances : Stmt := topS 34
theorem sc_pair_chances : FnScope ["year", "many", "whole", "pairs", "ways"] ["year", "many"] (defScope s_pair_chances) := ⟨rfl, rfl, rfl, by decide +kernel, rfl, by decide +kernel, by decide +kernel⟩
theorem pa_pair_chances : plainA (defArgs s_pair_chances) ["year", "many"] = true := by decide +kernel
abbrev s_used_ways : Stmt := topS 36
theorem sc_used_ways : FnScope ["year", "many", "table", "weight", "fresh", "days", "row", "whole", "ways", "own", "k"] ["year", "many"] (defScope s_used_ways) := ⟨rfl, rfl, rfl, by decide +kernel, rfl, by decide +kernel, by decide +kernel⟩
theorem pa_used_ways : plainA (defArgs s_used_ways) ["year", "many"] = true := by decide +kernel
abbrev s_all_used_of : Stmt := topS 37
theorem sc_all_used_of : FnScope ["year", "many"] ["year", "many"] (defScope s_all_used_of) := ⟨rfl, rfl, rfl, by decide +kernel, rfl, by decide +kernel, by decide +kernel⟩
theorem pa_all_used_of : plainA (defArgs s_all_used_of) ["year", "many"] = true := by decide +kernel
abbrev s_mean_until_all : Stmt := topS 38
theorem sc_mean_until_all : FnScope ["year", "found", "whole", "sets", "weight", "one", "sign"] ["year"] (defScope s_mean_until_all) := ⟨rfl, rfl, rfl, by decide +kernel, rfl, by decide +kernel, by decide +kernel⟩
theorem pa_mean_until_all : plainA (defArgs s_mean_until_all) ["year"] = true := by decide +kernel
abbrev s_needed_for_all : Stmt := topS 39
theorem sc_needed_for_all : FnScope ["year", "share", "many"] ["year", "share"] (defScope s_needed_for_all) := ⟨rfl, rfl, rfl, by decide +kernel, rfl, by decide +kernel, by decide +kernel⟩
theorem pa_needed_for_all : plainA (defArgs s_needed_for_all) ["year", "share"] = true := by decide +kernel
abbrev s_check_counts : Stmt := topS 41
theorem sc_check_counts : FnScope ["year", "value", "one"] ["year", "value"] (defScope s_check_counts) := ⟨rfl, rfl, rfl, by decide +kernel, rfl, by decide +kernel, by decide +kernel⟩
theorem pa_check_counts : plainA (defArgs s_check_counts) ["year", "value"] = true := by decide +kernel
abbrev s_placed : Stmt := topS 42
theorem sc_placed : FnScope ["year", "counts", "ways", "left", "weight", "own"] ["year", "counts"] (defScope s_placed) := ⟨rfl, rfl, rfl, by decide +kernel, rfl, by decide +kernel, by decide +kernel⟩
theorem pa_placed : plainA (defArgs s_placed) ["year", "counts"] = true := by decide +kernel
abbrev s_more_same : Stmt := topS 44
theorem sc_more_same : FnScope ["one", "other", "many", "first", "last"] ["one", "other", "many"] (defScope s_more_same) := ⟨rfl, rfl, rfl, by decide +kernel, rfl, by decide +kernel, by decide +kernel⟩
theorem pa_more_same : plainA (defArgs s_more_same) ["one", "other", "many"] = true := by decide +kernel
abbrev s_is_even : Stmt := topS 45
theorem sc_is_even : FnScope ["year"] ["year"] (defScope s_is_even) := ⟨rfl, rfl, rfl, by decide +kernel, rfl, by decide +kernel, by decide +kernel⟩
theorem pa_is_even : plainA (defArgs s_is_even) ["year"] = true := by decide +kernel
abbrev s_root_of : Stmt := topS 47
theorem sc_root_of : FnScope ["number", "low", "high", "middle"] ["number"] (defScope s_root_of) := ⟨rfl, rfl, rfl, by decide +kernel, rfl, by decide +kernel, by decide +kernel⟩
theorem pa_root_of : plainA (defArgs s_root_of) ["number"] = true := by decide +kernel
abbrev s_two_days : Stmt := topS 48
theorem sc_two_days : FnScope ["chance", "top", "below", "whole", "first", "last", "high", "low", "pair"] ["chance"] (defScope s_two_days) := ⟨rfl, rfl, rfl, by decide +kernel, rfl, by decide +kernel, by decide +kernel⟩
theorem pa_two_days : plainA (defArgs s_two_days) ["chance"] = true := by decide +kernel
abbrev s_equal_days : Stmt := topS 49
theorem sc_equal_days : FnScope ["chance"] ["chance"] (defScope s_equal_days) := ⟨rfl, rfl, rfl, by decide +kernel, rfl, by decide +kernel, by decide +kernel⟩
theorem pa_equal_days : plainA (defArgs s_equal_days) ["chance"] = true := by decide +kernel
abbrev s_checked : Stmt := topS 51
theorem sc_checked : FnScope ["year"] ["year"] (defScope s_checked) := ⟨rfl, rfl, rfl, by decide +kernel, rfl, by decide +kernel, by decide +kernel⟩
theorem pa_checked : plainA (defArgs s_checked) ["year"] = true := by decide +kernel
abbrev s_put_together : Stmt := topS 52
theorem sc_put_together : FnScope ["year", "one", "other", "found"] ["year", "one", "other"] (defScope s_put_together) := ⟨rfl, rfl, rfl, by decide +kernel, rfl, by decide +kernel, by decide +kernel⟩
theorem pa_put_together : plainA (defArgs s_put_together) ["year", "one", "other"] = true := by decide +kernel
abbrev s_Calendar_init : Stmt := inClass (topS 54) 0
theorem sc_Calendar_init : FnScope ["self", "year"] ["self", "year"] (defScope s_Calendar_init) := ⟨rfl, rfl, rfl, by decide +kernel, rfl, by decide +kernel, by decide +kernel⟩
abbrev s_Calendar_put : Stmt := inClass (topS 54) 1
theorem sc_Calendar_put : FnScope ["self", "day"] ["self", "day"] (defScope s_Calendar_put) := ⟨rfl, rfl, rfl, by decide +kernel, rfl, by decide +kernel, by decide +kernel⟩
abbrev s_Calendar_counts : Stmt := inClass (topS 54) 2
abbrev s_Calendar_pairs : Stmt := inClass (topS 54) 3
abbrev s_Calendar_next_same : Stmt := inClass (topS 54) 4
theorem sc_Calendar_next_same : FnScope ["self", "used", "day"] ["self"] (defScope s_Calendar_next_same) := ⟨rfl, rfl, rfl, by decide +kernel, rfl, by decide +kernel, by decide +kernel⟩
abbrev s_Calendar_days : Stmt := inClass (topS 54) 5
abbrev s_Calendar_undo : Stmt := inClass (topS 54) 6
abbrev s_Calendar_len : Stmt := inClass (topS 54) 7
abbrev s_format_year : Stmt := topS 56
theorem sc_format_year : FnScope ["year", "weight"] ["year"] (defScope s_format_year) := ⟨rfl, rfl, rfl, by decide +kernel, rfl, by decide +kernel, by decide +kernel⟩
theorem pa_format_year : plainA (defArgs s_format_year) ["year"] = true := by decide +kernel
abbrev s_law_start : Stmt := topS 58
theorem sc_law_start : FnScope ["script"] ["script"] (defScope s_law_start) := ⟨rfl, rfl, rfl, by decide +kernel, rfl, by decide +kernel, by decide +kernel⟩
theorem pa_law_start : plainA (defArgs s_law_start) ["script"] = true := by decide +kernel
abbrev s_law_draw : Stmt := topS 59
theorem sc_law_draw : FnScope ["draws", "limit", "numbers", "at", "cell", "mixed"] ["draws", "limit"] (defScope s_law_draw) := ⟨rfl, rfl, rfl, by decide +kernel, rfl, by decide +kernel, by decide +kernel⟩
theorem pa_law_draw : plainA (defArgs s_law_draw) ["draws", "limit"] = true := by decide +kernel
abbrev s_law_first : Stmt := topS 60
theorem sc_law_first : FnScope ["year"] ["year"] (defScope s_law_first) := ⟨rfl, rfl, rfl, by decide +kernel, rfl, by decide +kernel, by decide +kernel⟩
theorem pa_law_first : plainA (defArgs s_law_first) ["year"] = true := by decide +kernel
abbrev s_law_second : Stmt := topS 61
theorem sc_law_second : FnScope ["year"] ["year"] (defScope s_law_second) := ⟨rfl, rfl, rfl, by decide +kernel, rfl, by decide +kernel, by decide +kernel⟩
theorem pa_law_second : plainA (defArgs s_law_second) ["year"] = true := by decide +kernel
abbrev s_law : Stmt := topS 62
theorem sc_law : FnScope ["script", "draws", "year", "shown", "size", "even"] ["script"] (defScope s_law) := ⟨rfl, rfl, rfl, by decide +kernel, rfl, by decide +kernel, by decide +kernel⟩
theorem pa_law : plainA (defArgs s_law) ["script"] = true := by decide +kernel
structure Tx (K : PySem.W.Frag) (mg : Str → Option Value) (c : Cl) : Prop where
  d_wall : Df K mg "_wall" s_wall ["k"]
  e_DayError : ErrC K mg "DayError" c.DayError
  e_BadYear : ErrC K mg "BadYear" c.BadYear
  e_BadDay : ErrC K mg "BadDay" c.BadDay
  e_BadNumber : ErrC K mg "BadNumber" c.BadNumber
  e_BadShare : ErrC K mg "BadShare" c.BadShare
  e_NotFound : ErrC K mg "NotFound" c.NotFound
  k_MOST_THINGS : ∃ t, mg "MOST_THINGS" = some (.int 12 t)
  d_is_int : Df K mg "is_int" s_is_int ["value", "low", "high"]
  d_common : Df K mg "common" s_common ["one", "other"]
  d_is_year : Df K mg "is_year" s_is_year ["value"]
  d_is_share : Df K mg "is_share" s_is_share ["value"]
  d_check_year : Df K mg "check_year" s_check_year ["value"]
  d_check_day : Df K mg "check_day" s_check_day ["year", "value"]
  d_check_many : Df K mg "check_many" s_check_many ["value"]
  d_check_share : Df K mg "check_share" s_check_share ["value"]
  d_lowest : Df K mg "lowest" s_lowest ["top", "below"]
  d_plus : Df K mg "plus" s_plus ["one", "other"]
  d_minus : Df K mg "minus" s_minus ["one", "other"]
  d_at_most : Df K mg "at_most" s_at_most ["one", "other"]
  d_power : Df K mg "power" s_power ["base", "exponent"]
  d_choose : Df K mg "choose" s_choose ["whole", "part"]
  d_ordered : Df K mg "ordered" s_ordered ["many"]
  d_product_sums : Df K mg "product_sums" s_product_sums ["year"]
  d_unlike_of : Df K mg "unlike_of" s_unlike_of ["year", "many"]
  d_all_unlike : Df K mg "all_unlike" s_all_unlike ["year", "many"]
  d_some_same : Df K mg "some_same" s_some_same ["year", "many"]
  d_mean_until_same : Df K mg "mean_until_same" s_mean_until_same ["year"]
  d_needed : Df K mg "needed" s_needed ["year", "share"]
  d_pair_ways : Df K mg "pair_ways" s_pair_ways ["year", "many"]
  d_pair_chances : Df K mg "pair_chances" s_pair_chances ["year", "many"]
  d_used_ways : Df K mg "used_ways" s_used_ways ["year", "many"]
  d_all_used_of : Df K mg "all_used_of" s_all_used_of ["year", "many"]
  d_mean_until_all : Df K mg "mean_until_all" s_mean_until_all ["year"]
  d_needed_for_all : Df K mg "needed_for_all" s_needed_for_all ["year", "share"]
  d_check_counts : Df K mg "check_counts" s_check_counts ["year", "value"]
  d_placed : Df K mg "placed" s_placed ["year", "counts"]
  d_more_same : Df K mg "more_same" s_more_same ["one", "other", "many"]
  d_is_even : Df K mg "is_even" s_is_even ["year"]
  d_root_of : Df K mg "root_of" s_root_of ["number"]
  d_two_days : Df K mg "two_days" s_two_days ["chance"]
  d_equal_days : Df K mg "equal_days" s_equal_days ["chance"]
  d_checked : Df K mg "checked" s_checked ["year"]
  d_put_together : Df K mg "put_together" s_put_together ["year", "one", "other"]
  o_Calendar : ClsT K mg "Calendar" c.Calendar
  o_year : NoAttr K c.Calendar "year"
  o_line : NoAttr K c.Calendar "line"
  m_init : DfM K c.Calendar "__init__" "Calendar.__init__" s_Calendar_init ["self", "year"]
  m_put : DfM K c.Calendar "put" "Calendar.put" s_Calendar_put ["self", "day"]
  m_counts : DfM K c.Calendar "counts" "Calendar.counts" s_Calendar_counts ["self"]
  m_pairs : DfM K c.Calendar "pairs" "Calendar.pairs" s_Calendar_pairs ["self"]
  m_next_same : DfM K c.Calendar "next_same" "Calendar.next_same" s_Calendar_next_same ["self"]
  m_days : DfM K c.Calendar "days" "Calendar.days" s_Calendar_days ["self"]
  m_undo : DfM K c.Calendar "undo" "Calendar.undo" s_Calendar_undo ["self"]
  m_len : DfM K c.Calendar "__len__" "Calendar.__len__" s_Calendar_len ["self"]
  d_format_year : Df K mg "format_year" s_format_year ["year"]
  d_law_start : Df K mg "_law_start" s_law_start ["script"]
  d_law_draw : Df K mg "_law_draw" s_law_draw ["draws", "limit"]
  d_law_first : Df K mg "_law_first" s_law_first ["year"]
  d_law_second : Df K mg "_law_second" s_law_second ["year"]
  d_law : Df K mg "law" s_law ["script"]
  n_isinstance : mg "isinstance" = none
  n_int : mg "int" = none
  n_bool : mg "bool" = none
  n_all : mg "all" = none
  n_list : mg "list" = none
  n_len : mg "len" = none
  n_tuple : mg "tuple" = none
  n_abs : mg "abs" = none
  n_range : mg "range" = none
  n_sum : mg "sum" = none
  n_sorted : mg "sorted" = none
  n_enumerate : mg "enumerate" = none
  n_zip : mg "zip" = none
  n_set : mg "set" = none
  n_str : mg "str" = none
end Pg

namespace Pg
open PySem PySem.Spec PyProof.Rows L2 Sd
section
variable {P : Program} {w : World} {K : PySem.W.Frag} {mg : Str → Option Value} {base : Heap} {c : Cl}
def pre_is_int : Pr := fun ss own post => ∃ x lo hi, ss = [.d x, .d (.int lo), .d (.int hi)] ∧ own = [] ∧ post = fun o => o = .ret (.d (.bool (isInt x lo hi))) []
theorem fn_is_int (T : Tx K mg c) : Fn K mg P w base "is_int" ["value", "low", "high"] 1 pre_is_int := T.d_is_int.fn fun f fd F => okG (k := 0) F sc_is_int (by rintro ss own post ⟨x, lo, hi, rfl, _⟩; rfl) (by
  rintro ss own post ⟨x, lo, hi, rfl, rfl, rfl⟩ cdv A outer s H E B g
  refine sds_nd 0 rfl fun hx => ?_
  have hx := hx.1
  refine sds_one (sd_retD (x := .bool (isInt x lo hi)) (ES.is (ed_and (l := isInt x lo hi) (ed_isi (x := x) (l := (kitB (tyD x) "int").getD false) T.n_isinstance (ed_v 0) .d (ev_ty (T := "int") rfl T.n_int (by decide +kernel)) ?_) fun hk => ?_) ?_) rfl)
  · cases x <;> first | rfl | exact absurd rfl (hx _)
  · refine ES.is (ed_and (l := isInt x lo hi) (ed_not (ed_isi (x := x) (l := (kitB (tyD x) "bool").getD false) T.n_isinstance (ed_v 0) .d (ev_ty (T := "bool") rfl T.n_bool (by decide +kernel)) ?_)) fun hk2 => ed_one ?_) ?_
    · cases x <;> first | rfl | exact absurd rfl (hx _)
    · cases x with
      | int i => exact ed_chain c_le c_le (ed_v 1) (ed_v 0) (ed_v 2)
      | bool b => exact nomatch (show false = true from hk2)
      | none => exact nomatch (show false = true from hk)
      | str z => exact nomatch (show false = true from hk)
      | list z => exact nomatch (show false = true from hk)
      | tuple z => exact nomatch (show false = true from hk)
      | dict z => exact absurd rfl (hx z)
    · cases x <;> first | rfl | exact nomatch (show false = true from hk) | exact absurd rfl (hx _)
  · cases x <;> first | rfl | exact absurd rfl (hx _))
end
end Pg

namespace Pg
open PySem PySem.Spec PyProof.Rows L2 Sd
section
variable {P : Program} {w : World} {K : PySem.W.Frag} {mg : Str → Option Value} {base : Heap} {c : Cl}
def pre_is_year : Pr := fun ss own post => ∃ x, ss = [.d x] ∧ own = [] ∧ post = fun o => o = .ret (.d (.bool (isYear x))) []
theorem fn_is_year (T : Tx K mg c) : Fn K mg P w base "is_year" ["value"] 2 pre_is_year := T.d_is_year.fn fun f fd F => okG (k := 1) F sc_is_year (by rintro ss own post ⟨x, rfl, _⟩; rfl) (by
  rintro ss own post ⟨x, rfl, rfl, rfl⟩ cdv A outer s H E B g
  refine sds_nd 0 rfl fun hx => ?_
  have hx := hx.1
  by_cases hl : ∃ ds, x = .list ds
  · obtain ⟨ds, rfl⟩ := hl
    refine sds_cons (sd_if (l := !(decide (1 ≤ (ds.length : Int)) && decide ((ds.length : Int) ≤ 8))) (ET.is (EW.et (ew_or (et_not (et_val (ed_isi (x := .list ds) (l := true) T.n_isinstance (ed_v 0) .d (ev_ty (T := "list") rfl T.n_list (by decide +kernel)) rfl))) fun _ => ew_or1 (et_not (et_chain c_le c_le ed_int (ed_len T.n_len (ed_v 0) .d) ed_int)))) (by simp)) (fun h => ?_) fun h => ?_)
    · refine sds_one (sd_retD ed_bl ?_)
      have : isYear (.list ds) = false := by
        unfold isYear
        simp only [Bool.not_eq_true', Bool.and_eq_false_iff] at h ⊢
        exact .inl h
      rw [this]
    · have h : (decide (1 ≤ (ds.length : Int)) && decide ((ds.length : Int) ≤ 8)) = true := by simpa using h
      have hlen : ds.length ≤ 8 := by simp at h; omega
      refine sds_nil (sds_one (sd_retD (ed_all (ns := ds.map fun d => isInt d 1 20) g T.n_all (EL.ed (ds := (ds.map fun d => isInt d 1 20).map PyData.bool) (EL.is (el_comp g (compP g (it_list (ed_v 0)) [("one", 1)] (blkOk_by (N := ["value", "one"]) (sc := defScope s_is_year) (by decide +kernel)) ds id (by simp) (fun d => some (.bool (isInt d 1 20))) (fun d => [.d (.list ds), .d d]) [1] (by simp) (by omega) (fun _ _ => trivial)
        (fun d _ s H C cl fp g' => gt_name 1 g'.nd) (fun d _ s H C cl fp o g' => ets_nil) (fun d _ x hx s H C cl fp o g' => ?_))) ?_)) .d) ?_))
      · cases hx
        exact es_call (fn_is_int T) g' (by decide) (ea_cons (ed_v 1) (ea_cons ed_int (ea_cons ed_int ea_nil))) ⟨d, 1, 20, rfl, rfl, rfl⟩
      · rw [List.map_map]
        exact List.filterMap_eq_map' .. |>.symm ▸ rfl
      · show Out.ret (.d (.bool ((ds.map fun d => isInt d 1 20).all id))) [] = Out.ret (.d (.bool (isYear (.list ds)))) []
        have e : isYear (.list ds) = (decide (1 ≤ (ds.length : Int)) && decide ((ds.length : Int) ≤ 8) && (ds.map fun d => isInt d 1 20).all id) := rfl
        rw [e, h, Bool.true_and]
  · have hk : kitB (tyD x) "list" = some false := by
      cases x <;> first | rfl | exact absurd ⟨_, rfl⟩ hl | exact absurd rfl (hx _)
    refine sds_cons (sd_if (l := true) (EW.et (ew_or (k := true) (l := true) (et_not (k := false) (et_val (ed_isi (x := x) (l := false) T.n_isinstance (ed_v 0) .d (ev_ty (T := "list") rfl T.n_list (by decide +kernel)) hk))) fun h => nomatch h)) (fun h => ?_) fun h => nomatch h)
    refine sds_one (sd_retD ed_bl ?_)
    cases x <;> first | rfl | exact absurd ⟨_, rfl⟩ hl)
end
end Pg

namespace Pg
open PySem PySem.Spec PyProof.Rows L2 Sd
section
variable {P : Program} {w : World} {K : PySem.W.Frag} {mg : Str → Option Value} {base : Heap} {c : Cl}
def pre_check_year (c : Cl) : Pr := fun ss own post => ∃ x, ss = [.d x] ∧ own = [] ∧ post = fun o => o = if isYear x = true then .ret (.d .none) [] else .exc c.BadYear []
theorem fn_check_year (T : Tx K mg c) : Fn K mg P w base "check_year" ["value"] 3 (pre_check_year c) := T.d_check_year.fn fun f fd F => okG (k := 2) F sc_check_year (by rintro ss own post ⟨x, rfl, _⟩; rfl) (by
  rintro ss own post ⟨x, rfl, rfl, rfl⟩ cdv A outer s H E B g
  refine sds_one (sd_if (et_not (et_val (es_call (fn_is_year T) g (by decide) (ea_cons (ed_v 0) ea_nil) ⟨x, rfl, rfl, rfl⟩))) (fun h => ?_) fun h => ?_)
  · refine sds_one (sd_raise g T.e_BadYear ?_)
    show Out.exc c.BadYear [] = _
    rw [if_neg (by simpa using h)]
  · refine sds_nil ?_
    show Out.ret (.d .none) [] = _
    rw [if_pos (by simpa using h)])
/-- a year is checked -/
theorem ok_year {c : Cl} {ys : List Int} (h : Yr ys) : pre_check_year c [.d (li ys)] [] (fun o => o = .ret (.d .none) []) := ⟨li ys, rfl, rfl, by rw [if_pos h.is]⟩
end
end Pg

namespace Pg
open PySem PySem.Spec PyProof.Rows L2 Sd
section
variable {P : Program} {w : World} {K : PySem.W.Frag} {mg : Str → Option Value} {base : Heap} {c : Cl}
/-- a calendar as it lies in the heap -/
abbrev calX (c : Cl) (x dx py pl : Addr) : OO := .raw (.ins c.Calendar dx [("year", .ref py), ("line", .ref pl)])
abbrev cal (c : Cl) (x dx py pl : Addr) (ys ls : List Int) : Own := [(pl, .lst (ls.map PyData.int)), (py, .lst (ys.map PyData.int)), (x, calX c x dx py pl), (dx, .raw (.own x))]
theorem cntI (ls : List Int) (n : Int) : ((ls.map PyData.int).countP fun z => PyData.eqv z (.int n)) = ls.count n := by
  rw [List.countP_map]
  unfold List.count
  refine List.countP_congr fun a _ => ?_
  simp [PyData.eqv]
theorem pl_ints : ∀ ls : List Int, PyData.plainAll (ls.map PyData.int) = true
  | [] => rfl
  | x :: l => by
    rw [List.map_cons]
    unfold PyData.plainAll
    rw [pl_ints l]
    rfl
theorem dp_int (i : Int) : (PyData.int i).depth ≤ 64 := by simp [PyData.depth]
end
end Pg

namespace Pg
open PySem PySem.Spec PyProof.Rows L2 Sd
section
variable {P : Program} {w : World} {K : PySem.W.Frag} {mg : Str → Option Value} {base : Heap} {c : Cl}
def pre_cal_init (c : Cl) : Pr := fun ss own post => ∃ (x dx : Addr) (ys : List Int), ss = [.raw (.ref x), .d (li ys)] ∧ own = [(x, .raw (.ins c.Calendar dx [])), (dx, .raw (.own x))] ∧ Yr ys ∧ post = fun o => ∃ py pl, o = .ret (.d .none) (cal c x dx py pl ys [])
theorem fn_cal_init (T : Tx K mg c) : MkT K mg P w base "Calendar" c.Calendar ["self", "year"] 4 (pre_cal_init c) := T.m_init.mkt T.o_Calendar fun f fd F => okG (k := 3) F sc_Calendar_init (by rintro ss own post ⟨x, dx, ys, rfl, _⟩; rfl) (by
  rintro ss own post ⟨x, dx, ys, rfl, rfl, hY, rfl⟩ cdv A outer s H E B g
  refine sds_cons (sd_expr (es_call (fn_check_year T) g (by decide) (ea_cons (ed_v 1) ea_nil) (ok_year hY)) ?_)
  refine sds_cons (sd_fldL (oa := []) T.o_Calendar.cl T.o_year (el_list (ds := ys.map PyData.int) T.n_list (ed_v 1) .d) (fun p' => ev_v 0) (by decide) fun py => ?_)
  refine sds_one (sd_fldL (oa := [_]) T.o_Calendar.cl T.o_line (el_lst (ds := []) ea_nil) (fun p' => ev_v 0) (Nat.lt_of_le_of_lt (Nat.le_refl 1) (by decide)) fun pl => ?_)
  exact ⟨py, pl, rfl⟩)
end
end Pg

namespace Pg
open PySem PySem.Spec PyProof.Rows L2 Sd
section
variable {P : Program} {w : World} {K : PySem.W.Frag} {mg : Str → Option Value} {base : Heap} {c : Cl}
def pre_common : Pr := fun ss own post => ∃ a b : Int, ss = [.d (.int a), .d (.int b)] ∧ own = [] ∧ 0 ≤ a ∧ 0 ≤ b ∧ post = fun o => o = .ret (.d (.int (Int.gcd a b : Nat))) []
theorem fn_common (T : Tx K mg c) : Fn K mg P w base "common" ["one", "other"] 1 pre_common := T.d_common.fn fun f fd F => okG (k := 0) F sc_common (by rintro ss own post ⟨a, b, rfl, _⟩; rfl) (by
  rintro ss own post ⟨a, b, rfl, rfl, ha, hb, rfl⟩ cdv A outer s H E B g
  refine sds_cons (sd_while g (fun m ρ own => ∃ x y : Int, 0 ≤ x ∧ 0 ≤ y ∧ ρ = [.d (.int x), .d (.int y)] ∧ own = [] ∧ Int.gcd x y = Int.gcd a b ∧ m = y.toNat) b.toNat ⟨a, b, ha, hb, rfl, rfl, rfl, rfl⟩ ?_)
  rintro m ρ1 own1 ⟨x, y, hx, hy, rfl, rfl, e, rfl⟩
  refine ⟨_, et_cmp c_neI (ed_v 1) ed_int, fun h => ?_, fun h => ?_⟩
  · have h0 : 0 < y := by
      have : y ≠ 0 := fun z => by subst z; simp at h
      omega
    refine sds_one (sd_par 0 1 g (ea_cons (ed_v 1) (ea_cons (ed_mod (ed_v 0) (ed_v 1) h0) ea_nil)) ?_)
    have h1 := Int.emod_nonneg x (Int.ne_of_gt h0)
    have h2 := Int.emod_lt_of_pos x h0
    exact ⟨(x % y).toNat, by omega, y, x % y, hy, h1, rfl, rfl, (gcd_step x y hx h0).trans e, rfl⟩
  · have h0 : y = 0 := by simpa using h
    subst h0
    refine sds_one (sd_retD (ed_v 0) ?_)
    show Out.ret (.d (.int x)) [] = Out.ret (.d (.int (Int.gcd a b : Nat))) []
    rw [← e, Int.gcd_zero_right, Int.natAbs_of_nonneg hx])
end
end Pg

namespace Pg
open PySem PySem.Spec PyProof.Rows L2 Sd
section
variable {P : Program} {w : World} {K : PySem.W.Frag} {mg : Str → Option Value} {base : Heap} {c : Cl}
def pre_lowest : Pr := fun ss own post => ∃ a b : Int, ss = [.d (.int a), .d (.int b)] ∧ own = [] ∧ 0 < b ∧ Sz 8999 b ∧ post = fun o => o = .ret (.d (fr ((a : Rat) / b))) []
theorem fn_lowest (T : Tx K mg c) : Fn K mg P w base "lowest" ["top", "below"] 2 pre_lowest := T.d_lowest.fn fun f fd F => okG (k := 1) F sc_lowest (by rintro ss own post ⟨a, b, rfl, _⟩; rfl) (by
  rintro ss own post ⟨a, b, rfl, rfl, hb, hz, rfl⟩ cdv A outer s H E B g
  have eg : Int.gcd (if a < 0 then -a else a) b = Int.gcd a b := by
    split
    · rw [Int.gcd_comm, Int.gcd_neg, Int.gcd_comm]
    · rfl
  refine sds_cons (sd_set 2 g.nd (es_call (fn_common T) g (by decide) (ea_cons (ed_abs T.n_abs (ed_v 0)) (ea_cons (ed_v 1) ea_nil)) ⟨_, _, rfl, rfl, by split <;> omega, by omega, rfl⟩) ?_)
  rw [eg]
  have g0 : (0 : Int) < (Int.gcd a b : Nat) := by
    have := Int.gcd_pos_of_ne_zero_right a (show b ≠ 0 by omega)
    omega
  have gz : Sz 8999 (Int.gcd a b : Nat) := by
    have := Int.gcd_le_natAbs_right (a := a) (show b ≠ 0 by omega)
    unfold Sz at *
    rw [Int.natAbs_natCast]
    omega
  refine sds_one (sd_retD (ed_tup (ds := [_, _]) (ea_cons (ed_fdiv (ed_v 0) (ed_v 2) (cdiv_of g0 gz (by decide))) (ea_cons (ed_fdiv (ed_v 1) (ed_v 2) (cdiv_of g0 gz (by decide))) ea_nil))) ?_)
  show Out.ret (.d (.tuple [.int (a / (Int.gcd a b : Nat)), .int (b / (Int.gcd a b : Nat))])) [] = _
  rw [fr_low a b hb])
end
end Pg

namespace Pg
open PySem PySem.Spec PyProof.Rows L2 Sd
section
variable {P : Program} {w : World} {K : PySem.W.Frag} {mg : Str → Option Value} {base : Heap} {c : Cl}
def nxS (ys ls : List Int) : Int := ((srtU ls).map fun d => ys.getD d.toNat 0).sum
def pre_cal_next_same (c : Cl) : Pr := fun ss own post => ∃ (x dx py pl : Addr) (ys ls : List Int), ss = [.raw (.ref x)] ∧ own = cal c x dx py pl ys ls ∧ Yr ys ∧ ls.length ≤ 12 ∧ (∀ d ∈ ls, 0 ≤ d ∧ d < (ys.length : Int)) ∧ post = fun o => o = .ret (.d (fr ((nxS ys ls : Rat) / ys.sum))) (cal c x dx py pl ys ls)
theorem srtU_len : ∀ l : List Int, (srtU l).length ≤ l.length
  | [] => Nat.le_refl _
  | x :: l => by
    have h1 : ∀ (x : Int) (l : List Int), (insU x l).length ≤ l.length + 1 := fun x l => by
      induction l with
      | nil => simp [insU]
      | cons y ys ih =>
        unfold insU
        split
        · simp
        · split
          · simp
          · simp only [List.length_cons]; omega
    have h2 := srtU_len l
    have h3 := h1 x (srtU l)
    rw [srtU, List.length_cons]
    omega
theorem fn_cal_next_same (T : Tx K mg c) : Mth K mg P w base c.Calendar "next_same" ["self"] 4 (pre_cal_next_same c) := T.m_next_same.mth fun f fd F => okG (k := 3) F sc_Calendar_next_same (by rintro ss own post ⟨x, dx, py, pl, ys, ls, rfl, _⟩; rfl) (by
  rintro ss own post ⟨x, dx, py, pl, ys, ls, rfl, rfl, hY, hl2, hd, rfl⟩ cdv A outer s H E B g
  have hsl := srtU_len ls
  refine sds_cons (sd_set 1 g.nd (EL.ed (el_sortedSet (ns := ls) g T.n_sorted T.n_set (ev_fld T.o_Calendar.cl T.o_line (x := x) (dx := dx) (fs := [("year", .ref py), ("line", .ref pl)]) (by simp) (ev_v 0) rfl) (Lst.o (by simp)) (by omega))) ?_)
  refine sds_one (sd_retD (ES.is (es_call (fn_lowest T) g (by decide) (ea_cons (ed_sum (ns := (srtU ls).map fun d => ys.getD d.toNat 0) g T.n_sum (EL.ed (EL.is (el_comp g (compO g (it_list (ed_v 1)) [("day", 2)] (blkOk_by (N := ["self", "used", "day"]) (sc := defScope s_Calendar_next_same) (by decide +kernel)) (srtU ls) PyData.int rfl (fun d => some (.int (ys.getD d.toNat 0))) (fun d => [.raw (.ref x), .d (li (srtU ls)), .d (.int d)]) [2] (by simp) (by omega) (fun _ _ => trivial)
      (fun i _ s H C cl fp g' => gt_name 2 g'.nd) (fun i _ s H C cl fp D acc g' => ets_nil) (fun d hm z hz s H C cl fp D acc g' => ?_))) ?_)) .d) (ea_cons (ed_sum (ns := ys) g T.n_sum (ev_fld T.o_Calendar.cl T.o_year (x := x) (dx := dx) (fs := [("year", .ref py), ("line", .ref pl)]) (by simp) (ev_v 0) rfl) (Lst.o (by simp))) ea_nil)) ⟨_, _, rfl, rfl, by have := hY.sum_lo; omega, hY.szW.mono (by decide), rfl⟩) ?_) rfl)
  · cases hz
    obtain ⟨h0, h1⟩ := hd d ((srtU_mem d ls).mp hm)
    have hlt : d.toNat < ys.length := by omega
    refine ed_ixL (ds := ys.map PyData.int) (ev_fld T.o_Calendar.cl T.o_year (x := x) (dx := dx) (fs := [("year", .ref py), ("line", .ref pl)]) (by simp) (ev_v 0) rfl) (ed_v 2) (Lst.o (by simp)) ?_
    have e : d = ((d.toNat : Nat) : Int) := by omega
    rw [e]
    refine atI_nat ?_
    rw [List.getElem?_map, List.getD_eq_getElem?_getD, Int.toNat_natCast, List.getElem?_eq_getElem hlt]
    rfl
  · rw [List.map_map]
    exact List.filterMap_eq_map' .. |>.symm ▸ rfl
  · unfold nxS
    rfl)
end
end Pg

namespace Pg
open PySem PySem.Spec PyProof.Rows L2 Sd
section
variable {P : Program} {w : World} {K : PySem.W.Frag} {mg : Str → Option Value} {base : Heap} {c : Cl}
def pre_check_day_o (c : Cl) : Pr := fun ss own post => ∃ (q : Addr) (ds : List PyData) (x : PyData), ss = [.raw (.ref q), .d x] ∧ own = [(q, .lst ds)] ∧ post = fun o => o = if isInt x 0 ((ds.length : Int) - 1) = true then .ret (.d .none) [(q, .lst ds)] else .exc c.BadDay [(q, .lst ds)]
theorem fn_check_day_o (T : Tx K mg c) : Fn K mg P w base "check_day" ["year", "value"] 2 (pre_check_day_o c) := T.d_check_day.fn fun f fd F => okG (k := 1) F sc_check_day (by rintro ss own post ⟨q, ds, x, rfl, _⟩; rfl) (by
  rintro ss own post ⟨q, ds, x, rfl, rfl, rfl⟩ cdv A outer s H E B g
  refine sds_one (sd_if (et_not (et_val (es_call (fn_is_int T) g (by decide) (ea_cons (ed_v 1) (ea_cons ed_int (ea_cons (ed_sub (ed_len (ds := ds) T.n_len (ev_v 0) (Lst.o (by simp))) ed_int) ea_nil))) ⟨x, _, _, rfl, rfl, rfl⟩))) (fun h => ?_) fun h => ?_)
  · refine sds_one (sd_raise g T.e_BadDay ?_)
    show Out.exc c.BadDay _ = _
    rw [if_neg (by simpa using h)]
  · refine sds_nil ?_
    show Out.ret (.d .none) _ = _
    rw [if_pos (by simpa using h)])
end
end Pg

namespace Pg
open PySem PySem.Spec PyProof.Rows L2 Sd
section
variable {P : Program} {w : World} {K : PySem.W.Frag} {mg : Str → Option Value} {base : Heap} {c : Cl}
def pre_cal_put (c : Cl) : Pr := fun ss own post => ∃ (x dx py pl : Addr) (ys ls : List Int) (d : PyData), ss = [.raw (.ref x), .d d] ∧ own = cal c x dx py pl ys ls ∧ ls.length ≤ 12 ∧ post = fun o => (isInt d 0 ((ys.length : Int) - 1) = false ∧ o = .exc c.BadDay (cal c x dx py pl ys ls)) ∨
  ∃ n : Int, d = .int n ∧ 0 ≤ n ∧ n < ys.length ∧ ((ls.length = 12 ∧ o = .exc c.BadNumber (cal c x dx py pl ys ls)) ∨ (ls.length < 12 ∧ o = .ret (.d (.int ((ls ++ [n]).count n : Nat))) (cal c x dx py pl ys (ls ++ [n]))))
theorem isInt_day {d : PyData} {m : Nat} (h : isInt d 0 ((m : Int) - 1) = true) : ∃ n : Int, d = .int n ∧ 0 ≤ n ∧ n < m := by
  unfold Sd.isInt at h
  split at h
  · rename_i i
    rw [Bool.and_eq_true, decide_eq_true_eq, decide_eq_true_eq] at h
    exact ⟨i, rfl, h.1, by omega⟩
  · cases h
theorem fn_cal_put (T : Tx K mg c) : Mth K mg P w base c.Calendar "put" ["self", "day"] 3 (pre_cal_put c) := T.m_put.mth fun f fd F => okG (k := 2) F sc_Calendar_put (by rintro ss own post ⟨x, dx, py, pl, ys, ls, d, rfl, _⟩; rfl) (by
  rintro ss own post ⟨x, dx, py, pl, ys, ls, d, rfl, rfl, hl, rfl⟩ cdv A outer s H E B g
  have len : ((ys.map PyData.int).length : Int) = ys.length := by rw [List.length_map]
  refine sds_cons (sd_exprG (R := fun _ o => o = cal c x dx py pl ys ls ∧ isInt d 0 ((ys.length : Int) - 1) = true) (eg_call (oa := [(pl, .lst (ls.map PyData.int))]) (o1 := [(py, .lst (ys.map PyData.int))]) (ob := [(x, calX c x dx py pl), (dx, .raw (.own x))]) (fn_check_day_o T) g (by decide) (ea_cons (ev_fld T.o_Calendar.cl T.o_year (x := x) (dx := dx) (fs := [("year", .ref py), ("line", .ref pl)]) (by simp) (ev_v 0) rfl) (ea_cons (ed_v 1) ea_nil)) ⟨py, _, d, rfl, rfl, rfl⟩ ?_ ?_) ?_)
  · rintro s' o' h
    rw [len] at h
    split at h
    · cases h
      exact ⟨rfl, by assumption⟩
    · cases h
  · rintro C o' h
    rw [len] at h
    split at h
    · cases h
    · cases h
      exact .inl ⟨by simpa using ‹¬ isInt d 0 ((ys.length : Int) - 1) = true›, rfl⟩
  rintro _ _ ⟨rfl, hd⟩
  obtain ⟨n, rfl, h0, h1⟩ := isInt_day hd
  refine sds_cons (sd_if (l := decide (ls.length = 12)) (ET.is (et_cmp c_eqI (ed_len (ds := ls.map PyData.int) T.n_len (ev_fld T.o_Calendar.cl T.o_line (x := x) (dx := dx) (fs := [("year", .ref py), ("line", .ref pl)]) (by simp) (ev_v 0) rfl) (Lst.o (by simp))) ed_int) ?_) (fun h => ?_) fun h => ?_)
  · rw [List.length_map, decide_eq_decide]
    omega
  · refine sds_one (sd_raise g T.e_BadNumber ?_)
    exact .inr ⟨n, rfl, h0, h1, .inl ⟨by simpa using h, rfl⟩⟩
  · refine sds_nil ?_
    have hl' : ls.length < 12 := by
      have : ls.length ≠ 12 := by simpa using h
      omega
    refine sds_cons (sd_append (oa := []) (p := pl) (ds := ls.map PyData.int) (x := .int n) (ev_fld T.o_Calendar.cl T.o_line (x := x) (dx := dx) (fs := [("year", .ref py), ("line", .ref pl)]) (by simp) (ev_v 0) rfl) (ed_v 1) (by rw [List.length_map]; omega) ?_)
    have e : ls.map PyData.int ++ [.int n] = (ls ++ [n]).map PyData.int := by simp
    rw [e]
    refine sds_one (sd_retD (ES.is (ed_count (k := 1) (ds := (ls ++ [n]).map PyData.int) g (ev_fld T.o_Calendar.cl T.o_line (x := x) (dx := dx) (fs := [("year", .ref py), ("line", .ref pl)]) (by simp) (ev_v 0) rfl) (Lst.o (by simp)) (ed_v 1) (pl_ints _) (by rfl) (dp_int _)) (by rw [cntI])) ?_)
    exact .inr ⟨n, rfl, h0, h1, .inr ⟨hl', rfl⟩⟩)
end
end Pg

namespace Pg
open PySem PySem.Spec PyProof.Rows L2 Sd
section
variable {P : Program} {w : World} {K : PySem.W.Frag} {mg : Str → Option Value} {base : Heap} {c : Cl}
def fac : Nat → Nat
  | 0 => 1
  | n + 1 => (n + 1) * fac n
theorem fac_sz : ∀ n : Nat, n ≤ 12 → Sz 30 (fac n : Nat) := by
  have h : ∀ n : Nat, n ≤ 12 → fac n < 2 ^ 30 := by decide
  intro n hn
  unfold Sz
  rw [Int.natAbs_natCast]
  exact h n hn
def pre_ordered : Pr := fun ss own post => ∃ n : Nat, ss = [.d (.int (n : Int))] ∧ own = [] ∧ n ≤ 12 ∧ post = fun o => o = .ret (.d (.int (fac n : Nat))) []
theorem fn_ordered (T : Tx K mg c) : Fn K mg P w base "ordered" ["many"] 1 pre_ordered := T.d_ordered.fn fun f fd F => okG (k := 0) F sc_ordered (by rintro ss own post ⟨n, rfl, _⟩; rfl) (by
  rintro ss own post ⟨n, rfl, rfl, hn, rfl⟩ cdv A outer s H E B g
  refine sds_cons (sd_set 1 g.nd ed_int ?_)
  refine sds_cons (sd_for g (it_range2 T.n_range ed_int (ed_add (ed_v 0) ed_int) ⟨by omega, by omega, by omega, by omega⟩) (fun i ρ own => own = [] ∧ ∃ t, ρ = [.d (.int (n : Int)), .d (.int (fac (i + 1) : Nat)), t]) ⟨rfl, _, rfl⟩ (fun _ _ _ _ => trivial) ?_ ?_)
  · rintro i y ρ1 own1 hy ⟨rfl, t, rfl⟩
    obtain ⟨hi, rfl⟩ := rng_get hy
    have hi : i + 1 < n := by omega
    refine ⟨_, _, gt_name 2 g.nd, sds_one (sd_aug 1 iop_mulW g.nd rfl (ed_v 2) (cmul_of (fac_sz (i + 1) (by omega)) (b := 4) (by unfold Sz; omega) (by decide)) ?_)⟩
    refine ⟨rfl, .d (.int (2 + (i : Int))), ?_⟩
    have e : ((fac (i + 1) : Nat) : Int) * (2 + (i : Int)) = (fac (i + 1 + 1) : Nat) := by
      show _ = (((i + 1 + 1) * fac (i + 1) : Nat) : Int)
      rw [Int.natCast_mul, Int.mul_comm]
      congr 1
      omega
    rw [e]
    rfl
  · rintro ρ1 own1 ⟨rfl, t, rfl⟩
    rw [rng_length]
    refine sds_one (sd_retD (ed_v 1) ?_)
    show Out.ret (.d (.int (fac (((n : Int) + 1 - 2).toNat + 1) : Nat))) [] = _
    have e : fac (((n : Int) + 1 - 2).toNat + 1) = fac n := by
      cases n with
      | zero => rfl
      | succ m =>
        rw [show (((m + 1 : Nat) : Int) + 1 - 2).toNat = m by omega]
    rw [e])
end
end Pg

namespace Pg
open PySem PySem.Spec PyProof.Rows L2 Sd
section
variable {P : Program} {w : World} {K : PySem.W.Frag} {mg : Str → Option Value} {base : Heap} {c : Cl}
def pre_power : Pr := fun ss own post => ∃ (b : Int) (n k : Nat), ss = [.d (.int b), .d (.int (n : Int))] ∧ own = [] ∧ Sz k b ∧ n ≤ 1000 ∧ k ≤ 100 ∧ post = fun o => o = .ret (.d (.int (b ^ n))) []
theorem fn_power (T : Tx K mg c) : Fn K mg P w base "power" ["base", "exponent"] 1 pre_power := T.d_power.fn fun f fd F => okG (k := 0) F sc_power (by rintro ss own post ⟨b, n, k, rfl, _⟩; rfl) (by
  rintro ss own post ⟨b, n, k, rfl, rfl, hb, hn, hk, rfl⟩ cdv A outer s H E B g
  refine sds_cons (sd_set 2 g.nd ed_int ?_)
  refine sds_cons (sd_for g (it_range1 T.n_range (ed_v 1) ⟨by omega, by omega⟩) (fun i ρ own => own = [] ∧ ∃ t, ρ = [.d (.int b), .d (.int (n : Int)), .d (.int (b ^ i)), t]) ⟨rfl, _, by rw [Int.pow_zero]; rfl⟩ (fun _ _ _ _ => trivial) ?_ ?_)
  · rintro i y ρ1 own1 hy ⟨rfl, t, rfl⟩
    obtain ⟨hi, rfl⟩ := rng_get hy
    have hi : i < n := by omega
    refine ⟨_, _, gt_name 3 g.nd, sds_one (sd_aug 2 iop_mulW g.nd rfl (ed_v 0) (cmul_of (hb.pow i) hb ?_) ?_)⟩
    · have : k * i ≤ 100 * 1000 := Nat.mul_le_mul hk (by omega)
      omega
    · exact ⟨rfl, _, by rw [Int.pow_succ]; rfl⟩
  · rintro ρ1 own1 ⟨rfl, t, rfl⟩
    rw [rng_length]
    refine sds_one (sd_retD (ed_v 2) ?_)
    show Out.ret (.d (.int (b ^ (n : Int).toNat))) [] = _
    rw [Int.toNat_natCast])
end
end Pg

namespace Pg
open PySem PySem.Spec PyProof.Rows L2 Sd
section
variable {P : Program} {w : World} {K : PySem.W.Frag} {mg : Str → Option Value} {base : Heap} {c : Cl}
def psK (f : List Int) (y : Int) : Nat → List Int
  | 0 => f ++ [0]
  | k + 1 => (psK f y k).set (k + 1) ((psK f y k).getD (k + 1) 0 + f.getD k 0 * y)
def psS (f : List Int) (y : Int) : List Int := psK f y f.length
def psums (ys : List Int) : List Int := ys.foldl psS [1]
theorem psK_len (f : List Int) (y : Int) : ∀ k, (psK f y k).length = f.length + 1
  | 0 => by simp [psK]
  | k + 1 => by rw [psK, List.length_set, psK_len f y k]
theorem fold_len : ∀ (ys f : List Int), (ys.foldl psS f).length = f.length + ys.length
  | [], f => rfl
  | y :: ys, f => by
    rw [List.foldl_cons, fold_len ys, psS, psK_len, List.length_cons]
    omega
theorem psums_len (ys : List Int) : (psums ys).length = ys.length + 1 := by
  rw [psums, fold_len]
  simp
  omega
theorem psums_take {ys : List Int} {i : Nat} {y : Int} (h : ys[i]? = some y) : psums (ys.take (i + 1)) = psS (psums (ys.take i)) y := by
  unfold psums
  rw [List.take_add_one, h, List.foldl_append]
  rfl
def pre_product_sums : Pr := fun ss own post => ∃ ys : List Int, ss = [.d (li ys)] ∧ own = [] ∧ Yr ys ∧ post = fun o => o = .ret (.d (li (psums ys))) []
theorem fn_product_sums (T : Tx K mg c) : Fn K mg P w base "product_sums" ["year"] 1 pre_product_sums := T.d_product_sums.fn fun f fd F => okG (k := 0) F sc_product_sums (by rintro ss own post ⟨n, rfl, _⟩; rfl) (by
  rintro ss own post ⟨ys, rfl, rfl, hY, rfl⟩ cdv A outer s H E B g
  have hl := hY.hi
  refine sds_cons (sd_setL 1 g.nd (el_lst (ds := [.int 1]) (ea_cons ed_int ea_nil)) fun p0 => ?_)
  refine sds_freeze 1 (oa := []) rfl ?_
  refine sds_cons (sd_for g (it_list (ed_v 0)) (fun i ρ own => own = [] ∧ ∃ t2 t3 t4, ρ = [.d (li ys), .d (li (psums (ys.take i))), t2, t3, t4]) ⟨rfl, _, _, _, rfl⟩ (fun _ _ _ _ => trivial) ?_ ?_)
  · rintro i y ρ1 own1 hy ⟨rfl, t2, t3, t4, rfl⟩
    rw [List.getElem?_map] at hy
    cases ea : ys[i]? with
    | none => rw [ea] at hy; cases hy
    | some y' =>
      rw [ea] at hy
      cases hy
      have hm : y' ∈ ys := List.mem_of_getElem? ea
      have hy := hY.it _ hm
      have hi := (List.getElem?_eq_some_iff.mp ea).1
      have hfl : (psums (ys.take i)).length ≤ 9 := by
        rw [psums_len, List.length_take]
        omega
      rw [psums_take ea]
      generalize psums (ys.take i) = f at hfl ⊢
      refine ⟨_, _, gt_name 2 g.nd, ?_⟩
      refine sds_cons (sd_setL 3 g.nd (el_cat (ed_v 1) (ed_k1 (i := 0)) .d .d (by simp; omega)) fun p => ?_)
      refine sds_cons (sd_for g (it_range1 T.n_range (ed_len T.n_len (ed_v 1) .d) ⟨by rw [List.length_map]; omega, by rw [List.length_map]; omega⟩) (fun j ρ own => own = [(p, .lst ((psK f y' j).map PyData.int))] ∧ ∃ t4, ρ = [.d (li ys), .d (li f), .d (.int y'), .raw (.ref p), t4]) ⟨by rw [psK, List.map_append]; rfl, _, rfl⟩ (fun _ _ _ _ => trivial) ?_ ?_)
      · rintro j yy ρ2 own2 hyy ⟨rfl, t4, rfl⟩
        obtain ⟨hj, rfl⟩ := rng_get hyy
        have hj : j < f.length := by
          rw [List.length_map] at hj
          omega
        have e1 : f[j]? = some (f.getD j 0) := by
          rw [List.getD_eq_getElem?_getD, List.getElem?_eq_getElem hj]
          rfl
        have hjk : j + 1 < (psK f y' j).length := by
          rw [psK_len]
          omega
        have e2 : (psK f y' j)[j + 1]? = some ((psK f y' j).getD (j + 1) 0) := by
          rw [List.getD_eq_getElem?_getD, List.getElem?_eq_getElem hjk]
          rfl
        have e0 : (0 : Int) + (j : Int) = (j : Int) := by omega
        rw [e0]
        refine ⟨_, _, gt_name 4 g.nd, sds_one (sd_augitem (oa := []) (ob := []) (n := j + 1) iop_addC (ev_v 3) (ed_add (ed_v 4) ed_int) (ed_mulS (ed_ixL (ed_v 1) (ed_v 4) .d (getI e1)) (ed_v 2) (.inr ⟨by omega, by omega⟩)) ?_ (by rw [List.getElem?_map, e2]; rfl) trivial ?_)⟩
        · unfold ixN
          rw [List.length_map, if_pos (by omega), if_pos (by omega)]
          congr 1
        · refine ⟨?_, _, rfl⟩
          rw [psK, List.map_set]
          rfl
      · rintro ρ2 own2 ⟨rfl, t4, rfl⟩
        rw [rng_length, Int.toNat_natCast, List.length_map]
        refine sds_cons (sd_set 1 g.nd (ev_v 3) ?_)
        refine sds_freeze 1 (oa := []) rfl ?_
        exact sds_nil ⟨rfl, _, _, _, rfl⟩
  · rintro ρ1 own1 ⟨rfl, t2, t3, t4, rfl⟩
    rw [List.length_map, List.take_length]
    exact sds_one (sd_retD (ed_v 1) rfl))
end
end Pg

namespace Pg
open PySem PySem.Spec PyProof.Rows L2 Sd
section
variable {P : Program} {w : World} {K : PySem.W.Frag} {mg : Str → Option Value} {base : Heap} {c : Cl}
def unl (ys : List Int) (n : Nat) : Rat := ((((fac n : Nat) * (psums ys).getD n 0 : Int) : Rat) / ((ys.sum ^ n : Int) : Rat))
def pre_unlike_of : Pr := fun ss own post => ∃ (ys : List Int) (n : Nat), ss = [.d (li ys), .d (.int (n : Int))] ∧ own = [] ∧ Yr ys ∧ n ≤ 12 ∧ post = fun o => o = .ret (.d (fr (unl ys n))) []
theorem fn_unlike_of (T : Tx K mg c) : Fn K mg P w base "unlike_of" ["year", "many"] 3 pre_unlike_of := T.d_unlike_of.fn fun f fd F => okG (k := 2) F sc_unlike_of (by rintro ss own post ⟨ys, n, rfl, _⟩; rfl) (by
  rintro ss own post ⟨ys, n, rfl, rfl, hY, hn, rfl⟩ cdv A outer s H E B g
  have hl := psums_len ys
  refine sds_cons (sd_set 2 g.nd (es_call (fn_product_sums T) g (by decide) (ea_cons (ed_v 0) ea_nil) ⟨ys, rfl, rfl, hY, rfl⟩) ?_)
  refine sds_cons (sd_if (l := decide (((psums ys).length : Int) ≤ (n : Int))) (et_cmp (c_ge (i := n) (j := (psums ys).length)) (ed_v 1) (ES.is (ed_len T.n_len (ed_v 2) .d) (by rw [List.length_map]))) (fun h => ?_) fun h => sds_nil ?_)
  · have h : (psums ys).length ≤ n := by simpa using h
    refine sds_one (sd_retD (ed_k2 (i := 0) (i' := 1)) ?_)
    have e : unl ys n = 0 := by
      unfold unl
      rw [List.getD_eq_getElem?_getD, List.getElem?_eq_none h]
      simp
      exact Rat.zero_mul _
    rw [e]
    rfl
  · have h : n < (psums ys).length := by simpa using h
    have e1 : (psums ys)[n]? = some ((psums ys).getD n 0) := by
      rw [List.getD_eq_getElem?_getD, List.getElem?_eq_getElem h]
      rfl
    have z := fac_sz n hn
    unfold Sz at z
    have h2 : Sz 97 (ys.sum ^ n) := (hY.szW.pow n).mono (by omega)
    exact sds_one (sd_retD (es_call (fn_lowest T) g (by decide) (ea_cons (ed_mulS (es_call (fn_ordered T) g (by decide) (ea_cons (ed_v 1) ea_nil) ⟨n, rfl, rfl, hn, rfl⟩) (ed_ixL (ed_v 2) (ed_v 1) .d (getI e1)) (.inl ⟨by omega, by omega⟩)) (ea_cons (es_call (fn_power T) g (by decide) (ea_cons (ed_sum g T.n_sum (ed_v 0) .d) (ea_cons (ed_v 1) ea_nil)) ⟨_, n, 8, rfl, rfl, hY.szW, by omega, by decide, rfl⟩) ea_nil)) ⟨_, _, rfl, rfl, hY.posP n, h2.mono (by decide), rfl⟩) rfl))
end
end Pg

namespace Pg
open PySem PySem.Spec PyProof.Rows L2 Sd
section
variable {P : Program} {w : World} {K : PySem.W.Frag} {mg : Str → Option Value} {base : Heap} {c : Cl}
end
end Pg

namespace Pg
open PySem PySem.Spec PyProof.Rows L2 Sd
section
variable {P : Program} {w : World} {K : PySem.W.Frag} {mg : Str → Option Value} {base : Heap} {c : Cl}
end
end Pg

namespace Pg
open PySem PySem.Spec PyProof.Rows L2 Sd
section
variable {P : Program} {w : World} {K : PySem.W.Frag} {mg : Str → Option Value} {base : Heap} {c : Cl}
end
end Pg

namespace Pg
open PySem PySem.Spec PyProof.Rows L2 Sd
section
variable {P : Program} {w : World} {K : PySem.W.Frag} {mg : Str → Option Value} {base : Heap} {c : Cl}
def pre_at_most : Pr := fun ss own post => ∃ (p q : Rat) (m n : Nat), ss = [.d (fr p), .d (fr q)] ∧ own = [] ∧ Sq m p ∧ Sq n q ∧ m + n ≤ 8990 ∧ post = fun o => o = .ret (.d (.bool (decide (p ≤ q)))) []
theorem fn_at_most (T : Tx K mg c) : Fn K mg P w base "at_most" ["one", "other"] 1 pre_at_most := T.d_at_most.fn fun f fd F => okG (k := 0) F sc_at_most (by rintro ss own post ⟨p, q, m, n, rfl, _⟩; rfl) (by
  rintro ss own post ⟨p, q, m, n, rfl, rfl, hp, hq, hmn, rfl⟩ cdv A outer s H E B g
  refine sds_one (sd_retD (ed_cmp c_le (ed_mul (ed_ixT (ed_v 0) ed_int rfl) (ed_ixT (ed_v 1) ed_int rfl) (cmul_of hp.num hq.den (by omega))) (ed_mul (ed_ixT (ed_v 1) ed_int rfl) (ed_ixT (ed_v 0) ed_int rfl) (cmul_of hq.num hp.den (by omega)))) ?_)
  rw [decide_eq_decide.mpr (le_fr p q)])
end
end Pg

namespace Pg
open PySem PySem.Spec PyProof.Rows L2 Sd
section
variable {P : Program} {w : World} {K : PySem.W.Frag} {mg : Str → Option Value} {base : Heap} {c : Cl}
def pre_check_many (c : Cl) : Pr := fun ss own post => ∃ x : PyData, ss = [.d x] ∧ own = [] ∧ post = fun o => o = if isInt x 0 12 = true then .ret (.d .none) [] else .exc c.BadNumber []
theorem fn_check_many (T : Tx K mg c) : Fn K mg P w base "check_many" ["value"] 2 (pre_check_many c) := T.d_check_many.fn fun f fd F => okG (k := 1) F sc_check_many (by rintro ss own post ⟨x, rfl, _⟩; rfl) (by
  rintro ss own post ⟨x, rfl, rfl, rfl⟩ cdv A outer s H E B g
  obtain ⟨t, hm⟩ := T.k_MOST_THINGS
  refine sds_one (sd_if (et_not (et_val (es_call (fn_is_int T) g (by decide) (ea_cons (ed_v 0) (ea_cons ed_int (ea_cons (ed_glob rfl hm) ea_nil))) ⟨x, _, _, rfl, rfl, rfl⟩))) (fun h => ?_) fun h => ?_)
  · refine sds_one (sd_raise g T.e_BadNumber ?_)
    show Out.exc c.BadNumber [] = _
    rw [if_neg (by simpa using h)]
  · refine sds_nil ?_
    show Out.ret (.d .none) [] = _
    rw [if_pos (by simpa using h)])
theorem ok_many {c : Cl} {n : Int} (h : 0 ≤ n ∧ n ≤ 12) : pre_check_many c [.d (.int n)] [] (fun o => o = .ret (.d .none) []) := ⟨.int n, rfl, rfl, by
  rw [if_pos]
  simp [Sd.isInt, h.1, h.2]⟩
end
end Pg

namespace Pg
open PySem PySem.Spec PyProof.Rows L2 Sd
section
variable {P : Program} {w : World} {K : PySem.W.Frag} {mg : Str → Option Value} {base : Heap} {c : Cl}
def mosm (xs ys : List Int) (n : Nat) : Int := if unl xs n = unl ys n then 0 else if unl ys n ≤ unl xs n then -1 else 1
def pre_more_same : Pr := fun ss own post => ∃ (xs ys : List Int) (n : Nat), ss = [.d (li xs), .d (li ys), .d (.int (n : Int))] ∧ own = [] ∧ Yr xs ∧ Yr ys ∧ n ≤ 12 ∧ Sq 200 (unl xs n) ∧ Sq 200 (unl ys n) ∧ post = fun o => o = .ret (.d (.int (mosm xs ys n))) []
theorem fn_more_same (T : Tx K mg c) : Fn K mg P w base "more_same" ["one", "other", "many"] 4 pre_more_same := T.d_more_same.fn fun f fd F => okG (k := 3) F sc_more_same (by rintro ss own post ⟨xs, ys, n, rfl, _⟩; rfl) (by
  rintro ss own post ⟨xs, ys, n, rfl, rfl, hX, hY, hn, q1, q2, rfl⟩ cdv A outer s H E B g
  refine sds_cons (sd_expr (es_call (fn_check_year T) g (by decide) (ea_cons (ed_v 0) ea_nil) (ok_year hX)) ?_)
  refine sds_cons (sd_expr (es_call (fn_check_year T) g (by decide) (ea_cons (ed_v 1) ea_nil) (ok_year hY)) ?_)
  refine sds_cons (sd_expr (es_call (fn_check_many T) g (by decide) (ea_cons (ed_v 2) ea_nil) (ok_many ⟨by omega, by omega⟩)) ?_)
  refine sds_cons (sd_par 3 4 g (ea_cons (es_call (fn_unlike_of T) g (by decide) (ea_cons (ed_v 0) (ea_cons (ed_v 2) ea_nil)) ⟨xs, n, rfl, rfl, hX, hn, rfl⟩) (ea_cons (es_call (fn_unlike_of T) g (by decide) (ea_cons (ed_v 1) (ea_cons (ed_v 2) ea_nil)) ⟨ys, n, rfl, rfl, hY, hn, rfl⟩) ea_nil)) ?_)
  refine sds_one (sd_retD (x := .int (mosm xs ys n)) (es_if (k := decide (unl xs n = unl ys n)) (ET.is (et_cmp (c_eq g .d .d (sh_fr _) (sh_fr _)) (ed_v 3) (ed_v 4)) (by rw [eqv_fr])) (fun h => ?_) fun h => ?_) rfl)
  · have h : unl xs n = unl ys n := by simpa using h
    exact ES.is ed_int (by rw [mosm, if_pos h])
  · have h : ¬ unl xs n = unl ys n := by simpa using h
    refine es_if (k := decide (unl ys n ≤ unl xs n)) (et_val (es_call (fn_at_most T) g (by decide) (ea_cons (ed_v 4) (ea_cons (ed_v 3) ea_nil)) ⟨_, _, 200, 200, rfl, rfl, q2, q1, by decide, rfl⟩)) (fun h2 => ?_) fun h2 => ?_
    · have h2 : unl ys n ≤ unl xs n := by simpa using h2
      exact ES.is (ed_neg ed_int) (by rw [mosm, if_neg h, if_pos h2])
    · have h2 : ¬ unl ys n ≤ unl xs n := by simpa using h2
      exact ES.is ed_int (by rw [mosm, if_neg h, if_neg h2]))
end
end Pg

namespace Pg
open PySem PySem.Spec PyProof.Rows L2 Sd
section
variable {P : Program} {w : World} {K : PySem.W.Frag} {mg : Str → Option Value} {base : Heap} {c : Cl}
/-! elementary symmetric sums -/
def esI : List Int → Nat → Int
  | _, 0 => 1
  | [], _ + 1 => 0
  | a :: l, n + 1 => esI l (n + 1) + a * esI l n
theorem esI_zero (l : List Int) : esI l 0 = 1 := by cases l <;> rfl
theorem esI_cons (a : Int) (l : List Int) (n : Nat) : esI (a :: l) (n + 1) = esI l (n + 1) + a * esI l n := rfl
theorem esI_perm {l l' : List Int} (h : l.Perm l') : ∀ n, esI l n = esI l' n := by
  induction h with
  | nil => intro n; rfl
  | cons x _ ih =>
    intro n
    cases n with
    | zero => rfl
    | succ n => rw [esI_cons, esI_cons, ih, ih]
  | swap x y l =>
    intro n
    cases n with
    | zero => rfl
    | succ n =>
      cases n with
      | zero => simp only [esI_cons, esI_zero]; grind
      | succ n => simp only [esI_cons]; grind
  | trans _ _ h1 h2 => intro n; rw [h1, h2]
theorem psK_get (f : List Int) (y : Int) : ∀ k, k ≤ f.length → ∀ n, (psK f y k).getD n 0 = f.getD n 0 + (if 1 ≤ n ∧ n ≤ k then f.getD (n - 1) 0 * y else 0)
  | 0, _, n => by
    rw [psK, if_neg (by omega)]
    simp only [List.getD_eq_getElem?_getD]
    by_cases h : n < f.length
    · rw [List.getElem?_append_left h]; omega
    · rw [List.getElem?_append_right (by omega), List.getElem?_eq_none (l := f) (by omega)]
      by_cases e : n = f.length
      · subst e; simp
      · rw [List.getElem?_eq_none (by simp; omega)]; rfl
  | k + 1, hk, n => by
    have ih := psK_get f y k (by omega)
    rw [psK]
    by_cases e : n = k + 1
    · subst e
      rw [List.getD_eq_getElem?_getD, List.getElem?_set_self (by rw [psK_len]; omega), Option.getD_some, ih, if_neg (by omega), if_pos (by omega)]
      simp
    · rw [List.getD_eq_getElem?_getD, List.getElem?_set_ne (by omega), ← List.getD_eq_getElem?_getD, ih]
      by_cases h : 1 ≤ n ∧ n ≤ k
      · rw [if_pos h, if_pos (by omega)]
      · rw [if_neg h, if_neg (by omega)]
theorem psS_zero (f : List Int) (y : Int) : (psS f y).getD 0 0 = f.getD 0 0 := by
  rw [psS, psK_get f y _ (Nat.le_refl _), if_neg (by omega)]; omega
theorem psS_succ (f : List Int) (y : Int) (n : Nat) : (psS f y).getD (n + 1) 0 = f.getD (n + 1) 0 + f.getD n 0 * y := by
  rw [psS, psK_get f y _ (Nat.le_refl _)]
  by_cases h : n + 1 ≤ f.length
  · rw [if_pos (by omega)]; rfl
  · rw [if_neg (by omega), show f.getD n 0 = 0 by rw [List.getD_eq_getElem?_getD, List.getElem?_eq_none (by omega)]; rfl]
    simp
theorem foldr_es : ∀ (zs : List Int) (n : Nat), (zs.foldr (fun y f => psS f y) [1]).getD n 0 = esI zs n
  | [], 0 => rfl
  | [], n + 1 => by simp [esI]
  | z :: zs, 0 => by rw [List.foldr_cons, psS_zero, foldr_es zs 0, esI_zero, esI_zero]
  | z :: zs, n + 1 => by rw [List.foldr_cons, psS_succ, foldr_es zs, foldr_es zs, esI_cons, Int.mul_comm]
theorem psums_es (ys : List Int) (n : Nat) : (psums ys).getD n 0 = esI ys n := by
  have e : psums ys = ys.reverse.foldr (fun y f => psS f y) [1] := by rw [psums, List.foldr_reverse]
  rw [e, foldr_es, esI_perm (List.reverse_perm ys)]
theorem esI_nonneg : ∀ (l : List Int) (n : Nat), (∀ x ∈ l, 0 ≤ x) → 0 ≤ esI l n
  | l, 0, _ => by rw [esI_zero]; decide
  | [], n + 1, _ => by simp [esI]
  | a :: l, n + 1, h => by
    have h1 := esI_nonneg l (n + 1) fun x hx => h x (by simp [hx])
    have h2 := esI_nonneg l n fun x hx => h x (by simp [hx])
    have h3 := Int.mul_nonneg (h a (by simp)) h2
    rw [esI_cons]; omega
theorem unl_es (ys : List Int) (n : Nat) : unl ys n = (((fac n : Nat) * esI ys n : Int) : Rat) / ((ys.sum ^ n : Int) : Rat) := by rw [unl, psums_es]
/-- over the rationals -/
def es : List Rat → Nat → Rat
  | _, 0 => 1
  | [], _ + 1 => 0
  | a :: l, n + 1 => es l (n + 1) + a * es l n
theorem esI_le : ∀ (l : List Int) (n : Nat), (∀ x ∈ l, 0 ≤ x) → esI l n ≤ l.sum ^ n
  | l, 0, _ => by rw [esI_zero]; simp
  | [], n + 1, _ => by rw [List.sum_nil, Int.zero_pow (by omega)]; exact Int.le_refl _
  | a :: l, n + 1, h => by
    have hl : ∀ x ∈ l, 0 ≤ x := fun x hx => h x (by simp [hx])
    have h1 := esI_le l (n + 1) hl
    have h2 := esI_le l n hl
    have ha := h a (by simp)
    have hs : 0 ≤ l.sum := by
      have := sum_ge_mul (b := 0) (ys := l) hl
      simpa using this
    rw [esI_cons, List.sum_cons, Int.pow_succ]
    rw [Int.pow_succ] at h1
    have h3 := Int.mul_le_mul_of_nonneg_left h2 ha
    have h4 : l.sum ^ n ≤ (a + l.sum) ^ n := by
      have : ∀ m : Nat, l.sum ^ m ≤ (a + l.sum) ^ m := fun m => by
        induction m with
        | zero => simp
        | succ m ih =>
          rw [Int.pow_succ, Int.pow_succ]
          exact Int.mul_le_mul ih (by omega) hs (Int.pow_nonneg (by omega))
      exact this n
    have h5 := Int.mul_le_mul_of_nonneg_right h4 (show 0 ≤ a + l.sum by omega)
    have e : l.sum ^ n * l.sum + a * l.sum ^ n = l.sum ^ n * (a + l.sum) := by grind
    omega
theorem unl_sq {ys : List Int} (h : Yr ys) {n : Nat} (hn : n ≤ 12) : Sq 200 (unl ys n) := by
  rw [unl_es]
  have h1 : Sz 97 (ys.sum ^ n) := (h.szW.pow n).mono (by omega)
  have h0 : ∀ x ∈ ys, 0 ≤ x := fun x hx => by have := h.it x hx; omega
  have h2 := esI_le ys n h0
  have h3 := esI_nonneg ys n h0
  have h4 : Sz 97 (esI ys n) := by unfold Sz at *; omega
  exact Sq.of_div (h.posP n) (((fac_sz n hn).mul h4).mono (by decide)) (h1.mono (by decide))
end
end Pg

namespace Pg
open PySem PySem.Spec PyProof.Rows L2 Sd
section
variable {P : Program} {w : World} {K : PySem.W.Frag} {mg : Str → Option Value} {base : Heap} {c : Cl}
/-- a share as data -/
structure Shr (q : Rat) : Prop where
  lo : 0 ≤ q
  hi : q ≤ 1
theorem shr_num {q : Rat} (h : Shr q) : 0 ≤ q.num ∧ q.num ≤ (q.den : Int) := by
  have h1 := h.lo
  have h2 := h.hi
  refine ⟨Rat.num_nonneg.mpr h1, ?_⟩
  have := (le_fr q 1).mpr h2
  simpa using this
def pre_is_share : Pr := fun ss own post => ∃ (q : Rat), ss = [.d (fr q)] ∧ own = [] ∧ Shr q ∧ post = fun o => o = .ret (.d (.bool true)) []
theorem fn_is_share (T : Tx K mg c) : Fn K mg P w base "is_share" ["value"] 2 pre_is_share := T.d_is_share.fn fun f fd F => okG (k := 1) F sc_is_share (by rintro ss own post ⟨q, rfl, _⟩; rfl) (by
  rintro ss own post ⟨q, rfl, rfl, hq, rfl⟩ cdv A outer s H E B g
  obtain ⟨h1, h2⟩ := shr_num hq
  have h3 := den_pos q
  refine sds_cons (sd_ifF (ET.is (EW.et (ew_or (et_not (et_val (ed_isi (x := fr q) (l := true) T.n_isinstance (ed_v 0) .d (ev_ty (T := "tuple") rfl T.n_tuple (by decide +kernel)) rfl))) fun _ => ew_or1 (et_cmp c_neI (ed_lenT T.n_len (ed_v 0)) ed_int))) (by simp)) ?_)
  refine sds_cons (sd_ifF (ET.is (et_not (et_val (ed_all (ns := [true, true]) g T.n_all (EL.ed (EL.is (ys := [.bool true, .bool true]) (el_comp g (compP g (it_tup (ed_v 0)) [("part", 1)] (blkOk_by (N := ["value", "part"]) (sc := defScope s_is_share) (by decide +kernel)) [q.num, (q.den : Int)] PyData.int rfl (fun _ => some (.bool true)) (fun i => [.d (fr q), .d (.int i)]) [1] (by simp) (by simp) (fun _ _ => trivial)
      (fun d _ s H C cl fp g' => gt_name 1 g'.nd) (fun d _ s H C cl fp o g' => ets_nil) (fun i _ x hx s H C cl fp o g' => ?_))) rfl)) .d))) rfl) ?_)
  · cases hx
    exact ES.is (ed_and (ed_isi (x := .int i) (l := true) T.n_isinstance (ed_v 1) .d (ev_ty (T := "int") rfl T.n_int (by decide +kernel)) rfl) fun _ => ed_one (ed_not (ed_isi (x := .int i) (l := false) T.n_isinstance (ed_v 1) .d (ev_ty (T := "bool") rfl T.n_bool (by decide +kernel)) rfl))) rfl
  refine sds_one (sd_retD (ES.is (y := .bool true) (ed_and (ed_cmp c_gt (ed_ixT (ed_v 0) ed_int rfl) ed_int) fun _ => ed_and (ed_chain c_le c_le ed_int (ed_ixT (ed_v 0) ed_int rfl) (ed_ixT (ed_v 0) ed_int rfl)) fun _ => ed_one (ed_cmp c_eqI (es_call (fn_common T) g (by decide) (ea_cons (ed_ixT (ed_v 0) ed_int rfl) (ea_cons (ed_ixT (ed_v 0) ed_int rfl) ea_nil)) ⟨_, _, rfl, rfl, h1, by omega, rfl⟩) ed_int)) ?_) rfl)
  have hg : Int.gcd q.num (q.den : Int) = 1 := q.reduced
  rw [hg, decide_eq_true h3, decide_eq_true h1, decide_eq_true h2]
  rfl)
end
end Pg

namespace Pg
open PySem PySem.Spec PyProof.Rows L2 Sd
section
variable {P : Program} {w : World} {K : PySem.W.Frag} {mg : Str → Option Value} {base : Heap} {c : Cl}
/-- is it a share, whatever it is -/
def isI : PyData → Bool
  | .int _ => true
  | _ => false
def isShr : PyData → Bool
  | .tuple [.int a, .int b] => decide (0 < b) && ((decide (0 ≤ a) && decide (a ≤ b)) && decide (Int.gcd a b = 1))
  | _ => false
theorem fr_isShr {q : Rat} (h : Shr q) : isShr (fr q) = true := by
  obtain ⟨h1, h2⟩ := shr_num h
  have h3 := den_pos q
  show (decide (0 < (q.den : Int)) && ((decide (0 ≤ q.num) && decide (q.num ≤ (q.den : Int))) && decide (Int.gcd q.num (q.den : Int) = 1))) = true
  have hg : Int.gcd q.num (q.den : Int) = 1 := q.reduced
  rw [hg, decide_eq_true h3, decide_eq_true h1, decide_eq_true h2]
  rfl
def pre_is_share_t : Pr := fun ss own post => ∃ x, ss = [.d x] ∧ own = [] ∧ post = fun o => o = .ret (.d (.bool (isShr x))) []
theorem fn_is_share_t (T : Tx K mg c) : Fn K mg P w base "is_share" ["value"] 2 pre_is_share_t := T.d_is_share.fn fun f fd F => okG (k := 1) F sc_is_share (by rintro ss own post ⟨x, rfl, _⟩; rfl) (by
  rintro ss own post ⟨x, rfl, rfl, rfl⟩ cdv A outer s H E B g
  refine sds_nd 0 rfl fun hx => ?_
  by_cases ht : ∃ ds, x = .tuple ds
  · obtain ⟨ds, rfl⟩ := ht
    have hnd := hx.2 ds (.inr rfl)
    refine sds_cons (sd_if (l := !decide ((ds.length : Int) = 2)) (ET.is (EW.et (ew_or (et_not (et_val (ed_isi (x := .tuple ds) (l := true) T.n_isinstance (ed_v 0) .d (ev_ty (T := "tuple") rfl T.n_tuple (by decide +kernel)) rfl))) fun _ => ew_or1 (et_cmp c_neI (ed_lenT T.n_len (ed_v 0)) ed_int))) (by simp)) (fun h => ?_) fun h => sds_nil ?_)
    · refine sds_one (sd_retD ed_bl ?_)
      have h : ds.length ≠ 2 := by simp at h; omega
      have : isShr (.tuple ds) = false := by
        unfold isShr
        split
        · rename_i e
          cases e
          exact absurd rfl h
        · rfl
      rw [this]
    · have h : ds.length = 2 := by simp at h; omega
      match ds, h with
      | [a, b], _ =>
        refine sds_cons (sd_if (l := !(isI a && (isI b && true))) (ET.is (et_not (et_val (ed_all (ns := [a, b].map isI) g T.n_all (EL.ed (EL.is (el_comp g (compP g (it_tup (ed_v 0)) [("part", 1)] (blkOk_by (N := ["value", "part"]) (sc := defScope s_is_share) (by decide +kernel)) [a, b] id rfl (fun d => some (.bool (isI d))) (fun d => [.d (.tuple [a, b]), .d d]) [1] (by simp) (by simp) (fun _ _ => trivial)
            (fun d _ s H C cl fp g' => gt_name 1 g'.nd) (fun d _ s H C cl fp o g' => ets_nil) (fun d hd x hx s H C cl fp o g' => ?_))) rfl)) .d))) rfl) (fun h => ?_) fun h => sds_nil ?_)
        · cases hx
          have nd := hnd d hd
          refine ES.is (ed_and (l := isI d) (ed_isi (x := d) (l := (kitB (tyD d) "int").getD false) T.n_isinstance (ed_v 1) .d (ev_ty (T := "int") rfl T.n_int (by decide +kernel)) ?_) fun hk => ed_one (ES.is (ed_not (ed_isi (x := d) (l := (kitB (tyD d) "bool").getD false) T.n_isinstance (ed_v 1) .d (ev_ty (T := "bool") rfl T.n_bool (by decide +kernel)) ?_)) ?_)) ?_
          · cases d <;> first | rfl | exact absurd rfl (nd _)
          · cases d <;> first | rfl | exact absurd rfl (nd _)
          · cases d <;> first | rfl | exact nomatch (show false = true from hk) | exact absurd rfl (nd _)
          · cases d <;> first | rfl | exact absurd rfl (nd _)
        · refine sds_one (sd_retD ed_bl ?_)
          have : isShr (.tuple [a, b]) = false := by
            cases a <;> first | rfl | (cases b <;> first | rfl | exact nomatch (show false = true from h))
          rw [this]
        · obtain ⟨i, rfl⟩ : ∃ i, a = .int i := by
            cases a <;> first | exact ⟨_, rfl⟩ | exact nomatch (show true = false from h)
          obtain ⟨j, rfl⟩ : ∃ j, b = .int j := by
            cases b <;> first | exact ⟨_, rfl⟩ | exact nomatch (show true = false from h)
          refine sds_one (sd_retD (x := .bool (isShr (.tuple [.int i, .int j]))) (ed_and (k := decide (0 < j)) (ed_cmp c_gt (ed_ixT (ed_v 0) ed_int rfl) ed_int) fun h1 => ed_and (ed_chain c_le c_le ed_int (ed_ixT (ed_v 0) ed_int rfl) (ed_ixT (ed_v 0) ed_int rfl)) fun h2 => ed_one (ES.is (ed_cmp c_eqI (es_call (fn_common T) g (by decide) (ea_cons (ed_ixT (ed_v 0) ed_int rfl) (ea_cons (ed_ixT (ed_v 0) ed_int rfl) ea_nil)) ⟨i, j, rfl, rfl, ?_, ?_, rfl⟩) ed_int) ?_)) rfl)
          · simp only [Bool.and_eq_true, decide_eq_true_eq] at h2
            exact h2.1
          · have := of_decide_eq_true h1
            omega
          · congr 1
            refine decide_eq_decide.mpr ?_
            omega
  · have hk : kitB (tyD x) "tuple" = some false := by
      cases x <;> first | rfl | exact absurd ⟨_, rfl⟩ ht | exact absurd rfl (hx.1 _)
    refine sds_cons (sd_if (l := true) (EW.et (ew_or (k := true) (l := true) (et_not (k := false) (et_val (ed_isi (x := x) (l := false) T.n_isinstance (ed_v 0) .d (ev_ty (T := "tuple") rfl T.n_tuple (by decide +kernel)) hk))) fun h => nomatch h)) (fun h => ?_) fun h => nomatch h)
    refine sds_one (sd_retD ed_bl ?_)
    cases x <;> first | rfl | exact absurd ⟨_, rfl⟩ ht)
end
end Pg

namespace Pg
open PySem PySem.Spec PyProof.Rows L2 Sd
section
variable {P : Program} {w : World} {K : PySem.W.Frag} {mg : Str → Option Value} {base : Heap} {c : Cl}
def pre_check_share_t (c : Cl) : Pr := fun ss own post => ∃ x, ss = [.d x] ∧ own = [] ∧ post = fun o => o = if isShr x = true then .ret (.d .none) [] else .exc c.BadShare []
theorem fn_check_share_t (T : Tx K mg c) : Fn K mg P w base "check_share" ["value"] 3 (pre_check_share_t c) := T.d_check_share.fn fun f fd F => okG (k := 2) F sc_check_share (by rintro ss own post ⟨x, rfl, _⟩; rfl) (by
  rintro ss own post ⟨x, rfl, rfl, rfl⟩ cdv A outer s H E B g
  refine sds_one (sd_if (et_not (et_val (es_call (fn_is_share_t T) g (by decide) (ea_cons (ed_v 0) ea_nil) ⟨x, rfl, rfl, rfl⟩))) (fun h => ?_) fun h => ?_)
  · refine sds_one (sd_raise g T.e_BadShare ?_)
    show Out.exc c.BadShare [] = _
    rw [if_neg (by simpa using h)]
  · refine sds_nil ?_
    show Out.ret (.d .none) [] = _
    rw [if_pos (by simpa using h)])
theorem ok_shareT {c : Cl} {x : PyData} (h : isShr x = true) : pre_check_share_t c [.d x] [] (fun o => o = .ret (.d .none) []) := ⟨x, rfl, rfl, by rw [if_pos h]⟩
theorem no_shareT {c : Cl} {x : PyData} (h : isShr x = false) : pre_check_share_t c [.d x] [] (fun o => o = .exc c.BadShare []) := ⟨x, rfl, rfl, by rw [if_neg (by rw [h]; decide)]⟩
end
end Pg

namespace Pg
open PySem PySem.Spec PyProof.Rows L2 Sd
section
variable {P : Program} {w : World} {K : PySem.W.Frag} {mg : Str → Option Value} {base : Heap} {c : Cl}
def eqdO (c : Cl) (x : PyData) : Out := if isShr x = true then (match x with
  | .tuple [.int a, .int b] => if a = 1 ∧ b ≤ 8 then .ret (.d (.int b)) [] else .exc c.NotFound []
  | _ => .exc c.BadShare []) else .exc c.BadShare []
def pre_equal_days (c : Cl) : Pr := fun ss own post => ∃ x, ss = [.d x] ∧ own = [] ∧ post = fun o => o = eqdO c x
theorem fn_equal_days (T : Tx K mg c) : Fn K mg P w base "equal_days" ["chance"] 4 (pre_equal_days c) := T.d_equal_days.fn fun f fd F => okG (k := 3) F sc_equal_days (by rintro ss own post ⟨x, rfl, _⟩; rfl) (by
  rintro ss own post ⟨x, rfl, rfl, rfl⟩ cdv A outer s H E B g
  by_cases hs : isShr x = true
  · refine sds_cons (sd_expr (es_call (fn_check_share_t T) g (by decide) (ea_cons (ed_v 0) ea_nil) (ok_shareT hs)) ?_)
    have hx : ∃ a b, x = .tuple [.int a, .int b] ∧ 0 < b := by
      unfold isShr at hs
      split at hs
      · simp only [Bool.and_eq_true, decide_eq_true_eq] at hs
        exact ⟨_, _, rfl, hs.1⟩
      · cases hs
    obtain ⟨a, b, rfl, hb⟩ := hx
    have e : eqdO c (.tuple [.int a, .int b]) = if a = 1 ∧ b ≤ 8 then .ret (.d (.int b)) [] else .exc c.NotFound [] := by
      unfold eqdO
      rw [if_pos hs]
    refine sds_cons (sd_if (l := !decide (a = 1 ∧ b ≤ 8)) (ET.is (EW.et (ew_or (et_cmp c_neI (ed_ixT (ed_v 0) ed_int rfl) ed_int) fun _ => ew_or1 (et_not (et_val (es_call (fn_is_int T) g (by decide) (ea_cons (ed_ixT (ed_v 0) ed_int rfl) (ea_cons ed_int (ea_cons ed_int ea_nil))) ⟨_, _, _, rfl, rfl, rfl⟩))))) ?_) (fun h => ?_) fun h => sds_nil ?_)
    · have : (1 : Int) ≤ b := by omega
      simp [Sd.isInt, this]
    · refine sds_one (sd_raise g T.e_NotFound ?_)
      show Out.exc c.NotFound [] = eqdO c _
      rw [e, if_neg (by simp at h; omega)]
    · refine sds_one (sd_retD (ed_ixT (ed_v 0) ed_int rfl) ?_)
      show Out.ret (.d (.int b)) [] = eqdO c _
      rw [e, if_pos (by simpa using h)]
  · have hs : isShr x = false := by simpa using hs
    refine sds_cons (sd_exprX (ex_call (fn_check_share_t T) g (by decide) (ea_cons (ed_v 0) ea_nil) (no_shareT hs) ?_))
    unfold eqdO
    rw [hs]
    rfl)
end
end Pg

namespace Pg
open PySem PySem.Spec PyProof.Rows L2 Sd
section
variable {P : Program} {w : World} {K : PySem.W.Frag} {mg : Str → Option Value} {base : Heap} {c : Cl}
def pre_is_even : Pr := fun ss own post => ∃ (ys : List Int), ss = [.d (li ys)] ∧ own = [] ∧ Yr ys ∧ post = fun o => o = .ret (.d (.bool (decide (dst ys = 1)))) []
theorem fn_is_even (T : Tx K mg c) : Fn K mg P w base "is_even" ["year"] 4 pre_is_even := T.d_is_even.fn fun f fd F => okG (k := 3) F sc_is_even (by rintro ss own post ⟨ys, rfl, _⟩; rfl) (by
  rintro ss own post ⟨ys, rfl, rfl, hY, rfl⟩ cdv A outer s H E B g
  have hl := hY.hi
  refine sds_cons (sd_expr (es_call (fn_check_year T) g (by decide) (ea_cons (ed_v 0) ea_nil) (ok_year hY)) ?_)
  refine sds_one (sd_retD (ES.is (ed_cmp c_eqI (ed_lenset (ns := ys) g T.n_len T.n_set (ed_v 0) .d (by omega)) ed_int) (y := .bool (decide (dst ys = 1))) ?_) rfl)
  congr 1
  rw [Bool.eq_iff_iff]
  simp only [decide_eq_true_eq]
  omega)
end
end Pg

namespace Pg
open PySem PySem.Spec PyProof.Rows L2 Sd
section
variable {P : Program} {w : World} {K : PySem.W.Frag} {mg : Str → Option Value} {base : Heap} {c : Cl}
def pre_law_draw : Pr := fun ss own post => ∃ (d n : Addr) (cells : List Int) (cnt limit : Int), ss = [.raw (.ref d), .d (.int limit)] ∧ own = drw d n cells cnt ∧ cells ≠ [] ∧ 0 < limit ∧ limit < 1073741824 ∧
  post = fun o => ∃ r cells' cnt', 0 ≤ r ∧ r < limit ∧ cells' ≠ [] ∧ o = .ret (.d (.int r)) (drw d n cells' cnt')
theorem fn_law_draw (T : Tx K mg c) : Fn K mg P w base "_law_draw" ["draws", "limit"] 1 pre_law_draw := T.d_law_draw.fn fun f fd F => okG (k := 0) F sc_law_draw (by rintro ss own post ⟨d, n, cells, cnt, limit, rfl, _⟩; rfl) (by
  rintro ss own post ⟨d, n, cells, cnt, limit, rfl, rfl, hc, hl, hl2, rfl⟩ cdv A outer s H E B g
  unfold drw
  have hpos : (0 : Int) < cells.length := by
    have := List.length_pos_iff.mpr hc
    omega
  refine sds_cons (sd_set 2 g.nd (es_ixR (s := .raw (.ref n)) (q := d) (vs := [.ref n, .int cnt]) (by simp) (ev_v 0) ed_int rfl fun _ => rfl) ?_)
  refine sds_cons (sd_setitemR (oa := []) (q := d) (vs := [.ref n, .int cnt]) (n := 1) (v := .int (cnt + 1)) (ed_add (es_ixR (s := .d (.int cnt)) (q := d) (vs := [.ref n, .int cnt]) (by simp) (ev_v 0) ed_int rfl fun _ => Rep.int _) ed_int) (fun _ _ h => by cases h; rfl) (ev_v 0) ed_int rfl ?_)
  have eset : ([.ref n, .int cnt] : List V).set 1 (.int (cnt + 1)) = [.ref n, .int (cnt + 1)] := rfl
  rw [eset]
  refine sds_cons (sd_set 3 g.nd (ed_mod (es_ixR (s := .d (.int (cnt + 1))) (q := d) (vs := [.ref n, .int (cnt + 1)]) (by simp) (ev_v 0) ed_int rfl fun _ => Rep.int _) (ed_len (ds := cells.map PyData.int) T.n_len (ev_v 2) (Lst.o (by simp))) (by rw [List.length_map]; exact hpos)) ?_)
  rw [List.length_map]
  have h1 := Int.emod_nonneg (cnt + 1) (Int.ne_of_gt hpos)
  have h2 := Int.emod_lt_of_pos (cnt + 1) hpos
  obtain ⟨j, hj⟩ : ∃ j : Nat, (cnt + 1) % (cells.length : Int) = (j : Int) := ⟨((cnt + 1) % (cells.length : Int)).toNat, by omega⟩
  rw [hj]
  have hjl : j < cells.length := by omega
  have hat : (cells.map PyData.int)[j]? = some (.int cells[j]) := by
    rw [List.getElem?_map, List.getElem?_eq_getElem hjl]
    rfl
  have hix : ixN (cells.map PyData.int).length (j : Int) = some j := by
    unfold ixN
    rw [if_pos (by omega), if_pos (by rw [List.length_map]; omega)]
    simp
  refine sds_cons (sd_set 4 g.nd (ed_ixL (ds := cells.map PyData.int) (ev_v 2) (ed_v 3) (Lst.o (by simp)) (atI_ixN hix hat)) ?_)
  refine sds_cons (sd_if (et_cmp c_ge (ed_v 4) ed_int) (fun h => ?_) fun h => ?_)
  · refine sds_cons (sd_setitem (oa := [_]) (p := n) (n := j) (ed_fdivS (ed_v 4) (ed_v 1) ⟨hl, hl2⟩) (ev_v 2) (ed_v 3) hix ?_)
    refine sds_one (sd_retD (ed_mod (ed_v 4) (ed_v 1) hl) ?_)
    refine ⟨cells[j] % limit, cells.set j (cells[j] / limit), cnt + 1, Int.emod_nonneg _ (Int.ne_of_gt hl), Int.emod_lt_of_pos _ hl, fun z => hc (by simpa using z), ?_⟩
    rw [List.map_set]
    rfl
  · refine sds_nil ?_
    have m1 := fun x : Int => Int.emod_nonneg x (show (4294967291 : Int) ≠ 0 by decide)
    have m2 := fun x : Int => Int.emod_lt_of_pos x (show (0 : Int) < 4294967291 by decide)
    have m3 := fun x : Int => Int.emod_nonneg x (show (4294967279 : Int) ≠ 0 by decide)
    have m4 := fun x : Int => Int.emod_lt_of_pos x (show (0 : Int) < 4294967279 by decide)
    refine sds_cons (sd_set 5 g.nd (ed_mod (ed_add (ed_v 4) (ed_mulS ed_int (es_ixR (s := .d (.int (cnt + 1))) (q := d) (vs := [.ref n, .int (cnt + 1)]) (by simp) (ev_v 0) ed_int rfl fun _ => Rep.int _) (.inl ⟨by decide, by decide⟩))) ed_int (by decide)) ?_)
    refine sds_cons (sd_set 5 g.nd (ed_mod (ed_pow (ed_v 5) ed_int ⟨by decide, by decide, ?_⟩) ed_int (by decide)) ?_)
    · have a1 := m1 (cells[j] + 104729 * (cnt + 1))
      have a2 := m2 (cells[j] + 104729 * (cnt + 1))
      generalize (cells[j] + 104729 * (cnt + 1)) % 4294967291 = x at a1 a2
      show x.natAbs < 2 ^ 64
      omega
    · refine sds_one (sd_retD (ed_mod (ed_fdivS (ed_mod (ed_add (ed_mulS (ed_fdivS (ed_v 5) ed_int ⟨by decide, by decide⟩) ed_int (.inr ⟨by decide, by decide⟩)) (ed_v 5)) ed_int (by decide)) ed_int ⟨by decide, by decide⟩) (ed_v 1) hl) ?_)
      exact ⟨_, cells, cnt + 1, Int.emod_nonneg _ (Int.ne_of_gt hl), Int.emod_lt_of_pos _ hl, hc, rfl⟩)
end
end Pg

namespace Pg
open PySem PySem.Spec PyProof.Rows L2 Sd
section
variable {P : Program} {w : World} {K : PySem.W.Frag} {mg : Str → Option Value} {base : Heap} {c : Cl}
def pre_all_unlike : Pr := fun ss own post => ∃ (ys : List Int) (n : Nat), ss = [.d (li ys), .d (.int (n : Int))] ∧ own = [] ∧ Yr ys ∧ n ≤ 12 ∧ post = fun o => o = .ret (.d (fr (unl ys n))) []
theorem fn_all_unlike (T : Tx K mg c) : Fn K mg P w base "all_unlike" ["year", "many"] 4 pre_all_unlike := T.d_all_unlike.fn fun f fd F => okG (k := 3) F sc_all_unlike (by rintro ss own post ⟨ys, n, rfl, _⟩; rfl) (by
  rintro ss own post ⟨ys, n, rfl, rfl, hY, hn, rfl⟩ cdv A outer s H E B g
  refine sds_cons (sd_expr (es_call (fn_check_year T) g (by decide) (ea_cons (ed_v 0) ea_nil) (ok_year hY)) ?_)
  refine sds_cons (sd_expr (es_call (fn_check_many T) g (by decide) (ea_cons (ed_v 1) ea_nil) (ok_many ⟨by omega, by omega⟩)) ?_)
  exact sds_one (sd_retD (es_call (fn_unlike_of T) g (by decide) (ea_cons (ed_v 0) (ea_cons (ed_v 1) ea_nil)) ⟨ys, n, rfl, rfl, hY, hn, rfl⟩) rfl))
end
end Pg

namespace Pg
open PySem PySem.Spec PyProof.Rows L2 Sd
section
variable {P : Program} {w : World} {K : PySem.W.Frag} {mg : Str → Option Value} {base : Heap} {c : Cl}
def toS (i : Int) : Str := Str.ofString (toString i)
def numOk (n : Nat) : Bool := decide (1 ≤ ((toS ((n : Int) + 1)).length : Int)) && decide (((toS ((n : Int) + 1)).length : Int) ≤ 2) && ((toS ((n : Int) + 1)).cps.toList.map fun c => decide (c ∈ (Str.ofString "0123456789").cps.toList)).all id && decide (PySem.intText? (toS ((n : Int) + 1)) = some ((n : Int) + 1))
theorem numOk_all : ∀ n : Nat, n < 20 → numOk n = true := by decide +kernel
theorem num_ok {w : Int} (h : 1 ≤ w ∧ w ≤ 20) : (1 ≤ ((toS w).length : Int) ∧ ((toS w).length : Int) ≤ 2) ∧ ((toS w).cps.toList.map fun c => decide (c ∈ (Str.ofString "0123456789").cps.toList)).all id = true ∧ PySem.intText? (toS w) = some w := by
  have h1 := numOk_all (w - 1).toNat (by omega)
  unfold numOk at h1
  rw [show (((w - 1).toNat : Nat) : Int) + 1 = w by omega] at h1
  simp only [Bool.and_eq_true, decide_eq_true_eq] at h1
  exact ⟨⟨h1.1.1.1, h1.1.1.2⟩, h1.1.2, h1.2⟩
end
end Pg

namespace Pg
open PySem PySem.Spec PyProof.Rows L2 Sd
section
variable {P : Program} {w : World} {K : PySem.W.Frag} {mg : Str → Option Value} {base : Heap} {c : Cl}
def fmt (ys : List Int) : Str := Txt.join " " (ys.map toS)
theorem lens_le : ∀ {ys : List Int}, (∀ y ∈ ys, 1 ≤ y ∧ y ≤ 20) → ((ys.map toS).map (·.length)).sum ≤ 2 * ys.length
  | [], _ => by simp
  | y :: ys, h => by
    have ih := lens_le (ys := ys) fun z hz => h z (by simp [hz])
    have h1 := (num_ok (h y (by simp))).1
    simp only [List.map_cons, List.sum_cons, List.length_cons]
    omega
def pre_format_year : Pr := fun ss own post => ∃ ys : List Int, ss = [.d (li ys)] ∧ own = [] ∧ Yr ys ∧ post = fun o => o = .ret (.d (.str (fmt ys))) []
theorem fn_format_year (T : Tx K mg c) : Fn K mg P w base "format_year" ["year"] 4 pre_format_year := T.d_format_year.fn fun f fd F => okG (k := 3) F sc_format_year (by rintro ss own post ⟨ys, rfl, _⟩; rfl) (by
  rintro ss own post ⟨ys, rfl, rfl, hY, rfl⟩ cdv A outer s H E B g
  have hl := hY.hi
  have hlens := lens_le hY.it
  refine sds_cons (sd_expr (es_call (fn_check_year T) g (by decide) (ea_cons (ed_v 0) ea_nil) (ok_year hY)) ?_)
  refine sds_one (sd_retD (ed_join (zs := ys.map toS) ed_str (EL.ed (EL.is (ys := (ys.map toS).map PyData.str) (el_comp g (compP g (it_list (ed_v 0)) [("weight", 1)] (blkOk_by (N := ["year", "weight"]) (sc := defScope s_format_year) (by decide +kernel)) ys PyData.int rfl (fun y => some (.str (toS y))) (fun y => [.d (li ys), .d (.int y)]) [1] (by simp) (by omega) (fun _ _ => trivial)
      (fun d _ s H C cl fp g' => gt_name 1 g'.nd) (fun d _ s H C cl fp o g' => ets_nil) (fun y hy x hx s H C cl fp o g' => ?_))) (by rw [List.map_map]; exact congrFun List.filterMap_eq_map' _))) .d ?_) rfl)
  · cases hx
    have := hY.it y hy
    exact ed_strI T.n_str (ed_v 1) (Nat.lt_of_le_of_lt (Nat.log2_le_self _) (by omega))
  · rw [List.length_map]
    have e1 : (Str.ofString " ").length = 1 := by decide
    have : (ys.length * (Str.ofString " ").length) ≤ 8 := by rw [e1]; omega
    omega)
end
end Pg

namespace Pg
open PySem PySem.Spec PyProof.Rows L2 Sd
section
variable {P : Program} {w : World} {K : PySem.W.Frag} {mg : Str → Option Value} {base : Heap} {c : Cl}
theorem fr_mk {a b : Int} (hb : 0 < b) (hg : Int.gcd a b = 1) : PyData.tuple [.int a, .int b] = fr ((a : Rat) / b) := by
  have := fr_low a b hb
  rw [hg] at this
  rw [← this]
  simp
theorem shp_up {n m : Nat} {d : PyData} (h : Shp n d) (hn : n ≤ m) : Shp m d := ⟨h.1, Nat.le_trans h.2 hn⟩
end
end Pg

namespace Pg
open PySem PySem.Spec PyProof.Rows L2 Sd
section
variable {P : Program} {w : World} {K : PySem.W.Frag} {mg : Str → Option Value} {base : Heap} {c : Cl}
/-! two days read from a chance -/
structure Two (q : Rat) (h l : Nat) : Prop where
  lo : 1 ≤ l
  le : l ≤ h
  hi : h ≤ 20
  co : Nat.gcd h l = 1
  eq : 2 * (h : Rat) * (l : Rat) = q * ((h : Rat) + l) * ((h : Rat) + l)
theorem natQ_pos {n : Nat} (h : 1 ≤ n) : (0 : Rat) < (n : Rat) := by exact_mod_cast h
theorem sqf {x : Rat} {a b : Int} (hb : 0 < b) (hg : Int.gcd a b = 1) (h : x * b = a) : x.num = a ∧ (x.den : Int) = b := by
  have hb' : (b : Rat) ≠ 0 := by
    have : (0 : Rat) < b := by exact_mod_cast hb
    grind
  have e : x = (a : Rat) / b := by grind
  obtain ⟨h1, h2⟩ := low_eq a b hb
  rw [e, h1, h2, hg]
  simp
theorem gcd_sq {a b : Int} (h : Int.gcd a b = 1) : Int.gcd (a * a) (b * b) = 1 := by
  have h' : Nat.Coprime a.natAbs b.natAbs := h
  show Nat.gcd (a * a).natAbs (b * b).natAbs = 1
  rw [Int.natAbs_mul, Int.natAbs_mul]
  exact Nat.Coprime.mul_left (Nat.Coprime.mul_right h' h') (Nat.Coprime.mul_right h' h')
/-- what is there has roots -/
theorem two_roots {q x : Rat} (hx : x = 1 - 2 * q) {h l : Nat} (T : Two q h l) : 0 ≤ x ∧ q ≠ 0 ∧ ∃ r s : Nat, x.num = ((r * r : Nat) : Int) ∧ x.den = s * s := by
  have h1 := natQ_pos T.lo
  have h2 := natQ_pos (Nat.le_trans T.lo T.le)
  have e := T.eq
  have hs : (0 : Rat) < (h : Rat) + l := by grind
  obtain ⟨t, ht⟩ : ∃ t : Rat, t = ((h : Rat) - l) / ((h : Rat) + l) := ⟨_, rfl⟩
  have hts : t * ((h : Rat) + l) = (h : Rat) - l := by
    rw [ht]
    grind
  have hxx : x = t * t := by
    have : (x - t * t) * (((h : Rat) + l) * ((h : Rat) + l)) = 0 := by grind
    have h0 : ((h : Rat) + l) * ((h : Rat) + l) ≠ 0 := by
      have := Rat.mul_pos hs hs
      grind
    rcases Rat.mul_eq_zero.mp this with z | z
    · grind
    · exact absurd z h0
  have hle : (l : Rat) ≤ (h : Rat) := by exact_mod_cast T.le
  have ht0 : 0 ≤ t := by
    rcases Rat.le_total (a := 0) (b := t) with z | z
    · exact z
    · have := Rat.mul_le_mul_of_nonneg_right z (Rat.le_of_lt hs)
      have h0 : t * ((h : Rat) + l) = 0 := by grind
      rcases Rat.mul_eq_zero.mp h0 with w | w <;> grind
  refine ⟨by rw [hxx]; exact Rat.mul_nonneg ht0 ht0, fun z => ?_, t.num.toNat, t.den, ?_⟩
  · rw [z] at e
    have := Rat.mul_pos h1 h2
    grind
  · have hn := Rat.num_nonneg.mpr ht0
    have hg : Int.gcd t.num (t.den : Int) = 1 := t.reduced
    have hd := den_pos t
    obtain ⟨a1, a2⟩ := sqf (x := x) (a := t.num * t.num) (b := (t.den : Int) * t.den) (Int.mul_pos hd hd) (gcd_sq hg) (by
      have e1 := num_eq t
      push_cast at e1
      rw [hxx]
      push_cast
      rw [e1]
      grind)
    refine ⟨?_, ?_⟩
    · rw [a1]
      push_cast
      rw [Int.toNat_of_nonneg hn]
    · exact_mod_cast a2
/-- a ratio that fits -/
theorem two_of {q x : Rat} (hx : x = 1 - 2 * q) (hq : 0 < q) {r s : Nat} (h1 : x.num = ((r * r : Nat) : Int)) (h2 : x.den = s * s) : r < s ∧ ∀ y : Rat, y * ((s : Rat) - r) = (s : Rat) + r → (2 * y = q * (y + 1) * (y + 1)) ∧ 1 ≤ y := by
  have e := num_eq x
  rw [h1, h2] at e
  have es : (0 : Rat) < (s : Rat) := by
    rcases Nat.eq_zero_or_pos s with z | z
    · have := x.den_pos
      rw [h2, z] at this
      exact absurd this (by decide)
    · exact natQ_pos z
  have e' : (r : Rat) * r = x * (s * s) := by
    have := e
    push_cast at this
    exact this
  have hlt : r < s := by
    rcases Nat.lt_or_ge r s with h | h
    · exact h
    · exfalso
      have h' : (s : Rat) ≤ r := by exact_mod_cast h
      have h3 : (s : Rat) * s ≤ r * r := Rat.le_trans (Rat.mul_le_mul_of_nonneg_left h' (by grind)) (Rat.mul_le_mul_of_nonneg_right h' (by grind))
      have h4 := Rat.mul_pos hq (Rat.mul_pos es es)
      have h5 : (r : Rat) * r = s * s - 2 * (q * (s * s)) := by rw [e', hx]; grind
      grind
  refine ⟨hlt, fun y hy => ?_⟩
  have hd : (0 : Rat) < (s : Rat) - r := by
    have : (r : Rat) < s := by exact_mod_cast hlt
    grind
  have hr0 : (0 : Rat) ≤ (r : Rat) := by exact_mod_cast Nat.zero_le r
  constructor
  · have : (2 * y - q * (y + 1) * (y + 1)) * (((s : Rat) - r) * ((s : Rat) - r)) = 0 := by grind
    rcases Rat.mul_eq_zero.mp this with z | z
    · grind
    · have := Rat.mul_pos hd hd
      grind
  · rcases Rat.le_total (a := 1) (b := y) with h | h
    · exact h
    · have := Rat.mul_le_mul_of_nonneg_right h (Rat.le_of_lt hd)
      have h5 : (0 : Rat) ≤ r := hr0
      have h6 : (r : Rat) = 0 ∨ 0 < (r : Rat) := by
        rcases Nat.eq_zero_or_pos r with z | z
        · left; rw [z]; rfl
        · right; exact natQ_pos z
      rcases h6 with z | z
      · have : y * (s : Rat) = s := by grind
        have : (y - 1) * (s : Rat) = 0 := by grind
        rcases Rat.mul_eq_zero.mp this with w | w <;> grind
      · grind
theorem two_uniq {q y y' : Rat} (h : 2 * y = q * (y + 1) * (y + 1)) (h' : 2 * y' = q * (y' + 1) * (y' + 1)) (hy : 1 ≤ y) (hy' : 1 ≤ y') : y = y' := by
  have e : (y * y' - 1) * (y - y') * 2 = 0 := by grind
  have e2 : (y * y' - 1) * (y - y') = 0 := by grind
  rcases Rat.mul_eq_zero.mp e2 with z | z
  · have h1 := Rat.mul_le_mul_of_nonneg_left (c := y) hy' (by grind)
    have h2 := Rat.mul_le_mul_of_nonneg_left (c := y') hy (by grind)
    grind
  · grind
/-- the year of two days -/
theorem two_found {q y : Rat} (h : 2 * y = q * (y + 1) * (y + 1)) (hy : 1 ≤ y) : (∀ h' l', Two q h' l' → y.num = (h' : Int) ∧ y.den = l') ∧ (y.num ≤ 20 → Two q y.num.toNat y.den) := by
  have hd := den_pos y
  have hdq : (0 : Rat) < ((y.den : Int) : Rat) := by exact_mod_cast hd
  have hn := num_eq y
  constructor
  · intro h' l' T
    have a1 := natQ_pos T.lo
    obtain ⟨z, hz⟩ : ∃ z : Rat, z = (h' : Rat) / l' := ⟨_, rfl⟩
    have hzl : z * l' = h' := by rw [hz]; grind
    have hle : (l' : Rat) ≤ (h' : Rat) := by exact_mod_cast T.le
    have hz1 : 1 ≤ z := by
      rcases Rat.le_total (a := 1) (b := z) with w | w
      · exact w
      · have := Rat.mul_le_mul_of_nonneg_right w (Rat.le_of_lt a1)
        have : (z - 1) * (l' : Rat) = 0 := by grind
        rcases Rat.mul_eq_zero.mp this with v | v <;> grind
    have hze : 2 * z = q * (z + 1) * (z + 1) := by
      have e := T.eq
      have : (2 * z - q * (z + 1) * (z + 1)) * ((l' : Rat) * l') = 0 := by grind
      rcases Rat.mul_eq_zero.mp this with v | v
      · grind
      · have := Rat.mul_pos a1 a1
        grind
    have ey := two_uniq h hze hy hz1
    subst ey
    obtain ⟨b1, b2⟩ := sqf (x := y) (a := (h' : Int)) (b := (l' : Int)) (by have := T.lo; omega) (by
      show Nat.gcd _ _ = 1
      rw [Int.natAbs_natCast, Int.natAbs_natCast]
      exact T.co) (by push_cast; exact hzl)
    exact ⟨b1, by exact_mod_cast b2⟩
  · intro h20
    have h1 : (1 : Int) ≤ y.num ∧ (y.den : Int) ≤ y.num := by
      have := (le_fr 1 y).mpr hy
      simp at this
      omega
    have hc : ((y.num.toNat : Nat) : Rat) = (y.num : Rat) := by
      have : ((y.num.toNat : Nat) : Int) = y.num := by omega
      exact_mod_cast congrArg (fun i : Int => (i : Rat)) this
    have hdc : ((y.den : Nat) : Rat) = ((y.den : Int) : Rat) := by push_cast; rfl
    refine ⟨by have := y.den_pos; omega, by omega, by omega, ?_, ?_⟩
    · have := y.reduced
      rw [show y.num.toNat = y.num.natAbs by omega]
      exact this
    · rw [hc, hdc, hn]
      grind
end
end Pg

namespace Pg
open PySem PySem.Spec PyProof.Rows L2 Sd
section
variable {P : Program} {w : World} {K : PySem.W.Frag} {mg : Str → Option Value} {base : Heap} {c : Cl}
/-! ways that use k days -/
def uwT (T : Nat → Int) (w : Int) (n j : Nat) : Int := T j * (bin n (n - j) : Nat) * w ^ (n - j)
def uwS (T : Nat → Nat → Int) (w : Int) (k n : Nat) : Int := T k n + (if k = 0 then 0 else sumN (uwT (T (k - 1)) w n) n)
def uwF (ys : List Int) : Nat → Nat → Int := ys.foldl uwS (fun k n => if k = 0 ∧ n = 0 then 1 else 0)
theorem uwF_take {ys : List Int} {i : Nat} {y : Int} (h : ys[i]? = some y) : uwF (ys.take (i + 1)) = uwS (uwF (ys.take i)) y := by
  unfold uwF
  rw [List.take_add_one, h, List.foldl_append]
  rfl
theorem sumN_zero' {f : Nat → Int} {n : Nat} (h : ∀ i, i < n → f i = 0) : sumN f n = 0 := by rw [sumN_congr h, sumN_zero]
theorem uwF_out {ys : List Int} : ∀ i, i ≤ ys.length → ∀ k n, i < k → uwF (ys.take i) k n = 0
  | 0, _, k, n, hk => if_neg fun z => by omega
  | i + 1, hi, k, n, hk => by
    have hlt : i < ys.length := by omega
    rw [uwF_take (List.getElem?_eq_getElem hlt), uwS, uwF_out i (by omega) k n (by omega), if_neg (by omega), sumN_zero' fun j _ => by
      rw [uwT, uwF_out i (by omega) (k - 1) j (by omega), Int.zero_mul, Int.zero_mul]]
    rfl
theorem uwT_sz {b : Nat} {T : Nat → Int} {w : Int} {n j : Nat} (hT : ∀ n, n ≤ 12 → Sz b (T n)) (hw : 1 ≤ w ∧ w ≤ 20) (hn : n ≤ 12) (hj : j ≤ 12) : Sz (b + 74) (uwT T w n j) :=
  (((hT j hj).mul (sz_bin hn)).mul (sz_pw hw (by omega))).mono (by omega)
theorem uwS_sz {b : Nat} {T : Nat → Nat → Int} {w : Int} {k n : Nat} (hT : ∀ k n, n ≤ 12 → Sz b (T k n)) (hw : 1 ≤ w ∧ w ≤ 20) (hn : n ≤ 12) : Sz (b + 90) (uwS T w k n) := by
  unfold uwS
  split
  · exact ((hT k n hn).add (n := b) (j := 0) (by unfold Sz; exact Nat.two_pow_pos _)).mono (by omega)
  · exact ((hT k n hn).add (sumN_sz (b := b + 74) fun i hi => uwT_sz (hT (k - 1)) hw hn (by omega))).mono (by omega)
theorem uwF_sz {ys : List Int} (hY : ∀ y ∈ ys, 1 ≤ y ∧ y ≤ 20) : ∀ i, i ≤ ys.length → ∀ k n, n ≤ 12 → Sz (90 * i + 1) (uwF (ys.take i) k n)
  | 0, _, k, n, _ => by
    show Sz 1 (if k = 0 ∧ n = 0 then 1 else 0)
    split <;> (unfold Sz; decide)
  | i + 1, hi, k, n, hn => by
    have hlt : i < ys.length := by omega
    rw [uwF_take (List.getElem?_eq_getElem hlt)]
    exact (uwS_sz (uwF_sz hY i (by omega)) (hY _ (List.getElem_mem hlt)) hn).mono (by omega)
theorem uwF_szA {ys : List Int} (hY : Yr ys) (k : Nat) {n : Nat} (hn : n ≤ 12) : Sz 730 (uwF ys k n) := by
  have h := uwF_sz hY.it ys.length (Nat.le_refl _) k n hn
  rw [List.take_length] at h
  have := hY.hi
  exact h.mono (by omega)
/-- under way: rows before d done, of row d those before j -/
def uwU (T : Nat → Nat → Int) (w : Int) (d j k n : Nat) : Int := (if k < d ∨ (k = d ∧ n < j) then T k n else 0) + (if k = 0 then 0 else sumN (uwT (T (k - 1)) w n) (if k - 1 < d then n else if k - 1 = d then min n j else 0))
def uwV (T : Nat → Nat → Int) (w : Int) (d j o k n : Nat) : Int := uwU T w d j k n + (if k = d ∧ n = j then T d j else 0) + (if k = d + 1 ∧ j < n ∧ n ≤ j + o then uwT (T d) w n j else 0)
theorem uwU_zero (T : Nat → Nat → Int) (w : Int) (k n : Nat) : uwU T w 0 0 k n = 0 := by
  unfold uwU
  rw [if_neg (by omega)]
  by_cases h : k = 0
  · rw [if_pos h]; rfl
  · rw [if_neg h, if_neg (by omega)]
    split
    · rw [Nat.min_zero]; rfl
    · rfl
theorem uwV_zero (T : Nat → Nat → Int) (w : Int) (d j k n : Nat) : uwV T w d j 0 k n = if k = d ∧ n = j then uwU T w d j k n + T d j else uwU T w d j k n := by
  unfold uwV
  rw [if_neg (c := k = d + 1 ∧ j < n ∧ n ≤ j + 0) (by omega)]
  split <;> omega
theorem uwV_succ (T : Nat → Nat → Int) (w : Int) (d j o k n : Nat) : (if k = d + 1 ∧ n = j + (o + 1) then uwV T w d j o k n + uwT (T d) w (j + (o + 1)) j else uwV T w d j o k n) = uwV T w d j (o + 1) k n := by
  unfold uwV
  by_cases h : k = d + 1 ∧ n = j + (o + 1)
  · obtain ⟨rfl, rfl⟩ := h
    rw [if_pos ⟨rfl, rfl⟩, if_neg (c := d + 1 = d + 1 ∧ j < j + (o + 1) ∧ j + (o + 1) ≤ j + o) (by omega), if_pos (c := d + 1 = d + 1 ∧ j < j + (o + 1) ∧ j + (o + 1) ≤ j + (o + 1)) (by omega)]
    omega
  · rw [if_neg h]
    by_cases h2 : k = d + 1 ∧ j < n ∧ n ≤ j + o
    · rw [if_pos h2, if_pos (c := k = d + 1 ∧ j < n ∧ n ≤ j + (o + 1)) (by omega)]
    · rw [if_neg h2, if_neg (c := k = d + 1 ∧ j < n ∧ n ≤ j + (o + 1)) (by omega)]
theorem uwV_done (T : Nat → Nat → Int) (w : Int) {d j m k n : Nat} (hj : j ≤ m) (hn : n ≤ m) : uwV T w d j (m - j) k n = uwU T w d (j + 1) k n := by
  unfold uwV uwU
  by_cases h1 : k = d + 1
  · subst h1
    rw [if_neg (c := d + 1 < d ∨ d + 1 = d ∧ n < j) (by omega), if_neg (c := d + 1 < d ∨ d + 1 = d ∧ n < j + 1) (by omega), if_neg (c := d + 1 = d ∧ n = j) (by omega), if_neg (c := d + 1 = 0) (by omega), if_neg (c := d + 1 = 0) (by omega), Nat.add_sub_cancel, if_neg (c := d < d) (by omega), if_neg (c := d < d) (by omega), if_pos rfl, if_pos rfl]
    by_cases h2 : j < n
    · rw [if_pos (by omega), Nat.min_eq_right (by omega), Nat.min_eq_right (by omega), sumN]
      omega
    · rw [if_neg (by omega), Nat.min_eq_left (by omega), Nat.min_eq_left (by omega)]
      omega
  · rw [if_neg (c := k = d + 1 ∧ j < n ∧ n ≤ j + (m - j)) (by omega)]
    have e : (if k = 0 then (0 : Int) else sumN (uwT (T (k - 1)) w n) (if k - 1 < d then n else if k - 1 = d then min n j else 0)) = (if k = 0 then 0 else sumN (uwT (T (k - 1)) w n) (if k - 1 < d then n else if k - 1 = d then min n (j + 1) else 0)) := by
      by_cases h0 : k = 0
      · rw [if_pos h0, if_pos h0]
      · rw [if_neg h0, if_neg h0, if_neg (c := k - 1 = d) (by omega), if_neg (c := k - 1 = d) (by omega)]
    rw [e]
    by_cases h3 : k = d ∧ n = j
    · obtain ⟨rfl, rfl⟩ := h3
      rw [if_pos (c := k = k ∧ n = n) ⟨rfl, rfl⟩, if_neg (c := k < k ∨ k = k ∧ n < n) (by omega), if_pos (c := k < k ∨ k = k ∧ n < n + 1) (by omega)]
      omega
    · rw [if_neg h3]
      by_cases h4 : k < d ∨ k = d ∧ n < j
      · rw [if_pos h4, if_pos (c := k < d ∨ k = d ∧ n < j + 1) (by omega)]
        omega
      · rw [if_neg h4, if_neg (c := k < d ∨ k = d ∧ n < j + 1) (by omega)]
        omega
theorem uwU_next (T : Nat → Nat → Int) (w : Int) {d m k n : Nat} (hn : n ≤ m) : uwU T w d (m + 1) k n = uwU T w (d + 1) 0 k n := by
  unfold uwU
  have e1 : (if k < d ∨ k = d ∧ n < m + 1 then T k n else 0) = (if k < d + 1 ∨ k = d + 1 ∧ n < 0 then T k n else 0) := by
    by_cases h : k < d + 1
    · rw [if_pos (by omega), if_pos (by omega)]
    · rw [if_neg (by omega), if_neg (by omega)]
  rw [e1]
  congr 1
  by_cases h0 : k = 0
  · rw [if_pos h0, if_pos h0]
  · rw [if_neg h0, if_neg h0]
    congr 1
    by_cases h : k - 1 < d
    · rw [if_pos h, if_pos (by omega)]
    · rw [if_neg h]
      by_cases h2 : k - 1 = d
      · rw [if_pos h2, if_pos (by omega), Nat.min_eq_left (by omega)]
      · rw [if_neg h2, if_neg (by omega), Nat.min_zero]
        split <;> rfl
theorem uwU_end {T : Nat → Nat → Int} (w : Int) {D k n : Nat} (hT : ∀ n, T D n = 0) (hk : k ≤ D) : uwU T w D 0 k n = uwS T w k n := by
  unfold uwU uwS
  have e1 : (if k < D ∨ k = D ∧ n < 0 then T k n else 0) = T k n := by
    by_cases h : k < D
    · rw [if_pos (.inl h)]
    · rw [if_neg (by omega), show k = D by omega, hT]
  rw [e1]
  congr 1
  by_cases h0 : k = 0
  · rw [if_pos h0, if_pos h0]
  · rw [if_neg h0, if_neg h0, if_pos (by omega)]
/-- the chance that just k days have some -/
def usd (ys : List Int) (m k : Nat) : Rat := ((uwF ys k m : Int) : Rat) / ((ys.sum ^ m : Int) : Rat)
theorem usd_sq {ys : List Int} (hY : Yr ys) (k : Nat) {m : Nat} (hm : m ≤ 12) : Sq 730 (usd ys m k) := Sq.of_div (hY.posP m) (uwF_szA hY k hm) ((hY.szW.pow m).mono (by omega))
def alu (ys : List Int) (m : Nat) : Rat := usd ys m ys.length
end
end Pg

namespace Pg
open PySem PySem.Spec PyProof.Rows L2 Sd
section
variable {P : Program} {w : World} {K : PySem.W.Frag} {mg : Str → Option Value} {base : Heap} {c : Cl}
end
end Pg

namespace Pg
open PySem PySem.Spec PyProof.Rows L2 Sd
section
variable {P : Program} {w : World} {K : PySem.W.Frag} {mg : Str → Option Value} {base : Heap} {c : Cl}
/-! evening -/
end
end Pg

namespace Pg
open PySem PySem.Spec PyProof.Rows L2 Sd
section
variable {P : Program} {w : World} {K : PySem.W.Frag} {mg : Str → Option Value} {base : Heap} {c : Cl}
/-! sets of days, with signs -/
/-- the sum over all sets S of l of (-1)^|S| h(w_S) -/
def Vs : List Int → (Int → Rat) → Rat
  | [], h => h 0
  | w :: l, h => Vs l h - Vs l (fun s => h (s + w))
theorem Vs_congr {h h' : Int → Rat} (e : ∀ s, h s = h' s) (l : List Int) : Vs l h = Vs l h' := by
  have : h = h' := funext e
  rw [this]
theorem Vs_mul (c : Rat) : ∀ (l : List Int) (h : Int → Rat), Vs l (fun s => c * h s) = c * Vs l h
  | [], h => rfl
  | w :: l, h => by
    rw [Vs, Vs, Vs_mul c l, Vs_mul c l (fun s => h (s + w))]
    grind
def Us (l : List Int) : Rat := - Vs l (fun s => 1 / ((s : Int) : Rat))
end
end Pg

namespace Pg
open PySem PySem.Spec PyProof.Rows L2 Sd
section
variable {P : Program} {w : World} {K : PySem.W.Frag} {mg : Str → Option Value} {base : Heap} {c : Cl}
def pre_plus : Pr := fun ss own post => ∃ (p q : Rat) (m n : Nat), ss = [.d (fr p), .d (fr q)] ∧ own = [] ∧ Sq m p ∧ Sq n q ∧ m + n ≤ 8990 ∧ post = fun o => o = .ret (.d (fr (p + q))) []
theorem fn_plus (T : Tx K mg c) : Fn K mg P w base "plus" ["one", "other"] 3 pre_plus := T.d_plus.fn fun f fd F => okG (k := 2) F sc_plus (by rintro ss own post ⟨p, q, m, n, rfl, _⟩; rfl) (by
  rintro ss own post ⟨p, q, m, n, rfl, rfl, hp, hq, hmn, rfl⟩ cdv A outer s H E B g
  refine sds_one (sd_retD (es_call (fn_lowest T) g (by decide) (ea_cons (ed_add (ed_mul (ed_ixT (ed_v 0) ed_int rfl) (ed_ixT (ed_v 1) ed_int rfl) (cmul_of hp.num hq.den (by omega))) (ed_mul (ed_ixT (ed_v 1) ed_int rfl) (ed_ixT (ed_v 0) ed_int rfl) (cmul_of hq.num hp.den (by omega))))
    (ea_cons (ed_mul (ed_ixT (ed_v 0) ed_int rfl) (ed_ixT (ed_v 1) ed_int rfl) (cmul_of hp.den hq.den (by omega))) ea_nil)) ⟨_, _, rfl, rfl, Int.mul_pos (den_pos p) (den_pos q), (hp.den.mul hq.den).mono (by omega), rfl⟩) ?_)
  rw [plus_eq])
end
end Pg

namespace Pg
open PySem PySem.Spec PyProof.Rows L2 Sd
section
variable {P : Program} {w : World} {K : PySem.W.Frag} {mg : Str → Option Value} {base : Heap} {c : Cl}
def setsS (s : List (Int × Int)) (w : Int) : List (Int × Int) := s ++ s.map fun p => (p.1 + w, -p.2)
def setsL (l : List Int) : List (Int × Int) := l.foldl setsS [(0, -1)]
def Sg (s : List (Int × Int)) (h : Int → Rat) : Rat := (s.map fun p => (p.2 : Rat) * h p.1).sum
theorem Sg_fold : ∀ (l : List Int) (s : List (Int × Int)) (h : Int → Rat), Sg (l.foldl setsS s) h = (s.map fun p => (p.2 : Rat) * Vs l (fun x => h (p.1 + x))).sum
  | [], s, h => by
    unfold Sg
    rw [List.foldl_nil]
    congr 1
    refine List.map_congr_left fun p _ => ?_
    rw [Vs, Int.add_zero]
  | w :: l, s, h => by
    rw [List.foldl_cons, Sg_fold l, setsS, List.map_append, List.sum_append, List.map_map]
    induction s with
    | nil => show (0 : Rat) + 0 = 0; grind
    | cons p s ih =>
      rw [List.map_cons, List.map_cons, List.map_cons, List.sum_cons, List.sum_cons, List.sum_cons, ← ih, Vs]
      have e : Vs l (fun x => h (p.1 + w + x)) = Vs l (fun x => h (p.1 + (x + w))) := Vs_congr (fun x => by congr 1; omega) l
      show _ + (((-p.2 : Int) : Rat) * Vs l (fun x => h (p.1 + w + x)) + _) = _
      rw [e]
      push_cast
      grind
theorem Sg_sets (l : List Int) (h : Int → Rat) : Sg (setsL l) h = - Vs l h := by
  rw [setsL, Sg_fold]
  have e : Vs l (fun x => h (0 + x)) = Vs l h := Vs_congr (fun x => by rw [Int.zero_add]) l
  show ((-1 : Int) : Rat) * Vs l (fun x => h (0 + x)) + 0 = _
  rw [e]
  push_cast
  grind
theorem setsS_len (s : List (Int × Int)) (w : Int) : (setsS s w).length = 2 * s.length := by unfold setsS; rw [List.length_append, List.length_map]; omega
theorem setsL_take {ys : List Int} {i : Nat} {y : Int} (h : ys[i]? = some y) : setsL (ys.take (i + 1)) = setsS (setsL (ys.take i)) y := by
  unfold setsL
  rw [List.take_add_one, h, List.foldl_append]
  rfl
theorem setsL_spec : ∀ (l : List Int) (s : List (Int × Int)) (m : Int), (∀ y ∈ l, 0 < y) → 0 ≤ m → (∀ p ∈ s, 0 < p.1 ∧ p.1 ≤ m ∧ (p.2 = 1 ∨ p.2 = -1)) → ∃ t, l.foldl setsS ((0, -1) :: s) = (0, -1) :: t ∧ ∀ p ∈ t, 0 < p.1 ∧ p.1 ≤ m + l.sum ∧ (p.2 = 1 ∨ p.2 = -1)
  | [], s, m, _, _, h => ⟨s, rfl, fun p hp => by have := h p hp; simp only [List.sum_nil]; omega⟩
  | y :: l, s, m, hl, hm, h => by
    have hy := hl y (by simp)
    obtain ⟨t, e, ht⟩ := setsL_spec l (s ++ ((0, -1) :: s).map fun p => (p.1 + y, -p.2)) (m + y) (fun z hz => hl z (by simp [hz])) (by omega) (fun p hp => by
      rcases List.mem_append.mp hp with hp | hp
      · have := h p hp
        omega
      · obtain ⟨q, hq, rfl⟩ := List.mem_map.mp hp
        rcases List.mem_cons.mp hq with rfl | hq
        · exact ⟨by show 0 < 0 + y; omega, by show 0 + y ≤ m + y; omega, .inl rfl⟩
        · have := h q hq
          refine ⟨by show 0 < q.1 + y; omega, by show q.1 + y ≤ m + y; omega, ?_⟩
          show -q.2 = 1 ∨ -q.2 = -1
          omega)
    refine ⟨t, ?_, fun p hp => ?_⟩
    · rw [List.foldl_cons, setsS, List.cons_append]
      exact e
    · have := ht p hp
      rw [List.sum_cons]
      omega
def mua (ys : List Int) : Rat := (ys.sum : Rat) * Us ys
def muaP (W : Int) (t : List (Int × Int)) : Rat := (t.map fun p => (((p.2 * W : Int) : Rat) / (p.1 : Rat))).sum
theorem mua_eq {ys : List Int} {t : List (Int × Int)} (h : setsL ys = (0, -1) :: t) : muaP ys.sum t = mua ys := by
  have h1 := Sg_sets ys (fun s => (ys.sum : Rat) * (1 / (s : Rat)))
  rw [Vs_mul, h] at h1
  have h2 : Sg ((0, -1) :: t) (fun s => (ys.sum : Rat) * (1 / (s : Rat))) = muaP ys.sum t := by
    unfold Sg muaP
    rw [List.map_cons, List.sum_cons]
    have e : (((-1 : Int) : Rat) * ((ys.sum : Rat) * (1 / ((0 : Int) : Rat)))) = 0 := by
      have : (1 : Rat) / ((0 : Int) : Rat) = 0 := by rw [Rat.div_def]; simp
      rw [this]
      grind
    rw [e, Rat.zero_add]
    congr 1
    refine List.map_congr_left fun p _ => ?_
    push_cast
    rw [Rat.div_def, Rat.div_def]
    grind
  rw [← h2, h1, mua, Us]
  grind
theorem muaP_take {W : Int} {t : List (Int × Int)} {i : Nat} {p : Int × Int} (h : t[i]? = some p) : muaP W (t.take (i + 1)) = muaP W (t.take i) + ((p.2 * W : Int) : Rat) / (p.1 : Rat) := by
  unfold muaP
  rw [List.take_add_one, h, List.map_append, List.sum_append]
  simp only [Option.toList_some, List.map_cons, List.map_nil, List.sum_cons, List.sum_nil, Rat.add_zero]
theorem muaP_sq {W : Int} (hW : Sz 8 W) {t : List (Int × Int)} (ht : ∀ p ∈ t, 0 < p.1 ∧ p.1 ≤ 160 ∧ (p.2 = 1 ∨ p.2 = -1)) : ∀ i, i ≤ t.length → Sq (9 * i + 1) (muaP W (t.take i))
  | 0, _ => .zero
  | i + 1, hi => by
    have e : t[i]? = some t[i] := List.getElem?_eq_getElem (by omega)
    have hp := ht _ (List.getElem_mem (show i < t.length by omega))
    rw [muaP_take e]
    refine ((muaP_sq hW ht i (by omega)).add (n := 8) (Sq.of_div hp.1 ?_ ?_)).mono (by omega)
    · unfold Sz at *
      rcases hp.2.2 with h | h <;> rw [h] <;> omega
    · unfold Sz
      omega
def pre_mean_until_all : Pr := fun ss own post => ∃ (ys : List Int), ss = [.d (li ys)] ∧ own = [] ∧ Yr ys ∧ post = fun o => o = .ret (.d (fr (mua ys))) []
theorem el_k2n {Z : Sd.Ctx} {ρ : List Slot} {own : Own} {j j' x1 : Nat} {p1 p2 p3 p4 p5 : Pos} : EL Z (.List [.Tuple [.Constant (.int 0) j p1, .UnaryOp .USub (.Constant (.int 1) j' p2) p3] x1 p4] p5) ρ own [pr (0, -1)] := by
  have h : ED Z (.UnaryOp .USub (.Constant (.int 1) j' p2) p3) ρ own (.int (-1)) := by with_reducible exact ed_neg ed_int
  have h2 : EA Z [.UnaryOp .USub (.Constant (.int 1) j' p2) p3] ρ own [.d (.int (-1))] := ea_cons h ea_nil
  have h3 : ED Z (.Tuple [.Constant (.int 0) j p1, .UnaryOp .USub (.Constant (.int 1) j' p2) p3] x1 p4) ρ own (.tuple [.int 0, .int (-1)]) := by with_reducible exact ed_tb2 (eb_k ed_int h2)
  have h4 : EA Z [.Tuple [.Constant (.int 0) j p1, .UnaryOp .USub (.Constant (.int 1) j' p2) p3] x1 p4] ρ own [.d (.tuple [.int 0, .int (-1)])] := by with_reducible exact eb_t h3 ea_nil
  exact el_lst (ds := [pr (0, -1)]) h4
theorem fn_mean_until_all (T : Tx K mg c) : Fn K mg P w base "mean_until_all" ["year"] 4 pre_mean_until_all := T.d_mean_until_all.fn fun f fd F => okG (k := 3) F sc_mean_until_all (by rintro ss own post ⟨ys, rfl, _⟩; rfl) (by
  rintro ss own post ⟨ys, rfl, rfl, hY, rfl⟩ cdv A outer s H E B g
  have hl := hY.hi
  refine sds_rtdrop ?_
  refine sds_cons (sd_expr (es_call (fn_check_year T) g (by decide) (ea_cons (ed_v 0) ea_nil) (ok_year hY)) ?_)
  show SDs _ (_ :: _) _ _ _
  with_reducible refine sds_cons ?_
  with_reducible refine sd_par 1 2 (t := .d (.int ys.sum)) g (eb_t (ed_k2 (i := 0) (i' := 1)) (eb_c ?sum ea_nil)) ?nxt ?i1 ?i2 ?i3 ?i4 ?i5 ?i6 ?i7
  case sum => exact ed_sum g T.n_sum (ed_v 0) .d
  case i1 => rfl
  case i2 => rfl
  case i3 => decide
  case i4 => rfl
  case i5 => rfl
  case i6 => rfl
  case i7 => rfl
  show SDs _ (_ :: _) _ _ _
  with_reducible refine sds_cons ?_
  with_reducible refine sd_setL 3 g.nd el_k2n ?nxt2 ?k1 ?k2 ?k3 ?k4
  case k1 => rfl
  case k2 => first | exact Or.inl rfl | exact Or.inr rfl
  case k3 => rfl
  case k4 => first | exact .inl rfl | exact .inr rfl
  intro p
  have hlen : ∀ i, i ≤ ys.length → (setsL (ys.take i)).length = 2 ^ i := fun i => by
    induction i with
    | zero => intro _; rfl
    | succ i ih =>
      intro hi
      rw [setsL_take (List.getElem?_eq_getElem (show i < ys.length by omega)), setsS_len, ih (by omega), Nat.pow_succ]
      omega
  have h256 : ∀ i, i ≤ ys.length → (setsL (ys.take i)).length ≤ 256 := fun i hi => by
    rw [hlen i hi]
    have := Nat.pow_le_pow_right (show 0 < 2 by decide) (show i ≤ 8 by omega)
    omega
  refine sds_cons (sd_for g (it_list (ed_v 0)) (fun i ρ own => own = [(p, .lst ((setsL (ys.take i)).map pr))] ∧ ∃ t4, ρ = [.d (li ys), .d (fr 0), .d (.int ys.sum), .raw (.ref p), t4, .un, .un]) ⟨rfl, _, rfl⟩ (fun _ _ _ _ => trivial) ?_ ?_)
  · rintro i y ρ1 own1 hy ⟨rfl, t4, rfl⟩
    rw [List.getElem?_map] at hy
    cases ea : ys[i]? with
    | none => rw [ea] at hy; cases hy
    | some y' =>
      rw [ea] at hy
      cases hy
      have hi := (List.getElem?_eq_some_iff.mp ea).1
      have hn := h256 i (by omega)
      have hn1 := h256 (i + 1) (by omega)
      rw [setsL_take ea] at hn1 ⊢
      rw [setsS_len] at hn1
      generalize setsL (ys.take i) = sl at hn hn1 ⊢
      refine ⟨_, _, gt_name 4 g.nd, ?_⟩
      refine sds_one (sd_ext 3 (oa := []) (ob := []) (ys := (sl.map fun p => (p.1 + y', -p.2)).map pr) g.nd rfl (EL.ed (EL.is (el_comp g (compP g (it_own (q := p) (ds := sl.map pr) (ev_v 3) (by simp)) [("one", 5), ("sign", 6)] (blkOk_by (N := ["year", "found", "whole", "sets", "weight", "one", "sign"]) (sc := defScope s_mean_until_all) (by decide +kernel)) sl pr rfl (fun r => some (pr (r.1 + y', -r.2))) (fun r => [.d (li ys), .d (fr 0), .d (.int ys.sum), .raw (.ref p), .d (.int y'), .d (.int r.1), .d (.int r.2)]) [5, 6] (by simp) (by omega) (fun _ _ => by simp)
        (fun r _ s H C cl fp g' => gt_tup g'.calm (gts_cons (gt_name 5 g'.nd) (gts_cons (gt_name 6 g'.nd) gts_nil)) rfl) (fun r _ s H C cl fp o g' => ets_nil) (fun r hr x hx s H C cl fp o g' => ?_))) ?_)) .d ?_ ?_)
      · cases hx
        exact ed_tup (ds := [.int (r.1 + y'), .int (-r.2)]) (ea_cons (ed_add (ed_v 5) (ed_v 4)) (ea_cons (ed_neg (ed_v 6)) ea_nil))
      · rw [List.map_map]
        exact congrFun List.filterMap_eq_map' _
      · simp only [List.length_map]
        omega
      · exact ⟨by rw [setsS, List.map_append]; rfl, _, rfl⟩
  · rintro ρ1 own1 ⟨rfl, t4, rfl⟩
    rw [List.length_map, List.take_length]
    have hn := h256 ys.length (Nat.le_refl _)
    rw [List.take_length] at hn
    obtain ⟨t, e, ht⟩ := setsL_spec ys [] 0 (fun y hy => by have := hY.it y hy; omega) (Int.le_refl _) (fun p hp => nomatch hp)
    have hw := hY.sum_hi
    have e : setsL ys = (0, -1) :: t := e
    have hmu := mua_eq e
    have ht2 : ∀ p ∈ t, 0 < p.1 ∧ p.1 ≤ 160 ∧ (p.2 = 1 ∨ p.2 = -1) := fun p hp => by have := ht p hp; omega
    rw [e] at hn ⊢
    simp only [List.length_cons] at hn
    refine sds_freeze 3 (oa := []) rfl ?_
    refine sds_cons (sd_for g (ys := t.map pr) (it_list (EL.ed (EL.is (el_slice (ed_v 3) (po_yes ed_int) po_no .d) ?_))) (fun i ρ own => own = [] ∧ ∃ t5 t6, ρ = [.d (li ys), .d (fr (muaP ys.sum (t.take i))), .d (.int ys.sum), .d (.list (((0, -1) :: t).map pr)), t4, t5, t6]) ⟨rfl, _, _, rfl⟩ (fun _ _ _ _ => trivial) ?_ ?_)
    · exact cutD_from (((0, -1) :: t).map pr) 1 (by simp)
    · rintro i y ρ1 own1 hy ⟨rfl, t5, t6, rfl⟩
      rw [List.getElem?_map] at hy
      cases ea : t[i]? with
      | none => rw [ea] at hy; cases hy
      | some q =>
        rw [ea] at hy
        cases hy
        have hi := (List.getElem?_eq_some_iff.mp ea).1
        have hq := ht2 q (List.mem_of_getElem? ea)
        have hz := hY.szW
        have hsq := muaP_sq hY.szW ht2 i (by omega)
        have hq8 : Sz 8 q.1 := by unfold Sz; omega
        have hqs : Sq 8 (((q.2 * ys.sum : Int) : Rat) / (q.1 : Rat)) := Sq.of_div hq.1 (by
          unfold Sz at *
          rcases hq.2.2 with h | h <;> rw [h] <;> omega) (by unfold Sz; omega)
        rw [muaP_take ea]
        refine ⟨_, _, gt_tup g.calm (gts_cons (gt_name 5 g.nd) (gts_cons (gt_name 6 g.nd) gts_nil)) rfl, ?_⟩
        refine sds_one (sd_set 1 g.nd (es_call (fn_plus T) g (by decide) (ea_cons (ed_v 1) (ea_cons (es_call (fn_lowest T) g (by decide) (ea_cons (ed_mulS (ed_v 6) (ed_v 2) (.inl ⟨by omega, by omega⟩)) (ea_cons (ed_v 5) ea_nil)) ⟨_, _, rfl, rfl, hq.1, hq8.mono (by decide), rfl⟩) ea_nil)) ⟨_, _, _, 8, rfl, rfl, hsq, hqs, by omega, rfl⟩) ?_)
        exact ⟨rfl, _, _, rfl⟩
    · rintro ρ1 own1 ⟨rfl, t5, t6, rfl⟩
      rw [List.length_map, List.take_length, hmu]
      exact sds_one (sd_retD (ed_v 1) rfl))
end
end Pg

namespace Pg
open PySem PySem.Spec PyProof.Rows L2 Sd
section
variable {P : Program} {w : World} {K : PySem.W.Frag} {mg : Str → Option Value} {base : Heap} {c : Cl}
def mus (ys : List Int) : Rat := sumTo (unl ys) (ys.length + 1)
theorem mus_sq {ys : List Int} (h : Yr ys) : ∀ n, n ≤ 9 → Sq (201 * n + 1) (sumTo (unl ys) n)
  | 0, _ => .zero
  | n + 1, hn => by
    show Sq _ (sumTo (unl ys) n + unl ys n)
    exact ((mus_sq h n (by omega)).add (unl_sq h (by omega))).mono (by omega)
def pre_mean_until_same : Pr := fun ss own post => ∃ (ys : List Int), ss = [.d (li ys)] ∧ own = [] ∧ Yr ys ∧ post = fun o => o = .ret (.d (fr (mus ys))) []
theorem fn_mean_until_same (T : Tx K mg c) : Fn K mg P w base "mean_until_same" ["year"] 4 pre_mean_until_same := T.d_mean_until_same.fn fun f fd F => okG (k := 3) F sc_mean_until_same (by rintro ss own post ⟨ys, rfl, _⟩; rfl) (by
  rintro ss own post ⟨ys, rfl, rfl, hY, rfl⟩ cdv A outer s H E B g
  have hl := hY.hi
  refine sds_cons (sd_expr (es_call (fn_check_year T) g (by decide) (ea_cons (ed_v 0) ea_nil) (ok_year hY)) ?_)
  refine sds_cons (sd_set 1 g.nd (ed_k2 (i := 0) (i' := 1)) ?_)
  refine sds_cons (sd_for g (it_range1 T.n_range (ed_add (ES.is (y := .int (ys.length : Int)) (ed_len T.n_len (ed_v 0) .d) (by rw [List.length_map])) ed_int) ⟨by omega, by omega⟩) (fun i ρ own => own = [] ∧ ∃ t, ρ = [.d (li ys), .d (fr (sumTo (unl ys) i)), t]) ⟨rfl, _, rfl⟩ (fun _ _ _ _ => trivial) ?_ ?_)
  · rintro i y ρ1 own1 hy ⟨rfl, t, rfl⟩
    obtain ⟨hi, rfl⟩ := rng_get hy
    have hi : i ≤ ys.length := by omega
    have e0 : (0 : Int) + (i : Int) = (i : Int) := by omega
    rw [e0]
    refine ⟨_, _, gt_name 2 g.nd, sds_one (sd_set 1 g.nd (es_call (fn_plus T) g (by decide) (ea_cons (ed_v 1) (ea_cons (es_call (fn_unlike_of T) g (by decide) (ea_cons (ed_v 0) (ea_cons (ed_v 2) ea_nil)) ⟨ys, i, rfl, rfl, hY, by omega, rfl⟩) ea_nil)) ⟨_, _, _, _, rfl, rfl, mus_sq hY i (by omega), unl_sq hY (by omega), by omega, rfl⟩) ?_)⟩
    exact ⟨rfl, _, rfl⟩
  · rintro ρ1 own1 ⟨rfl, t, rfl⟩
    rw [rng_length, show ((ys.length : Int) + 1).toNat = ys.length + 1 by omega]
    exact sds_one (sd_retD (ed_v 1) rfl))
end
end Pg

namespace Pg
open PySem PySem.Spec PyProof.Rows L2 Sd
section
variable {P : Program} {w : World} {K : PySem.W.Frag} {mg : Str → Option Value} {base : Heap} {c : Cl}
def pre_check_share : Pr := fun ss own post => ∃ (q : Rat), ss = [.d (fr q)] ∧ own = [] ∧ Shr q ∧ post = fun o => o = .ret (.d .none) []
theorem fn_check_share (T : Tx K mg c) : Fn K mg P w base "check_share" ["value"] 3 pre_check_share := T.d_check_share.fn fun f fd F => okG (k := 2) F sc_check_share (by rintro ss own post ⟨q, rfl, _⟩; rfl) (by
  rintro ss own post ⟨q, rfl, rfl, hq, rfl⟩ cdv A outer s H E B g
  refine sds_one (sd_ifF (ET.is (et_not (et_val (es_call (fn_is_share T) g (by decide) (ea_cons (ed_v 0) ea_nil) ⟨q, rfl, rfl, hq, rfl⟩))) rfl) rfl))
end
end Pg

namespace Pg
open PySem PySem.Spec PyProof.Rows L2 Sd
section
variable {P : Program} {w : World} {K : PySem.W.Frag} {mg : Str → Option Value} {base : Heap} {c : Cl}
def pre_minus : Pr := fun ss own post => ∃ (p q : Rat) (m n : Nat), ss = [.d (fr p), .d (fr q)] ∧ own = [] ∧ Sq m p ∧ Sq n q ∧ m + n ≤ 8990 ∧ post = fun o => o = .ret (.d (fr (p - q))) []
theorem fn_minus (T : Tx K mg c) : Fn K mg P w base "minus" ["one", "other"] 3 pre_minus := T.d_minus.fn fun f fd F => okG (k := 2) F sc_minus (by rintro ss own post ⟨p, q, m, n, rfl, _⟩; rfl) (by
  rintro ss own post ⟨p, q, m, n, rfl, rfl, hp, hq, hmn, rfl⟩ cdv A outer s H E B g
  refine sds_one (sd_retD (es_call (fn_lowest T) g (by decide) (ea_cons (ed_sub (ed_mul (ed_ixT (ed_v 0) ed_int rfl) (ed_ixT (ed_v 1) ed_int rfl) (cmul_of hp.num hq.den (by omega))) (ed_mul (ed_ixT (ed_v 1) ed_int rfl) (ed_ixT (ed_v 0) ed_int rfl) (cmul_of hq.num hp.den (by omega))))
    (ea_cons (ed_mul (ed_ixT (ed_v 0) ed_int rfl) (ed_ixT (ed_v 1) ed_int rfl) (cmul_of hp.den hq.den (by omega))) ea_nil)) ⟨_, _, rfl, rfl, Int.mul_pos (den_pos p) (den_pos q), (hp.den.mul hq.den).mono (by omega), rfl⟩) ?_)
  rw [minus_eq])
end
end Pg

namespace Pg
open PySem PySem.Spec PyProof.Rows L2 Sd
section
variable {P : Program} {w : World} {K : PySem.W.Frag} {mg : Str → Option Value} {base : Heap} {c : Cl}
def nedF (ys : List Int) (q : Rat) : Nat → Nat → Nat
  | s, 0 => s
  | s, m + 1 => if q ≤ 1 - unl ys s then s else nedF ys q (s + 1) m
def ned (ys : List Int) (q : Rat) : Nat := nedF ys q 0 (ys.length + 1)
def pre_needed : Pr := fun ss own post => ∃ (ys : List Int) (q : Rat), ss = [.d (li ys), .d (fr q)] ∧ own = [] ∧ Yr ys ∧ Shr q ∧ Sq 100 q ∧ post = fun o => o = .ret (.d (.int (ned ys q : Nat))) []
theorem fn_needed (T : Tx K mg c) : Fn K mg P w base "needed" ["year", "share"] 4 pre_needed := T.d_needed.fn fun f fd F => okG (k := 3) F sc_needed (by rintro ss own post ⟨ys, q, rfl, _⟩; rfl) (by
  rintro ss own post ⟨ys, q, rfl, rfl, hY, hq, hz, rfl⟩ cdv A outer s H E B g
  have hl := hY.hi
  refine sds_cons (sd_expr (es_call (fn_check_year T) g (by decide) (ea_cons (ed_v 0) ea_nil) (ok_year hY)) ?_)
  refine sds_cons (sd_expr (es_call (fn_check_share T) g (by decide) (ea_cons (ed_v 1) ea_nil) ⟨q, rfl, rfl, hq, rfl⟩) ?_)
  refine sds_cons (sd_for g (it_range1 T.n_range (ed_add (ES.is (y := .int (ys.length : Int)) (ed_len T.n_len (ed_v 0) .d) (by rw [List.length_map])) ed_int) ⟨by omega, by omega⟩) (fun i ρ own => own = [] ∧ ned ys q = nedF ys q i (ys.length + 1 - i) ∧ ∃ t, ρ = [.d (li ys), .d (fr q), t]) ⟨rfl, rfl, _, rfl⟩ (fun _ _ _ _ => trivial) ?_ ?_)
  · rintro i y ρ1 own1 hy ⟨rfl, hn, t, rfl⟩
    obtain ⟨hi, rfl⟩ := rng_get hy
    have hi : i ≤ ys.length := by omega
    have e0 : (0 : Int) + (i : Int) = (i : Int) := by omega
    rw [e0]
    rw [show ys.length + 1 - i = (ys.length - i) + 1 by omega, nedF] at hn
    refine ⟨_, _, gt_name 2 g.nd, sds_one (sd_if (et_val (es_call (fn_at_most T) g (by decide) (ea_cons (ed_v 1) (ea_cons (es_call (fn_minus T) g (by decide) (ea_cons (ed_k2 (i := 1) (i' := 1)) (ea_cons (es_call (fn_unlike_of T) g (by decide) (ea_cons (ed_v 0) (ea_cons (ed_v 2) ea_nil)) ⟨ys, i, rfl, rfl, hY, by omega, rfl⟩) ea_nil)) ⟨1, _, 1, 200, rfl, rfl, .one, unl_sq hY (by omega), by decide, rfl⟩) ea_nil)) ⟨q, _, 100, _, rfl, rfl, hz, Sq.one.sub (unl_sq hY (by omega)), by decide, rfl⟩)) (fun h => ?_) fun h => sds_nil ?_)⟩
    · have h : q ≤ 1 - unl ys i := by simpa using h
      rw [if_pos h] at hn
      refine sds_one (sd_retD (ed_v 2) ?_)
      rw [hn]
    · have h : ¬ q ≤ 1 - unl ys i := by simpa using h
      rw [if_neg h] at hn
      exact ⟨rfl, by rw [hn, show ys.length + 1 - (i + 1) = ys.length - i by omega], _, rfl⟩
  · rintro ρ1 own1 ⟨rfl, hn, t, rfl⟩
    rw [rng_length, show ((ys.length : Int) + 1).toNat = ys.length + 1 by omega, Nat.sub_self, nedF] at hn
    refine sds_one (sd_retD (ES.is (y := .int ((ys.length + 1 : Nat) : Int)) (ed_add (ES.is (y := .int (ys.length : Int)) (ed_len T.n_len (ed_v 0) .d) (by rw [List.length_map])) ed_int) (by push_cast; rfl)) ?_)
    rw [hn])
end
end Pg

namespace Pg
open PySem PySem.Spec PyProof.Rows L2 Sd
section
variable {P : Program} {w : World} {K : PySem.W.Frag} {mg : Str → Option Value} {base : Heap} {c : Cl}
def pre_choose : Pr := fun ss own post => ∃ n k : Nat, ss = [.d (.int (n : Int)), .d (.int (k : Int))] ∧ own = [] ∧ k ≤ n ∧ n ≤ 1000 ∧ post = fun o => o = .ret (.d (.int (bin n k : Nat))) []
theorem fn_choose (T : Tx K mg c) : Fn K mg P w base "choose" ["whole", "part"] 1 pre_choose := T.d_choose.fn fun f fd F => okG (k := 0) F sc_choose (by rintro ss own post ⟨n, k, rfl, _⟩; rfl) (by
  rintro ss own post ⟨n, k, rfl, rfl, hk, hn, rfl⟩ cdv A outer s H E B g
  refine sds_cons (sd_set 2 g.nd ed_int ?_)
  refine sds_cons (sd_for g (it_range1 T.n_range (ed_v 1) ⟨by omega, by omega⟩) (fun i ρ own => own = [] ∧ ∃ t, ρ = [.d (.int (n : Int)), .d (.int (k : Int)), .d (.int (bin n i : Nat)), t]) ⟨rfl, _, by rw [bin_zero]; rfl⟩ (fun _ _ _ _ => trivial) ?_ ?_)
  · rintro i y ρ1 own1 hy ⟨rfl, t, rfl⟩
    obtain ⟨hi, rfl⟩ := rng_get hy
    have hi : i < k := by omega
    refine ⟨_, _, gt_name 3 g.nd, sds_one (sd_set 2 g.nd (ed_fdivS (ed_mul (ed_v 2) (ed_sub (ed_v 0) (ed_v 3)) (cmul_of (a := n) (b := 64) ?_ ?_ (by omega))) (ed_add (ed_v 3) ed_int) ⟨by omega, by omega⟩) ?_)⟩
    · unfold Sz
      rw [Int.natAbs_natCast]
      exact bin_lt n i hi hk
    · unfold Sz
      omega
    · refine ⟨rfl, .d (.int (0 + (i : Int))), ?_⟩
      have e : ((bin n i : Nat) : Int) * ((n : Int) - (0 + (i : Int))) / (0 + (i : Int) + 1) = (bin n (i + 1) : Nat) := bin_step n i (by omega)
      rw [e]
      rfl
  · rintro ρ1 own1 ⟨rfl, t, rfl⟩
    rw [rng_length]
    refine sds_one (sd_retD (ed_v 2) ?_)
    show Out.ret (.d (.int (bin n (k : Int).toNat : Nat))) [] = _
    rw [Int.toNat_natCast])
end
end Pg

namespace Pg
open PySem PySem.Spec PyProof.Rows L2 Sd
section
variable {P : Program} {w : World} {K : PySem.W.Frag} {mg : Str → Option Value} {base : Heap} {c : Cl}
def uwN : List Str := ["year", "many", "table", "weight", "fresh", "days", "row", "whole", "ways", "own", "k"]
abbrev uwD (T : Nat → Nat → Int) (D m : Nat) : PyData := .list ((List.range D).map fun k => PyData.list (tabZ (T k) (m + 1)))
def pre_used_ways : Pr := fun ss own post => ∃ (ys : List Int) (m : Nat), ss = [.d (li ys), .d (.int (m : Int))] ∧ own = [] ∧ Yr ys ∧ m ≤ 12 ∧ post = fun o => ∃ p, o = .ret (.raw (.ref p)) [(p, .lst (tabZ (fun k => uwF ys k m) (ys.length + 1)))]
theorem fn_used_ways (T : Tx K mg c) : Fn K mg P w base "used_ways" ["year", "many"] 2 pre_used_ways := T.d_used_ways.fn fun f fd F => okG (k := 1) F sc_used_ways (by rintro ss own post ⟨ys, m, rfl, _⟩; rfl) (by
  rintro ss own post ⟨ys, m, rfl, rfl, hY, hm, rfl⟩ cdv A outer s H E B g
  have hl := hY.hi
  show SDs _ (_ :: _) _ _ _
  with_reducible refine sds_cons ?_
  with_reducible refine sd_set 2 g.nd (s := .d (uwD (uwF (ys.take 0)) 1 m)) ?A ?B ?C1 ?C2 ?C3 ?C4
  case C1 => rfl
  case C2 => first | exact Or.inl rfl | exact Or.inr rfl
  case C3 => rfl
  case C4 => first | exact .inl rfl | exact .inr rfl
  case A =>
    have e0 : uwD (uwF (ys.take 0)) 1 m = .list [.list (tabZ (fun k => if k = 0 then 1 else 0) (m + 1))] := by
      show PyData.list [PyData.list _] = PyData.list [PyData.list _]
      refine congrArg (fun t => PyData.list [PyData.list t]) (tabZ_congr fun k _ => ?_)
      show (if 0 = 0 ∧ k = 0 then (1 : Int) else 0) = _
      by_cases h : k = 0
      · rw [if_pos h, if_pos ⟨rfl, h⟩]
      · rw [if_neg h, if_neg fun z => h z.2]
    rw [e0]
    with_reducible refine ed_lb1 (eb_b ?_ ea_nil)
    exact EL.ed (EL.is (el_cat (xs := [.int 1]) (ys := (List.replicate (m : Int).toNat [PyData.int 0]).flatten) ed_k1 (EL.ed (el_rep ed_k1 (ed_v 1) .d (by omega) (by simp))) .d .d (by rw [Int.toNat_natCast, tabZ_const, tabZ_len]; simp; omega)) (by rw [Int.toNat_natCast, tabZ_unit]))
  case B =>
  refine sds_cons (sd_for g (it_list (ed_v 0)) (fun i ρ own => own = [] ∧ ∃ t3 t4 t5 t6 t7 t8 t9 t10, ρ = [.d (li ys), .d (.int (m : Int)), .d (uwD (uwF (ys.take i)) (i + 1) m), t3, t4, t5, t6, t7, t8, t9, t10]) ⟨rfl, _, _, _, _, _, _, _, _, rfl⟩ (fun _ _ _ _ => trivial) ?_ ?_)
  · rintro i y ρ1 own1 hy ⟨rfl, t3, t4, t5, t6, t7, t8, t9, t10, rfl⟩
    rw [List.getElem?_map] at hy
    cases ea : ys[i]? with
    | none => rw [ea] at hy; cases hy
    | some y' =>
      rw [ea] at hy
      cases hy
      have hmem : y' ∈ ys := List.mem_of_getElem? ea
      have hy20 := hY.it _ hmem
      have hi := (List.getElem?_eq_some_iff.mp ea).1
      have hsz := uwF_sz hY.it i (by omega)
      have hout := fun n => uwF_out (ys := ys) i (by omega) (i + 1) n (by omega)
      rw [uwF_take ea]
      generalize uwF (ys.take i) = W at hsz hout ⊢
      refine ⟨_, _, gt_name 3 g.nd, ?_⟩
      refine sds_cons (sd_setCR 4 g (compR (tb := fun k => tabZ ((fun _ _ => 0) k) (m + 1)) g (it_range1 T.n_range (ed_add (ES.is (y := .int ((i + 1 : Nat) : Int)) (ed_len T.n_len (ed_v 2) .d) (by simp)) ed_int) (by omega)) [("k", 10)] (blkOk_by (N := uwN) (sc := defScope s_used_ways) (by decide +kernel)) (fun _ _ => trivial) (by rw [rng_length]; omega) ?_) ?_ rfl)
      · intro j yy as D _
        exact ⟨_, _, by simp, fun s H C cl fp => gt_name 10 g.nd, fun s H C cl fp => EL.is (el_rep (ed_k1 (i := 0)) (ed_add (ed_v 1) ed_int) .d (by omega) (by simp)) (by rw [show ((m : Int) + 1).toNat = m + 1 by omega, tabZ_const])⟩
      intro q as hal
      have hal : as.length = i + 2 := by
        rw [hal, rng_length]
        omega
      rw [rowsO_congr (f := fun k => tabZ ((fun _ _ => 0) k) (m + 1)) (g := fun k => tabZ (uwU W y' 0 0 k) (m + 1)) fun k _ => tabZ_congr fun n _ => (uwU_zero W y' k n).symm]
      refine sds_cons (sd_for g (it_enum T.n_enumerate (ed_v 2)) (fun d ρ own => own = (q, .raw (.lst (as.map V.ref))) :: (rowsO as (fun k => tabZ (uwU W y' d 0 k) (m + 1)) ++ []) ∧ ∃ t5 t6 t7 t8 t9 t10, ρ = [.d (li ys), .d (.int (m : Int)), .d (uwD W (i + 1) m), .d (.int y'), .raw (.ref q), t5, t6, t7, t8, t9, t10]) ⟨rfl, _, _, _, _, _, _, rfl⟩ (fun _ _ _ _ => trivial) ?_ ?_)
      · rintro d yy ρ2 own2 hyy ⟨rfl, t5, t6, t7, t8, t9, t10, rfl⟩
        obtain ⟨row, hrow, rfl⟩ := enumD_get hyy
        have hd : d < i + 1 ∧ row = .list (tabZ (W d) (m + 1)) := by
          rw [List.getElem?_map, Option.map_eq_some_iff] at hrow
          obtain ⟨d', h1, rfl⟩ := hrow
          have h2 := (List.getElem?_eq_some_iff.mp h1).1
          rw [List.length_range] at h2
          rw [List.getElem?_range h2] at h1
          cases h1
          exact ⟨h2, rfl⟩
        obtain ⟨hd, rfl⟩ := hd
        refine ⟨_, _, gt_tup g.calm (gts_cons (gt_name 5 g.nd) (gts_cons (gt_name 6 g.nd) gts_nil)) rfl, ?_⟩
        refine sds_one (sd_for g (it_enum T.n_enumerate (ed_v 6)) (fun j ρ own => own = (q, .raw (.lst (as.map V.ref))) :: (rowsO as (fun k => tabZ (uwU W y' d j k) (m + 1)) ++ []) ∧ ∃ t7 t8 t9 t10, ρ = [.d (li ys), .d (.int (m : Int)), .d (uwD W (i + 1) m), .d (.int y'), .raw (.ref q), .d (.int (d : Int)), .d (.list (tabZ (W d) (m + 1))), t7, t8, t9, t10]) ⟨rfl, _, _, _, _, rfl⟩ (fun _ _ _ _ => trivial) ?_ ?_)
        · rintro j yz ρ3 own3 hyz ⟨rfl, t7, t8, t9, t10, rfl⟩
          obtain ⟨vv, hvv, rfl⟩ := enumD_get hyz
          have hj : j < m + 1 := by
            have := (List.getElem?_eq_some_iff.mp hvv).1
            rwa [tabZ_len] at this
          rw [tabZ_get hj] at hvv
          cases hvv
          refine ⟨_, _, gt_tup g.calm (gts_cons (gt_name 7 g.nd) (gts_cons (gt_name 8 g.nd) gts_nil)) rfl, ?_⟩
          refine sds_cons (sd_aug2 (a := d) (b := j) (z := W d j) (F := uwU W y' d j) (fun o => ev_v 4) (fun o => ed_v 5) (fun o => ed_v 7) (fun o => ed_v 8) (by omega) hj ?_)
          rw [rowsO_congr (f := fun k => tabZ (fun n => if k = d ∧ n = j then uwU W y' d j k n + W d j else uwU W y' d j k n) (m + 1)) (g := fun k => tabZ (uwV W y' d j 0 k) (m + 1)) fun k _ => tabZ_congr fun n _ => by
            rw [uwV_zero]]
          refine sds_one (sd_for g (it_range2 T.n_range ed_int (ed_add (ed_sub (ed_v 1) (ed_v 7)) ed_int) (by omega)) (fun o ρ own => own = (q, .raw (.lst (as.map V.ref))) :: (rowsO as (fun k => tabZ (uwV W y' d j o k) (m + 1)) ++ []) ∧ ∃ t9 t10, ρ = [.d (li ys), .d (.int (m : Int)), .d (uwD W (i + 1) m), .d (.int y'), .raw (.ref q), .d (.int (d : Int)), .d (.list (tabZ (W d) (m + 1))), .d (.int (j : Int)), .d (.int (W d j)), t9, t10]) ⟨rfl, _, _, rfl⟩ (fun _ _ _ _ => trivial) ?_ ?_)
          · rintro o yo ρ4 own4 hyo ⟨rfl, t9, t10, rfl⟩
            obtain ⟨ho, rfl⟩ := rng_get hyo
            have ho : j + (o + 1) ≤ m := by omega
            rw [show (1 : Int) + (o : Int) = ((o + 1 : Nat) : Int) by omega]
            have e1 : (j : Int) + ((o + 1 : Nat) : Int) = ((j + (o + 1) : Nat) : Int) := by omega
            have z1 := hsz d j (by omega)
            have z2 : Sz 13 (bin (j + (o + 1)) (o + 1) : Nat) := sz_bin (by omega)
            refine ⟨_, _, gt_name 9 g.nd, sds_one (sd_aug2 (a := d + 1) (b := j + (o + 1)) (z := uwT (W d) y' (j + (o + 1)) j) (F := uwV W y' d j o) (fun o => ev_v 4) (fun o => ES.is (ed_add (ed_v 5) ed_int) (by push_cast; rfl)) (fun _ => ES.is (ed_add (ed_v 7) (ed_v 9)) (by rw [e1])) (fun _ => ES.is (ed_mul (ed_mul (ed_v 8) (es_call (fn_choose T) g (by decide) (ea_cons (ES.is (ed_add (ed_v 7) (ed_v 9)) (by rw [e1])) (ea_cons (ed_v 9) ea_nil)) ⟨j + (o + 1), o + 1, rfl, rfl, by omega, by omega, rfl⟩) (cmul_of z1 z2 (by omega))) (es_call (fn_power T) g (by decide) (ea_cons (ed_v 3) (ea_cons (ed_v 9) ea_nil)) ⟨y', o + 1, 5, rfl, rfl, by unfold Sz; omega, by omega, by decide, rfl⟩) (cmul_of (z1.mul z2) (sz_pw hy20 (by omega)) (by omega))) ?_) (by omega) (by omega) ?_)⟩
            · rw [uwT, show j + (o + 1) - j = o + 1 by omega]
            · refine ⟨?_, _, _, rfl⟩
              rw [rowsO_congr (g := fun k => tabZ (uwV W y' d j (o + 1) k) (m + 1)) fun k _ => tabZ_congr fun n _ => uwV_succ W y' d j o k n]
          · rintro ρ4 own4 ⟨rfl, t9, t10, rfl⟩
            rw [rng_length, show ((m : Int) - (j : Int) + 1 - 1).toNat = m - j by omega]
            refine ⟨?_, _, _, _, _, rfl⟩
            rw [rowsO_congr (g := fun k => tabZ (uwU W y' d (j + 1) k) (m + 1)) fun k _ => tabZ_congr fun n hn => uwV_done W y' (by omega) (by omega)]
        · rintro ρ3 own3 ⟨rfl, t7, t8, t9, t10, rfl⟩
          have el : (enumD (tabZ (W d) (m + 1))).length = m + 1 := by simp [enumD, tabZ_len]
          rw [el]
          refine ⟨?_, _, _, _, _, _, _, rfl⟩
          rw [rowsO_congr (g := fun k => tabZ (uwU W y' (d + 1) 0 k) (m + 1)) fun k _ => tabZ_congr fun n hn => uwU_next W y' (by omega)]
      · rintro ρ2 own2 ⟨rfl, t5, t6, t7, t8, t9, t10, rfl⟩
        have el : (enumD ((List.range (i + 1)).map fun k => PyData.list (tabZ (W k) (m + 1)))).length = i + 1 := by simp [enumD]
        rw [el, rowsO_congr (f := fun k => tabZ (uwU W y' (i + 1) 0 k) (m + 1)) (g := fun k => tabZ (uwS W y' k) (m + 1)) fun k hk => tabZ_congr fun n hn => uwU_end y' (hout) (by omega)]
        refine sds_cons (sd_set 2 g.nd (ev_v 4) ?_)
        refine sds_freezeRows 2 rfl ?_
        rw [hal]
        exact sds_nil ⟨rfl, _, _, _, _, _, _, _, _, rfl⟩
  · rintro ρ1 own1 ⟨rfl, t3, t4, t5, t6, t7, t8, t9, t10, rfl⟩
    rw [List.length_map, List.take_length]
    refine sds_one (sd_retL (EL.is (el_comp g (compP g (it_list (ed_v 2)) [("row", 6)] (blkOk_by (N := uwN) (sc := defScope s_used_ways) (by decide +kernel)) (List.range (ys.length + 1)) (fun k => PyData.list (tabZ (uwF ys k) (m + 1))) rfl (fun k => some (.int (uwF ys k m))) (fun k => [.d (li ys), .d (.int (m : Int)), .d (uwD (uwF ys) (ys.length + 1) m), t3, t4, t5, .d (.list (tabZ (uwF ys k) (m + 1))), t7, t8, t9, t10]) [6] (by simp) (by rw [List.length_range]; omega) (fun _ _ => trivial)
      (fun i _ s H C cl fp g' => gt_name 6 g'.nd) (fun i _ s H C cl fp o g' => ets_nil) (fun i hi z hz s H C cl fp o g' => ?_))) ?_) fun p => ⟨p, rfl⟩)
    · cases hz
      exact ed_ixL (ed_v 6) (ed_v 1) .d (tabZ_at (by omega))
    · exact congrFun List.filterMap_eq_map' _)
end
end Pg

namespace Pg
open PySem PySem.Spec PyProof.Rows L2 Sd
section
variable {P : Program} {w : World} {K : PySem.W.Frag} {mg : Str → Option Value} {base : Heap} {c : Cl}
def pre_all_used_of : Pr := fun ss own post => ∃ (ys : List Int) (m : Nat), ss = [.d (li ys), .d (.int (m : Int))] ∧ own = [] ∧ Yr ys ∧ m ≤ 12 ∧ post = fun o => o = .ret (.d (fr (alu ys m))) []
theorem fn_all_used_of (T : Tx K mg c) : Fn K mg P w base "all_used_of" ["year", "many"] 3 pre_all_used_of := T.d_all_used_of.fn fun f fd F => okG (k := 2) F sc_all_used_of (by rintro ss own post ⟨ys, m, rfl, _⟩; rfl) (by
  rintro ss own post ⟨ys, m, rfl, rfl, hY, hm, rfl⟩ cdv A outer s H E B g
  have h2 : Sz 97 (ys.sum ^ m) := (hY.szW.pow m).mono (by omega)
  refine sds_one (sd_retD (es_call (fn_lowest T) g (by decide) (ea_cons (ed_ixL (ds := tabZ (fun k => uwF ys k m) (ys.length + 1)) (d := .int (uwF ys ys.length m)) (EL.ed (el_call (fn_used_ways T) g (by decide) (ea_cons (ed_v 0) (ea_cons (ed_v 1) ea_nil)) ⟨ys, m, rfl, rfl, hY, hm, rfl⟩)) (ed_neg ed_int) .d ?_) (ea_cons (es_call (fn_power T) g (by decide) (ea_cons (ed_sum g T.n_sum (ed_v 0) .d) (ea_cons (ed_v 1) ea_nil)) ⟨_, m, 8, rfl, rfl, hY.szW, by omega, by decide, rfl⟩) ea_nil)) ⟨_, _, rfl, rfl, hY.posP m, h2.mono (by decide), rfl⟩) rfl)
  refine atI_ixN (n := ys.length) ?_ (tabZ_get (by omega))
  unfold ixN
  rw [tabZ_len, if_neg (by omega), if_pos (by omega)]
  congr 1
  omega)
theorem alu_sq {ys : List Int} (hY : Yr ys) {m : Nat} (hm : m ≤ 12) : Sq 730 (alu ys m) := usd_sq hY _ hm
end
end Pg

namespace Pg
open PySem PySem.Spec PyProof.Rows L2 Sd
section
variable {P : Program} {w : World} {K : PySem.W.Frag} {mg : Str → Option Value} {base : Heap} {c : Cl}
def nfaF (ys : List Int) (q : Rat) : Nat → Nat → PyData
  | _, 0 => .none
  | s, m + 1 => if q ≤ alu ys s then .int (s : Int) else nfaF ys q (s + 1) m
def nfa (ys : List Int) (q : Rat) : PyData := nfaF ys q 0 13
def pre_needed_for_all : Pr := fun ss own post => ∃ (ys : List Int) (q : Rat), ss = [.d (li ys), .d (fr q)] ∧ own = [] ∧ Yr ys ∧ Shr q ∧ Sq 100 q ∧ post = fun o => o = .ret (.d (nfa ys q)) []
theorem fn_needed_for_all (T : Tx K mg c) : Fn K mg P w base "needed_for_all" ["year", "share"] 4 pre_needed_for_all := T.d_needed_for_all.fn fun f fd F => okG (k := 3) F sc_needed_for_all (by rintro ss own post ⟨ys, q, rfl, _⟩; rfl) (by
  rintro ss own post ⟨ys, q, rfl, rfl, hY, hq, hz, rfl⟩ cdv A outer s H E B g
  refine sds_cons (sd_expr (es_call (fn_check_year T) g (by decide) (ea_cons (ed_v 0) ea_nil) (ok_year hY)) ?_)
  refine sds_cons (sd_expr (es_call (fn_check_share T) g (by decide) (ea_cons (ed_v 1) ea_nil) ⟨q, rfl, rfl, hq, rfl⟩) ?_)
  refine sds_cons (sd_for g (it_range1 T.n_range ed_int (by omega)) (fun i ρ own => own = [] ∧ nfa ys q = nfaF ys q i (13 - i) ∧ ∃ t, ρ = [.d (li ys), .d (fr q), t]) ⟨rfl, rfl, _, rfl⟩ (fun _ _ _ _ => trivial) ?_ ?_)
  · rintro i y ρ1 own1 hy ⟨rfl, hn, t, rfl⟩
    obtain ⟨hi, rfl⟩ := rng_get hy
    have hi : i < 13 := hi
    rw [show (0 : Int) + (i : Int) = (i : Int) by omega]
    rw [show 13 - i = (12 - i) + 1 by omega, nfaF] at hn
    refine ⟨_, _, gt_name 2 g.nd, sds_one (sd_if (et_val (es_call (fn_at_most T) g (by decide) (ea_cons (ed_v 1) (ea_cons (es_call (fn_all_used_of T) g (by decide) (ea_cons (ed_v 0) (ea_cons (ed_v 2) ea_nil)) ⟨ys, i, rfl, rfl, hY, by omega, rfl⟩) ea_nil)) ⟨q, _, 100, _, rfl, rfl, hz, alu_sq hY (by omega), by decide, rfl⟩)) (fun h => ?_) fun h => sds_nil ?_)⟩
    · have h : q ≤ alu ys i := by simpa using h
      rw [if_pos h] at hn
      refine sds_one (sd_retD (ed_v 2) ?_)
      rw [hn]
    · have h : ¬ q ≤ alu ys i := by simpa using h
      rw [if_neg h] at hn
      exact ⟨rfl, by rw [hn, show 13 - (i + 1) = 12 - i by omega], _, rfl⟩
  · rintro ρ1 own1 ⟨rfl, hn, t, rfl⟩
    refine sds_one (sd_retD ed_non ?_)
    rw [hn]
    rfl)
end
end Pg

namespace Pg
open PySem PySem.Spec PyProof.Rows L2 Sd
section
variable {P : Program} {w : World} {K : PySem.W.Frag} {mg : Str → Option Value} {base : Heap} {c : Cl}
/-! dicts as lists of pairs -/
theorem putT_keys {κ α : Type} [DecidableEq κ] (tb : List (κ × α)) (k : κ) (v : α) : (putT tb k v).map (·.1) = if k ∈ tb.map (·.1) then tb.map (·.1) else tb.map (·.1) ++ [k] := by
  unfold putT
  by_cases h : (tb.any fun e => decide (e.1 = k)) = true
  · have hm : k ∈ tb.map (·.1) := by
      obtain ⟨e, he, hd⟩ := List.any_eq_true.mp h
      exact List.mem_map.mpr ⟨e, he, of_decide_eq_true hd⟩
    rw [if_pos h, if_pos hm, List.map_map]
    refine List.map_congr_left fun e _ => ?_
    show (if e.1 = k then (e.1, v) else e).1 = e.1
    split <;> rfl
  · have hm : k ∉ tb.map (·.1) := fun z => by
      obtain ⟨e, he, rfl⟩ := List.mem_map.mp z
      exact h (List.any_eq_true.mpr ⟨e, he, decide_eq_true rfl⟩)
    rw [if_neg h, if_neg hm, List.map_append]
    rfl
theorem putT_nodup {κ α : Type} [DecidableEq κ] {tb : List (κ × α)} (h : (tb.map (·.1)).Nodup) (k : κ) (v : α) : ((putT tb k v).map (·.1)).Nodup := by
  rw [putT_keys]
  split
  · exact h
  · rename_i hn
    refine List.nodup_append.mpr ⟨h, by simp, fun a ha b hb z => ?_⟩
    have : b = k := by simpa using hb
    rw [z, this] at ha
    exact hn ha
theorem nodup_lt : ∀ (n : Nat) (l : List Nat), l.Nodup → (∀ x ∈ l, x < n) → l.length ≤ n
  | 0, [], _, _ => Nat.le_refl _
  | 0, a :: l, _, h => absurd (h a List.mem_cons_self) (by omega)
  | n + 1, l, hn, h => by
    have h1 := nodup_lt n (l.erase n) (hn.erase n) fun x hx => by
      have h2 := h x (List.mem_of_mem_erase hx)
      have h3 : x ≠ n := fun z => (hn.mem_erase_iff.mp hx).1 z
      omega
    have := List.length_erase_le (a := n) (l := l)
    by_cases hm : n ∈ l
    · have := List.length_erase_of_mem hm
      have : 0 < l.length := List.length_pos_of_mem hm
      omega
    · rw [List.erase_of_not_mem hm] at h1
      omega
theorem keys_box {α : Type} {A B : Nat} {tb : List ((Nat × Nat) × α)} (hn : (tb.map (·.1)).Nodup) (h : ∀ e ∈ tb, e.1.1 < A ∧ e.1.2 < B) : tb.length ≤ A * B := by
  have h1 := nodup_lt (A * B) ((tb.map (·.1)).map fun k => k.1 * B + k.2) (by
    refine List.nodup_iff_pairwise_ne.mpr (List.pairwise_map.mpr (List.Pairwise.imp_of_mem ?_ (List.nodup_iff_pairwise_ne.mp hn)))
    · intro a b ha hb hab z
      obtain ⟨e, he, rfl⟩ := List.mem_map.mp ha
      obtain ⟨f, hf, rfl⟩ := List.mem_map.mp hb
      obtain ⟨a1, a2⟩ := h e he
      obtain ⟨b1, b2⟩ := h f hf
      have d1 : (e.1.1 * B + e.1.2) / B = e.1.1 := by rw [Nat.mul_comm, Nat.mul_add_div (by omega), Nat.div_eq_of_lt a2]; rfl
      have d2 : (f.1.1 * B + f.1.2) / B = f.1.1 := by rw [Nat.mul_comm, Nat.mul_add_div (by omega), Nat.div_eq_of_lt b2]; rfl
      have z : e.1.1 * B + e.1.2 = f.1.1 * B + f.1.2 := z
      rw [z, d2] at d1
      rw [← d1] at z
      exact hab (Prod.ext d1.symm (by omega))) fun x hx => by
    obtain ⟨k, hk, rfl⟩ := List.mem_map.mp hx
    obtain ⟨e, he, rfl⟩ := List.mem_map.mp hk
    obtain ⟨a1, a2⟩ := h e he
    have := Nat.mul_le_mul_right B (show e.1.1 + 1 ≤ A from a1)
    rw [Nat.add_mul] at this
    omega
  simpa using h1
/-- as data -/
def encT {κ : Type} (key : κ → List Int) (tb : List (κ × Int)) : List (List Int × PyData) := tb.map fun e => (key e.1, PyData.int e.2)
theorem enc_get {κ : Type} [DecidableEq κ] {key : κ → List Int} (inj : ∀ a b, key a = key b → a = b) (k : κ) : ∀ tb : List (κ × Int), getT (encT key tb) (key k) = (getT tb k).map PyData.int
  | [] => rfl
  | e :: tb => by
    have ih := enc_get inj k tb
    by_cases h : e.1 = k
    · simp [encT, getT, List.find?_cons, h]
    · have h' : ¬ key e.1 = key k := fun z => h (inj _ _ z)
      have e1 : getT (e :: tb) k = getT tb k := by simp [getT, List.find?_cons, h]
      have e2 : getT (encT key (e :: tb)) (key k) = getT (encT key tb) (key k) := by simp [encT, getT, List.find?_cons, h']
      rw [e1, e2, ih]
theorem enc_put {κ : Type} [DecidableEq κ] {key : κ → List Int} (inj : ∀ a b, key a = key b → a = b) (k : κ) (v : Int) (tb : List (κ × Int)) : putT (encT key tb) (key k) (.int v) = encT key (putT tb k v) := by
  have ha : ((encT key tb).any fun e => decide (e.1 = key k)) = (tb.any fun e => decide (e.1 = k)) := by
    unfold encT
    rw [List.any_map]
    congr 1
    funext e
    exact decide_eq_decide.mpr ⟨fun z => inj _ _ z, fun z => by show key e.1 = _; rw [z]⟩
  unfold putT
  rw [ha]
  by_cases h : (tb.any fun e => decide (e.1 = k)) = true
  · rw [if_pos h, if_pos h]
    unfold encT
    rw [List.map_map, List.map_map]
    refine List.map_congr_left fun e _ => ?_
    show (if key e.1 = key k then (key e.1, PyData.int v) else (key e.1, PyData.int e.2)) = (key (if e.1 = k then (e.1, v) else e).1, PyData.int (if e.1 = k then (e.1, v) else e).2)
    by_cases hk : e.1 = k
    · rw [if_pos (by rw [hk]), if_pos hk]
    · rw [if_neg (fun z => hk (inj _ _ z)), if_neg hk]
  · rw [if_neg h, if_neg h]
    unfold encT
    rw [List.map_append]
    rfl
/-! pairs on days -/
abbrev PwT := List ((Nat × Nat) × Int)
def trn (n : Nat) : Nat := n * (n - 1) / 2
def kNN (k : Nat × Nat) : List Int := [(k.1 : Int), (k.2 : Int)]
theorem kNN_inj (a b : Nat × Nat) (h : kNN a = kNN b) : a = b := by
  unfold kNN at h
  injection h with h1 h2
  injection h2 with h2
  exact Prod.ext (by omega) (by omega)
def pwV (w : Int) (e : (Nat × Nat) × Int) (o : Nat) : Int := e.2 * (bin (e.1.1 + o) o : Nat) * w ^ o
def addT (f : PwT) (k : Nat × Nat) (z : Int) : PwT := putT f k ((getT f k).getD 0 + z)
def pwO (w : Int) (e : (Nat × Nat) × Int) (f : PwT) : Nat → PwT
  | 0 => f
  | o + 1 => addT (pwO w e f o) (e.1.1 + o, e.1.2 + trn o) (pwV w e o)
def pwI (m : Nat) (w : Int) (kn : PwT) : PwT := kn.foldl (fun f e => pwO w e f (m - e.1.1 + 1)) []
def pwF (m : Nat) (ys : List Int) : PwT := ys.foldl (fun kn w => pwI m w kn) [((0, 0), 1)]
theorem pwF_take {m : Nat} {ys : List Int} {i : Nat} {y : Int} (h : ys[i]? = some y) : pwF m (ys.take (i + 1)) = pwI m y (pwF m (ys.take i)) := by
  unfold pwF
  rw [List.take_add_one, h, List.foldl_append]
  rfl
theorem pwI_take {m : Nat} {w : Int} {kn : PwT} {i : Nat} {e : (Nat × Nat) × Int} (h : kn[i]? = some e) : (kn.take (i + 1)).foldl (fun f e => pwO w e f (m - e.1.1 + 1)) [] = pwO w e ((kn.take i).foldl (fun f e => pwO w e f (m - e.1.1 + 1)) []) (m - e.1.1 + 1) := by
  rw [List.take_add_one, h, List.foldl_append]
  rfl
/-- keys in a box, each once, values below s times C -/
structure PwOk (m B s C : Nat) (f : PwT) : Prop where
  nd : (f.map (·.1)).Nodup
  bx : ∀ e ∈ f, e.1.1 < m + 1 ∧ e.1.2 < B
  vl : ∀ e ∈ f, e.2.natAbs ≤ s * C
theorem PwOk.len {m B s C : Nat} {f : PwT} (h : PwOk m B s C f) : f.length ≤ (m + 1) * B := keys_box h.nd h.bx
theorem getT_le {f : PwT} {k : Nat × Nat} {n : Nat} (h : ∀ e ∈ f, e.2.natAbs ≤ n) : ((getT f k).getD 0).natAbs ≤ n := by
  cases hg : getT f k with
  | none => exact Nat.zero_le _
  | some v =>
    unfold getT at hg
    obtain ⟨e, he, rfl⟩ := Option.map_eq_some_iff.mp hg
    exact h e (List.mem_of_find?_eq_some he)
theorem PwOk.add {m B s C : Nat} {f : PwT} (h : PwOk m B s C f) {k : Nat × Nat} {z : Int} (h1 : k.1 < m + 1) (h2 : k.2 < B) (hz : z.natAbs ≤ C) : PwOk m B (s + 1) C (addT f k z) := by
  have hv : ((getT f k).getD 0 + z).natAbs ≤ (s + 1) * C := by
    have := getT_le (k := k) h.vl
    rw [Nat.add_mul]
    omega
  have key : ∀ e ∈ addT f k z, e.1 = k ∧ e.2 = (getT f k).getD 0 + z ∨ e ∈ f := by
    intro e he
    unfold addT putT at he
    split at he
    · obtain ⟨e', he', rfl⟩ := List.mem_map.mp he
      by_cases hk : e'.1 = k
      · rw [if_pos hk]
        exact .inl ⟨hk, rfl⟩
      · rw [if_neg hk]
        exact .inr he'
    · rcases List.mem_append.mp he with he | he
      · exact .inr he
      · have : e = (k, (getT f k).getD 0 + z) := by simpa using he
        rw [this]
        exact .inl ⟨rfl, rfl⟩
  refine ⟨putT_nodup h.nd _ _, fun e he => ?_, fun e he => ?_⟩
  · rcases key e he with ⟨e1, _⟩ | he
    · rw [e1]; exact ⟨h1, h2⟩
    · exact h.bx e he
  · rcases key e he with ⟨_, e2⟩ | he
    · rw [e2]; exact hv
    · have := h.vl e he
      rw [Nat.add_mul]
      omega
theorem trn_le : ∀ {o : Nat}, o ≤ 12 → trn o ≤ 66 := by
  have h : ∀ o : Fin 13, trn o.val ≤ 66 := by decide
  intro o ho
  exact h ⟨o, by omega⟩
theorem pwO_ok {m B s C : Nat} {w : Int} {e : (Nat × Nat) × Int} {f : PwT} (hm : m ≤ 12) (h : PwOk m (B + 66) s C f) (he : e.1.2 < B) : ∀ o, e.1.1 + o ≤ m + 1 → (∀ j, j < o → (pwV w e j).natAbs ≤ C) → PwOk m (B + 66) (s + o) C (pwO w e f o)
  | 0, _, _ => h
  | o + 1, ho, hv => (pwO_ok hm h he o (by omega) fun j hj => hv j (by omega)).add (by show e.1.1 + o < m + 1; omega) (by show e.1.2 + trn o < B + 66; have := trn_le (o := o) (by omega); omega) (hv o (by omega))
theorem pwV_le {w : Int} {e : (Nat × Nat) × Int} {o C m : Nat} (hm : m ≤ 12) (hw : 1 ≤ w ∧ w ≤ 20) (he : e.1.1 + o ≤ m) (hv : e.2.natAbs ≤ C) : (pwV w e o).natAbs ≤ C * 2 ^ 74 := by
  unfold pwV
  rw [Int.natAbs_mul, Int.natAbs_mul, Nat.mul_assoc]
  refine Nat.mul_le_mul hv ?_
  have z1 : Sz 13 (bin (e.1.1 + o) o : Nat) := sz_bin (by omega)
  have z2 : Sz 61 (w ^ o) := sz_pw hw (by omega)
  have z3 := z1.mul z2
  unfold Sz at z3
  rw [Int.natAbs_mul] at z3
  exact Nat.le_of_lt z3
theorem pwI_okI {m B s C : Nat} {w : Int} {kn : PwT} (hm : m ≤ 12) (hw : 1 ≤ w ∧ w ≤ 20) (h : PwOk m B s C kn) : ∀ i, i ≤ kn.length → PwOk m (B + 66) (13 * i) (s * C * 2 ^ 74) ((kn.take i).foldl (fun f e => pwO w e f (m - e.1.1 + 1)) [])
  | 0, _ => ⟨by simp, (fun e he => nomatch he), fun e he => nomatch he⟩
  | i + 1, hi => by
    have hlt : i < kn.length := by omega
    have hmem : kn[i] ∈ kn := List.getElem_mem hlt
    rw [pwI_take (List.getElem?_eq_getElem hlt)]
    obtain ⟨b1, b2⟩ := h.bx _ hmem
    have := pwO_ok (w := w) (e := kn[i]) hm (pwI_okI hm hw h i (by omega)) b2 (m - kn[i].1.1 + 1) (by omega) fun j hj => pwV_le hm hw (by omega) (h.vl _ hmem)
    refine ⟨this.nd, this.bx, fun e he => Nat.le_trans (this.vl e he) (Nat.mul_le_mul_right _ (by omega))⟩
theorem pwF_ok {m : Nat} {ys : List Int} (hm : m ≤ 12) (hY : ∀ y ∈ ys, 1 ≤ y ∧ y ≤ 20) (h8 : ys.length ≤ 8) : ∀ i, i ≤ ys.length → PwOk m (66 * i + 1) 1 (2 ^ (92 * i)) (pwF m (ys.take i))
  | 0, _ => ⟨by simp [pwF], fun e he => by
      have : e = ((0, 0), 1) := by simpa [pwF] using he
      subst this
      exact ⟨by simp, by decide⟩, fun e he => by
      have : e = ((0, 0), 1) := by simpa [pwF] using he
      subst this
      decide⟩
  | i + 1, hi => by
    have hlt : i < ys.length := by omega
    have ih := pwF_ok hm hY h8 i (by omega)
    rw [pwF_take (List.getElem?_eq_getElem hlt)]
    have hl := ih.len
    have h1 := pwI_okI (w := ys[i]) hm (hY _ (List.getElem_mem hlt)) ih (pwF m (ys.take i)).length (Nat.le_refl _)
    rw [List.take_length] at h1
    refine ⟨h1.nd, fun e he => ?_, fun e he => ?_⟩
    · have := h1.bx e he
      exact ⟨this.1, by omega⟩
    · refine Nat.le_trans (h1.vl e he) ?_
      have hlen : 13 * (pwF m (ys.take i)).length ≤ 2 ^ 18 := by
        have : (m + 1) * (66 * i + 1) ≤ 13 * (66 * 8 + 1) := Nat.mul_le_mul (by omega) (by omega)
        omega
      rw [Nat.one_mul, Nat.one_mul, show 92 * (i + 1) = 18 + (92 * i + 74) by omega, Nat.pow_add, Nat.pow_add]
      exact Nat.mul_le_mul_right _ hlen
theorem PwOk.szv {m B i : Nat} {f : PwT} (h : PwOk m B 1 (2 ^ i) f) {e : (Nat × Nat) × Int} (he : e ∈ f) : Sz (i + 1) e.2 := by
  have := h.vl e he
  unfold Sz
  rw [Nat.pow_succ]
  have := Nat.two_pow_pos i
  omega
/-- the rows: pairs, ways -/
def pwR (ys : List Int) (m : Nat) : List (Int × Int) := srtP ((pwF m ys).filterMap fun e => if e.1.1 = m then some ((e.1.2 : Int), e.2) else none)
end
end Pg

namespace Pg
open PySem PySem.Spec PyProof.Rows L2 Sd
section
variable {P : Program} {w : World} {K : PySem.W.Frag} {mg : Str → Option Value} {base : Heap} {c : Cl}
def pwN : List Str := ["year", "many", "known", "weight", "fresh", "whole", "pairs", "ways", "own", "key"]
def pre_pair_ways : Pr := fun ss own post => ∃ (ys : List Int) (m : Nat), ss = [.d (li ys), .d (.int (m : Int))] ∧ own = [] ∧ Yr ys ∧ m ≤ 12 ∧ post = fun o => ∃ p, o = .ret (.raw (.ref p)) [(p, .lst ((pwR ys m).map pr))]
theorem trn_int (o : Nat) : (o : Int) * ((o : Int) - 1) / 2 = ((trn o : Nat) : Int) := by
  unfold trn
  cases o with
  | zero => rfl
  | succ n =>
    rw [show ((n + 1 : Nat) : Int) - 1 = (n : Int) by omega, show n + 1 - 1 = n by omega, ← Int.natCast_mul]
    omega
theorem eg_disp00 {Z : Sd.Ctx} {n : Nat} {ρ : List Slot} {own : Own} {j1 j2 j3 x1 : Nat} {p1 p2 p3 p4 pos : Pos} {R : Slot → Own → Prop} (g : Gd Z n) (h : ∀ p, R (.raw (.ref p)) ((p, .dt [([0, 0], .int 1)]) :: own)) : EG Z (.Dict [some (.Tuple [.Constant (.int 0) j1 p1, .Constant (.int 0) j2 p2] x1 p3)] [.Constant (.int 1) j3 p4] pos) ρ own R := by
  with_reducible refine eg_disp1 (k := [0, 0]) (x := .int 1) g ?a ?b h
  case a =>
    intro o
    show ED _ _ _ _ (.tuple [.int 0, .int 0])
    with_reducible exact ed_tb2 (eb_k ed_int (eb_k ed_int ea_nil))
  case b => intro o; with_reducible exact ed_int
theorem fn_pair_ways (T : Tx K mg c) : Fn K mg P w base "pair_ways" ["year", "many"] 2 pre_pair_ways := T.d_pair_ways.fn fun f fd F => okG (k := 1) F sc_pair_ways (by rintro ss own post ⟨ys, m, rfl, _⟩; rfl) (by
  rintro ss own post ⟨ys, m, rfl, rfl, hY, hm, rfl⟩ cdv A outer s H E B g
  have hl := hY.hi
  refine sds_rtsub ?_
  show SDs _ (_ :: _) _ _ _
  with_reducible refine sds_cons ?_
  with_reducible refine sd_setG (R := (fun s o => ∃ q, s = .raw (.ref q) ∧ o = [(q, .dt (encT kNN (pwF m (ys.take 0))))])) 2 g.nd ?e ?n ?a ?b ?c ?d
  case e => with_reducible exact eg_disp00 g fun p => ⟨p, rfl, rfl⟩
  case a => rfl
  case b => first | exact Or.inl rfl | exact Or.inr rfl
  case c => rfl
  case d => first | exact .inl rfl | exact .inr rfl
  rintro _ _ ⟨q0, rfl, rfl⟩
  refine sds_cons (sd_for g (it_list (ed_v 0)) (fun i ρ own => ∃ q t3 t4 t5 t6 t7 t8 t9, own = [(q, .dt (encT kNN (pwF m (ys.take i))))] ∧ ρ = [.d (li ys), .d (.int (m : Int)), .raw (.ref q), t3, t4, t5, t6, t7, t8, t9]) ⟨q0, _, _, _, _, _, _, _, rfl, rfl⟩ (fun _ _ _ _ => trivial) ?_ ?_)
  · rintro i y ρ1 own1 hy ⟨q, t3, t4, t5, t6, t7, t8, t9, rfl, rfl⟩
    rw [List.getElem?_map] at hy
    cases ea : ys[i]? with
    | none => rw [ea] at hy; cases hy
    | some y' =>
      rw [ea] at hy
      cases hy
      have hmem : y' ∈ ys := List.mem_of_getElem? ea
      have hy20 := hY.it _ hmem
      have hi := (List.getElem?_eq_some_iff.mp ea).1
      have hok := pwF_ok hm hY.it hl i (by omega)
      rw [pwF_take ea]
      generalize pwF m (ys.take i) = kn at hok ⊢
      refine ⟨_, _, gt_name 3 g.nd, ?_⟩
      refine sds_cons (sd_setG 4 g.nd (eg_dnew (R := fun s o => ∃ r, s = .raw (.ref r) ∧ o = [(r, .dt []), (q, .dt (encT kNN kn))]) fun p => ⟨p, rfl, rfl⟩) ?_)
      rintro _ _ ⟨r, rfl, rfl⟩
      refine sds_cons (sd_lock (oa := [(r, .dt [])]) (ob := []) (q := q) fun od kvs => ?_)
      refine sd_for g (it_items (od := od) (kvs := kvs) (q := q) (tb := encT kNN kn) (by simp) (ev_v 2)) (fun j ρ own => ∃ t5 t6 t7 t8 t9, own = [(r, .dt (encT kNN ((kn.take j).foldl (fun f e => pwO y' e f (m - e.1.1 + 1)) []))), (q, .dl od kvs (encT kNN kn))] ∧ ρ = [.d (li ys), .d (.int (m : Int)), .raw (.ref q), .d (.int y'), .raw (.ref r), t5, t6, t7, t8, t9]) ⟨_, _, _, _, _, rfl, rfl⟩ ?_ ?_ ?_
      · rintro j ρ own ⟨_, _, _, _, _, rfl, _⟩
        simp
      · rintro j yy ρ2 own2 hyy ⟨t5, t6, t7, t8, t9, rfl, rfl⟩
        unfold encT at hyy
        rw [List.map_map, List.getElem?_map] at hyy
        cases ek : kn[j]? with
        | none => rw [ek] at hyy; cases hyy
        | some e =>
          rw [ek] at hyy
          cases hyy
          have hej : e ∈ kn := List.mem_of_getElem? ek
          have hjl := (List.getElem?_eq_some_iff.mp ek).1
          obtain ⟨b1, b2⟩ := hok.bx e hej
          have zv := hok.szv hej
          have hI := pwI_okI hm hy20 hok j (by omega)
          rw [pwI_take ek]
          generalize (kn.take j).foldl (fun f e => pwO y' e f (m - e.1.1 + 1)) [] = fr at hI ⊢
          refine ⟨_, _, gt_tup g.calm (gts_cons (gt_tup (n := 2) g.calm (gts_cons (gt_name 5 g.nd) (gts_cons (gt_name 6 g.nd) gts_nil)) rfl) (gts_cons (gt_name 7 g.nd) gts_nil)) rfl, ?_⟩
          refine sds_one (sd_for g (it_range1 T.n_range (ed_add (ed_sub (ed_v 1) (ed_v 5)) ed_int) (by omega)) (fun o ρ own => ∃ t8 t9, own = [(r, .dt (encT kNN (pwO y' e fr o))), (q, .dl od kvs (encT kNN kn))] ∧ ρ = [.d (li ys), .d (.int (m : Int)), .raw (.ref q), .d (.int y'), .raw (.ref r), .d (.int (e.1.1 : Int)), .d (.int (e.1.2 : Int)), .d (.int e.2), t8, t9]) ⟨_, _, rfl, rfl⟩ (fun _ _ _ _ => trivial) ?_ ?_)
          · rintro o yo ρ3 own3 hyo ⟨t8, t9, rfl, rfl⟩
            obtain ⟨ho, rfl⟩ := rng_get hyo
            have ho : e.1.1 + o ≤ m := by omega
            rw [show (0 : Int) + (o : Int) = (o : Int) by omega]
            have hO := pwO_ok (w := y') hm hI b2 o (by omega) fun j hj => pwV_le hm hy20 (by omega) (hok.vl e hej)
            have hlen := hO.len
            have hlt : (encT kNN (pwO y' e fr o)).length < 100000 := by
              unfold encT
              rw [List.length_map]
              have : (m + 1) * (66 * i + 1 + 66) ≤ 13 * (66 * 8 + 1 + 66) := Nat.mul_le_mul (by omega) (by omega)
              omega
            refine ⟨_, _, gt_name 8 g.nd, ?_⟩
            have ekey : PyData.tuple ((kNN (e.1.1 + o, e.1.2 + trn o)).map PyData.int) = .tuple [.int ((e.1.1 : Int) + (o : Int)), .int ((e.1.2 : Int) + (o : Int) * ((o : Int) - 1) / 2)] := by
              rw [trn_int]
              simp [kNN]
            refine sds_cons (sd_set 9 g.nd (s := .d (.tuple ((kNN (e.1.1 + o, e.1.2 + trn o)).map PyData.int))) (ES.is (ed_tup (ds := [_, _]) (ea_cons (ed_add (ed_v 5) (ed_v 8)) (ea_cons (ed_add (ed_v 6) (ed_fdivS (ed_mulS (ed_v 8) (ed_sub (ed_v 8) ed_int) (.inl ⟨by omega, by omega⟩)) ed_int (by omega))) ea_nil))) ekey.symm) ?_)
            have esum : (e.1.1 : Int) + (o : Int) = ((e.1.1 + o : Nat) : Int) := by omega
            have z2 : Sz 13 (bin (e.1.1 + o) o : Nat) := sz_bin (by omega)
            refine sds_one (sd_dput (oa := []) (ob := [(q, .dl od kvs (encT kNN kn))]) (k := kNN (e.1.1 + o, e.1.2 + trn o)) (x := .int ((getT (pwO y' e fr o) (e.1.1 + o, e.1.2 + trn o)).getD 0 + pwV y' e o)) g (ed_add (ES.is (y := .int ((getT (pwO y' e fr o) (e.1.1 + o, e.1.2 + trn o)).getD 0)) (ed_dget2 (k := kNN (e.1.1 + o, e.1.2 + trn o)) (tb := encT kNN (pwO y' e fr o)) (q := r) (d0 := .int 0) g (by simp) (ev_v 4) (ed_v 9) ed_int) ?_) (ed_mul (ed_mul (ed_v 7) (es_call (fn_choose T) g (by decide) (ea_cons (ES.is (ed_add (ed_v 5) (ed_v 8)) (by rw [esum])) (ea_cons (ed_v 8) ea_nil)) ⟨e.1.1 + o, o, rfl, rfl, by omega, by omega, rfl⟩) (cmul_of zv z2 (by omega))) (es_call (fn_power T) g (by decide) (ea_cons (ed_v 3) (ea_cons (ed_v 8) ea_nil)) ⟨y', o, 5, rfl, rfl, by unfold Sz; omega, by omega, by decide, rfl⟩) (cmul_of (zv.mul z2) (sz_pw hy20 (by omega)) (by omega)))) (ev_v 4) (ed_v 9) hlt ?_)
            · rw [enc_get kNN_inj]
              cases getT (pwO y' e fr o) (e.1.1 + o, e.1.2 + trn o) <;> rfl
            · rw [enc_put kNN_inj]
              exact ⟨_, _, rfl, rfl⟩
          · rintro ρ3 own3 ⟨t8, t9, rfl, rfl⟩
            rw [rng_length, show ((m : Int) - (e.1.1 : Int) + 1).toNat = m - e.1.1 + 1 by omega]
            exact ⟨_, _, _, _, _, rfl, rfl⟩
      · rintro ρ2 own2 ⟨t5, t6, t7, t8, t9, rfl, rfl⟩
        refine ⟨[(r, _)], [], rfl, ?_⟩
        have el : ((encT kNN kn).map itemD).length = kn.length := by simp [encT]
        rw [el, List.take_length]
        refine sds_cons (sd_set 2 g.nd (ev_v 4) ?_)
        refine sds_drop (oa := [(r, _)]) (ob := []) ?_
        exact sds_nil ⟨r, _, _, _, _, _, _, _, rfl, rfl⟩
  · rintro ρ1 own1 ⟨q, t3, t4, t5, t6, t7, t8, t9, rfl, rfl⟩
    rw [List.length_map, List.take_length]
    have hok := pwF_ok hm hY.it hl ys.length (Nat.le_refl _)
    rw [List.take_length] at hok
    have hlen := hok.len
    refine sds_one (sd_retL (el_sortedP (ps := (pwF m ys).filterMap fun e => if e.1.1 = m then some ((e.1.2 : Int), e.2) else none) T.n_sorted (EL.ed (EL.is (el_lock (oa := []) (ob := []) (q := q) fun od kvs => el_comp g (compO g (it_items (od := od) (kvs := kvs) (q := q) (tb := encT kNN (pwF m ys)) (by simp) (ev_v 2)) [("whole", 5), ("pairs", 6), ("ways", 7)] (blkOk_by (N := pwN) (sc := defScope s_pair_ways) (by decide +kernel)) (pwF m ys) (fun e => itemD (kNN e.1, PyData.int e.2)) (by unfold encT; rw [List.map_map]; rfl) (fun e => if e.1.1 = m then some (pr ((e.1.2 : Int), e.2)) else none) (fun e => [.d (li ys), .d (.int (m : Int)), .raw (.ref q), t3, t4, .d (.int (e.1.1 : Int)), .d (.int (e.1.2 : Int)), .d (.int e.2), t8, t9]) ([5] ++ [6] ++ [7]) (by simp) ?_ (by simp)
      (fun e _ s H C cl fp g' => gt_tup g'.calm (gts_cons (gt_tup (n := 2) g'.calm (gts_cons (gt_name 5 g'.nd) (gts_cons (gt_name 6 g'.nd) gts_nil)) rfl) (gts_cons (gt_name 7 g'.nd) gts_nil)) rfl) (fun e _ s H C cl fp D acc g' => ets_one (ET.is (et_cmp c_eqI (ed_v 5) (ed_v 1)) ?_)) (fun e he z hz s H C cl fp D acc g' => ?_))) ?_)) .d) fun p => ⟨[(p, .lst ((pwR ys m).map pr))], List.Sublist.cons₂ _ (List.nil_sublist _), p, rfl⟩)
    · have : (m + 1) * (66 * ys.length + 1) ≤ 13 * (66 * 8 + 1) := Nat.mul_le_mul (by omega) (by omega)
      omega
    · by_cases h : e.1.1 = m
      · rw [if_pos h, decide_eq_true (by omega)]; rfl
      · rw [if_neg h, decide_eq_false (by omega)]; rfl
    · split at hz
      · cases hz
        exact ed_tup (ds := [_, _]) (ea_cons (ed_v 6) (ea_cons (ed_v 7) ea_nil))
      · cases hz
    · rw [List.map_filterMap]
      refine fm_congr fun e _ => ?_
      split <;> rfl)
end
end Pg

namespace Pg
open PySem PySem.Spec PyProof.Rows L2 Sd
section
variable {P : Program} {w : World} {K : PySem.W.Frag} {mg : Str → Option Value} {base : Heap} {c : Cl}
def pcD (ys : List Int) (m : Nat) (p : Int × Int) : PyData := .tuple [.int p.1, fr ((p.2 : Rat) / ((ys.sum ^ m : Int) : Rat))]
def pre_pair_chances : Pr := fun ss own post => ∃ (ys : List Int) (m : Nat), ss = [.d (li ys), .d (.int (m : Int))] ∧ own = [] ∧ Yr ys ∧ m ≤ 12 ∧ post = fun o => ∃ p, o = .ret (.raw (.ref p)) [(p, .lst ((pwR ys m).map (pcD ys m)))]
theorem pwR_len {ys : List Int} (hY : Yr ys) {m : Nat} (hm : m ≤ 12) : (pwR ys m).length < 100000 := by
  have hok := pwF_ok hm hY.it hY.hi ys.length (Nat.le_refl _)
  rw [List.take_length] at hok
  have hlen := hok.len
  have h8 := hY.hi
  have : (m + 1) * (66 * ys.length + 1) ≤ 13 * (66 * 8 + 1) := Nat.mul_le_mul (by omega) (by omega)
  unfold pwR
  rw [(srtP_perm _).length_eq]
  have := List.length_filterMap_le (fun e : (Nat × Nat) × Int => if e.1.1 = m then some ((e.1.2 : Int), e.2) else none) (pwF m ys)
  omega
theorem fn_pair_chances (T : Tx K mg c) : Fn K mg P w base "pair_chances" ["year", "many"] 4 pre_pair_chances := T.d_pair_chances.fn fun f fd F => okG (k := 3) F sc_pair_chances (by rintro ss own post ⟨ys, m, rfl, _⟩; rfl) (by
  rintro ss own post ⟨ys, m, rfl, rfl, hY, hm, rfl⟩ cdv A outer s H E B g
  refine sds_cons (sd_expr (es_call (fn_check_year T) g (by decide) (ea_cons (ed_v 0) ea_nil) (ok_year hY)) ?_)
  refine sds_cons (sd_expr (es_call (fn_check_many T) g (by decide) (ea_cons (ed_v 1) ea_nil) (ok_many ⟨by omega, by omega⟩)) ?_)
  refine sds_cons (sd_set 2 g.nd (es_call (fn_power T) g (by decide) (ea_cons (ed_sum g T.n_sum (ed_v 0) .d) (ea_cons (ed_v 1) ea_nil)) ⟨_, m, 8, rfl, rfl, hY.szW, by omega, by decide, rfl⟩) ?_)
  have h2 : Sz 97 (ys.sum ^ m) := (hY.szW.pow m).mono (by omega)
  refine sds_one (sd_retL (EL.is (el_comp g (compP g (it_list (EL.ed (el_call (fn_pair_ways T) g (by decide) (ea_cons (ed_v 0) (ea_cons (ed_v 1) ea_nil)) ⟨ys, m, rfl, rfl, hY, hm, rfl⟩))) [("pairs", 3), ("ways", 4)] (blkOk_by (N := ["year", "many", "whole", "pairs", "ways"]) (sc := defScope s_pair_chances) (by decide +kernel)) (pwR ys m) pr rfl (fun p => some (pcD ys m p)) (fun p => [.d (li ys), .d (.int (m : Int)), .d (.int (ys.sum ^ m)), .d (.int p.1), .d (.int p.2)]) ([3] ++ [4]) (by simp) (pwR_len hY hm) (fun _ _ => trivial)
      (fun p _ s H C cl fp g' => gt_tup g'.calm (gts_cons (gt_name 3 g'.nd) (gts_cons (gt_name 4 g'.nd) gts_nil)) rfl) (fun i _ s H C cl fp o g' => ets_nil) (fun p hp z hz s H C cl fp o g' => ?_))) (congrFun List.filterMap_eq_map' _)) fun p => ⟨p, rfl⟩)
  cases hz
  exact ed_tup (ds := [_, _]) (ea_cons (ed_v 3) (ea_cons (es_call (fn_lowest T) g' (by decide) (ea_cons (ed_v 4) (ea_cons (ed_v 2) ea_nil)) ⟨_, _, rfl, rfl, hY.posP m, h2.mono (by decide), rfl⟩) ea_nil)))
end
end Pg

namespace Pg
open PySem PySem.Spec PyProof.Rows L2 Sd
section
variable {P : Program} {w : World} {K : PySem.W.Frag} {mg : Str → Option Value} {base : Heap} {c : Cl}
def pre_check_counts : Pr := fun ss own post => ∃ (ys : List Int) (cs : List Nat), ss = [.d (li ys), .d (li (nI cs))] ∧ own = [] ∧ Ct ys cs ∧ ys.length ≤ 8 ∧ post = fun o => o = .ret (.d .none) []
theorem fn_check_counts (T : Tx K mg c) : Fn K mg P w base "check_counts" ["year", "value"] 2 pre_check_counts := T.d_check_counts.fn fun f fd F => okG (k := 1) F sc_check_counts (by rintro ss own post ⟨ys, cs, rfl, _⟩; rfl) (by
  rintro ss own post ⟨ys, cs, rfl, rfl, hC, hl, rfl⟩ cdv A outer s H E B g
  have hlen : (nI cs).length = cs.length := by simp [nI]
  have hcl := hC.len
  refine sds_cons (sd_if (l := false) (ET.is (EW.et (ew_or (et_not (et_val (ed_isi (x := li (nI cs)) (l := true) T.n_isinstance (ed_v 1) .d (ev_ty (T := "list") rfl T.n_list (by decide +kernel)) rfl))) fun _ => ew_or (et_cmp c_neI (ed_len T.n_len (ed_v 1) .d) (ed_len T.n_len (ed_v 0) .d)) fun _ => ew_or1 (et_not (et_val (ed_all (ns := (nI cs).map fun _ => true) g T.n_all (EL.ed (EL.is (el_comp g (compP g (it_list (ed_v 1)) [("one", 2)] (blkOk_by (N := ["year", "value", "one"]) (sc := defScope s_check_counts) (by decide +kernel)) (nI cs) PyData.int rfl (fun n => some (.bool true)) (fun n => [.d (li ys), .d (li (nI cs)), .d (.int n)]) [2] (by simp) (by omega) (fun _ _ => trivial)
        (fun d _ s H C cl fp g' => gt_name 2 g'.nd) (fun d _ s H C cl fp o g' => ets_nil) (fun n hn x hx s H C cl fp o g' => ?_))) ?_)) .d))))) ?_) (fun h => nomatch h) fun _ => sds_nil ?_)
  · cases hx
    refine ES.is (es_call (fn_is_int T) g' (by decide) (ea_cons (ed_v 2) (ea_cons ed_int (ea_cons ed_int ea_nil))) ⟨_, _, _, rfl, rfl, rfl⟩) ?_
    obtain ⟨k, hk, rfl⟩ := List.mem_map.mp hn
    have := nat_mem_sum hk
    have h12 := hC.sum
    have : ((k : Int) ≤ 12) := by omega
    simp [Sd.isInt, this]
  · rw [List.map_map]
    exact List.filterMap_eq_map' .. |>.symm ▸ rfl
  · rw [List.length_map, List.length_map, hlen, hcl]
    simp
  refine sds_one (sd_if (l := false) (ET.is (et_cmp c_gt (ed_sum (ns := nI cs) g T.n_sum (ed_v 1) .d) ed_int) ?_) (fun h => nomatch h) fun _ => sds_nil rfl)
  rw [nI_sum]
  have := hC.sum
  exact decide_eq_false (by omega))
end
end Pg

namespace Pg
open PySem PySem.Spec PyProof.Rows L2 Sd
section
variable {P : Program} {w : World} {K : PySem.W.Frag} {mg : Str → Option Value} {base : Heap} {c : Cl}
def pre_placed : Pr := fun ss own post => ∃ (ys : List Int) (cs : List Nat), ss = [.d (li ys), .d (li (nI cs))] ∧ own = [] ∧ Yr ys ∧ Ct ys cs ∧ post = fun o => o = .ret (.d (fr ((plcW ys cs cs.sum : Rat) / ((ys.sum ^ cs.sum : Int) : Rat)))) []
theorem fn_placed (T : Tx K mg c) : Fn K mg P w base "placed" ["year", "counts"] 4 pre_placed := T.d_placed.fn fun f fd F => okG (k := 3) F sc_placed (by rintro ss own post ⟨ys, cs, rfl, _⟩; rfl) (by
  rintro ss own post ⟨ys, cs, rfl, rfl, hY, hC, rfl⟩ cdv A outer s H E B g
  have hl := hY.hi
  have h12 := hC.sum
  have hcl := hC.len
  refine sds_cons (sd_expr (es_call (fn_check_year T) g (by decide) (ea_cons (ed_v 0) ea_nil) (ok_year hY)) ?_)
  refine sds_cons (sd_expr (es_call (fn_check_counts T) g (by decide) (ea_cons (ed_v 0) (ea_cons (ed_v 1) ea_nil)) ⟨ys, cs, rfl, rfl, hC, hY.hi, rfl⟩) ?_)
  refine sds_cons (sd_par 2 3 g (ea_cons ed_int (ea_cons (ed_sum (ns := nI cs) g T.n_sum (ed_v 1) .d) ea_nil)) ?_)
  rw [nI_sum]
  have hz : zipD ((ys).map PyData.int) ((nI cs).map PyData.int) = (ys.zip cs).map fun p => PyData.tuple [.int p.1, .int (p.2 : Nat)] := by
    rw [zipD_ints]
    unfold nI
    rw [List.zip_map_right, List.map_map]
    rfl
  refine sds_cons (sd_for g (it_zip T.n_zip (ed_v 0) (ed_v 1)) (fun i ρ own => own = [] ∧ ∃ (ways : Int) (left : Nat), Sz (120 * i + 1) ways ∧ left = (cs.drop i).sum ∧ ways * plcW (ys.drop i) (cs.drop i) left = plcW ys cs cs.sum ∧ ∃ t u, ρ = [.d (li ys), .d (li (nI cs)), .d (.int ways), .d (.int (left : Int)), t, u]) ⟨rfl, 1, cs.sum, Sz.one, rfl, by simp, _, _, rfl⟩ (fun _ _ _ _ => trivial) ?_ ?_)
  · rintro i y ρ1 own1 hy ⟨rfl, ways, left, hs, hleft, he, t, u, rfl⟩
    rw [hz, List.getElem?_map] at hy
    cases ea : (ys.zip cs)[i]? with
    | none => rw [ea] at hy; cases hy
    | some q =>
      obtain ⟨y', k⟩ := q
      rw [ea] at hy
      cases hy
      rw [List.getElem?_zip_eq_some] at ea
      have hm : y' ∈ ys := List.mem_of_getElem? ea.1
      have hi := (List.getElem?_eq_some_iff.mp ea.1).1
      have d1 : ys.drop i = y' :: ys.drop (i + 1) := by
        rw [List.drop_eq_getElem_cons hi]
        congr 1
        exact (List.getElem?_eq_some_iff.mp ea.1).2
      have hi2 := (List.getElem?_eq_some_iff.mp ea.2).1
      have d2 : cs.drop i = k :: cs.drop (i + 1) := by
        rw [List.drop_eq_getElem_cons hi2]
        congr 1
        exact (List.getElem?_eq_some_iff.mp ea.2).2
      have dsum : left = k + (cs.drop (i + 1)).sum := by rw [hleft, d2, List.sum_cons]
      have ds12 : left ≤ 12 := by
        have : (cs.take i).sum + (cs.drop i).sum = cs.sum := by rw [← List.sum_append, List.take_append_drop]
        omega
      have h1 : Sz 97 (y' ^ k) := ((hY.szy hm).pow k).mono (by omega)
      have h4 : Sz 13 (bin left k : Nat) := (bin_sz left k).mono (by omega)
      refine ⟨_, _, gt_tup g.calm (gts_cons (gt_name 4 g.nd) (gts_cons (gt_name 5 g.nd) gts_nil)) rfl, sds_cons (sd_aug 2 iop_mulW g.nd rfl (ed_mul (es_call (fn_choose T) g (by decide) (ea_cons (ed_v 3) (ea_cons (ed_v 5) ea_nil)) ⟨left, k, rfl, rfl, by omega, by omega, rfl⟩) (es_call (fn_power T) g (by decide) (ea_cons (ed_v 4) (ea_cons (ed_v 5) ea_nil)) ⟨y', k, 8, rfl, rfl, hY.szy hm, by omega, by decide, rfl⟩) (cmul_of h4 h1 (by decide))) (cmul_of hs (h4.mul h1) (by omega)) ?_)⟩
      refine sds_one (sd_aug 3 iop_subC g.nd rfl (ed_v 5) trivial ?_)
      refine ⟨rfl, ways * ((bin left k : Nat) * y' ^ k), left - k, (hs.mul (h4.mul h1)).mono (by omega), by omega, ?_, .d (.int y'), .d (.int (k : Int)), ?_⟩
      · rw [← he, d1, d2]
        show _ = ways * ((bin left k : Nat) * y' ^ k * plcW (ys.drop (i + 1)) (cs.drop (i + 1)) (left - k))
        rw [Int.mul_assoc]
      · have e : (left : Int) - (k : Int) = ((left - k : Nat) : Int) := by omega
        show [Slot.d (li ys), .d (li (nI cs)), .d (.int (ways * ((bin left k : Nat) * y' ^ k))), .d (.int ((left : Int) - (k : Int))), .d (.int y'), .d (.int (k : Int))] = _
        rw [e]
  · rintro ρ1 own1 ⟨rfl, ways, left, hs, hleft, he, t, u, rfl⟩
    have hlen : (zipD ((ys).map PyData.int) ((nI cs).map PyData.int)).length = ys.length := by
      rw [hz, List.length_map, List.length_zip, hcl]
      simp
    rw [hlen] at he
    have e1 : ys.drop ys.length = [] := List.drop_length
    rw [e1] at he
    have e2 : ways = plcW ys cs cs.sum := by
      rw [← he]
      simp [plcW]
    subst e2
    have h3 : Sz 97 (ys.sum ^ cs.sum) := (hY.szW.pow cs.sum).mono (by omega)
    refine sds_one (sd_retD (es_call (fn_lowest T) g (by decide) (ea_cons (ed_v 2) (ea_cons (es_call (fn_power T) g (by decide) (ea_cons (ed_sum g T.n_sum (ed_v 0) .d) (ea_cons (ed_sum (ns := nI cs) g T.n_sum (ed_v 1) .d) ea_nil)) ⟨_, cs.sum, 8, by rw [nI_sum], rfl, hY.szW, by omega, by decide, rfl⟩) ea_nil)) ⟨_, _, rfl, rfl, hY.posP _, h3.mono (by decide), rfl⟩) rfl))
end
end Pg

namespace Pg
open PySem PySem.Spec PyProof.Rows L2 Sd
section
variable {P : Program} {w : World} {K : PySem.W.Frag} {mg : Str → Option Value} {base : Heap} {c : Cl}
def pre_check_day (c : Cl) : Pr := fun ss own post => ∃ (ds : List PyData) (x : PyData), ss = [.d (.list ds), .d x] ∧ own = [] ∧ post = fun o => o = if isInt x 0 ((ds.length : Int) - 1) = true then .ret (.d .none) [] else .exc c.BadDay []
theorem fn_check_day (T : Tx K mg c) : Fn K mg P w base "check_day" ["year", "value"] 2 (pre_check_day c) := T.d_check_day.fn fun f fd F => okG (k := 1) F sc_check_day (by rintro ss own post ⟨ds, x, rfl, _⟩; rfl) (by
  rintro ss own post ⟨ds, x, rfl, rfl, rfl⟩ cdv A outer s H E B g
  refine sds_one (sd_if (et_not (et_val (es_call (fn_is_int T) g (by decide) (ea_cons (ed_v 1) (ea_cons ed_int (ea_cons (ed_sub (ed_len T.n_len (ed_v 0) .d) ed_int) ea_nil))) ⟨x, _, _, rfl, rfl, rfl⟩))) (fun h => ?_) fun h => ?_)
  · refine sds_one (sd_raise g T.e_BadDay ?_)
    show Out.exc c.BadDay [] = _
    rw [if_neg (by simpa using h)]
  · refine sds_nil ?_
    show Out.ret (.d .none) [] = _
    rw [if_pos (by simpa using h)])
theorem ok_day {c : Cl} {ys : List Int} {d : Int} (h : 0 ≤ d ∧ d < (ys.length : Int)) : pre_check_day c [.d (li ys), .d (.int d)] [] (fun o => o = .ret (.d .none) []) := ⟨_, .int d, rfl, rfl, by
  rw [if_pos]
  have : d ≤ (ys.length : Int) - 1 := by omega
  simp [Sd.isInt, h.1, this]⟩
end
end Pg

namespace Pg
open PySem PySem.Spec PyProof.Rows L2 Sd
section
variable {P : Program} {w : World} {K : PySem.W.Frag} {mg : Str → Option Value} {base : Heap} {c : Cl}
def pre_checked : Pr := fun ss own post => ∃ (ys : List Int), ss = [.d (li ys)] ∧ own = [] ∧ Yr ys ∧ post = fun o => o = .ret (.d (li ys)) []
theorem fn_checked (T : Tx K mg c) : Fn K mg P w base "checked" ["year"] 3 pre_checked := T.d_checked.fn fun f fd F => okG (k := 2) F sc_checked (by rintro ss own post ⟨ys, rfl, _⟩; rfl) (by
  rintro ss own post ⟨ys, rfl, rfl, hY, rfl⟩ cdv A outer s H E B g
  refine sds_cons (sd_if (l := false) (ET.is (et_not (et_val (es_call (fn_is_year T) g (by decide) (ea_cons (ed_v 0) ea_nil) ⟨_, rfl, rfl, rfl⟩))) (by rw [hY.is]; rfl)) (fun h => nomatch h) fun _ => sds_nil ?_)
  exact sds_one (sd_retD (ed_v 0) rfl))
end
end Pg

namespace Pg
open PySem PySem.Spec PyProof.Rows L2 Sd
section
variable {P : Program} {w : World} {K : PySem.W.Frag} {mg : Str → Option Value} {base : Heap} {c : Cl}
def ptg (ys : List Int) (i j : Nat) : List Int := (ys.set i (ys.getD i 0 + ys.getD j 0)).take j ++ (ys.set i (ys.getD i 0 + ys.getD j 0)).drop (j + 1)
def pre_put_together : Pr := fun ss own post => ∃ (ys : List Int) (i j : Nat), ss = [.d (li ys), .d (.int (i : Int)), .d (.int (j : Int))] ∧ own = [] ∧ Yr ys ∧ i < ys.length ∧ j < ys.length ∧ i ≠ j ∧ Yr (ptg ys i j) ∧ post = fun o => o = .ret (.d (li (ptg ys i j))) []
theorem fn_put_together (T : Tx K mg c) : Fn K mg P w base "put_together" ["year", "one", "other"] 4 pre_put_together := T.d_put_together.fn fun f fd F => okG (k := 3) F sc_put_together (by rintro ss own post ⟨ys, i, j, rfl, _⟩; rfl) (by
  rintro ss own post ⟨ys, i, j, rfl, rfl, hY, hi, hj, hij, hZ, rfl⟩ cdv A outer s H E B g
  have hl := hY.hi
  have gi : ys[i]? = some (ys.getD i 0) := by rw [List.getD_eq_getElem?_getD, List.getElem?_eq_getElem hi]; rfl
  have gj : ys[j]? = some (ys.getD j 0) := by rw [List.getD_eq_getElem?_getD, List.getElem?_eq_getElem hj]; rfl
  refine sds_rtdrop ?_
  refine sds_cons (sd_expr (es_call (fn_check_year T) g (by decide) (ea_cons (ed_v 0) ea_nil) (ok_year hY)) ?_)
  refine sds_cons (sd_expr (es_call (fn_check_day T) g (by decide) (ea_cons (ed_v 0) (ea_cons (ed_v 1) ea_nil)) (ok_day ⟨by omega, by omega⟩)) ?_)
  refine sds_cons (sd_expr (es_call (fn_check_day T) g (by decide) (ea_cons (ed_v 0) (ea_cons (ed_v 2) ea_nil)) (ok_day ⟨by omega, by omega⟩)) ?_)
  refine sds_cons (sd_ifF (ET.is (et_cmp c_eqI (ed_v 1) (ed_v 2)) (decide_eq_false (by omega))) ?_)
  refine sds_cons (sd_setL 3 g.nd (el_list T.n_list (ed_v 0) .d) fun p => ?_)
  refine sds_cons (sd_augitem (oa := []) (ob := []) (n := i) (y := ys.getD i 0) (z := ys.getD j 0) iop_addC (ev_v 3) (ed_v 1) (ed_ixL (ed_v 0) (ed_v 2) .d (getI gj)) (ixN_of (by rw [List.length_map]; exact hi)) (by rw [List.getElem?_map, gi]; rfl) trivial ?_)
  obtain ⟨fs, hfs⟩ : ∃ fs, fs = ys.set i (ys.getD i 0 + ys.getD j 0) := ⟨_, rfl⟩
  have em : (ys.map PyData.int).set i (.int (ys.getD i 0 + ys.getD j 0)) = fs.map PyData.int := by rw [hfs, List.map_set]
  rw [em]
  refine sds_freeze 3 (oa := []) rfl ?_
  have hpt : ptg ys i j = fs.take j ++ fs.drop (j + 1) := by rw [hfs]; rfl
  have hsl : fs.length = ys.length := by rw [hfs, List.length_set]
  have e1 : Sd.cutD (fs.map PyData.int) none (some (j : Int)) ++ Sd.cutD (fs.map PyData.int) (some ((j : Int) + 1)) none = (ptg ys i j).map PyData.int := by
    rw [cutD_to _ _ (by rw [List.length_map]; omega), show ((j : Int) + 1) = ((j + 1 : Nat) : Int) by omega, cutD_from _ _ (by rw [List.length_map]; omega), hpt, List.map_append, List.map_take, List.map_drop]
  have hpl := hZ.hi
  exact sds_one (sd_retD (es_call (fn_checked T) g (by decide) (ea_cons (EL.ed (EL.is (el_cat (EL.ed (el_slice (ed_v 3) po_no (po_yes (ed_v 2)) .d)) (EL.ed (el_slice (ed_v 3) (po_yes (ed_add (ed_v 2) ed_int)) po_no .d)) .d .d (by
    rw [← List.length_append, e1, List.length_map]
    omega)) e1)) ea_nil) ⟨_, rfl, rfl, hZ, rfl⟩) rfl))
end
end Pg

namespace Pg
open PySem PySem.Spec PyProof.Rows L2 Sd
section
variable {P : Program} {w : World} {K : PySem.W.Frag} {mg : Str → Option Value} {base : Heap} {c : Cl}
theorem y211 : Yr [2, 1, 1] := ⟨by decide, by decide, by decide⟩
theorem y11 : Yr [1, 1] := ⟨by decide, by decide, by decide⟩
theorem e_unl : unl [2, 1, 1] 2 = ((5 : Int) : Rat) / (8 : Int) := by decide +kernel
theorem e_pw : pwR [2, 1, 1] 2 = [(0, 10), (1, 6)] := by decide +kernel
theorem e_mua : mua [2, 1, 1] = ((19 : Int) : Rat) / (3 : Int) := by decide +kernel
theorem e_plc : ((plcW [2, 1, 1] [1, 1, 0] 2 : Rat) / (([2, 1, 1].sum ^ 2 : Int) : Rat)) = ((1 : Int) : Rat) / (4 : Int) := by decide +kernel
theorem e_mos : mosm [3, 1] [2, 2] 2 = 1 := by decide +kernel
theorem e_two {h l : Nat} (W : Two (((3 : Int) : Rat) / (8 : Int)) h l) : h = 3 ∧ l = 1 := by
  have key : ∀ h : Fin 21, ∀ l : Fin 21, 1 ≤ l.val → l.val ≤ h.val → Nat.gcd h.val l.val = 1 → 16 * h.val * l.val = 3 * (h.val + l.val) * (h.val + l.val) → h.val = 3 ∧ l.val = 1 := by decide +kernel
  have h1 := W.lo
  have h2 := W.le
  have h3 := W.hi
  refine key ⟨h, by omega⟩ ⟨l, by omega⟩ h1 h2 W.co ?_
  have e := W.eq
  have e2 : (16 : Rat) * h * l = 3 * ((h : Rat) + l) * ((h : Rat) + l) := by
    have e3 : (((3 : Int) : Rat) / (8 : Int)) = 3 / 8 := by decide +kernel
    rw [e3] at e
    grind
  have e4 : (((16 * h * l : Nat) : Int) : Rat) = (((3 * (h + l) * (h + l) : Nat) : Int) : Rat) := by push_cast; exact e2
  exact_mod_cast e4
theorem n_two : ∃ h l, Two (((3 : Int) : Rat) / (8 : Int)) h l := ⟨3, 1, by decide, by decide, by decide, by decide, by decide +kernel⟩
theorem e_ptg : ptg [2, 1, 1] 1 2 = [2, 2] := by decide +kernel
theorem e_fmt : fmt [2, 1, 1] = "2 1 1" := by decide +kernel
theorem e_nx : ((nxS [2, 1, 1] [0] : Rat) / ([2, 1, 1].sum : Int)) = ((1 : Int) : Rat) / (2 : Int) := by decide +kernel
theorem e_n1 : ned [1, 1] (((1 : Int) : Rat) / (2 : Int)) = 2 := by decide +kernel
theorem e_n2 : ned [1, 1] (((2 : Int) : Rat) / (3 : Int)) = 3 := by decide +kernel
theorem e_a1 : nfa [1, 1] (((2047 : Int) : Rat) / (2048 : Int)) = .int 12 := by
  have h : ∀ i : Fin 12, ¬ (((2047 : Int) : Rat) / (2048 : Int)) ≤ alu [1, 1] i.val := by decide +kernel
  have h2 : (((2047 : Int) : Rat) / (2048 : Int)) ≤ alu [1, 1] 12 := by decide +kernel
  have g : ∀ i, i < 12 → ¬ (((2047 : Int) : Rat) / (2048 : Int)) ≤ alu [1, 1] i := fun i hi => h ⟨i, hi⟩
  simp only [nfa, nfaF, Nat.zero_add]
  rw [if_neg (g 0 (by decide)), if_neg (g 1 (by decide)), if_neg (g 2 (by decide)), if_neg (g 3 (by decide)), if_neg (g 4 (by decide)), if_neg (g 5 (by decide)), if_neg (g 6 (by decide)), if_neg (g 7 (by decide)), if_neg (g 8 (by decide)), if_neg (g 9 (by decide)), if_neg (g 10 (by decide)), if_neg (g 11 (by decide)), if_pos h2]
  rfl
theorem e_a2 : nfa [1, 1] (((4095 : Int) : Rat) / (4096 : Int)) = .none := by
  have h : ∀ i : Fin 13, ¬ (((4095 : Int) : Rat) / (4096 : Int)) ≤ alu [1, 1] i.val := by decide +kernel
  have g : ∀ i, i < 13 → ¬ (((4095 : Int) : Rat) / (4096 : Int)) ≤ alu [1, 1] i := fun i hi => h ⟨i, hi⟩
  simp only [nfa, nfaF, Nat.zero_add]
  rw [if_neg (g 0 (by decide)), if_neg (g 1 (by decide)), if_neg (g 2 (by decide)), if_neg (g 3 (by decide)), if_neg (g 4 (by decide)), if_neg (g 5 (by decide)), if_neg (g 6 (by decide)), if_neg (g 7 (by decide)), if_neg (g 8 (by decide)), if_neg (g 9 (by decide)), if_neg (g 10 (by decide)), if_neg (g 11 (by decide)), if_neg (g 12 (by decide))]
theorem e_mus : mus [1] = ((2 : Int) : Rat) / (1 : Int) := by decide +kernel
theorem e_evn : ∀ n : Fin 9, ∀ v : Fin 21, 1 ≤ n.val → 1 ≤ v.val → 1 - unl (List.replicate n.val (v.val : Int)) 2 = ((1 : Int) : Rat) / ((n.val : Int) : Rat) := by decide +kernel
theorem y_rep {n : Nat} {v : Int} (h1 : 1 ≤ n) (h8 : n ≤ 8) (hv : 1 ≤ v ∧ v ≤ 20) : Yr (List.replicate n v) := ⟨by simpa using h1, by simpa using h8, fun y hy => by rw [List.eq_of_mem_replicate hy]; exact hv⟩
theorem e_dst {n : Nat} {v : Int} (h1 : 1 ≤ n) : dst (List.replicate n v) = 1 := (dst_one (by
  intro z
  have := congrArg List.length z
  simp at this
  omega)).mpr fun x hx y hy => by rw [List.eq_of_mem_replicate hx, List.eq_of_mem_replicate hy]
end
end Pg

namespace Pg
open PySem PySem.Spec PyProof.Rows L2 Sd
section
variable {P : Program} {w : World} {K : PySem.W.Frag} {mg : Str → Option Value} {base : Heap} {c : Cl}
theorem e_pc : PyData.list [.tuple [.int 0, .tuple [.int 5, .int 8]], .tuple [.int 1, .tuple [.int 3, .int 8]]] = .list ((pwR [2, 1, 1] 2).map (pcD [2, 1, 1] 2)) := by
  rw [e_pw, fr_mk (a := 5) (b := 8) (by decide) (by decide), fr_mk (a := 3) (b := 8) (by decide) (by decide)]
  have e1 : (((10 : Int) : Rat) / (([2, 1, 1].sum ^ 2 : Int) : Rat)) = ((5 : Int) : Rat) / (8 : Int) := by decide +kernel
  have e2 : (((6 : Int) : Rat) / (([2, 1, 1].sum ^ 2 : Int) : Rat)) = ((3 : Int) : Rat) / (8 : Int) := by decide +kernel
  simp only [List.map_cons, List.map_nil, pcD, e1, e2]
theorem shp_pc (ys : List Int) (m : Nat) (l : List (Int × Int)) : Shp 3 (.list (l.map (pcD ys m))) := shp_list fun d hd => by
  obtain ⟨p, _, rfl⟩ := List.mem_map.mp hd
  refine shp_tup fun d hd => ?_
  simp only [List.mem_cons, List.not_mem_nil, or_false] at hd
  rcases hd with rfl | rfl
  · exact shp_up (shp_int _) (by decide)
  · exact shp_fr _
def pre_law_first : Pr := fun ss own post => ss = [.d (li [2, 1, 1])] ∧ own = [] ∧ post = fun o => o = .ret (.d (.bool true)) []
theorem fn_law_first (T : Tx K mg c) : Fn K mg P w base "_law_first" ["year"] 5 pre_law_first := T.d_law_first.fn fun f fd F => okG (k := 4) F sc_law_first (by rintro ss own post ⟨rfl, _⟩; rfl) (by
  rintro ss own post ⟨rfl, rfl, rfl⟩ cdv A outer s H E B g
  have sh := (shp_pc [2, 1, 1] 2 (pwR [2, 1, 1] 2)).shaped (by decide)
  refine sds_cons (sd_ifF (ET.is (EW.et (ew_or (et_cmp (c_ne g .d .d (sh_fr _) (sh_fr _)) (es_call (fn_all_unlike T) g (by decide) (ea_cons (ed_v 0) (ea_cons ed_int ea_nil)) ⟨[2, 1, 1], 2, rfl, rfl, y211, by decide, rfl⟩) (ES.is (ed_tup (ds := [.int 5, .int 8]) (ea_cons ed_int (ea_cons ed_int ea_nil))) (fr_mk (by decide) (by decide)))) fun _ =>
    ew_or (et_cmp (c_ne g .d .d sh sh) (EL.ed (el_call (fn_pair_chances T) g (by decide) (ea_cons (ed_v 0) (ea_cons ed_int ea_nil)) ⟨[2, 1, 1], 2, rfl, rfl, y211, by decide, rfl⟩)) (ES.is (ed_lst (ds := [_, _]) (ea_cons (ed_tup (ds := [_, _]) (ea_cons ed_int (ea_cons (ed_tup (ds := [_, _]) (ea_cons ed_int (ea_cons ed_int ea_nil))) ea_nil))) (ea_cons (ed_tup (ds := [_, _]) (ea_cons ed_int (ea_cons (ed_tup (ds := [_, _]) (ea_cons ed_int (ea_cons ed_int ea_nil))) ea_nil))) ea_nil))) e_pc)) fun _ =>
    ew_or1 (et_cmp (c_ne g .d .d (sh_fr _) (sh_fr _)) (es_call (fn_mean_until_all T) g (by decide) (ea_cons (ed_v 0) ea_nil) ⟨[2, 1, 1], rfl, rfl, y211, rfl⟩) (ES.is (ed_tup (ds := [.int 19, .int 3]) (ea_cons ed_int (ea_cons ed_int ea_nil))) (fr_mk (by decide) (by decide)))))) ?_) ?_)
  · rw [eqv_fr, eqv_fr, eqv_self (shp_pc _ _ _), e_unl, e_mua]
    simp
  refine sds_one (sd_retD (ES.is (y := .bool true) (ed_and (ed_cmp (c_eq g .d .d (sh_fr _) (sh_fr _)) (es_call (fn_placed T) g (by decide) (ea_cons (ed_v 0) (ea_cons (ES.is (y := li (nI [1, 1, 0])) (ed_lst (ds := [.int 1, .int 1, .int 0]) (ea_cons ed_int (ea_cons ed_int (ea_cons ed_int ea_nil)))) rfl) ea_nil)) ⟨[2, 1, 1], [1, 1, 0], rfl, rfl, y211, ⟨by decide, by decide⟩, rfl⟩) (ES.is (ed_tup (ds := [.int 1, .int 4]) (ea_cons ed_int (ea_cons ed_int ea_nil))) (fr_mk (by decide) (by decide)))) fun _ =>
    ed_one (ed_cmp c_eqI (es_call (fn_more_same T) g (by decide) (ea_cons (ES.is (y := li [3, 1]) (ed_lst (ds := [.int 3, .int 1]) (ea_cons ed_int (ea_cons ed_int ea_nil))) rfl) (ea_cons (ES.is (y := li [2, 2]) (ed_lst (ds := [.int 2, .int 2]) (ea_cons ed_int (ea_cons ed_int ea_nil))) rfl) (ea_cons ed_int ea_nil))) ⟨[3, 1], [2, 2], 2, rfl, rfl, ⟨by decide, by decide, by decide⟩, ⟨by decide, by decide, by decide⟩, by decide, unl_sq ⟨by decide, by decide, by decide⟩ (by decide), unl_sq ⟨by decide, by decide, by decide⟩ (by decide), rfl⟩) ed_int)) ?_) rfl)
  rw [eqv_fr, e_mos]
  have e := e_plc
  have e' : (plcW [2, 1, 1] [1, 1, 0] ([1, 1, 0] : List Nat).sum : Rat) / (([2, 1, 1].sum ^ ([1, 1, 0] : List Nat).sum : Int) : Rat) = ((1 : Int) : Rat) / (4 : Int) := e
  rw [e']
  simp)
end
end Pg

namespace Pg
open PySem PySem.Spec PyProof.Rows L2 Sd
section
variable {P : Program} {w : World} {K : PySem.W.Frag} {mg : Str → Option Value} {base : Heap} {c : Cl}
/-- the whole part of a root -/
def isq : Nat → Nat
  | 0 => 0
  | n + 1 => if (isq n + 1) * (isq n + 1) ≤ n + 1 then isq n + 1 else isq n
theorem isq_sq : ∀ n : Nat, isq n * isq n ≤ n ∧ n < (isq n + 1) * (isq n + 1)
  | 0 => ⟨Nat.le_refl _, by decide⟩
  | n + 1 => by
    obtain ⟨h1, h2⟩ := isq_sq n
    unfold isq
    split
    · rename_i h
      refine ⟨h, ?_⟩
      have : (isq n + 1 + 1) * (isq n + 1 + 1) = (isq n + 1) * (isq n + 1) + 2 * (isq n + 1) + 1 := by simp only [Nat.add_mul, Nat.mul_add]; omega
      omega
    · omega
theorem isq_uniq {r n : Nat} (h1 : r * r ≤ n) (h2 : n < (r + 1) * (r + 1)) : r = isq n := by
  obtain ⟨h3, h4⟩ := isq_sq n
  rcases Nat.lt_trichotomy r (isq n) with h | h | h
  · have := Nat.mul_le_mul (show r + 1 ≤ isq n from h) (show r + 1 ≤ isq n from h)
    omega
  · exact h
  · have := Nat.mul_le_mul (show isq n + 1 ≤ r from h) (show isq n + 1 ≤ r from h)
    omega
theorem isq_self (r : Nat) : isq (r * r) = r := (isq_uniq (Nat.le_refl _) (Nat.mul_lt_mul_of_lt_of_le (by omega) (by omega) (by omega))).symm
def rtD (n : Nat) : PyData := if isq n * isq n = n then .int (isq n : Int) else .none
def pre_root_of : Pr := fun ss own post => ∃ (n : Nat), ss = [.d (.int (n : Int))] ∧ own = [] ∧ Sz 4000 (n : Int) ∧ post = fun o => o = .ret (.d (rtD n)) []
theorem fn_root_of (T : Tx K mg c) : Fn K mg P w base "root_of" ["number"] 1 pre_root_of := T.d_root_of.fn fun f fd F => okG (k := 0) F sc_root_of (by rintro ss own post ⟨n, rfl, _⟩; rfl) (by
  rintro ss own post ⟨n, rfl, rfl, hz, rfl⟩ cdv A outer s H E B g
  refine sds_cons (sd_par 1 2 g (ea_cons ed_int (ea_cons (ed_add (ed_v 0) ed_int) ea_nil)) ?_)
  refine sds_cons (sd_while g (fun m ρ own => ∃ (l h : Nat) (t : Slot), l < h ∧ h ≤ n + 1 ∧ l * l ≤ n ∧ n < h * h ∧ ρ = [.d (.int (n : Int)), .d (.int (l : Int)), .d (.int (h : Int)), t] ∧ own = [] ∧ m = h - l) (n + 1 - 0) ⟨0, n + 1, .un, by omega, Nat.le_refl _, by omega, ?_, ?_, rfl, rfl⟩ ?_)
  · rw [Nat.add_mul, Nat.mul_add]
    omega
  · rw [show ((n + 1 : Nat) : Int) = (n : Int) + 1 by omega]
    rfl
  rintro m ρ1 own1 ⟨l, h, t, h1, h2, h3, h4, rfl, rfl, rfl⟩
  refine ⟨_, et_cmp c_gt (ed_sub (ed_v 2) (ed_v 1)) ed_int, fun hd => ?_, fun hd => ?_⟩
  · have hd : l + 1 < h := by
      have := of_decide_eq_true hd
      omega
    have em : ((l : Int) + (h : Int)) / 2 = (((l + h) / 2 : Nat) : Int) := by omega
    obtain ⟨md, hmd⟩ : ∃ md, md = (l + h) / 2 := ⟨_, rfl⟩
    have hm1 : l < md ∧ md < h := by omega
    refine sds_cons (sd_set 3 g.nd (ES.is (y := .int (md : Int)) (ed_fdivS (ed_add (ed_v 1) (ed_v 2)) ed_int (by omega)) (by rw [em, hmd])) ?_)
    have zm : Sz 4001 (md : Int) := by
      unfold Sz at hz ⊢
      rw [Int.natAbs_natCast] at hz ⊢
      rw [Nat.pow_succ]
      omega
    refine sds_one (sd_if (l := decide (md * md ≤ n)) (ET.is (et_cmp c_le (ed_mul (ed_v 3) (ed_v 3) (cmul_of zm zm (by decide))) (ed_v 0)) ?_) (fun hc => ?_) fun hc => ?_)
    · refine decide_eq_decide.mpr ?_
      rw [← Int.natCast_mul]
      omega
    · have hc := of_decide_eq_true hc
      refine sds_one (sd_set 1 g.nd (ed_v 3) ?_)
      exact ⟨h - md, by omega, md, h, _, hm1.2, h2, hc, h4, rfl, rfl, rfl⟩
    · have hc := of_decide_eq_false hc
      refine sds_one (sd_set 2 g.nd (ed_v 3) ?_)
      exact ⟨md - l, by omega, l, md, _, hm1.1, by omega, h3, by omega, rfl, rfl, rfl⟩
  · have hd : h = l + 1 := by
      have := of_decide_eq_false hd
      omega
    subst hd
    have zl : Sz 4001 (l : Int) := by
      unfold Sz at hz ⊢
      rw [Int.natAbs_natCast] at hz ⊢
      rw [Nat.pow_succ]
      omega
    refine sds_one (sd_retD (x := if l * l = n then .int (l : Int) else .none) (es_if (k := decide (l * l = n)) (ET.is (et_cmp c_eqI (ed_mul (ed_v 1) (ed_v 1) (cmul_of zl zl (by decide))) (ed_v 0)) ?_) (fun hc => ES.is (ed_v 1) ?_) fun hc => ES.is ed_non ?_) ?_)
    · refine decide_eq_decide.mpr ?_
      rw [← Int.natCast_mul]
      omega
    · exact (if_pos (of_decide_eq_true hc)).symm
    · exact (if_neg (of_decide_eq_false hc)).symm
    · rw [rtD, ← isq_uniq h3 h4])
end
end Pg

namespace Pg
open PySem PySem.Spec PyProof.Rows L2 Sd
section
variable {P : Program} {w : World} {K : PySem.W.Frag} {mg : Str → Option Value} {base : Heap} {c : Cl}
def pre_two_days (c : Cl) : Pr := fun ss own post => ∃ q : Rat, ss = [.d (fr q)] ∧ own = [] ∧ Shr q ∧ Sq 1000 q ∧ post = fun o => (∃ h l : Nat, Two q h l ∧ ∃ p, o = .ret (.raw (.ref p)) [(p, .lst [.int (h : Int), .int (l : Int)])]) ∨ ((∀ h l, ¬ Two q h l) ∧ o = .exc c.NotFound [])
theorem fn_two_days (T : Tx K mg c) : Fn K mg P w base "two_days" ["chance"] 4 (pre_two_days c) := T.d_two_days.fn fun f fd F => okG (k := 3) F sc_two_days (by rintro ss own post ⟨q, rfl, _⟩; rfl) (by
  rintro ss own post ⟨q, rfl, rfl, hq, hz, rfl⟩ cdv A outer s H E B g
  have hd := den_pos q
  obtain ⟨n1, n2⟩ := shr_num hq
  have zn := hz.num
  have zd := hz.den
  refine sds_cons (sd_expr (es_call (fn_check_share_t T) g (by decide) (ea_cons (ed_v 0) ea_nil) (ok_shareT (fr_isShr hq))) ?_)
  refine sds_cons (sd_par 1 2 g (ea_cons (ed_sub (ed_ixT (ed_v 0) ed_int rfl) (ed_mul ed_int (ed_ixT (ed_v 0) ed_int rfl) (cmul_of (a := 2) (by unfold Sz; decide) zn (by decide)))) (ea_cons (ed_ixT (ed_v 0) ed_int rfl) ea_nil)) ?_)
  obtain ⟨x, hx⟩ : ∃ x : Rat, x = 1 - 2 * q := ⟨_, rfl⟩
  have ex : (((q.den : Int) - 2 * q.num : Int) : Rat) / ((q.den : Int) : Rat) = x := by
    have e1 := num_eq q
    have e2 := den_ne q
    rw [hx]
    push_cast at e1 e2 ⊢
    rw [e1]
    grind
  have x0 : x < 0 ↔ (q.den : Int) - 2 * q.num < 0 := by
    have h0 : (0 : Rat) < ((q.den : Int) : Rat) := by exact_mod_cast hd
    have e3 : x * ((q.den : Int) : Rat) = (((q.den : Int) - 2 * q.num : Int) : Rat) := by rw [← ex, Rat.div_mul_cancel (den_ne q)]
    constructor
    · intro h
      have h2 := Rat.mul_pos (show (0 : Rat) < -x by grind) h0
      have h3 : (((q.den : Int) - 2 * q.num : Int) : Rat) < 0 := by rw [← e3]; grind
      exact_mod_cast h3
    · intro h
      have h1 : (((q.den : Int) - 2 * q.num : Int) : Rat) < 0 := by exact_mod_cast h
      rw [← e3] at h1
      rcases Rat.le_total (a := 0) (b := x) with z | z
      · have := Rat.mul_nonneg z (Rat.le_of_lt h0)
        grind
      · rcases Rat.le_iff_lt_or_eq.mp z with z | z
        · exact z
        · rw [z] at h1
          grind
  have q0 : q = 0 ↔ q.num = 0 := Rat.num_eq_zero.symm
  have bad : ((q.den : Int) - 2 * q.num < 0 ∨ q.num = 0) → ∀ h l, ¬ Two q h l := by
    intro hb h l W
    obtain ⟨w1, w2, _⟩ := two_roots hx W
    rcases hb with hb | hb
    · have := x0.mpr hb
      grind
    · exact w2 (q0.mpr hb)
  refine sds_cons (sd_if (l := decide ((q.den : Int) - 2 * q.num < 0 ∨ q.num = 0)) (ET.is (EW.et (ew_or (et_cmp c_lt (ed_v 1) ed_int) fun _ => ew_or1 (et_cmp c_eqI (ed_ixT (ed_v 0) ed_int rfl) ed_int))) (by rw [Bool.decide_or])) (fun h => ?_) fun h => sds_nil ?_)
  · exact sds_one (sd_raise g T.e_NotFound (.inr ⟨bad (of_decide_eq_true h), rfl⟩))
  have hg := of_decide_eq_false h
  have hqp : 0 < q := by
    have := hq.lo
    have : q ≠ 0 := fun z => hg (.inr (q0.mp z))
    grind
  have hxn : 0 ≤ x := by
    rcases Rat.le_total (a := 0) (b := x) with z | z
    · exact z
    · rcases Rat.le_iff_lt_or_eq.mp z with z | z
      · exact absurd (.inl (x0.mp z)) hg
      · grind
  have hxs : Sq 1003 x := by
    rw [← ex]
    refine Sq.of_div hd ?_ (zd.mono (by decide))
    exact (zd.sub ((show Sz 2 (2 : Int) by unfold Sz; decide).mul zn)).mono (by decide)
  refine sds_cons (sd_set 3 g.nd (s := .d (fr x)) (es_if (et_cmp c_gt (ed_v 1) ed_int) (fun h => ES.is (es_call (fn_lowest T) g (by decide) (ea_cons (ed_v 1) (ea_cons (ed_v 2) ea_nil)) ⟨_, _, rfl, rfl, hd, zd.mono (by decide), rfl⟩) (by rw [ex])) fun h => ES.is (ed_k2 (i := 0) (i' := 1)) ?_) ?_)
  · have h := of_decide_eq_false h
    have e0 : (q.den : Int) - 2 * q.num = 0 := by omega
    have : x = 0 := by
      rw [← ex, e0]
      exact Rat.zero_mul _
    rw [this, fr_zero]
  obtain ⟨xn, hxnn⟩ : ∃ xn : Nat, x.num = (xn : Int) := ⟨x.num.toNat, by have := Rat.num_nonneg.mpr hxn; omega⟩
  have zn2 : Sz 4000 (xn : Int) := by rw [← hxnn]; exact hxs.num.mono (by decide)
  have zd2 : Sz 4000 (x.den : Int) := hxs.den.mono (by decide)
  refine sds_cons (sd_par 4 5 g (ea_cons (es_call (fn_root_of T) g (by decide) (ea_cons (ES.is (ed_ixT (ed_v 3) ed_int rfl) (by rw [hxnn])) ea_nil) ⟨xn, rfl, rfl, zn2, rfl⟩) (ea_cons (es_call (fn_root_of T) g (by decide) (ea_cons (ed_ixT (ed_v 3) ed_int rfl) ea_nil) ⟨x.den, rfl, rfl, zd2, rfl⟩) ea_nil)) ?_)
  have isn : ∀ n : Nat, isNone (.d (rtD n)) = !decide (isq n * isq n = n) := fun n => by
    unfold rtD
    by_cases h : isq n * isq n = n
    · rw [if_pos h, decide_eq_true h]; rfl
    · rw [if_neg h, decide_eq_false h]; rfl
  refine sds_cons (sd_if (l := !(decide (isq xn * isq xn = xn) && decide (isq x.den * isq x.den = x.den))) (ET.is (EW.et (ew_or (et_cmp c_isND (ed_v 4) ed_non) fun _ => ew_or1 (et_cmp c_isND (ed_v 5) ed_non))) (by rw [isn, isn, Bool.not_and])) (fun h => ?_) fun h => sds_nil ?_)
  · refine sds_one (sd_raise g T.e_NotFound (.inr ⟨fun h' l' W => ?_, rfl⟩))
    obtain ⟨_, _, r, s, w1, w2⟩ := two_roots hx W
    have e1 : xn = r * r := by rw [hxnn] at w1; exact_mod_cast w1
    rw [e1, w2, isq_self, isq_self] at h
    simp at h
  have h : isq xn * isq xn = xn ∧ isq x.den * isq x.den = x.den := by simpa using h
  obtain ⟨h1, h2⟩ := h
  obtain ⟨r, hr⟩ : ∃ r, r = isq xn := ⟨_, rfl⟩
  obtain ⟨t, ht⟩ : ∃ t, t = isq x.den := ⟨_, rfl⟩
  have er : rtD xn = .int (r : Int) := by rw [rtD, if_pos h1, hr]
  have et : rtD x.den = .int (t : Int) := by rw [rtD, if_pos h2, ht]
  rw [er, et]
  rw [← hr] at h1
  rw [← ht] at h2
  obtain ⟨hlt, hy⟩ := two_of hx hqp (by rw [hxnn, h1]) h2.symm
  have zr : Sz 4000 (t : Int) := by
    have : t ≤ t * t := by
      rcases Nat.eq_zero_or_pos t with z | z
      · omega
      · exact Nat.le_mul_of_pos_left t z
    unfold Sz at zd2 ⊢
    omega
  refine sds_cons (sd_par 6 7 g (ea_cons (ed_add (ed_v 5) (ed_v 4)) (ea_cons (ed_sub (ed_v 5) (ed_v 4)) ea_nil)) ?_)
  have zt : Sz 8999 ((t : Int) - r) := by
    unfold Sz at zr ⊢
    refine Nat.lt_of_le_of_lt ?_ (Nat.lt_of_lt_of_le zr (Nat.pow_le_pow_right (by decide) (by decide)))
    omega
  refine sds_cons (sd_set 8 g.nd (es_call (fn_lowest T) g (by decide) (ea_cons (ed_v 6) (ea_cons (ed_v 7) ea_nil)) ⟨(t : Int) + r, (t : Int) - r, rfl, rfl, by omega, zt, rfl⟩) ?_)
  obtain ⟨y, hyy⟩ : ∃ y : Rat, y = (((t : Int) + r : Int) : Rat) / (((t : Int) - r : Int) : Rat) := ⟨_, rfl⟩
  rw [← hyy]
  have hye : y * ((t : Rat) - r) = (t : Rat) + r := by
    have h0 : (((t : Int) - r : Int) : Rat) ≠ 0 := by
      have : (0 : Rat) < (((t : Int) - r : Int) : Rat) := by exact_mod_cast (show (0 : Int) < (t : Int) - r by omega)
      grind
    have := Rat.div_mul_cancel (a := (((t : Int) + r : Int) : Rat)) h0
    rw [← hyy] at this
    push_cast at this
    exact this
  obtain ⟨y1, y2⟩ := hy y hye
  obtain ⟨f1, f2⟩ := two_found y1 y2
  refine sds_cons (sd_if (et_cmp c_gt (ed_ixT (ed_v 8) ed_int rfl) ed_int) (fun h => ?_) fun h => sds_nil ?_)
  · have h := of_decide_eq_true h
    refine sds_one (sd_raise g T.e_NotFound (.inr ⟨fun h' l' W => ?_, rfl⟩))
    have a1 := (f1 h' l' W).1
    have a2 := W.hi
    omega
  · have h := of_decide_eq_false h
    have W := f2 (by omega)
    refine sds_one (sd_retL (el_lst (ds := [.int y.num, .int (y.den : Int)]) (ea_cons (ed_ixT (ed_v 8) ed_int rfl) (ea_cons (ed_ixT (ed_v 8) ed_int rfl) ea_nil))) fun p => .inl ⟨_, _, W, p, ?_⟩)
    have : ((y.num.toNat : Nat) : Int) = y.num := by
      have := Rat.num_nonneg.mpr (show 0 ≤ y by grind)
      omega
    rw [this])
end
end Pg

namespace Pg
open PySem PySem.Spec PyProof.Rows L2 Sd
section
variable {P : Program} {w : World} {K : PySem.W.Frag} {mg : Str → Option Value} {base : Heap} {c : Cl}
def pre_law_second : Pr := fun ss own post => ss = [.d (li [2, 1, 1])] ∧ own = [] ∧ post = fun o => o = .ret (.d (.bool true)) []
theorem fn_law_second (T : Tx K mg c) : Fn K mg P w base "_law_second" ["year"] 5 pre_law_second := T.d_law_second.fn fun f fd F => okG (k := 4) F sc_law_second (by rintro ss own post ⟨rfl, _⟩; rfl) (by
  rintro ss own post ⟨rfl, rfl, rfl⟩ cdv A outer s H E B g
  have hq : Shr (((3 : Int) : Rat) / (8 : Int)) := ⟨by decide +kernel, by decide +kernel⟩
  refine sds_one (sd_retD (ES.is (y := .bool true) (ed_and (ed_cmp (c_eq g .d .d (sh_ints [3, 1]) (sh_ints [3, 1])) (EL.ed (ds := [3, 1].map PyData.int) (EG.toEL (eg_call (oa := []) (o1 := []) (ob := []) (fn_two_days T) g (by decide) (ea_cons (ES.is (ed_tup (ds := [.int 3, .int 8]) (ea_cons ed_int (ea_cons ed_int ea_nil))) (fr_mk (by decide) (by decide))) ea_nil) ⟨_, rfl, rfl, hq, ⟨by decide +kernel, by decide +kernel⟩, rfl⟩ ?_ ?_))) (ES.is (y := li [3, 1]) (ed_lst (ds := [.int 3, .int 1]) (ea_cons ed_int (ea_cons ed_int ea_nil))) rfl)) fun _ =>
    ed_and (ed_cmp (c_eq g .d .d (sh_ints _) (sh_ints _)) (es_call (fn_put_together T) g (by decide) (ea_cons (ed_v 0) (ea_cons ed_int (ea_cons ed_int ea_nil))) ⟨[2, 1, 1], 1, 2, rfl, rfl, y211, by decide, by decide, by decide, by rw [e_ptg]; exact ⟨by decide, by decide, by decide⟩, rfl⟩) (ES.is (y := li [2, 2]) (ed_lst (ds := [.int 2, .int 2]) (ea_cons ed_int (ea_cons ed_int ea_nil))) rfl)) fun _ =>
    ed_one (ed_cmp c_eqS (es_call (fn_format_year T) g (by decide) (ea_cons (ed_v 0) ea_nil) ⟨[2, 1, 1], rfl, rfl, y211, rfl⟩) ed_str)) ?_) rfl)
  · rintro s o h
    rcases h with ⟨h, l, W, p, e⟩ | ⟨hn, e⟩
    · cases e
      obtain ⟨rfl, rfl⟩ := e_two W
      exact ⟨p, rfl, rfl⟩
    · cases e
  · rintro C o h
    rcases h with ⟨h, l, W, p, e⟩ | ⟨hn, e⟩
    · cases e
    · obtain ⟨h, l, W⟩ := n_two
      exact absurd W (hn h l)
  · rw [eqv_ints, eqv_ints, e_ptg, e_fmt]
    simp)
end
end Pg

namespace Pg
open PySem PySem.Spec PyProof.Rows L2 Sd
section
variable {P : Program} {w : World} {K : PySem.W.Frag} {mg : Str → Option Value} {base : Heap} {c : Cl}
def pre_law_start (K : PySem.W.Frag) : Pr := fun ss own post => ∃ (a : Addr) (ns : List Int), ss = [.raw (.ref a)] ∧ ScrAt K own a ns ∧ post = fun o => ∃ d n cells, cells ≠ [] ∧ o = .ret (.raw (.ref d)) (drw d n cells 0 ++ own)
theorem fn_law_start (T : Tx K mg c) : Fn K mg P w base "_law_start" ["script"] 1 (pre_law_start K) := T.d_law_start.fn fun f fd F => okG (k := 0) F sc_law_start (by rintro ss own post ⟨a, ns, rfl, _⟩; rfl) (by
  rintro ss own post ⟨a, ns, rfl, hs, rfl⟩ cdv A outer s H E B g
  refine sds_one (sd_retG (eg_lst2 (P := fun v o => ∃ n, v = .ref n ∧ o = (n, .lst ((if ns = [] then [0] else ns).map PyData.int)) :: own) (EL.toEG (el_if (et_cmp (c_neScr g hs) (ev_v 0) (ed_lst (ds := []) ea_nil)) (fun h => EL.is (el_listScr T.n_list (ev_v 0) hs) ?_) fun h => EL.is (el_lst (ds := [.int 0]) (ea_cons ed_int ea_nil)) ?_) fun p => ⟨_, rfl, p, rfl, rfl⟩) fun v o _ => ed_int) ?_)
  · rw [if_neg (by simpa using h)]
  · rw [if_pos (by simpa using h)]
    rfl
  · rintro t o ⟨q, v, o', rfl, rfl, n, rfl, rfl⟩
    exact ⟨q, n, if ns = [] then [0] else ns, by split <;> simp_all, rfl⟩)
end
end Pg

namespace Pg
open PySem PySem.Spec PyProof.Rows L2 Sd
section
variable {P : Program} {w : World} {K : PySem.W.Frag} {mg : Str → Option Value} {base : Heap} {c : Cl}
end
end Pg

namespace Pg
open PySem PySem.Spec PyProof.Rows L2 Sd
section
variable {P : Program} {w : World} {K : PySem.W.Frag} {mg : Str → Option Value} {base : Heap} {c : Cl}
/-- a draw, a pick: in words of what is owned -/
theorem eg_draw {Z : Sd.Ctx} {k : Nat} {ρ : List Slot} {oa ob : Own} {e1 e2 : Expr} {p pos : Pos} {d n : Addr} {cells : List Int} {cnt limit : Int} (F : Fn Z.X.K Z.X.mg Z.X.prog Z.X.w Z.X.base "_law_draw" ["draws", "limit"] 1 pre_law_draw) (g : Gd Z k) (hk : 1 ≤ k) (hc : cells ≠ []) (ha : EA Z [e1, e2] ρ (oa ++ drw d n cells cnt ++ ob) [.raw (.ref d), .d (.int limit)]) (hl : 0 < limit) (hl2 : limit < 1073741824)
    (hg : Gl Z.X "_law_draw" := by rfl) (he : starEach [e1, e2] Z.X.env = (false, eval e1 Z.X.env) :: starEach [e2] Z.X.env := by rfl) (hpl : (backTo pos (starEach [e2] Z.X.env)).any (·.1) = false := by rfl) :
    EG Z (.Call (.Name "_law_draw" p) [e1, e2] [] pos) ρ (oa ++ drw d n cells cnt ++ ob) (fun t o => ∃ (r : Nat) (cells' : List Int) (cnt' : Int), (r : Int) < limit ∧ cells' ≠ [] ∧ t = .d (.int (r : Int)) ∧ o = oa ++ drw d n cells' cnt' ++ ob) :=
  eg_call F g hk ha ⟨d, n, cells, cnt, limit, rfl, rfl, hc, hl, hl2, rfl⟩ (by
    rintro t o1 ⟨r, cells', cnt', h0, h1, h2, e⟩
    cases e
    exact ⟨r.toNat, cells', cnt', by omega, h2, by rw [Int.toNat_of_nonneg h0], rfl⟩) (by
    rintro C o1 ⟨r, cells', cnt', h0, h1, h2, e⟩
    cases e) hg (by decide) he hpl
end
end Pg

namespace Pg
open PySem PySem.Spec PyProof.Rows L2 Sd
section
variable {P : Program} {w : World} {K : PySem.W.Frag} {mg : Str → Option Value} {base : Heap} {c : Cl}
/-- a test that changes what is owned -/
def ETG (Z : Sd.Ctx) (e : Expr) (ρ : List Slot) (own : Own) (R : Bool → Own → Prop) : Prop := ∀ Hf σ H, Sat Z.B Hf H own → EnvR Hf σ ρ → ∀ Q : Bool → Hp → Prop, (∀ b Hf' H' own', Same Hf Hf' → Sat Z.B Hf' H' own' → R b own' → Q b H') → wT Z.X e σ H Q
theorem etg_cmp {Z : Sd.Ctx} {a b : Expr} {pos : Pos} {ρ : List Slot} {own : Own} {op : CmpOp} {P : Slot → Own → Prop} {R : Bool → Own → Prop} (ha : EG Z a ρ own P) (hb : ∀ s o, P s o → ∃ t k, ES Z b ρ o t ∧ CmpB Z op o s t k ∧ R k o) (hm : behindInMarks op b = false := by first | exact nomark _ | rfl) : ETG Z (.Compare a [op] [b] pos) ρ own R := by
  have hu : OpR Z.X (compareOp op) (fun v w H Q => ∃ r : R2, OpR Z.X (compareOp op) r ∧ r v w H Q) := by
    intro pins s σ H x y v u Q I rx ry h
    obtain ⟨r, ho, h⟩ := h
    exact ho pins s σ H x y v u Q I rx ry h
  refine fun Hf σ H S E Q q => wT.of (pt_cmpR hu peW peW hm) (ha Hf σ H S E _ fun v Hf1 H1 s o m1 S1 r1 _ hP => ?_)
  obtain ⟨t, k, he, ⟨r, ho, hr⟩, hR⟩ := hb s o hP
  exact he Hf1 σ H1 S1 (E.mono m1) _ fun w Hf2 H2 m2 S2 r2 => ⟨r, ho, hr v w Hf2 H2 S2 (r1.mono m2) r2 _ ⟨k, rfl, q k Hf2 H2 o (m1.trans m2) S2 hR⟩⟩
theorem sd_ifG {Z : Sd.Ctx} {D : DE} {c : Expr} {A B : List Stmt} {pos : Pos} {ρ : List Slot} {own : Own} {R : Bool → Own → Prop} (hc : ETG Z c ρ own R) (h1 : ∀ o, R true o → SDs Z A D ρ o) (h2 : ∀ o, R false o → SDs Z B D ρ o) : SD Z (.If c A B pos) D ρ own := fun H0 Hf σ H m0 S E => wS.of (ps_if ptW pssW pssW) (hc Hf σ H S E _ fun b Hf1 H1 o m1 S1 hR => by
  cases b with
  | true => exact iteT (h1 o hR H0 Hf1 σ H1 (m0.trans m1) S1 (E.mono m1))
  | false => exact iteF (h2 o hR H0 Hf1 σ H1 (m0.trans m1) S1 (E.mono m1)))
/-- or, and with a change of what is owned: as tests -/
def EWG (Z : Sd.Ctx) (e : Expr) (ρ : List Slot) (own : Own) (R : Bool → Own → Prop) : Prop := ∀ Hf σ H, Sat Z.B Hf H own → EnvR Hf σ ρ → ∀ Q : Bool → Hp → Prop, (∀ b Hf' H' own', Same Hf Hf' → Sat Z.B Hf' H' own' → R b own' → Q b H') → wW Z.X e σ H Q
theorem EWG.et {Z : Sd.Ctx} {e : Expr} {ρ : List Slot} {own : Own} {R : Bool → Own → Prop} (h : EWG Z e ρ own R) : ETG Z e ρ own R := fun Hf σ H S E Q q => wT.of pwW.pt (h Hf σ H S E Q q)
theorem ET.toETG {Z : Sd.Ctx} {e : Expr} {ρ : List Slot} {own : Own} {R : Bool → Own → Prop} {b : Bool} (h : ET Z e ρ own b) (q : R b own) : ETG Z e ρ own R := fun Hf σ H S E Q k => h Hf σ H S E Q fun Hf' H' m S' => k b Hf' H' own m S' q
theorem ETG.imp {Z : Sd.Ctx} {e : Expr} {ρ : List Slot} {own : Own} {R R' : Bool → Own → Prop} (h : ETG Z e ρ own R) (q : ∀ b o, R b o → R' b o) : ETG Z e ρ own R' := fun Hf σ H S E Q k => h Hf σ H S E Q fun b Hf' H' o m S' r => k b Hf' H' o m S' (q b o r)
theorem ewg_or1 {Z : Sd.Ctx} {a : Expr} {pos : Pos} {ρ : List Slot} {own : Own} {R : Bool → Own → Prop} (h : ETG Z a ρ own R) : EWG Z (.BoolOp .Or [a] pos) ρ own R := fun Hf σ H S E Q q => wW.of (pw_or1 ptW) (h Hf σ H S E Q q)
/-- the first fails: on to the rest -/
theorem ewg_or {Z : Sd.Ctx} {a b : Expr} {rest : List Expr} {pos : Pos} {ρ : List Slot} {own : Own} {R : Bool → Own → Prop} {P : Own → Prop} (h1 : ETG Z a ρ own fun l o => l = false ∧ P o) (h2 : ∀ o, P o → EWG Z (.BoolOp .Or (b :: rest) pos) ρ o R) : EWG Z (.BoolOp .Or (a :: b :: rest) pos) ρ own R := fun Hf σ H S E Q q => wW.of (pw_or ptW pwW) (h1 Hf σ H S E _ fun l Hf1 H1 o m1 S1 hr => by
  obtain ⟨rfl, hr⟩ := hr
  exact iteF (h2 o hr Hf1 σ H1 S1 (E.mono m1) Q fun b Hf2 H2 o2 m2 S2 r => q b Hf2 H2 o2 (m1.trans m2) S2 r))
/-- xs * n, the list with a change of what is owned -/
theorem eg_repL {Z : Sd.Ctx} {a b : Expr} {pos : Pos} {ρ : List Slot} {own : Own} {i : Int} {P : List PyData → Own → Prop} (ha : EG Z a ρ own fun s o => ∃ p ds o', s = .raw (.ref p) ∧ o = (p, .lst ds) :: o' ∧ P ds o') (hb : ∀ o, ED Z b ρ o (.int i)) (h : i ≤ 1000 ∧ -1000 ≤ i) (hl : ∀ ds o, P ds o → ds.length ≤ 1000) :
    EG Z (.BinOp a .Mult b pos) ρ own (fun s o => ∃ p ds o', s = .raw (.ref p) ∧ o = (p, .lst (List.replicate i.toNat ds).flatten) :: o' ∧ P ds o') := fun Hf σ H S E Q q =>
  wE.of (pe_op op_rep peW peW) (ha Hf σ H S E _ fun v Hf1 H1 s o m1 S1 r1 _ hq => hb o Hf1 σ H1 S1 (E.mono m1) _ fun w Hf2 H2 m2 S2 r2 => by
    obtain ⟨p, ds, o', rfl, rfl, hP⟩ := hq
    cases r2
    cases (show v = .ref p from r1)
    obtain ⟨_, _, vs, g1, g2⟩ := S2.at (p := p) (oo := .lst ds) (by simp)
    have e1 := g2.length
    have e2 := hl ds o' hP
    refine ⟨p, i, vs, rfl, rfl, g1, by omega, by omega, ?_, fun l hl => ?_⟩
    · have : vs.length * i.toNat ≤ 1000 * 1000 := Nat.mul_le_mul (by omega) (by omega)
      exact Nat.le_trans this (by decide)
    · have S3 := S2.newOwn (oo := .lst (List.replicate i.toNat ds).flatten) hl ⟨_, upd_same, g2.rep _⟩
      have S4 : Sat Z.B Hf2 _ ([(l, .lst (List.replicate i.toNat ds).flatten)] ++ o') := Sat.drop (oa := [(l, .lst (List.replicate i.toNat ds).flatten)]) (ob := o') S3
      exact q (.ref l) Hf2 _ (.raw (.ref l)) _ (m1.trans m2) S4 rfl (fun z => nomatch z) ⟨l, ds, o', rfl, rfl, hP⟩)
end
end Pg

namespace Pg
open PySem PySem.Spec PyProof.Rows L2 Sd
section
variable {P : Program} {w : World} {K : PySem.W.Frag} {mg : Str → Option Value} {base : Heap} {c : Cl}
def pre_some_same : Pr := fun ss own post => ∃ (ys : List Int) (n : Nat), ss = [.d (li ys), .d (.int (n : Int))] ∧ own = [] ∧ Yr ys ∧ n ≤ 12 ∧ post = fun o => o = .ret (.d (fr (1 - unl ys n))) []
theorem fn_some_same (T : Tx K mg c) : Fn K mg P w base "some_same" ["year", "many"] 4 pre_some_same := T.d_some_same.fn fun f fd F => okG (k := 3) F sc_some_same (by rintro ss own post ⟨ys, n, rfl, _⟩; rfl) (by
  rintro ss own post ⟨ys, n, rfl, rfl, hY, hn, rfl⟩ cdv A outer s H E B g
  refine sds_cons (sd_expr (es_call (fn_check_year T) g (by decide) (ea_cons (ed_v 0) ea_nil) (ok_year hY)) ?_)
  refine sds_cons (sd_expr (es_call (fn_check_many T) g (by decide) (ea_cons (ed_v 1) ea_nil) (ok_many ⟨by omega, by omega⟩)) ?_)
  exact sds_one (sd_retD (es_call (fn_minus T) g (by decide) (ea_cons (ed_k2 (i := 1) (i' := 1)) (ea_cons (es_call (fn_unlike_of T) g (by decide) (ea_cons (ed_v 0) (ea_cons (ed_v 1) ea_nil)) ⟨ys, n, rfl, rfl, hY, hn, rfl⟩) ea_nil)) ⟨1, _, 1, 200, rfl, rfl, .one, unl_sq hY hn, by decide, rfl⟩) rfl))
end
end Pg

namespace Pg
open PySem PySem.Spec PyProof.Rows L2 Sd
section
variable {P : Program} {w : World} {K : PySem.W.Frag} {mg : Str → Option Value} {base : Heap} {c : Cl}
theorem ok_law (T : Tx K mg c) {f : Addr} {fd : FuncData} (F : Fun K "law" "law" s_law f fd) : FnOk P w K mg base (L2.CX P w) 6 f fd ["script"] (spG (pre_law K)) := okG (k := 5) F sc_law (by rintro ss own post ⟨a, ns, rfl, _⟩; rfl) (by
  rintro ss own0 post ⟨a, ns, rfl, hs, hns, rfl⟩ cdv A outer s H E B g
  refine sds_cons (sd_setG 1 g.nd (R := fun t o => ∃ (d q : Addr) (cells : List Int), cells ≠ [] ∧ t = .raw (.ref d) ∧ o = drw d q cells 0 ++ own0) (eg_callW (fn_law_start T) g (by decide) (ea_cons (ev_v 0) ea_nil) ⟨a, ns, rfl, hs, rfl⟩ ?_ ?_) ?_)
  · rintro t o ⟨d, n, cells, hc, e⟩
    cases e
    exact ⟨d, n, cells, hc, rfl, rfl⟩
  · rintro C o ⟨d, n, cells, hc, e⟩
    cases e
  rintro t o ⟨d, q, cells, hc, rfl, rfl⟩
  refine sds_cons (sd_set 2 g.nd (ES.is (y := li [2, 1, 1]) (ed_lst (ds := [.int 2, .int 1, .int 1]) (ea_cons ed_int (ea_cons ed_int (ea_cons ed_int ea_nil)))) rfl) ?_)
  refine sds_cons (sd_ifF (ET.is (EW.et (ew_or (et_not (et_val (es_call (fn_law_first T) g (by decide) (ea_cons (ed_v 2) ea_nil) ⟨rfl, rfl, rfl⟩))) fun _ => ew_or1 (et_not (et_val (es_call (fn_law_second T) g (by decide) (ea_cons (ed_v 2) ea_nil) ⟨rfl, rfl, rfl⟩))))) rfl) ?_)
  refine sds_cons (sd_setG 3 g.nd (R := fun s o => ∃ x dx py pl, s = .raw (.ref x) ∧ o = cal c x dx py pl [2, 1, 1] [] ++ (drw d q cells 0 ++ own0)) (eg_make (fn_cal_init T) g (by decide) (ea_cons (ed_v 2) ea_nil) (fun x dx => ⟨x, dx, [2, 1, 1], rfl, rfl, y211, rfl⟩) ?_ ?_) ?_)
  · rintro x dx s o ⟨py, pl, e⟩
    cases e
    exact ⟨rfl, x, dx, py, pl, rfl, rfl⟩
  · rintro x dx C o ⟨py, pl, e⟩
    cases e
  rintro s o ⟨x, dx, py, pl, rfl, rfl⟩
  refine sds_cons (sd_ifG (R := fun b o => b = false ∧ o = cal c x dx py pl [2, 1, 1] [0] ++ (drw d q cells 0 ++ own0)) (EWG.et (ewg_or (P := fun o => o = cal c x dx py pl [2, 1, 1] [0] ++ (drw d q cells 0 ++ own0)) (etg_cmp (P := fun s o => s = .d (.int 1) ∧ o = cal c x dx py pl [2, 1, 1] [0] ++ (drw d q cells 0 ++ own0)) (eg_meth (oa := []) (o1 := cal c x dx py pl [2, 1, 1] []) (ob := drw d q cells 0 ++ own0) (fn_cal_put T) T.o_Calendar.cl g (by decide) (x := x) (dx := dx) (fs := [("year", .ref py), ("line", .ref pl)]) (ev_v 3) (by simp) rfl (ea_cons ed_int ea_nil) ⟨x, dx, py, pl, [2, 1, 1], [], .int 0, rfl, rfl, by decide, rfl⟩ ?_ ?_) ?_) ?_)) ?_ ?_)
  · rintro s o h
    rcases h with ⟨h1, h2⟩ | ⟨n, en, h0, h1, h2⟩
    · cases h2
    · cases en
      rcases h2 with ⟨_, h2⟩ | ⟨h3, h2⟩
      · cases h2
      · cases h2
        exact ⟨rfl, rfl⟩
  · rintro C o h
    rcases h with ⟨h1, h2⟩ | ⟨n, en, h0, h1, h2⟩
    · exact absurd h1 (by decide)
    · rcases h2 with ⟨h3, h2⟩ | ⟨h3, h2⟩
      · exact absurd h3 (by decide)
      · cases h2
  · rintro s o ⟨rfl, rfl⟩
    exact ⟨_, _, ed_int, c_neI, rfl, rfl⟩
  · rintro o rfl
    refine ewg_or1 (ET.toETG (b := false) (ET.is (et_cmp (c_ne g .d .d (sh_fr _) (sh_fr _)) (EG.toES (eg_meth0 (oa := []) (o1 := cal c x dx py pl [2, 1, 1] [0]) (ob := drw d q cells 0 ++ own0) (fn_cal_next_same T) T.o_Calendar.cl g (by decide) (x := x) (dx := dx) (fs := [("year", .ref py), ("line", .ref pl)]) (ev_v 3) (by simp) rfl ⟨x, dx, py, pl, [2, 1, 1], [0], rfl, rfl, y211, by decide, by decide, rfl⟩ (fun s o h => by cases h; exact ⟨rfl, rfl⟩) (fun C o h => nomatch h))) (ES.is (ed_tup (ds := [.int 1, .int 2]) (ea_cons ed_int (ea_cons ed_int ea_nil))) (fr_mk (by decide) (by decide)))) ?_) ⟨rfl, rfl⟩)
    rw [eqv_fr, e_nx]
    simp
  · rintro o ⟨h, _⟩
    cases h
  rintro o ⟨_, rfl⟩
  refine sds_nil ?_
  have s1 : Shr (((1 : Int) : Rat) / (2 : Int)) := ⟨by decide +kernel, by decide +kernel⟩
  have s2 : Shr (((2 : Int) : Rat) / (3 : Int)) := ⟨by decide +kernel, by decide +kernel⟩
  have s3 : Shr (((2047 : Int) : Rat) / (2048 : Int)) := ⟨by decide +kernel, by decide +kernel⟩
  have s4 : Shr (((4095 : Int) : Rat) / (4096 : Int)) := ⟨by decide +kernel, by decide +kernel⟩
  have q1 : Sq 100 (((1 : Int) : Rat) / (2 : Int)) := ⟨by decide +kernel, by decide +kernel⟩
  have q2 : Sq 100 (((2 : Int) : Rat) / (3 : Int)) := ⟨by decide +kernel, by decide +kernel⟩
  have q3 : Sq 100 (((2047 : Int) : Rat) / (2048 : Int)) := ⟨by decide +kernel, by decide +kernel⟩
  have q4 : Sq 100 (((4095 : Int) : Rat) / (4096 : Int)) := ⟨by decide +kernel, by decide +kernel⟩
  refine sds_cons (sd_ifF (ET.is (EW.et (ew_or (et_cmp c_neI (es_call (fn_needed T) g (by decide) (ea_cons (ES.is (y := li [1, 1]) (ed_lst (ds := [.int 1, .int 1]) (ea_cons ed_int (ea_cons ed_int ea_nil))) rfl) (ea_cons (ES.is (ed_tup (ds := [.int 1, .int 2]) (ea_cons ed_int (ea_cons ed_int ea_nil))) (fr_mk (by decide) (by decide))) ea_nil)) ⟨[1, 1], _, rfl, rfl, y11, s1, q1, rfl⟩) ed_int) fun _ =>
    ew_or (et_cmp c_neI (es_call (fn_needed T) g (by decide) (ea_cons (ES.is (y := li [1, 1]) (ed_lst (ds := [.int 1, .int 1]) (ea_cons ed_int (ea_cons ed_int ea_nil))) rfl) (ea_cons (ES.is (ed_tup (ds := [.int 2, .int 3]) (ea_cons ed_int (ea_cons ed_int ea_nil))) (fr_mk (by decide) (by decide))) ea_nil)) ⟨[1, 1], _, rfl, rfl, y11, s2, q2, rfl⟩) ed_int) fun _ =>
    ew_or1 (et_cmp c_neI (ES.is (es_call (fn_needed_for_all T) g (by decide) (ea_cons (ES.is (y := li [1, 1]) (ed_lst (ds := [.int 1, .int 1]) (ea_cons ed_int (ea_cons ed_int ea_nil))) rfl) (ea_cons (ES.is (ed_tup (ds := [.int 2047, .int 2048]) (ea_cons ed_int (ea_cons ed_int ea_nil))) (fr_mk (by decide) (by decide))) ea_nil)) ⟨[1, 1], _, rfl, rfl, y11, s3, q3, rfl⟩) e_a1) ed_int))) (by rw [e_n1, e_n2]; rfl)) ?_)
  refine sds_cons (sd_ifF (ET.is (et_cmp c_notND (ES.is (es_call (fn_needed_for_all T) g (by decide) (ea_cons (ES.is (y := li [1, 1]) (ed_lst (ds := [.int 1, .int 1]) (ea_cons ed_int (ea_cons ed_int ea_nil))) rfl) (ea_cons (ES.is (ed_tup (ds := [.int 4095, .int 4096]) (ea_cons ed_int (ea_cons ed_int ea_nil))) (fr_mk (by decide) (by decide))) ea_nil)) ⟨[1, 1], _, rfl, rfl, y11, s4, q4, rfl⟩) e_a2) ed_non) rfl) ?_)
  refine sds_cons (sd_setG 4 g.nd (R := fun s o => ∃ (n : Nat) (cells : List Int) (cnt : Int), (1 ≤ n ∧ n ≤ 8) ∧ cells ≠ [] ∧ s = .d (.int (n : Int)) ∧ o = cal c x dx py pl [2, 1, 1] [0] ++ (drw d q cells cnt ++ own0)) (EG.imp (eg_add (P := fun j o => ∃ (r : Nat) (cells : List Int) (cnt : Int), j = (r : Int) ∧ r < 8 ∧ cells ≠ [] ∧ o = cal c x dx py pl [2, 1, 1] [0] ++ (drw d q cells cnt ++ own0)) ed_int (EG.imp (eg_draw (oa := cal c x dx py pl [2, 1, 1] [0]) (ob := own0) (fn_law_draw T) g (by decide) hc (ea_cons (ev_v 1) (ea_cons ed_int ea_nil)) (by decide) (by decide)) ?_)) ?_) ?_)
  · rintro t o ⟨r, cells', cnt', h1, h2, rfl, rfl⟩
    exact ⟨_, rfl, r, cells', cnt', rfl, by omega, h2, by rw [List.append_assoc]⟩
  · rintro t o ⟨j, rfl, r, cells', cnt', rfl, h1, h2, rfl⟩
    exact ⟨r + 1, cells', cnt', by omega, h2, by rw [show (1 : Int) + (r : Int) = ((r + 1 : Nat) : Int) by omega], rfl⟩
  rintro t o ⟨n, cells2, cnt2, hn, hc2, rfl, rfl⟩
  refine sds_cons (sd_setG 5 g.nd (R := fun s o => ∃ (v : Nat) (cells : List Int) (cnt : Int), (1 ≤ v ∧ v ≤ 20) ∧ cells ≠ [] ∧ s = .d (li (List.replicate n (v : Int))) ∧ o = cal c x dx py pl [2, 1, 1] [0] ++ (drw d q cells cnt ++ own0)) (EG.frz (P := fun ds o => ∃ (v : Nat) (cells : List Int) (cnt : Int), ds = (List.replicate n (v : Int)).map PyData.int ∧ (1 ≤ v ∧ v ≤ 20) ∧ cells ≠ [] ∧ o = cal c x dx py pl [2, 1, 1] [0] ++ (drw d q cells cnt ++ own0)) (EG.imp (eg_repL (i := (n : Int)) (P := fun ds o => ∃ (v : Nat) (cells : List Int) (cnt : Int), ds = [.int (v : Int)] ∧ (1 ≤ v ∧ v ≤ 20) ∧ cells ≠ [] ∧ o = cal c x dx py pl [2, 1, 1] [0] ++ (drw d q cells cnt ++ own0)) (eg_lst (eag_cons (P := fun s o => ∃ (v : Nat) (cells : List Int) (cnt : Int), s = .d (.int (v : Int)) ∧ (1 ≤ v ∧ v ≤ 20) ∧ cells ≠ [] ∧ o = cal c x dx py pl [2, 1, 1] [0] ++ (drw d q cells cnt ++ own0)) (EG.imp (eg_add (P := fun j o => ∃ (r : Nat) (cells : List Int) (cnt : Int), j = (r : Int) ∧ r < 20 ∧ cells ≠ [] ∧ o = cal c x dx py pl [2, 1, 1] [0] ++ (drw d q cells cnt ++ own0)) ed_int (EG.imp (eg_draw (oa := cal c x dx py pl [2, 1, 1] [0]) (ob := own0) (fn_law_draw T) g (by decide) hc2 (ea_cons (ev_v 1) (ea_cons ed_int ea_nil)) (by decide) (by decide)) ?_)) ?_) ?_)) (fun o => ed_v 4) (by omega) ?_) ?_) ?_) ?_)
  · rintro t o ⟨r, cells', cnt', h1, h2, rfl, rfl⟩
    exact ⟨_, rfl, r, cells', cnt', rfl, by omega, h2, by rw [List.append_assoc]⟩
  · rintro t o ⟨j, rfl, r, cells', cnt', rfl, h1, h2, rfl⟩
    exact ⟨r + 1, cells', cnt', by rw [show (1 : Int) + (r : Int) = ((r + 1 : Nat) : Int) by omega], by omega, h2, rfl⟩
  · rintro s o ⟨v, cells', cnt', rfl, hv, h2, rfl⟩ _
    exact EA.toEAG ea_nil ⟨[.int (v : Int)], rfl, by simp, v, cells', cnt', rfl, hv, h2, rfl⟩
  · rintro ds o ⟨v, cells', cnt', rfl, hv, h2, rfl⟩
    simp
  · rintro s o ⟨p, ds, o', rfl, rfl, v, cells', cnt', rfl, hv, h2, rfl⟩
    refine ⟨p, _, _, rfl, rfl, v, cells', cnt', ?_, hv, h2, rfl⟩
    rw [Int.toNat_natCast]
    simp [List.flatten_replicate_singleton]
  · rintro ds o ⟨v, cells', cnt', rfl, hv, h2, rfl⟩
    exact ⟨v, cells', cnt', hv, h2, rfl, rfl⟩
  rintro t o ⟨v, cells3, cnt3, hv, hc3, rfl, rfl⟩
  have hYe : Yr (List.replicate n (v : Int)) := y_rep hn.1 hn.2 (by omega)
  have e1 := e_evn ⟨n, by omega⟩ ⟨v, by omega⟩ hn.1 hv.1
  have gn : Int.gcd 1 (n : Int) = 1 := by simp
  have e2 : eqdO c (.tuple [.int 1, .int (n : Int)]) = .ret (.d (.int (n : Int))) [] := by
    have hsh : isShr (.tuple [.int 1, .int (n : Int)]) = true := by
      show (decide (0 < (n : Int)) && ((decide ((0 : Int) ≤ 1) && decide ((1 : Int) ≤ (n : Int))) && decide (Int.gcd 1 (n : Int) = 1))) = true
      rw [gn, decide_eq_true (show (0 : Int) < (n : Int) by omega), decide_eq_true (show (1 : Int) ≤ (n : Int) by omega)]
      rfl
    unfold eqdO
    rw [if_pos hsh]
    show (if (1 : Int) = 1 ∧ (n : Int) ≤ 8 then Out.ret (.d (.int (n : Int))) [] else .exc c.NotFound []) = _
    rw [if_pos ⟨rfl, by omega⟩]
  refine sds_one (sd_retD (x := .bool true) (ES.is (ed_and (ed_cmp (c_eq g .d .d (sh_fr _) (sh_fr _)) (es_call (fn_some_same T) g (by decide) (ea_cons (ed_v 5) (ea_cons ed_int ea_nil)) ⟨_, 2, rfl, rfl, hYe, by decide, rfl⟩) (ES.is (ed_tup (ds := [.int 1, .int (n : Int)]) (ea_cons ed_int (ea_cons (ed_v 4) ea_nil))) (fr_mk (by omega) gn))) fun _ =>
    ed_and (ed_cmp c_isB (es_call (fn_is_even T) g (by decide) (ea_cons (ed_v 5) ea_nil) ⟨_, rfl, rfl, hYe, rfl⟩) ed_bl) fun _ =>
    ed_and (ed_cmp c_eqI (es_call (fn_equal_days T) g (by decide) (ea_cons (ed_tup (ds := [.int 1, .int (n : Int)]) (ea_cons ed_int (ea_cons (ed_v 4) ea_nil))) ea_nil) ⟨_, rfl, rfl, by rw [e2]⟩) (ed_v 4)) fun _ =>
    ed_one (ed_cmp (c_eq g .d .d (sh_fr _) (sh_fr _)) (es_call (fn_mean_until_same T) g (by decide) (ea_cons (ES.is (y := li [1]) (ed_lst (ds := [.int 1]) (ea_cons ed_int ea_nil)) rfl) ea_nil) ⟨[1], rfl, rfl, ⟨by decide, by decide, by decide⟩, rfl⟩) (ES.is (ed_tup (ds := [.int 2, .int 1]) (ea_cons ed_int (ea_cons ed_int ea_nil))) (fr_mk (by decide) (by decide))))) ?_) ⟨_, rfl⟩)
  rw [eqv_fr, eqv_fr, e1, e_dst hn.1, e_mus]
  simp)
end
end Pg

namespace Pg
open PySem PySem.Spec PyProof.Rows L2 Sd
section
variable {P : Program} {w : World} {K : PySem.W.Frag} {mg : Str → Option Value} {base : Heap} {c : Cl}
theorem int_mk {h : Heap} {z : Str} {i : Int} {t : Tok} (X : K.In h) (G : h.Ns mainGlobals mg) (a : PySem.W.nsIn K mainGlobals z = some (some (.int i t))) : ∃ t, mg z = some (.int i t) := ⟨t, PySem.W.mg_of X G a⟩
theorem law_end {fa cDayError cBadYear cBadDay cBadNumber cBadShare cBadText cNotFound cCalendar : Addr} (T : Tx K mg ⟨cDayError, cBadYear, cBadDay, cBadNumber, cBadShare, cBadText, cNotFound, cCalendar⟩) (hmg : mg "law" = some (.ref fa)) : ∃ fd : FuncData, (∀ (s : Shared) (u : Value), BindsTo s fd ⟨[u], []⟩ [("script", u)]) ∧ ∀ base : Heap, K.In base → base.Ns mainGlobals mg → FnOk P w K mg base (L2.CX P w) 6 fa fd ["script"] (spG (pre_law K)) := by
  obtain ⟨f, fd, F, hm, hb⟩ := T.d_law.ex
  rw [hmg] at hm
  cases hm
  exact ⟨fd, fun s u => .of_eq (hb [u] rfl), fun base _ _ => ok_law T F⟩
end
end Pg

open PySem PySem.W PyProof.Rows
set_option maxRecDepth 100000 in
set_option maxHeartbeats 0 in
theorem PySem.Challenge.cw_samedays_k13_examples_holds : PySem.Challenge.rw_samedays_k13_examples.Holds := by
  w_on; o_law; k_head; (case hw => w_witness2)
  k_fill
  refine L2.walk_of (l := PySem.Challenge.rw_samedays_k13_examples) (n := 63) (k := 6) (x := "script") (CX := fun w => L2.CX PySem.Challenge.rw_samedays_k13_examples.prog w) (sp := fun w => Sd.spG (Sd.pre_law _)) rfl (by decide) rfl ⟨rfl, by decide, by decide⟩ (fun w h Y => PySem.W.kIn_of Y) ?F (fun _ H a ns hl hO hS => Sd.law_in hl hO hS) (fun _ _ _ _ _ h => Sd.cx_no h)
  case F =>
    intro w mg fa h KX G hmg
    refine' Pg.law_end (cBadText := 0) ⟨Sd.df_mk2 KX G Pg.pa_wall ?a0 ?l0 ?c0 ?k0, Sd.err_mk KX G ?a1 ?x1 ?k1 ?b1 ?t1, Sd.err_mk KX G ?a2 ?x2 ?k2 ?b2 ?t2, Sd.err_mk KX G ?a3 ?x3 ?k3 ?b3 ?t3, Sd.err_mk KX G ?a4 ?x4 ?k4 ?b4 ?t4, Sd.err_mk KX G ?a5 ?x5 ?k5 ?b5 ?t5, Sd.err_mk KX G ?a6 ?x6 ?k6 ?b6 ?t6, Pg.int_mk KX G ?a7, Sd.df_mk2 KX G Pg.pa_is_int ?a8 ?l8 ?c8 ?k8, Sd.df_mk2 KX G Pg.pa_common ?a9 ?l9 ?c9 ?k9, Sd.df_mk2 KX G Pg.pa_is_year ?a10 ?l10 ?c10 ?k10, Sd.df_mk2 KX G Pg.pa_is_share ?a11 ?l11 ?c11 ?k11, Sd.df_mk2 KX G Pg.pa_check_year ?a12 ?l12 ?c12 ?k12, Sd.df_mk2 KX G Pg.pa_check_day ?a13 ?l13 ?c13 ?k13, Sd.df_mk2 KX G Pg.pa_check_many ?a14 ?l14 ?c14 ?k14, Sd.df_mk2 KX G Pg.pa_check_share ?a15 ?l15 ?c15 ?k15, Sd.df_mk2 KX G Pg.pa_lowest ?a16 ?l16 ?c16 ?k16, Sd.df_mk2 KX G Pg.pa_plus ?a17 ?l17 ?c17 ?k17, Sd.df_mk2 KX G Pg.pa_minus ?a18 ?l18 ?c18 ?k18, Sd.df_mk2 KX G Pg.pa_at_most ?a19 ?l19 ?c19 ?k19, Sd.df_mk2 KX G Pg.pa_power ?a20 ?l20 ?c20 ?k20, Sd.df_mk2 KX G Pg.pa_choose ?a21 ?l21 ?c21 ?k21, Sd.df_mk2 KX G Pg.pa_ordered ?a22 ?l22 ?c22 ?k22, Sd.df_mk2 KX G Pg.pa_product_sums ?a23 ?l23 ?c23 ?k23, Sd.df_mk2 KX G Pg.pa_unlike_of ?a24 ?l24 ?c24 ?k24, Sd.df_mk2 KX G Pg.pa_all_unlike ?a25 ?l25 ?c25 ?k25, Sd.df_mk2 KX G Pg.pa_some_same ?a26 ?l26 ?c26 ?k26, Sd.df_mk2 KX G Pg.pa_mean_until_same ?a27 ?l27 ?c27 ?k27, Sd.df_mk2 KX G Pg.pa_needed ?a28 ?l28 ?c28 ?k28, Sd.df_mk2 KX G Pg.pa_pair_ways ?a29 ?l29 ?c29 ?k29, Sd.df_mk2 KX G Pg.pa_pair_chances ?a30 ?l30 ?c30 ?k30, Sd.df_mk2 KX G Pg.pa_used_ways ?a31 ?l31 ?c31 ?k31, Sd.df_mk2 KX G Pg.pa_all_used_of ?a32 ?l32 ?c32 ?k32, Sd.df_mk2 KX G Pg.pa_mean_until_all ?a33 ?l33 ?c33 ?k33, Sd.df_mk2 KX G Pg.pa_needed_for_all ?a34 ?l34 ?c34 ?k34, Sd.df_mk2 KX G Pg.pa_check_counts ?a35 ?l35 ?c35 ?k35, Sd.df_mk2 KX G Pg.pa_placed ?a36 ?l36 ?c36 ?k36, Sd.df_mk2 KX G Pg.pa_more_same ?a37 ?l37 ?c37 ?k37, Sd.df_mk2 KX G Pg.pa_is_even ?a38 ?l38 ?c38 ?k38, Sd.df_mk2 KX G Pg.pa_root_of ?a39 ?l39 ?c39 ?k39, Sd.df_mk2 KX G Pg.pa_two_days ?a40 ?l40 ?c40 ?k40, Sd.df_mk2 KX G Pg.pa_equal_days ?a41 ?l41 ?c41 ?k41, Sd.df_mk2 KX G Pg.pa_checked ?a42 ?l42 ?c42 ?k42, Sd.df_mk2 KX G Pg.pa_put_together ?a43 ?l43 ?c43 ?k43, Sd.cls_mk KX G ?aCC ?yp ?yh ?yo ?ys ?ym ?yk, ?yY, ?yL, Sd.dfm_mk (fun _ _ _ _ _ _ us hl => match us, hl with | [_, _], _ => rfl) ?a44 ?i44 ?l44 ?c44 ?k44, Sd.dfm_mk (fun _ _ _ _ _ _ us hl => match us, hl with | [_, _], _ => rfl) ?a45 ?i45 ?l45 ?c45 ?k45, Sd.dfm_mk (fun _ _ _ _ _ _ us hl => match us, hl with | [_], _ => rfl) ?a46 ?i46 ?l46 ?c46 ?k46, Sd.dfm_mk (fun _ _ _ _ _ _ us hl => match us, hl with | [_], _ => rfl) ?a47 ?i47 ?l47 ?c47 ?k47, Sd.dfm_mk (fun _ _ _ _ _ _ us hl => match us, hl with | [_], _ => rfl) ?a48 ?i48 ?l48 ?c48 ?k48, Sd.dfm_mk (fun _ _ _ _ _ _ us hl => match us, hl with | [_], _ => rfl) ?a49 ?i49 ?l49 ?c49 ?k49, Sd.dfm_mk (fun _ _ _ _ _ _ us hl => match us, hl with | [_], _ => rfl) ?a50 ?i50 ?l50 ?c50 ?k50, Sd.dfm_mk (fun _ _ _ _ _ _ us hl => match us, hl with | [_], _ => rfl) ?a51 ?i51 ?l51 ?c51 ?k51, Sd.df_mk2 KX G Pg.pa_format_year ?a52 ?l52 ?c52 ?k52, Sd.df_mk2 KX G Pg.pa_law_start ?a53 ?l53 ?c53 ?k53, Sd.df_mk2 KX G Pg.pa_law_draw ?a54 ?l54 ?c54 ?k54, Sd.df_mk2 KX G Pg.pa_law_first ?a55 ?l55 ?c55 ?k55, Sd.df_mk2 KX G Pg.pa_law_second ?a56 ?l56 ?c56 ?k56, Sd.df_mk2 KX G Pg.pa_law ?a57 ?l57 ?c57 ?k57, PySem.W.mg_none_of KX G ?z58, PySem.W.mg_none_of KX G ?z59, PySem.W.mg_none_of KX G ?z60, PySem.W.mg_none_of KX G ?z61, PySem.W.mg_none_of KX G ?z62, PySem.W.mg_none_of KX G ?z63, PySem.W.mg_none_of KX G ?z64, PySem.W.mg_none_of KX G ?z65, PySem.W.mg_none_of KX G ?z66, PySem.W.mg_none_of KX G ?z67, PySem.W.mg_none_of KX G ?z68, PySem.W.mg_none_of KX G ?z69, PySem.W.mg_none_of KX G ?z70, PySem.W.mg_none_of KX G ?z71, PySem.W.mg_none_of KX G ?z72⟩ hmg
    (case a0 => k_is)
    (case a1 => k_is)
    (case a2 => k_is)
    (case a3 => k_is)
    (case a4 => k_is)
    (case a5 => k_is)
    (case a6 => k_is)
    (case a7 => k_is)
    (case a8 => k_is)
    (case a9 => k_is)
    (case a10 => k_is)
    (case a11 => k_is)
    (case a12 => k_is)
    (case a13 => k_is)
    (case a14 => k_is)
    (case a15 => k_is)
    (case a16 => k_is)
    (case a17 => k_is)
    (case a18 => k_is)
    (case a19 => k_is)
    (case a20 => k_is)
    (case a21 => k_is)
    (case a22 => k_is)
    (case a23 => k_is)
    (case a24 => k_is)
    (case a25 => k_is)
    (case a26 => k_is)
    (case a27 => k_is)
    (case a28 => k_is)
    (case a29 => k_is)
    (case a30 => k_is)
    (case a31 => k_is)
    (case a32 => k_is)
    (case a33 => k_is)
    (case a34 => k_is)
    (case a35 => k_is)
    (case a36 => k_is)
    (case a37 => k_is)
    (case a38 => k_is)
    (case a39 => k_is)
    (case a40 => k_is)
    (case a41 => k_is)
    (case a42 => k_is)
    (case a43 => k_is)
    (case aCC => k_is)
    (case a44 => k_is)
    (case a45 => k_is)
    (case a46 => k_is)
    (case a47 => k_is)
    (case a48 => k_is)
    (case a49 => k_is)
    (case a50 => k_is)
    (case a51 => k_is)
    (case a52 => k_is)
    (case a53 => k_is)
    (case a54 => k_is)
    (case a55 => k_is)
    (case a56 => k_is)
    (case a57 => k_is)
    (case l0 => k_is)
    (case c0 => k_is)
    (case k0 => k_is)
    (case x1 => k_exc)
    (case k1 => k_is)
    (case b1 => k_is)
    (case t1 => k_is)
    (case x2 => k_exc)
    (case k2 => k_is)
    (case b2 => k_is)
    (case t2 => k_is)
    (case x3 => k_exc)
    (case k3 => k_is)
    (case b3 => k_is)
    (case t3 => k_is)
    (case x4 => k_exc)
    (case k4 => k_is)
    (case b4 => k_is)
    (case t4 => k_is)
    (case x5 => k_exc)
    (case k5 => k_is)
    (case b5 => k_is)
    (case t5 => k_is)
    (case x6 => k_exc)
    (case k6 => k_is)
    (case b6 => k_is)
    (case t6 => k_is)
    (case l8 => k_is)
    (case c8 => k_is)
    (case k8 => k_is)
    (case l9 => k_is)
    (case c9 => k_is)
    (case k9 => k_is)
    (case l10 => k_is)
    (case c10 => k_is)
    (case k10 => k_is)
    (case l11 => k_is)
    (case c11 => k_is)
    (case k11 => k_is)
    (case l12 => k_is)
    (case c12 => k_is)
    (case k12 => k_is)
    (case l13 => k_is)
    (case c13 => k_is)
    (case k13 => k_is)
    (case l14 => k_is)
    (case c14 => k_is)
    (case k14 => k_is)
    (case l15 => k_is)
    (case c15 => k_is)
    (case k15 => k_is)
    (case l16 => k_is)
    (case c16 => k_is)
    (case k16 => k_is)
    (case l17 => k_is)
    (case c17 => k_is)
    (case k17 => k_is)
    (case l18 => k_is)
    (case c18 => k_is)
    (case k18 => k_is)
    (case l19 => k_is)
    (case c19 => k_is)
    (case k19 => k_is)
    (case l20 => k_is)
    (case c20 => k_is)
    (case k20 => k_is)
    (case l21 => k_is)
    (case c21 => k_is)
    (case k21 => k_is)
    (case l22 => k_is)
    (case c22 => k_is)
    (case k22 => k_is)
    (case l23 => k_is)
    (case c23 => k_is)
    (case k23 => k_is)
    (case l24 => k_is)
    (case c24 => k_is)
    (case k24 => k_is)
    (case l25 => k_is)
    (case c25 => k_is)
    (case k25 => k_is)
    (case l26 => k_is)
    (case c26 => k_is)
    (case k26 => k_is)
    (case l27 => k_is)
    (case c27 => k_is)
    (case k27 => k_is)
    (case l28 => k_is)
    (case c28 => k_is)
    (case k28 => k_is)
    (case l29 => k_is)
    (case c29 => k_is)
    (case k29 => k_is)
    (case l30 => k_is)
    (case c30 => k_is)
    (case k30 => k_is)
    (case l31 => k_is)
    (case c31 => k_is)
    (case k31 => k_is)
    (case l32 => k_is)
    (case c32 => k_is)
    (case k32 => k_is)
    (case l33 => k_is)
    (case c33 => k_is)
    (case k33 => k_is)
    (case l34 => k_is)
    (case c34 => k_is)
    (case k34 => k_is)
    (case l35 => k_is)
    (case c35 => k_is)
    (case k35 => k_is)
    (case l36 => k_is)
    (case c36 => k_is)
    (case k36 => k_is)
    (case l37 => k_is)
    (case c37 => k_is)
    (case k37 => k_is)
    (case l38 => k_is)
    (case c38 => k_is)
    (case k38 => k_is)
    (case l39 => k_is)
    (case c39 => k_is)
    (case k39 => k_is)
    (case l40 => k_is)
    (case c40 => k_is)
    (case k40 => k_is)
    (case l41 => k_is)
    (case c41 => k_is)
    (case k41 => k_is)
    (case l42 => k_is)
    (case c42 => k_is)
    (case k42 => k_is)
    (case l43 => k_is)
    (case c43 => k_is)
    (case k43 => k_is)
    (case yp => k_is)
    (case yh => k_is)
    (case yo => k_is)
    (case ys => k_is)
    (case ym => k_is)
    (case yk => k_is)
    (case yY => (unfold L2.NoAttr; k_is))
    (case yL => (unfold L2.NoAttr; k_is))
    (case i44 => k_is)
    (case l44 => k_is)
    (case c44 => k_is)
    (case k44 => k_is)
    (case i45 => k_is)
    (case l45 => k_is)
    (case c45 => k_is)
    (case k45 => k_is)
    (case i46 => k_is)
    (case l46 => k_is)
    (case c46 => k_is)
    (case k46 => k_is)
    (case i47 => k_is)
    (case l47 => k_is)
    (case c47 => k_is)
    (case k47 => k_is)
    (case i48 => k_is)
    (case l48 => k_is)
    (case c48 => k_is)
    (case k48 => k_is)
    (case i49 => k_is)
    (case l49 => k_is)
    (case c49 => k_is)
    (case k49 => k_is)
    (case i50 => k_is)
    (case l50 => k_is)
    (case c50 => k_is)
    (case k50 => k_is)
    (case i51 => k_is)
    (case l51 => k_is)
    (case c51 => k_is)
    (case k51 => k_is)
    (case l52 => k_is)
    (case c52 => k_is)
    (case k52 => k_is)
    (case l53 => k_is)
    (case c53 => k_is)
    (case k53 => k_is)
    (case l54 => k_is)
    (case c54 => k_is)
    (case k54 => k_is)
    (case l55 => k_is)
    (case c55 => k_is)
    (case k55 => k_is)
    (case l56 => k_is)
    (case c56 => k_is)
    (case k56 => k_is)
    (case l57 => k_is)
    (case c57 => k_is)
    (case k57 => k_is)
    (case z58 => k_is)
    (case z59 => k_is)
    (case z60 => k_is)
    (case z61 => k_is)
    (case z62 => k_is)
    (case z63 => k_is)
    (case z64 => k_is)
    (case z65 => k_is)
    (case z66 => k_is)
    (case z67 => k_is)
    (case z68 => k_is)
    (case z69 => k_is)
    (case z70 => k_is)
    (case z71 => k_is)
    (case z72 => k_is)
