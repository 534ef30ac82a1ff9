import PyProof.Rows.All
import Wide.All
import OpenK.AllK
import Wide.FinOn
import HandS.Base
import HandS.Call
import HandS.List
import HandS.Comp
import HandS.Ends
import HandS.Dict
import HandS.Iter
import HandS.Text
import HandS.Exc
import HandS.TryOnly
import HandS.ExcOwn
import HandS.ExcValue
import HandS.IsInst
import HandS.Wide
import HandS.Words
import HandS.WordsList
import HandS.WordsDict
import HandS.WordsExc
import HandS.Style
import HandS.Deep
import HandS.ExcIs
import KE.DataFind
import HandS.Strs
import HandS.More
import HandS.SortRule
import HandS.Conv
import HandS.DictTup
import KE.KDictDisplayH
import HandS.TupSets
import HandS.SortOrd
import HandS.SetFor
import HandS.TupAny
import HandS.CallSlots
import HandS.SlotsOwn
import PySem.Challenge.RW_samedays_k15_whole_first
set_option Elab.async false
set_option linter.all false
set_option maxRecDepth 100000
set_option maxHeartbeats 16000000
/-! data over the layer: what a value stands for, what is owned, judgements over data -/
namespace Sd
open PySem PySem.Spec PyProof.Rows L2

mutual
inductive Rep (H : Hp) : V → PyData → Prop
  | non : Rep H .non .none
  | bl (b : Bool) : Rep H (.bl b) (.bool b)
  | int (i : Int) : Rep H (.int i) (.int i)
  | str (x : Str) : Rep H (.str x) (.str x)
  | lst {a : Addr} {xs : List V} {ds : List PyData} : H a = some (.lst xs) → Reps H xs ds → Rep H (.ref a) (.list ds)
  | tup {a : Addr} {xs : List V} {ds : List PyData} : H a = some (.tup xs) → Reps H xs ds → Rep H (.ref a) (.tuple ds)
inductive Reps (H : Hp) : List V → List PyData → Prop
  | nil : Reps H [] []
  | cons {v : V} {vs : List V} {d : PyData} {ds : List PyData} : Rep H v d → Reps H vs ds → Reps H (v :: vs) (d :: ds)
end
section
variable {H H' : Hp} {K : PySem.W.Frag}
theorem Rep.mono (e : Same H H') {v : V} {d : PyData} (h : Rep H v d) : Rep H' v d :=
  Rep.rec (motive_1 := fun v d _ => Rep H' v d) (motive_2 := fun vs ds _ => Reps H' vs ds) .non .bl .int .str (fun h _ r => .lst (e _ _ h) r) (fun h _ r => .tup (e _ _ h) r) .nil (fun _ _ a b => .cons a b) h
theorem Reps.mono (e : Same H H') {v : List V} {d : List PyData} (h : Reps H v d) : Reps H' v d :=
  Reps.rec (motive_1 := fun v d _ => Rep H' v d) (motive_2 := fun vs ds _ => Reps H' vs ds) .non .bl .int .str (fun h _ r => .lst (e _ _ h) r) (fun h _ r => .tup (e _ _ h) r) .nil (fun _ _ a b => .cons a b) h
theorem Rep.dp {v : V} {d : PyData} (h : Rep H v d) : Dp K H v d :=
  Rep.rec (motive_1 := fun v d _ => Dp K H v d) (motive_2 := fun vs ds _ => DpAll K H vs ds) .non .bl .int .str (fun h _ r => .lst (SqL.of h) r) (fun h _ r => .tup (SqT.of h) r) .nil (fun _ _ a b => .cons a b) h
theorem Reps.length : ∀ {vs : List V} {ds : List PyData}, Reps H vs ds → vs.length = ds.length
  | _, _, .nil => rfl
  | _, _, .cons _ r => congrArg (· + 1) r.length
theorem Reps.get : ∀ {vs : List V} {ds : List PyData} {i : Nat} {d : PyData}, Reps H vs ds → ds[i]? = some d → ∃ v, vs[i]? = some v ∧ Rep H v d
  | _, _, _, _, .nil, e => by simp at e
  | _, _, 0, _, .cons a _, e => by simp at e; subst e; exact ⟨_, rfl, a⟩
  | _, _, i + 1, d, .cons _ r, e => by
    obtain ⟨v, h1, h2⟩ := Reps.get (i := i) (d := d) r (by simpa using e)
    exact ⟨v, by simpa using h1, h2⟩
theorem Reps.append : ∀ {xs ys : List V} {us ws : List PyData}, Reps H xs us → Reps H ys ws → Reps H (xs ++ ys) (us ++ ws)
  | _, _, _, _, .nil, s => s
  | _, _, _, _, .cons r t, s => .cons r (Reps.append t s)
theorem Reps.take : ∀ {xs : List V} {us : List PyData} (n : Nat), Reps H xs us → Reps H (xs.take n) (us.take n)
  | _, _, 0, _ => .nil
  | _, _, _ + 1, .nil => .nil
  | _, _, n + 1, .cons r t => .cons r (Reps.take n t)
theorem Reps.drop : ∀ {xs : List V} {us : List PyData} (n : Nat), Reps H xs us → Reps H (xs.drop n) (us.drop n)
  | _, _, 0, r => r
  | _, _, _ + 1, .nil => .nil
  | _, _, n + 1, .cons _ t => Reps.drop n t
theorem Reps.set {x : V} {u : PyData} (r : Rep H x u) : ∀ {xs : List V} {us : List PyData} (i : Nat), Reps H xs us → Reps H (xs.set i x) (us.set i u)
  | _, _, _, .nil => .nil
  | _, _, 0, .cons _ t => .cons r t
  | _, _, i + 1, .cons q t => .cons q (Reps.set r i t)
theorem Reps.reverse : ∀ {xs : List V} {us : List PyData}, Reps H xs us → Reps H xs.reverse us.reverse
  | _, _, .nil => .nil
  | _, _, .cons r t => by
    rw [List.reverse_cons, List.reverse_cons]
    exact t.reverse.append (.cons r .nil)
theorem Reps.ints : ∀ (ns : List Int), Reps H (ns.map V.int) (ns.map PyData.int)
  | [] => .nil
  | n :: r => .cons (.int n) (Reps.ints r)
theorem Reps.of_ints : ∀ {ns : List Int} {vs : List V}, Reps H vs (ns.map PyData.int) → vs = ns.map V.int
  | [], _, .nil => rfl
  | n :: r, _, .cons h t => by
    cases h
    rw [Reps.of_ints t]
    rfl
theorem Reps.of_bls : ∀ {ns : List Bool} {vs : List V}, Reps H vs (ns.map PyData.bool) → vs = ns.map V.bl
  | [], _, .nil => rfl
  | n :: r, _, .cons h t => by
    cases h
    rw [Reps.of_bls t]
    rfl
end

/-! ### weakest readings -/
section
variable {X : Cx}
structure wE (X : Cx) (e : Expr) (σ : L2.St) (H : Hp) (Q : VK) : Prop where
  run : ∀ (pins : List (Addr × Obj)) (s : Shared), Inv X pins σ H s → wpAny (model X.prog X.w) X.A (eval e X.env) (EP X pins σ Q) X.xe s
structure wT (X : Cx) (e : Expr) (σ : L2.St) (H : Hp) (Q : Bool → Hp → Prop) : Prop where
  run : ∀ (pins : List (Addr × Obj)) (s : Shared), Inv X pins σ H s → wpAny (model X.prog X.w) X.A (isTrue e X.env (eval e X.env)) (TP X pins σ Q) X.xe s
structure wW (X : Cx) (e : Expr) (σ : L2.St) (H : Hp) (Q : Bool → Hp → Prop) : Prop where
  run : ∀ (whole : Sem Value) (pins : List (Addr × Obj)) (s : Shared), Inv X pins σ H s → wpAny (model X.prog X.w) X.A (isTrue e X.env whole) (TP X pins σ Q) X.xe s
structure wA (X : Cx) (es : List Expr) (σ : L2.St) (H : Hp) (Q : List V → Hp → Prop) : Prop where
  run : ∀ (pos : Pos) (pins : List (Addr × Obj)) (s : Shared), Inv X pins σ H s → wpAny (model X.prog X.w) X.A (spliced (backTo pos (starEach es X.env))) (AP X pins σ Q) X.xe s
structure wS (X : Cx) (st : Stmt) (D : Ends) (σ : L2.St) (H : Hp) : Prop where
  run : ∀ (pins : List (Addr × Obj)) (s : Shared), Inv X pins σ H s → wpAny (model X.prog X.w) X.A (exec st X.env) (SP X pins D) X.xe s
structure wSs (X : Cx) (st : List Stmt) (D : Ends) (σ : L2.St) (H : Hp) : Prop where
  run : ∀ (pins : List (Addr × Obj)) (s : Shared), Inv X pins σ H s → wpAny (model X.prog X.w) X.A (execs st X.env) (SP X pins D) X.xe s
theorem peW {e : Expr} : PE X e (wE X e) := ⟨fun pins s _ _ _ I h => h.run pins s I⟩
theorem ptW {e : Expr} : PT X e (wT X e) := ⟨fun pins s _ _ _ I h => h.run pins s I⟩
theorem pwW {e : Expr} : PW X e (wW X e) := ⟨fun wh pins s _ _ _ I h => h.run wh pins s I⟩
theorem paW {es : List Expr} : PA X es (wA X es) := ⟨fun pos pins s _ _ _ I h => h.run pos pins s I⟩
theorem psW {st : Stmt} : PS X st (wS X st) := ⟨fun pins s _ _ _ I h => h.run pins s I⟩
theorem pssW {st : List Stmt} : PSs X st (wSs X st) := ⟨fun pins s _ _ _ I h => h.run pins s I⟩
theorem wE.of {e : Expr} {t : TE} (h : PE X e t) {σ : L2.St} {H : Hp} {Q : VK} (q : t σ H Q) : wE X e σ H Q := ⟨fun pins s I => h.run pins s σ H Q I q⟩
theorem wT.of {e : Expr} {t : TT} (h : PT X e t) {σ : L2.St} {H : Hp} {Q : Bool → Hp → Prop} (q : t σ H Q) : wT X e σ H Q := ⟨fun pins s I => h.run pins s σ H Q I q⟩
theorem wW.of {e : Expr} {t : TT} (h : PW X e t) {σ : L2.St} {H : Hp} {Q : Bool → Hp → Prop} (q : t σ H Q) : wW X e σ H Q := ⟨fun wh pins s I => h.run wh pins s σ H Q I q⟩
theorem wA.of {es : List Expr} {t : TA} (h : PA X es t) {σ : L2.St} {H : Hp} {Q : List V → Hp → Prop} (q : t σ H Q) : wA X es σ H Q := ⟨fun pos pins s I => h.run pos pins s σ H Q I q⟩
theorem wS.of {st : Stmt} {t : TS} (h : PS X st t) {σ : L2.St} {H : Hp} {D : Ends} (q : t D σ H) : wS X st D σ H := ⟨fun pins s I => h.run pins s σ H D I q⟩
theorem wSs.of {st : List Stmt} {t : TS} (h : PSs X st t) {σ : L2.St} {H : Hp} {D : Ends} (q : t D σ H) : wSs X st D σ H := ⟨fun pins s I => h.run pins s σ H D I q⟩
end

/-! ### what is known of the heap -/
inductive Slot where
  | un
  | d (x : PyData)
  | raw (v : V)
inductive OO where
  | lst (ds : List PyData)
  | raw (o : HO)
  | dt (tb : List (List Int × PyData))
  | dl (od : Obj) (kvs : List (List Key × V)) (tb : List (List Int × PyData))
  | dk (tb : List (Int × PyData))
abbrev Own := List (Addr × OO)
structure Bs where
  Hf : Hp
  HB : Hp
/-- a dict with tuples of ints as keys, as data -/
structure DtOk (Hf : Hp) (kvs : List (List Key × V)) (tb : List (List Int × PyData)) : Prop where
  ks : kvs.map (·.1) = tb.map fun e => e.1.map Sum.inl
  vs : Reps Hf (kvs.map (·.2)) (tb.map (·.2))
structure DkOk (Hf : Hp) (kvs : List (Key × V)) (tb : List (Int × PyData)) : Prop where
  ks : kvs.map (·.1) = tb.map fun e => Sum.inl e.1
  vs : Reps Hf (kvs.map (·.2)) (tb.map (·.2))
def OwnOk (Hf H : Hp) (p : Addr) : OO → Prop
  | .lst ds => ∃ vs, H p = some (.lst vs) ∧ Reps Hf vs ds
  | .raw o => H p = some o
  | .dt tb => ∃ kvs, H p = some (.dT kvs) ∧ DtOk Hf kvs tb
  | .dl od kvs tb => H p = some (.frz od (.dT kvs)) ∧ DtOk Hf kvs tb
  | .dk tb => ∃ kvs, H p = some (.dK kvs) ∧ DkOk Hf kvs tb
theorem OwnOk.mono {Hf Hf' H H' : Hp} {p : Addr} {o : OO} (e : Same Hf Hf') (h : ∀ u, H p = some u → H' p = some u) (x : OwnOk Hf H p o) : OwnOk Hf' H' p o := by
  cases o with
  | lst ds => obtain ⟨vs, h1, h2⟩ := x; exact ⟨vs, h _ h1, h2.mono e⟩
  | raw o => exact h _ x
  | dt tb => obtain ⟨vs, h1, h2⟩ := x; exact ⟨vs, h _ h1, h2.ks, h2.vs.mono e⟩
  | dl od kvs tb => obtain ⟨h1, h2⟩ := x; exact ⟨h _ h1, h2.ks, h2.vs.mono e⟩
  | dk tb => obtain ⟨vs, h1, h2⟩ := x; exact ⟨vs, h _ h1, h2.ks, h2.vs.mono e⟩
theorem OwnOk.there {Hf H : Hp} {p : Addr} {o : OO} (x : OwnOk Hf H p o) : ∃ u, H p = some u := by
  cases o with
  | lst ds => obtain ⟨vs, h1, h2⟩ := x; exact ⟨_, h1⟩
  | raw o => exact ⟨_, x⟩
  | dt tb => obtain ⟨vs, h1, h2⟩ := x; exact ⟨_, h1⟩
  | dl od kvs tb => obtain ⟨h1, h2⟩ := x; exact ⟨_, h1⟩
  | dk tb => obtain ⟨vs, h1, h2⟩ := x; exact ⟨_, h1⟩
structure Sat (B : Bs) (Hf H : Hp) (own : Own) : Prop where
  e0 : Same B.Hf Hf
  e1 : Same Hf H
  eb : Same B.HB H
  fr : ∀ p o, Hf p = some o → B.Hf p = none → B.HB p = none
  ow : ∀ q ∈ own, Hf q.1 = none ∧ B.HB q.1 = none ∧ OwnOk Hf H q.1 q.2
  nd : (own.map Prod.fst).Nodup
  tp : ∀ p xs, H p = some (.tup xs) → Hf p = some (.tup xs)
theorem same_upd {H H' : Hp} {p : Addr} {o : HO} (e : Same H H') (h : H p = none) : Same H (upd H' p o) := fun b x q => by
  rw [upd_ne (ne_of_none q h)]
  exact e b x q
theorem same_upd2 {H H' : Hp} {p : Addr} {o : HO} (e : Same H H') : Same (upd H p o) (upd H' p o) := fun b x q => by
  by_cases hb : b = p
  · subst hb; rw [upd_same] at q ⊢; exact q
  · rw [upd_ne hb] at q ⊢; exact e b x q
section
variable {B : Bs} {Hf H : Hp} {own : Own} {p : Addr}
theorem Sat.none_f (S : Sat B Hf H own) (n : H p = none) : Hf p = none := S.e1.free n
theorem Sat.none_b (S : Sat B Hf H own) (n : H p = none) : B.HB p = none := S.eb.free n
theorem Sat.none_0 (S : Sat B Hf H own) (n : H p = none) : B.Hf p = none := S.e0.free (S.e1.free n)
theorem Sat.ne (S : Sat B Hf H own) (n : H p = none) {q : Addr × OO} (hq : q ∈ own) : q.1 ≠ p := by
  obtain ⟨_, _, c⟩ := S.ow q hq
  obtain ⟨u, hu⟩ := c.there
  exact ne_of_none hu n
/-- a new thing that will not change -/
theorem Sat.new (S : Sat B Hf H own) (n : H p = none) (o : HO) : Sat B (upd Hf p o) (upd H p o) own where
  e0 := same_upd S.e0 (S.none_0 n)
  e1 := same_upd2 S.e1
  eb := same_upd S.eb (S.none_b n)
  fr := fun q u h hb => by
    by_cases e : q = p
    · rw [e]; exact S.none_b n
    · rw [upd_ne e] at h; exact S.fr q u h hb
  ow := fun q hq => by
    obtain ⟨a, b, c⟩ := S.ow q hq
    have ne := S.ne n hq
    exact ⟨by rw [upd_ne ne]; exact a, b, c.mono (same_upd (Same.refl _) (S.none_f n)) fun u hu => by rw [upd_ne ne]; exact hu⟩
  nd := S.nd
  tp := fun q xs h => by
    by_cases e : q = p
    · subst e; rw [upd_same] at h ⊢; exact h
    · rw [upd_ne e] at h ⊢; exact S.tp q xs h
theorem Sat.new_same (S : Sat B Hf H own) (n : H p = none) (o : HO) : Same Hf (upd Hf p o) := same_upd (Same.refl _) (S.none_f n)
/-- a new thing of one's own -/
theorem Sat.newOwn (S : Sat B Hf H own) (n : H p = none) {o : HO} {oo : OO} (ok : OwnOk Hf (upd H p o) p oo) (nt : ∀ xs, o ≠ .tup xs := by intro _ z; cases z) : Sat B Hf (upd H p o) ((p, oo) :: own) where
  e0 := S.e0
  e1 := same_upd S.e1 (S.none_f n)
  eb := same_upd S.eb (S.none_b n)
  fr := S.fr
  ow := fun q hq => by
    rcases List.mem_cons.mp hq with rfl | hq
    · exact ⟨S.none_f n, S.none_b n, ok⟩
    · obtain ⟨a, b, c⟩ := S.ow q hq
      have ne := S.ne n hq
      exact ⟨a, b, c.mono (Same.refl _) fun u hu => by rw [upd_ne ne]; exact hu⟩
  nd := by
    rw [List.map_cons, List.nodup_cons]
    refine ⟨fun hm => ?_, S.nd⟩
    obtain ⟨q, hq, e⟩ := List.mem_map.mp hm
    exact S.ne n hq e
  tp := fun q xs h => by
    by_cases e : q = p
    · subst e; rw [upd_same] at h; exact absurd (Option.some.inj h) (nt xs)
    · rw [upd_ne e] at h; exact S.tp q xs h
theorem Sat.at (S : Sat B Hf H own) {oo : OO} (h : (p, oo) ∈ own) : Hf p = none ∧ B.HB p = none ∧ OwnOk Hf H p oo := S.ow _ h
/-- a thing of one's own changes -/
theorem Sat.write {oa ob : Own} {oo oo' : OO} {o : HO} (S : Sat B Hf H (oa ++ (p, oo) :: ob)) (ok : OwnOk Hf (upd H p o) p oo') (nt : ∀ xs, o ≠ .tup xs := by intro _ z; cases z) : Sat B Hf (upd H p o) (oa ++ (p, oo') :: ob) := by
  obtain ⟨a, b, _⟩ := S.at (p := p) (oo := oo) (by simp)
  have nd := S.nd
  rw [List.map_append, List.map_cons] at nd
  refine ⟨S.e0, same_upd S.e1 a, same_upd S.eb b, S.fr, fun q hq => ?_, by rw [List.map_append, List.map_cons]; exact nd, fun q xs h => ?_⟩
  rotate_left
  · by_cases e : q = p
    · subst e; rw [upd_same] at h; exact absurd (Option.some.inj h) (nt xs)
    · rw [upd_ne e] at h; exact S.tp q xs h
  have key : q ∈ oa ∨ q ∈ ob → Hf q.1 = none ∧ B.HB q.1 = none ∧ OwnOk Hf (upd H p o) q.1 q.2 := fun hq => by
    have hm : q ∈ oa ++ (p, oo) :: ob := by
      rcases hq with h | h
      · exact List.mem_append_left _ h
      · exact List.mem_append_right _ (List.mem_cons_of_mem _ h)
    obtain ⟨a', b', c'⟩ := S.ow q hm
    have ne : q.1 ≠ p := fun e => by
      rcases hq with h | h
      · exact (List.nodup_append.mp nd).2.2 q.1 (List.mem_map.mpr ⟨q, h, rfl⟩) p (List.mem_cons_self) e
      · have := (List.nodup_cons.mp (List.nodup_append.mp nd).2.1).1
        exact this (List.mem_map.mpr ⟨q, h, e⟩)
    exact ⟨a', b', c'.mono (Same.refl _) fun u hu => by rw [upd_ne ne]; exact hu⟩
  rcases List.mem_append.mp hq with h | h
  · exact key (.inl h)
  · rcases List.mem_cons.mp h with rfl | h
    · exact ⟨a, b, ok⟩
    · exact key (.inr h)
/-- a list of one's own will not change any more -/
theorem Sat.freeze {oa ob : Own} {ds : List PyData} (S : Sat B Hf H (oa ++ (p, .lst ds) :: ob)) : ∃ Hf', Same Hf Hf' ∧ Sat B Hf' H (oa ++ ob) ∧ Rep Hf' (.ref p) (.list ds) := by
  obtain ⟨a, b, vs, hp, hr⟩ := S.at (p := p) (oo := .lst ds) (by simp)
  have nd := S.nd
  rw [List.map_append, List.map_cons] at nd
  have sm : Same Hf (upd Hf p (.lst vs)) := same_upd (Same.refl _) a
  refine ⟨upd Hf p (.lst vs), sm, ⟨S.e0.trans sm, fun q u h => ?_, S.eb, fun q u h hb => ?_, fun q hq => ?_, ?_, fun q xs h => sm _ _ (S.tp q xs h)⟩, .lst upd_same (hr.mono sm)⟩
  · by_cases e : q = p
    · subst e; rw [upd_same] at h; rw [hp]; exact h
    · rw [upd_ne e] at h; exact S.e1 q u h
  · by_cases e : q = p
    · subst e; exact b
    · rw [upd_ne e] at h; exact S.fr q u h hb
  · have hm : q ∈ oa ++ (p, .lst ds) :: ob := by
      rcases List.mem_append.mp hq with h | h
      · exact List.mem_append_left _ h
      · exact List.mem_append_right _ (List.mem_cons_of_mem _ h)
    obtain ⟨a', b', c'⟩ := S.ow q hm
    have ne : q.1 ≠ p := fun e => by
      rcases List.mem_append.mp hq with h | h
      · exact (List.nodup_append.mp nd).2.2 q.1 (List.mem_map.mpr ⟨q, h, rfl⟩) p (List.mem_cons_self) e
      · have := (List.nodup_cons.mp (List.nodup_append.mp nd).2.1).1
        exact this (List.mem_map.mpr ⟨q, h, e⟩)
    exact ⟨by rw [upd_ne ne]; exact a', b', c'.mono sm fun u hu => hu⟩
  · rw [List.map_append]
    refine List.nodup_append.mpr ⟨(List.nodup_append.mp nd).1, (List.nodup_cons.mp (List.nodup_append.mp nd).2.1).2, fun x hx y hy => (List.nodup_append.mp nd).2.2 x hx y (List.mem_cons_of_mem _ hy)⟩
/-- forget a thing of one's own -/
theorem Sat.drop {oa ob : Own} {oo : OO} (S : Sat B Hf H (oa ++ (p, oo) :: ob)) : Sat B Hf H (oa ++ ob) := by
  have nd := S.nd
  rw [List.map_append, List.map_cons] at nd
  refine ⟨S.e0, S.e1, S.eb, S.fr, fun q hq => S.ow q ?_, ?_, S.tp⟩
  · rcases List.mem_append.mp hq with h | h
    · exact List.mem_append_left _ h
    · exact List.mem_append_right _ (List.mem_cons_of_mem _ h)
  · rw [List.map_append]
    refine List.nodup_append.mpr ⟨(List.nodup_append.mp nd).1, (List.nodup_cons.mp (List.nodup_append.mp nd).2.1).2, fun x hx y hy => (List.nodup_append.mp nd).2.2 x hx y (List.mem_cons_of_mem _ hy)⟩
end

/-! ### slots -/
def SlotR (Hf : Hp) (v : V) : Slot → Prop
  | .un => True
  | .d x => Rep Hf v x
  | .raw w => v = w
theorem SlotR.mono {Hf Hf' : Hp} (e : Same Hf Hf') {v : V} {s : Slot} (h : SlotR Hf v s) : SlotR Hf' v s := by
  cases s with
  | un => trivial
  | d x => exact Rep.mono e h
  | raw w => exact h
structure EnvR (Hf : Hp) (σ : L2.St) (ρ : List Slot) : Prop where
  len : σ.length = ρ.length
  at_ : ∀ (i : Nat) (s : Slot), ρ[i]? = some s → s = .un ∨ ∃ v, σ[i]? = some (some v) ∧ SlotR Hf v s
section
variable {Hf Hf' : Hp} {σ : L2.St} {ρ : List Slot}
theorem EnvR.mono (e : Same Hf Hf') (h : EnvR Hf σ ρ) : EnvR Hf' σ ρ := ⟨h.len, fun i s q => by
  rcases h.at_ i s q with z | ⟨v, z, r⟩
  · exact .inl z
  · exact .inr ⟨v, z, r.mono e⟩⟩
theorem EnvR.set (h : EnvR Hf σ ρ) {v : V} {s : Slot} (r : SlotR Hf v s) (i : Nat) : EnvR Hf (σ.set i (some v)) (ρ.set i s) := by
  refine ⟨by rw [List.length_set, List.length_set]; exact h.len, fun j t q => ?_⟩
  by_cases e : i = j
  · subst e
    by_cases hi : i < ρ.length
    · rw [List.getElem?_set_self hi] at q
      cases q
      exact .inr ⟨v, by rw [List.getElem?_set_self (by rw [h.len]; exact hi)], r⟩
    · rw [List.getElem?_eq_none (by simpa using hi)] at q
      cases q
  · rw [List.getElem?_set_ne e] at q
    rcases h.at_ j t q with z | ⟨w, z, r'⟩
    · exact .inl z
    · exact .inr ⟨w, by rw [List.getElem?_set_ne e]; exact z, r'⟩
theorem EnvR.unset (h : EnvR Hf σ ρ) (i : Nat) (o : Option V) : EnvR Hf (σ.set i o) (ρ.set i .un) := by
  refine ⟨by rw [List.length_set, List.length_set]; exact h.len, fun j t q => ?_⟩
  by_cases e : i = j
  · subst e
    by_cases hi : i < ρ.length
    · rw [List.getElem?_set_self hi] at q
      cases q
      exact .inl rfl
    · rw [List.getElem?_eq_none (by simpa using hi)] at q
      cases q
  · rw [List.getElem?_set_ne e] at q
    rcases h.at_ j t q with z | ⟨w, z, r'⟩
    · exact .inl z
    · exact .inr ⟨w, by rw [List.getElem?_set_ne e]; exact z, r'⟩
theorem EnvR.d (h : EnvR Hf σ ρ) {i : Nat} {x : PyData} (e : ρ[i]? = some (.d x)) : ∃ v, σ[i]? = some (some v) ∧ Rep Hf v x := by
  rcases h.at_ i _ e with z | z
  · cases z
  · exact z
theorem EnvR.raw (h : EnvR Hf σ ρ) {i : Nat} {w : V} (e : ρ[i]? = some (.raw w)) : σ[i]? = some (some w) := by
  rcases h.at_ i _ e with z | ⟨v, z, r⟩
  · cases z
  · rw [z, show v = w from r]
def wipeR (ρ : List Slot) : List Nat → List Slot
  | [] => ρ
  | v :: vs => (wipeR ρ vs).set v .un
theorem EnvR.wipe (h : EnvR Hf σ ρ) : ∀ is : List Nat, EnvR Hf (wipe σ is) (wipeR ρ is)
  | [] => h
  | i :: is => (EnvR.wipe h is).unset i none
end

/-! ### judgements over data -/
structure Ctx where
  X : Cx
  B : Bs
  ex : Addr → List Slot → Own → Prop
def Wish (Z : Ctx) : WX := fun cls d σ H => ∃ C Hf ρ own, cls = .ref C ∧ d = none ∧ Sat Z.B Hf H own ∧ EnvR Hf σ ρ ∧ Z.ex C ρ own
structure Gd (Z : Ctx) (k : Nat) : Prop where
  tk : Takes Z.X (Wish Z)
  po : PassesOwn (model Z.X.prog Z.X.w) Z.X.A Z.X.env Z.X.xe
  calm : Z.X.calm = true
  nd : Z.X.N.Nodup
  hr : Room k Z.X.A
theorem Gd.mono {Z : Ctx} {j k : Nat} (g : Gd Z k) (h : j ≤ k) : Gd Z j := ⟨g.tk, g.po, g.calm, g.nd, g.hr.mono h⟩
/-- e evaluates to what s says -/
def ES (Z : Ctx) (e : Expr) (ρ : List Slot) (own : Own) (s : Slot) : Prop := ∀ Hf σ H, Sat Z.B Hf H own → EnvR Hf σ ρ → ∀ Q : VK, (∀ v Hf' H', Same Hf Hf' → Sat Z.B Hf' H' own → SlotR Hf' v s → Q v H') → wE Z.X e σ H Q
abbrev ED (Z : Ctx) (e : Expr) (ρ : List Slot) (own : Own) (x : PyData) : Prop := ES Z e ρ own (.d x)
abbrev EV (Z : Ctx) (e : Expr) (ρ : List Slot) (own : Own) (v : V) : Prop := ES Z e ρ own (.raw v)
/-- a new list of one's own -/
def EL (Z : Ctx) (e : Expr) (ρ : List Slot) (own : Own) (ds : List PyData) : Prop := ∀ Hf σ H, Sat Z.B Hf H own → EnvR Hf σ ρ → ∀ Q : VK, (∀ p Hf' H', Same Hf Hf' → Sat Z.B Hf' H' ((p, .lst ds) :: own) → Q (.ref p) H') → wE Z.X e σ H Q
def ET (Z : Ctx) (e : Expr) (ρ : List Slot) (own : Own) (b : Bool) : Prop := ∀ Hf σ H, Sat Z.B Hf H own → EnvR Hf σ ρ → ∀ Q : Bool → Hp → Prop, (∀ Hf' H', Same Hf Hf' → Sat Z.B Hf' H' own → Q b H') → wT Z.X e σ H Q
def EW (Z : Ctx) (e : Expr) (ρ : List Slot) (own : Own) (b : Bool) : Prop := ∀ Hf σ H, Sat Z.B Hf H own → EnvR Hf σ ρ → ∀ Q : Bool → Hp → Prop, (∀ Hf' H', Same Hf Hf' → Sat Z.B Hf' H' own → Q b H') → wW Z.X e σ H Q
inductive SlotsR (Hf : Hp) : List V → List Slot → Prop
  | nil : SlotsR Hf [] []
  | cons {v : V} {vs : List V} {s : Slot} {ss : List Slot} : SlotR Hf v s → SlotsR Hf vs ss → SlotsR Hf (v :: vs) (s :: ss)
theorem SlotsR.mono {Hf Hf' : Hp} (e : Same Hf Hf') : ∀ {vs : List V} {ss : List Slot}, SlotsR Hf vs ss → SlotsR Hf' vs ss
  | _, _, .nil => .nil
  | _, _, .cons a b => .cons (a.mono e) (b.mono e)
theorem SlotsR.length {Hf : Hp} : ∀ {vs : List V} {ss : List Slot}, SlotsR Hf vs ss → vs.length = ss.length
  | _, _, .nil => rfl
  | _, _, .cons _ r => congrArg (· + 1) r.length
theorem SlotsR.data {Hf : Hp} : ∀ {vs : List V} {ds : List PyData}, SlotsR Hf vs (ds.map Slot.d) → Reps Hf vs ds
  | _, [], .nil => .nil
  | _, _ :: _, .cons a b => .cons a b.data
def EA (Z : Ctx) (es : List Expr) (ρ : List Slot) (own : Own) (ss : List Slot) : Prop := ∀ Hf σ H, Sat Z.B Hf H own → EnvR Hf σ ρ → ∀ Q : List V → Hp → Prop, (∀ vs Hf' H', Same Hf Hf' → Sat Z.B Hf' H' own → SlotsR Hf' vs ss → Q vs H') → wA Z.X es σ H Q

section
variable {Z : Ctx} {e a b c : Expr} {ρ : List Slot} {own : Own} {pos : Pos} {x y : PyData} {i j : Int} {s t : Slot} {k : Nat}
theorem ES.is (h : ED Z e ρ own x) (q : x = y) : ED Z e ρ own y := q ▸ h
theorem ET.is {b b' : Bool} (h : ET Z e ρ own b) (q : b = b') : ET Z e ρ own b' := q ▸ h
theorem EL.is {xs ys : List PyData} (h : EL Z e ρ own xs) (q : xs = ys) : EL Z e ρ own ys := q ▸ h
/-- a new list is data -/
theorem EL.ed {ds : List PyData} (h : EL Z e ρ own ds) : ED Z e ρ own (.list ds) := fun Hf σ H S R Q q => h Hf σ H S R Q fun p Hf' H' m S' => by
  obtain ⟨Hf2, m2, S2, r⟩ := Sat.freeze (oa := []) S'
  exact q _ Hf2 H' (m.trans m2) S2 r
/-! names, constants -/
theorem es_v (n : Nat) {z : Str} {s : Slot} (he : ρ[n]? = some s) (hs : s ≠ .un) (hN : Z.X.N[n]? = some z := by rfl) (hv : Vis Z.X.env.scope z := by first | exact Or.inl rfl | exact Or.inr (Or.inl rfl) | exact Or.inr (Or.inr rfl)) (hd : (z == ("__debug__" : Str)) = false := by decide)
    (hcd : (z == ("__classdict__" : Str)) = false := by decide) : ES Z (.Name z pos) ρ own s := fun Hf σ H S R Q q => wE.of (pe_var hN hv hd hcd) (by
  rcases R.at_ n s he with z | ⟨v, e, r⟩
  · exact absurd z hs
  · exact ⟨v, e, q v Hf H (Same.refl _) S r⟩)
theorem ed_v (n : Nat) {z : Str} {x : PyData} (he : ρ[n]? = some (.d x) := by rfl) (hN : Z.X.N[n]? = some z := by rfl) (hv : Vis Z.X.env.scope z := by first | exact Or.inl rfl | exact Or.inr (Or.inl rfl) | exact Or.inr (Or.inr rfl)) (hd : (z == ("__debug__" : Str)) = false := by decide)
    (hcd : (z == ("__classdict__" : Str)) = false := by decide) : ED Z (.Name z pos) ρ own x := es_v n he (fun q => nomatch q) hN hv hd hcd
theorem ev_v (n : Nat) {z : Str} {x : V} (he : ρ[n]? = some (.raw x) := by rfl) (hN : Z.X.N[n]? = some z := by rfl) (hv : Vis Z.X.env.scope z := by first | exact Or.inl rfl | exact Or.inr (Or.inl rfl) | exact Or.inr (Or.inr rfl)) (hd : (z == ("__debug__" : Str)) = false := by decide)
    (hcd : (z == ("__classdict__" : Str)) = false := by decide) : EV Z (.Name z pos) ρ own x := es_v n he (fun q => nomatch q) hN hv hd hcd
theorem ed_int {j : Nat} {i : Int} : ED Z (.Constant (.int i) j pos) ρ own (.int i) := fun Hf σ H S R Q q => wE.of pe_int (q _ Hf H (Same.refl _) S (.int i))
theorem ed_bl {j : Nat} {b : Bool} : ED Z (.Constant (.bool b) j pos) ρ own (.bool b) := fun Hf σ H S R Q q => wE.of pe_bl (q _ Hf H (Same.refl _) S (.bl b))
/-- a module's own int -/
theorem ed_glob {z : Str} {n : Int} {t : Tok} (hg : Gl Z.X z) (hm : Z.X.mg z = some (.int n t)) (hd : (z == ("__debug__" : Str)) = false := by decide) : ED Z (.Name z pos) ρ own (.int n) := fun Hf σ H S R Q q => wE.of (pe_glob hg hm (v := .int n) ⟨_, rfl⟩ hd) (q _ Hf H (Same.refl _) S (.int n))
theorem ev_ty {z : Str} {T : String} (hg : Gl Z.X z) (hm : Z.X.mg z = none) (hv : bootBuiltins z = some (.type T)) (hn : z ≠ "__name__" := by decide) (hd : (z == ("__debug__" : Str)) = false := by decide) : EV Z (.Name z pos) ρ own (.ty T) := fun Hf σ H S R Q q => wE.of (pe_bltn hg hm hv (v := .ty T) rfl hn hd) (q _ Hf H (Same.refl _) S rfl)

end
end Sd


namespace Sd
open PySem PySem.Spec PyProof.Rows L2
section
variable {Z : Ctx} {e a b c : Expr} {es : List Expr} {ρ : List Slot} {own : Own} {pos : Pos} {x y : PyData} {i j : Int} {s t u : Slot} {k : Nat}
theorem es_bin {op : Operator} {r : R2} {u : Slot} (ho : OpR Z.X (binaryOp op) r) (ha : ES Z a ρ own s) (hb : ES Z b ρ own t)
    (hr : ∀ v w Hf H, Sat Z.B Hf H own → SlotR Hf v s → SlotR Hf w t → ∀ Q : VK, (∀ z Hf' H', Same Hf Hf' → Sat Z.B Hf' H' own → SlotR Hf' z u → Q z H') → r v w H Q) : ES Z (.BinOp a op b pos) ρ own u := fun Hf σ H S R Q q =>
  wE.of (pe_op ho peW peW) (ha Hf σ H S R _ fun v Hf1 H1 m1 S1 r1 => hb Hf1 σ H1 S1 (R.mono m1) _ fun w Hf2 H2 m2 S2 r2 => hr v w Hf2 H2 S2 (r1.mono m2) r2 Q fun z Hf3 H3 m3 S3 r3 => q z Hf3 H3 ((m1.trans m2).trans m3) S3 r3)
theorem el_bin {op : Operator} {r : R2} {ds : List PyData} (ho : OpR Z.X (binaryOp op) r) (ha : ES Z a ρ own s) (hb : ES Z b ρ own t)
    (hr : ∀ v w Hf H, Sat Z.B Hf H own → SlotR Hf v s → SlotR Hf w t → ∀ Q : VK, (∀ p Hf' H', Same Hf Hf' → Sat Z.B Hf' H' ((p, .lst ds) :: own) → Q (.ref p) H') → r v w H Q) : EL Z (.BinOp a op b pos) ρ own ds := fun Hf σ H S R Q q =>
  wE.of (pe_op ho peW peW) (ha Hf σ H S R _ fun v Hf1 H1 m1 S1 r1 => hb Hf1 σ H1 S1 (R.mono m1) _ fun w Hf2 H2 m2 S2 r2 => hr v w Hf2 H2 S2 (r1.mono m2) r2 Q fun z Hf3 H3 m3 S3 => q z Hf3 H3 ((m1.trans m2).trans m3) S3)
theorem ed_add (ha : ED Z a ρ own (.int i)) (hb : ED Z b ρ own (.int j)) : ED Z (.BinOp a .Add b pos) ρ own (.int (i + j)) := es_bin op_add ha hb fun v w Hf H S r1 r2 Q q => by
  cases r1; cases r2
  exact ⟨i, j, rfl, rfl, q _ Hf H (Same.refl _) S (.int _)⟩
theorem ed_sub (ha : ED Z a ρ own (.int i)) (hb : ED Z b ρ own (.int j)) : ED Z (.BinOp a .Sub b pos) ρ own (.int (i - j)) := es_bin op_sub ha hb fun v w Hf H S r1 r2 Q q => by
  cases r1; cases r2
  exact ⟨i, j, rfl, rfl, q _ Hf H (Same.refl _) S (.int _)⟩
/-- a product: small by the size of both -/
theorem ed_mul (ha : ED Z a ρ own (.int i)) (hb : ED Z b ρ own (.int j)) (h : CMulW i j) : ED Z (.BinOp a .Mult b pos) ρ own (.int (i * j)) := es_bin op_mulW ha hb fun v w Hf H S r1 r2 Q q => by
  cases r1; cases r2
  exact ⟨i, j, rfl, rfl, h, q _ Hf H (Same.refl _) S (.int _)⟩
theorem ed_mulS (ha : ED Z a ρ own (.int i)) (hb : ED Z b ρ own (.int j)) (h : CMul i j) : ED Z (.BinOp a .Mult b pos) ρ own (.int (i * j)) := es_bin op_mul ha hb fun v w Hf H S r1 r2 Q q => by
  cases r1; cases r2
  exact ⟨i, j, rfl, rfl, h, q _ Hf H (Same.refl _) S (.int _)⟩
theorem ed_fdiv (ha : ED Z a ρ own (.int i)) (hb : ED Z b ρ own (.int j)) (h : CDivW i j) : ED Z (.BinOp a .FloorDiv b pos) ρ own (.int (i / j)) := es_bin op_fdivW ha hb fun v w Hf H S r1 r2 Q q => by
  cases r1; cases r2
  exact ⟨i, j, rfl, rfl, h, q _ Hf H (Same.refl _) S (.int _)⟩
theorem ed_fdivS (ha : ED Z a ρ own (.int i)) (hb : ED Z b ρ own (.int j)) (h : 0 < j ∧ j < 1073741824) : ED Z (.BinOp a .FloorDiv b pos) ρ own (.int (i / j)) := es_bin op_fdiv ha hb fun v w Hf H S r1 r2 Q q => by
  cases r1; cases r2
  exact ⟨i, j, rfl, rfl, h, q _ Hf H (Same.refl _) S (.int _)⟩
theorem ed_mod (ha : ED Z a ρ own (.int i)) (hb : ED Z b ρ own (.int j)) (h : 0 < j) : ED Z (.BinOp a .Mod b pos) ρ own (.int (i % j)) := es_bin op_mod ha hb fun v w Hf H S r1 r2 Q q => by
  cases r1; cases r2
  exact ⟨i, j, rfl, rfl, h, q _ Hf H (Same.refl _) S (.int _)⟩
theorem ed_pow (ha : ED Z a ρ own (.int i)) (hb : ED Z b ρ own (.int j)) (h : CPow i j) : ED Z (.BinOp a .Pow b pos) ρ own (.int (i ^ j.toNat)) := es_bin op_pow ha hb fun v w Hf H S r1 r2 Q q => by
  cases r1; cases r2
  exact ⟨i, j, rfl, rfl, h, q _ Hf H (Same.refl _) S (.int _)⟩
theorem ed_neg (ha : ED Z a ρ own (.int i)) : ED Z (.UnaryOp .USub a pos) ρ own (.int (-i)) := fun Hf σ H S R Q q =>
  wE.of (pe_un un_neg peW) (ha Hf σ H S R _ fun v Hf1 H1 m1 S1 r1 => by
    cases r1
    exact ⟨i, rfl, q _ Hf1 H1 m1 S1 (.int _)⟩)
def Lst (own : Own) (s : Slot) (ds : List PyData) : Prop := s = .d (.list ds) ∨ ∃ p, s = .raw (.ref p) ∧ (p, OO.lst ds) ∈ own
theorem Lst.d {ds : List PyData} : Lst own (.d (.list ds)) ds := .inl rfl
theorem Lst.o {p : Addr} {ds : List PyData} (h : (p, OO.lst ds) ∈ own) : Lst own (.raw (.ref p)) ds := .inr ⟨p, rfl, h⟩
theorem Lst.at {B : Bs} {Hf H : Hp} {ds : List PyData} {v : V} (L : Lst own s ds) (S : Sat B Hf H own) (r : SlotR Hf v s) : ∃ p vs, v = .ref p ∧ H p = some (.lst vs) ∧ Reps Hf vs ds := by
  rcases L with rfl | ⟨p, rfl, h⟩
  · cases r with
    | lst h1 h2 => exact ⟨_, _, rfl, S.e1 _ _ h1, h2⟩
  · obtain ⟨_, _, vs, h1, h2⟩ := S.at h
    exact ⟨p, vs, r, h1, h2⟩
/-- a + b of lists -/
theorem el_cat {xs ys : List PyData} (ha : ES Z a ρ own s) (hb : ES Z b ρ own t) (l1 : Lst own s xs) (l2 : Lst own t ys) (h : xs.length + ys.length ≤ 100000) : EL Z (.BinOp a .Add b pos) ρ own (xs ++ ys) := el_bin op_cat ha hb fun v w Hf H S r1 r2 Q q => by
  obtain ⟨p, vs, rfl, h1, g1⟩ := l1.at S r1
  obtain ⟨p', vs', rfl, h2, g2⟩ := l2.at S r2
  have e1 := g1.length
  have e2 := g2.length
  refine ⟨p, p', vs, vs', rfl, rfl, h1, h2, Nat.le_trans (by omega : _ ≤ 100000) (by decide), fun l hl => q l Hf _ (Same.refl _) (S.newOwn hl ⟨_, upd_same, g1.append g2⟩)⟩
theorem es_cmp {op : CmpOp} {r : R2} {u : Slot} (ho : OpR Z.X (compareOp op) r) (hm : behindInMarks op b = false) (ha : ES Z a ρ own s) (hb : ES Z b ρ own t)
    (hr : ∀ v w Hf H, Sat Z.B Hf H own → SlotR Hf v s → SlotR Hf w t → ∀ Q : VK, (∀ z Hf' H', Same Hf Hf' → Sat Z.B Hf' H' own → SlotR Hf' z u → Q z H') → r v w H Q) : ES Z (.Compare a [op] [b] pos) ρ own u := fun Hf σ H S R Q q =>
  wE.of (pe_cmpR ho peW peW hm) (ha Hf σ H S R _ fun v Hf1 H1 m1 S1 r1 => hb Hf1 σ H1 S1 (R.mono m1) _ fun w Hf2 H2 m2 S2 r2 => hr v w Hf2 H2 S2 (r1.mono m2) r2 Q fun z Hf3 H3 m3 S3 r3 => q z Hf3 H3 ((m1.trans m2).trans m3) S3 r3)
/-- a comparison that is a bool: as a value and as a test -/
def CmpB (Z : Ctx) (op : CmpOp) (own : Own) (s t : Slot) (k : Bool) : Prop := ∃ r : R2, OpR Z.X (compareOp op) r ∧ ∀ v w Hf H, Sat Z.B Hf H own → SlotR Hf v s → SlotR Hf w t → ∀ Q : VK, Q (.bl k) H → r v w H Q
theorem ed_cmp {op : CmpOp} {k : Bool} (hc : CmpB Z op own s t k) (ha : ES Z a ρ own s) (hb : ES Z b ρ own t) (hm : behindInMarks op b = false := by first | exact nomark _ | rfl) : ED Z (.Compare a [op] [b] pos) ρ own (.bool k) := by
  obtain ⟨r, ho, hr⟩ := hc
  exact es_cmp ho hm ha hb fun v w Hf H S r1 r2 Q q => hr v w Hf H S r1 r2 Q (q _ Hf H (Same.refl _) S (.bl k))
theorem et_cmp {op : CmpOp} {k : Bool} (hc : CmpB Z op own s t k) (ha : ES Z a ρ own s) (hb : ES Z b ρ own t) (hm : behindInMarks op b = false := by first | exact nomark _ | rfl) : ET Z (.Compare a [op] [b] pos) ρ own k := by
  obtain ⟨r, ho, hr⟩ := hc
  exact fun Hf σ H S R Q q => wT.of (pt_cmpR ho peW peW hm) (ha Hf σ H S R _ fun v Hf1 H1 m1 S1 r1 => hb Hf1 σ H1 S1 (R.mono m1) _ fun w Hf2 H2 m2 S2 r2 => hr v w Hf2 H2 S2 (r1.mono m2) r2 _ ⟨k, rfl, q Hf2 H2 (m1.trans m2) S2⟩)
theorem c_lt : CmpB Z .Lt own (.d (.int i)) (.d (.int j)) (decide (i < j)) := ⟨_, op_lt, fun v w Hf H S r1 r2 Q q => by cases r1; cases r2; exact ⟨i, j, rfl, rfl, q⟩⟩
theorem c_le : CmpB Z .LtE own (.d (.int i)) (.d (.int j)) (decide (i ≤ j)) := ⟨_, op_le, fun v w Hf H S r1 r2 Q q => by cases r1; cases r2; exact ⟨i, j, rfl, rfl, q⟩⟩
theorem c_gt : CmpB Z .Gt own (.d (.int i)) (.d (.int j)) (decide (j < i)) := ⟨_, op_gt, fun v w Hf H S r1 r2 Q q => by cases r1; cases r2; exact ⟨i, j, rfl, rfl, q⟩⟩
theorem c_ge : CmpB Z .GtE own (.d (.int i)) (.d (.int j)) (decide (j ≤ i)) := ⟨_, op_ge, fun v w Hf H S r1 r2 Q q => by cases r1; cases r2; exact ⟨i, j, rfl, rfl, q⟩⟩
theorem c_eqI : CmpB Z .Eq own (.d (.int i)) (.d (.int j)) (decide (i = j)) := ⟨_, op_eq, fun v w Hf H S r1 r2 Q q => by
  cases r1; cases r2
  refine ⟨rfl, ?_⟩
  rw [dec_int, Bool.beq_eq_decide_eq]
  exact q⟩
theorem c_neI : CmpB Z .NotEq own (.d (.int i)) (.d (.int j)) (!decide (i = j)) := ⟨_, op_ne, fun v w Hf H S r1 r2 Q q => by
  cases r1; cases r2
  refine ⟨rfl, ?_⟩
  rw [dec_int, Bool.beq_eq_decide_eq]
  exact q⟩
/-- data, or a list of one's own, as data -/
def Dat (own : Own) (s : Slot) (x : PyData) : Prop := s = .d x ∨ ∃ ds, x = .list ds ∧ Lst own s ds
theorem Dat.at {B : Bs} {Hf H : Hp} {v : V} (L : Dat own s x) (S : Sat B Hf H own) (r : SlotR Hf v s) : Rep H v x := by
  rcases L with rfl | ⟨ds, rfl, L⟩
  · exact Rep.mono S.e1 r
  · obtain ⟨p, vs, rfl, h1, h2⟩ := L.at S r
    exact .lst h1 (h2.mono S.e1)
theorem Dat.d : Dat own (.d x) x := .inl rfl
theorem Dat.o {p : Addr} {ds : List PyData} (h : (p, OO.lst ds) ∈ own) : Dat own (.raw (.ref p)) (.list ds) := .inr ⟨ds, rfl, .o h⟩
theorem c_eq (g : Gd Z k) (d1 : Dat own s x) (d2 : Dat own t y) (h1 : SeqAt.shaped x = true) (h2 : SeqAt.shaped y = true) : CmpB Z .Eq own s t (PyData.eqv x y) := ⟨_, op_eqD g.hr.units, fun v w Hf H S r1 r2 Q q => ⟨x, y, (d1.at S r1).dp, (d2.at S r2).dp, h1, h2, q⟩⟩
theorem c_ne (g : Gd Z k) (d1 : Dat own s x) (d2 : Dat own t y) (h1 : SeqAt.shaped x = true) (h2 : SeqAt.shaped y = true) : CmpB Z .NotEq own s t (!PyData.eqv x y) := ⟨_, op_neD g.hr.units, fun v w Hf H S r1 r2 Q q => ⟨x, y, (d1.at S r1).dp, (d2.at S r2).dp, h1, h2, q⟩⟩
/-- is None -/
def isNone : Slot → Bool
  | .d .none => true
  | .raw .non => true
  | _ => false
/-- a bool as a test -/
theorem et_val {k : Bool} (h : ED Z e ρ own (.bool k)) (he : ∀ whole, isTrue e Z.X.env whole = (do let v ← whole; standAt e.pos; holding [v] (truthy v)) := by intro _; rfl) : ET Z e ρ own k := fun Hf σ H S R Q q =>
  wT.of (pt_val peW he) (h Hf σ H S R _ fun v Hf1 H1 m1 S1 r1 => by cases r1; exact ⟨k, rfl, q Hf1 H1 m1 S1⟩)
theorem EW.et {k : Bool} (h : EW Z e ρ own k) : ET Z e ρ own k := fun Hf σ H S R Q q => wT.of pwW.pt (h Hf σ H S R Q q)
theorem et_not {k : Bool} (h : ET Z e ρ own k) : ET Z (.UnaryOp .Not e pos) ρ own (!k) := fun Hf σ H S R Q q => wT.of (pt_not ptW) (h Hf σ H S R _ fun Hf1 H1 m1 S1 => q Hf1 H1 m1 S1)
variable {rest : List Expr}
theorem ew_and1 {k : Bool} (h : ET Z a ρ own k) : EW Z (.BoolOp .And [a] pos) ρ own k := fun Hf σ H S R Q q => wW.of (pw_and1 ptW) (h Hf σ H S R Q q)
theorem ew_or1 {k : Bool} (h : ET Z a ρ own k) : EW Z (.BoolOp .Or [a] pos) ρ own k := fun Hf σ H S R Q q => wW.of (pw_or1 ptW) (h Hf σ H S R Q q)
theorem ew_and {k l : Bool} (h1 : ET Z a ρ own k) (h2 : k = true → EW Z (.BoolOp .And (b :: rest) pos) ρ own l) : EW Z (.BoolOp .And (a :: b :: rest) pos) ρ own (k && l) := fun Hf σ H S R Q q => wW.of (pw_and ptW pwW) (h1 Hf σ H S R _ fun Hf1 H1 m1 S1 => by
  cases k with
  | true =>
    refine iteT (h2 rfl Hf1 σ H1 S1 (R.mono m1) Q fun Hf2 H2 m2 S2 => q Hf2 H2 (m1.trans m2) S2)
  | false => exact iteF (q Hf1 H1 m1 S1))
theorem ew_or {k l : Bool} (h1 : ET Z a ρ own k) (h2 : k = false → EW Z (.BoolOp .Or (b :: rest) pos) ρ own l) : EW Z (.BoolOp .Or (a :: b :: rest) pos) ρ own (k || l) := fun Hf σ H S R Q q => wW.of (pw_or ptW pwW) (h1 Hf σ H S R _ fun Hf1 H1 m1 S1 => by
  cases k with
  | true => exact iteT (q Hf1 H1 m1 S1)
  | false =>
    refine iteF (h2 rfl Hf1 σ H1 S1 (R.mono m1) Q fun Hf2 H2 m2 S2 => q Hf2 H2 (m1.trans m2) S2))
theorem ed_one {op : BoolOp} (h : ES Z a ρ own s) : ES Z (.BoolOp op [a] pos) ρ own s := fun Hf σ H S R Q q => wE.of (pe_one peW) (h Hf σ H S R Q q)
theorem ed_and {k l : Bool} (h1 : ED Z a ρ own (.bool k)) (h2 : k = true → ED Z (.BoolOp .And (b :: rest) pos) ρ own (.bool l)) : ED Z (.BoolOp .And (a :: b :: rest) pos) ρ own (.bool (k && l)) := fun Hf σ H S R Q q => wE.of (pe_and peW peW) (h1 Hf σ H S R _ fun v Hf1 H1 m1 S1 r1 => by
  cases r1
  refine ⟨k, rfl, ?_⟩
  cases k with
  | true => exact iteT (h2 rfl Hf1 σ H1 S1 (R.mono m1) Q fun v Hf2 H2 m2 S2 r2 => q v Hf2 H2 (m1.trans m2) S2 r2)
  | false => exact iteF (q _ Hf1 H1 m1 S1 (.bl false)))
theorem ed_not {k : Bool} (h : ED Z a ρ own (.bool k)) : ED Z (.UnaryOp .Not a pos) ρ own (.bool (!k)) := fun Hf σ H S R Q q => wE.of (pe_not peW) (h Hf σ H S R _ fun v Hf1 H1 m1 S1 r1 => by
  cases r1
  exact ⟨k, rfl, q _ Hf1 H1 m1 S1 (.bl _)⟩)
theorem es_if {k : Bool} (h : ET Z c ρ own k) (h1 : k = true → ES Z a ρ own s) (h2 : k = false → ES Z b ρ own s) : ES Z (.IfExp c a b pos) ρ own s := fun Hf σ H S R Q q => wE.of (pe_ifExp ptW peW peW) (h Hf σ H S R _ fun Hf1 H1 m1 S1 => by
  cases k with
  | true => exact iteT (h1 rfl Hf1 σ H1 S1 (R.mono m1) Q fun v Hf2 H2 m2 S2 r2 => q v Hf2 H2 (m1.trans m2) S2 r2)
  | false => exact iteF (h2 rfl Hf1 σ H1 S1 (R.mono m1) Q fun v Hf2 H2 m2 S2 r2 => q v Hf2 H2 (m1.trans m2) S2 r2))
theorem el_if {k : Bool} {ds : List PyData} (h : ET Z c ρ own k) (h1 : k = true → EL Z a ρ own ds) (h2 : k = false → EL Z b ρ own ds) : EL Z (.IfExp c a b pos) ρ own ds := fun Hf σ H S R Q q => wE.of (pe_ifExp ptW peW peW) (h Hf σ H S R _ fun Hf1 H1 m1 S1 => by
  cases k with
  | true => exact iteT (h1 rfl Hf1 σ H1 S1 (R.mono m1) Q fun v Hf2 H2 m2 S2 => q v Hf2 H2 (m1.trans m2) S2)
  | false => exact iteF (h2 rfl Hf1 σ H1 S1 (R.mono m1) Q fun v Hf2 H2 m2 S2 => q v Hf2 H2 (m1.trans m2) S2))
theorem et_chain {op op' : CmpOp} {k l : Bool} (hc1 : CmpB Z op own s t k) (hc2 : CmpB Z op' own t u l) (ha : ES Z a ρ own s) (hb : ES Z b ρ own t) (hd : ES Z c ρ own u) (hm : lastMarks [op, op'] [b, c] = false := by with_unfolding_all rfl) :
    ET Z (.Compare a [op, op'] [b, c] pos) ρ own (k && l) := by
  obtain ⟨r, ho, hr⟩ := hc1
  obtain ⟨r', ho', hr'⟩ := hc2
  refine fun Hf σ H S R Q q => wT.of (pt_chain ho ho' peW peW peW hm) (ha Hf σ H S R _ fun v Hf1 H1 m1 S1 r1 => hb Hf1 σ H1 S1 (R.mono m1) _ fun w Hf2 H2 m2 S2 r2 => hr v w Hf2 H2 S2 (r1.mono m2) r2 _ ⟨k, rfl, ?_⟩)
  cases k with
  | false => exact iteF ⟨_, rfl, q Hf2 H2 (m1.trans m2) S2⟩
  | true => exact iteT (hd Hf2 σ H2 S2 (R.mono (m1.trans m2)) _ fun z Hf3 H3 m3 S3 r3 => hr' w z Hf3 H3 S3 (r2.mono m3) r3 _ ⟨l, rfl, q Hf3 H3 ((m1.trans m2).trans m3) S3⟩)
theorem ed_chain {op op' : CmpOp} {k l : Bool} (hc1 : CmpB Z op own s t k) (hc2 : CmpB Z op' own t u l) (ha : ES Z a ρ own s) (hb : ES Z b ρ own t) (hd : ES Z c ρ own u) (hm : lastMarks [op, op'] [b, c] = false := by with_unfolding_all rfl) :
    ED Z (.Compare a [op, op'] [b, c] pos) ρ own (.bool (k && l)) := by
  obtain ⟨r, ho, hr⟩ := hc1
  obtain ⟨r', ho', hr'⟩ := hc2
  refine fun Hf σ H S R Q q => wE.of (pe_chain ho ho' peW peW peW hm) (ha Hf σ H S R _ fun v Hf1 H1 m1 S1 r1 => hb Hf1 σ H1 S1 (R.mono m1) _ fun w Hf2 H2 m2 S2 r2 => hr v w Hf2 H2 S2 (r1.mono m2) r2 _ ⟨k, rfl, ?_⟩)
  cases k with
  | false => exact iteF (q _ Hf2 H2 (m1.trans m2) S2 (.bl false))
  | true => exact iteT (hd Hf2 σ H2 S2 (R.mono (m1.trans m2)) _ fun z Hf3 H3 m3 S3 r3 => hr' w z Hf3 H3 S3 (r2.mono m3) r3 _ (q _ Hf3 H3 ((m1.trans m2).trans m3) S3 (.bl l)))

/-! arguments, displays -/
theorem ea_nil : EA Z [] ρ own [] := fun Hf σ H S R Q q => wA.of pa_nil (q [] Hf H (Same.refl _) S .nil)
theorem ea_cons {ss : List Slot} (h : ES Z e ρ own s) (hr : EA Z es ρ own ss) (hs : starEach (e :: es) Z.X.env = (false, eval e Z.X.env) :: starEach es Z.X.env := by rfl) : EA Z (e :: es) ρ own (s :: ss) := fun Hf σ H S R Q q => wA.of (pa_cons peW paW hs) (h Hf σ H S R _ fun v Hf1 H1 m1 S1 r1 =>
  hr Hf1 σ H1 S1 (R.mono m1) _ fun vs Hf2 H2 m2 S2 r2 => q (v :: vs) Hf2 H2 (m1.trans m2) S2 (.cons (r1.mono m2) r2))
theorem ed_tup {x1 : Nat} {ds : List PyData} (h : EA Z es ρ own (ds.map Slot.d)) (hl : ds.length ≤ 1000 := by exact Nat.le_of_ble_eq_true rfl) : ED Z (.Tuple es x1 pos) ρ own (.tuple ds) := fun Hf σ H S R Q q => wE.of (pe_tup paW) (h Hf σ H S R _ fun vs Hf1 H1 m1 S1 r1 => by
  have r := r1.data
  refine ⟨Nat.le_trans (by rw [r.length]; exact hl) (by decide), fun p hp => q (.ref p) _ _ (m1.trans (S1.new_same hp _)) (S1.new hp _) (.tup upd_same (r.mono (S1.new_same hp _)))⟩)
theorem el_lst {ds : List PyData} (h : EA Z es ρ own (ds.map Slot.d)) (hl : ds.length ≤ 1000 := by exact Nat.le_of_ble_eq_true rfl) : EL Z (.List es pos) ρ own ds := fun Hf σ H S R Q q => wE.of (pe_lst paW) (h Hf σ H S R _ fun vs Hf1 H1 m1 S1 r1 => by
  have r := r1.data
  refine ⟨Nat.le_trans (by rw [r.length]; exact hl) (by decide), fun p hp => q p _ _ m1 (S1.newOwn hp ⟨_, upd_same, r⟩)⟩)
theorem ed_lst {ds : List PyData} (h : EA Z es ρ own (ds.map Slot.d)) (hl : ds.length ≤ 1000 := by exact Nat.le_of_ble_eq_true rfl) : ED Z (.List es pos) ρ own (.list ds) := (el_lst h hl).ed

/-! items, slices -/
theorem atI_rep {H : Hp} {vs : List V} {ds : List PyData} {i : Int} {d : PyData} (r : Reps H vs ds) (h : atI ds i = some d) : ∃ v, atI vs i = some v ∧ Rep H v d := by
  unfold atI at h ⊢
  rw [r.length]
  cases e : ixN ds.length i with
  | none => rw [e] at h; cases h
  | some j =>
    rw [e] at h
    obtain ⟨v, h1, h2⟩ := r.get (show ds[j]? = some d from h)
    exact ⟨v, h1, h2⟩
theorem ed_ixL {ds : List PyData} {d : PyData} (ha : ES Z a ρ own s) (hb : ED Z b ρ own (.int i)) (l : Lst own s ds) (h : atI ds i = some d) (hs : PlainIx b := by exact fun _ _ => rfl) : ED Z (.Subscript a b pos) ρ own d := fun Hf σ H S R Q q =>
  wE.of (pe_ix ix_list peW peW hs) (ha Hf σ H S R _ fun v Hf1 H1 m1 S1 r1 => hb Hf1 σ H1 S1 (R.mono m1) _ fun w Hf2 H2 m2 S2 r2 => by
    obtain ⟨p, vs, rfl, h1, g1⟩ := l.at S2 (r1.mono m2)
    cases r2
    obtain ⟨z, h2, g2⟩ := atI_rep g1 h
    exact ⟨p, vs, i, z, rfl, rfl, SqL.of h1, h2, q z Hf2 H2 (m1.trans m2) S2 g2⟩)
theorem ed_ixT {ds : List PyData} {d : PyData} (ha : ED Z a ρ own (.tuple ds)) (hb : ED Z b ρ own (.int i)) (h : atI ds i = some d) (hs : PlainIx b := by exact fun _ _ => rfl) : ED Z (.Subscript a b pos) ρ own d := fun Hf σ H S R Q q =>
  wE.of (pe_ix ix_tup peW peW hs) (ha Hf σ H S R _ fun v Hf1 H1 m1 S1 r1 => hb Hf1 σ H1 S1 (R.mono m1) _ fun w Hf2 H2 m2 S2 r2 => by
    cases (show Rep Hf2 v (.tuple ds) from r1.mono m2) with
    | tup h1 g1 =>
      cases r2
      obtain ⟨z, h2, g2⟩ := atI_rep g1 h
      exact ⟨_, _, i, z, rfl, rfl, SqT.of (S2.e1 _ _ h1), h2, q z Hf2 H2 (m1.trans m2) S2 g2⟩)
end

/-! ### statements -/
structure DE where
  nx : List Slot → Own → Prop
  rt : Slot → Own → Prop
  bk : List Slot → Own → Prop := fun _ _ => False
  ct : List Slot → Own → Prop := fun _ _ => False
def lift (B : Bs) (H0 : Hp) (D : DE) : Ends where
  nx := fun σ H => ∃ Hf ρ own, Same H0 Hf ∧ Sat B Hf H own ∧ EnvR Hf σ ρ ∧ D.nx ρ own
  rt := fun v H => ∃ Hf s own, Same H0 Hf ∧ Sat B Hf H own ∧ SlotR Hf v s ∧ s ≠ .un ∧ D.rt s own
  bk := fun σ H => ∃ Hf ρ own, Same H0 Hf ∧ Sat B Hf H own ∧ EnvR Hf σ ρ ∧ D.bk ρ own
  ct := fun σ H => ∃ Hf ρ own, Same H0 Hf ∧ Sat B Hf H own ∧ EnvR Hf σ ρ ∧ D.ct ρ own
def SD (Z : Ctx) (st : Stmt) (D : DE) (ρ : List Slot) (own : Own) : Prop := ∀ H0 Hf σ H, Same H0 Hf → Sat Z.B Hf H own → EnvR Hf σ ρ → wS Z.X st (lift Z.B H0 D) σ H
def SDs (Z : Ctx) (st : List Stmt) (D : DE) (ρ : List Slot) (own : Own) : Prop := ∀ H0 Hf σ H, Same H0 Hf → Sat Z.B Hf H own → EnvR Hf σ ρ → wSs Z.X st (lift Z.B H0 D) σ H
section
variable {Z : Ctx} {D : DE} {ρ : List Slot} {own : Own} {pos : Pos} {st : Stmt} {sts A B : List Stmt} {e a b c : Expr} {x : PyData} {s t : Slot} {k : Nat}
theorem SP.imp {X : Cx} {pins : List (Addr × Obj)} {D D' : Ends} {f : Flow} {s' : Shared} (h : SP X pins D f s') (h1 : ∀ σ H, D.nx σ H → D'.nx σ H) (h2 : ∀ v H, D.rt v H → D'.rt v H) (h3 : ∀ σ H, D.bk σ H → D'.bk σ H) (h4 : ∀ σ H, D.ct σ H → D'.ct σ H) : SP X pins D' f s' := by
  cases f with
  | next => obtain ⟨σ, H, I, q⟩ := h; exact ⟨σ, H, I, h1 _ _ q⟩
  | brk => obtain ⟨σ, H, I, q⟩ := h; exact ⟨σ, H, I, h3 _ _ q⟩
  | cont => obtain ⟨σ, H, I, q⟩ := h; exact ⟨σ, H, I, h4 _ _ q⟩
  | ret u => obtain ⟨v, σ, H, I, r, q⟩ := h; exact ⟨v, σ, H, I, r, h2 _ _ q⟩
theorem wS.imp {X : Cx} {D D' : Ends} {σ : L2.St} {H : Hp} (h : wS X st D σ H) (h1 : ∀ σ H, D.nx σ H → D'.nx σ H) (h2 : ∀ v H, D.rt v H → D'.rt v H) (h3 : ∀ σ H, D.bk σ H → D'.bk σ H) (h4 : ∀ σ H, D.ct σ H → D'.ct σ H) : wS X st D' σ H :=
  ⟨fun pins s I => thn (h.run pins s I) fun f s' q => SP.imp q h1 h2 h3 h4⟩
theorem wSs.imp {X : Cx} {D D' : Ends} {σ : L2.St} {H : Hp} (h : wSs X sts D σ H) (h1 : ∀ σ H, D.nx σ H → D'.nx σ H) (h2 : ∀ v H, D.rt v H → D'.rt v H) (h3 : ∀ σ H, D.bk σ H → D'.bk σ H) (h4 : ∀ σ H, D.ct σ H → D'.ct σ H) : wSs X sts D' σ H :=
  ⟨fun pins s I => thn (h.run pins s I) fun f s' q => SP.imp q h1 h2 h3 h4⟩
theorem sds_nil (h : D.nx ρ own) : SDs Z [] D ρ own := fun H0 Hf σ H m0 S R => wSs.of pss_nil ⟨Hf, ρ, own, m0, S, R, h⟩
theorem sds_cons (h : SD Z st { D with nx := fun ρ own => SDs Z sts D ρ own } ρ own) : SDs Z (st :: sts) D ρ own := fun H0 Hf σ H m0 S R => wSs.of (pss_cons psW pssW) (wS.imp (h H0 Hf σ H m0 S R) (fun σ' H' ⟨Hf', ρ', own', m', S', R', q⟩ => q H0 Hf' σ' H' m' S' R') (fun _ _ q => q) (fun _ _ q => q) (fun _ _ q => q))
theorem sds_one (h : SD Z st D ρ own) : SDs Z [st] D ρ own := fun H0 Hf σ H m0 S R => wSs.of (pss_one psW) (h H0 Hf σ H m0 S R)
/-- name = e -/
theorem sd_set (i : Nat) {z : Str} {pos' : Pos} (hN : Z.X.N.Nodup) (he : ES Z e ρ own s) (h : D.nx (ρ.set i s) own) (hi : Z.X.N[i]? = some z := by rfl) (hx : Loc Z.X.env.scope z := by first | exact Or.inl rfl | exact Or.inr rfl) (hs : swapsWith e (some (.Name z pos')) pos.line Z.X.env = pure false := by rfl)
    (hf : Z.X.fn z = true ∨ Z.X.env.scope.names.lookup z = some .local := by first | exact .inl rfl | exact .inr rfl | assumption) : SD Z (.Assign [.Name z pos'] e pos) D ρ own := fun H0 Hf σ H m0 S R => wS.of (ps_set hN hi hx peW hs hf) (he Hf σ H S R _ fun v Hf1 H1 m1 S1 r1 => ⟨Hf1, _, own, m0.trans m1, S1, (R.mono m1).set r1 i, h⟩)
/-- name = a new list of one's own -/
theorem sd_setL (i : Nat) {z : Str} {pos' : Pos} {ds : List PyData} (hN : Z.X.N.Nodup) (he : EL Z e ρ own ds) (h : ∀ p, D.nx (ρ.set i (.raw (.ref p))) ((p, .lst ds) :: own)) (hi : Z.X.N[i]? = some z := by rfl) (hx : Loc Z.X.env.scope z := by first | exact Or.inl rfl | exact Or.inr rfl) (hs : swapsWith e (some (.Name z pos')) pos.line Z.X.env = pure false := by rfl)
    (hf : Z.X.fn z = true ∨ Z.X.env.scope.names.lookup z = some .local := by first | exact .inl rfl | exact .inr rfl | assumption) : SD Z (.Assign [.Name z pos'] e pos) D ρ own := fun H0 Hf σ H m0 S R => wS.of (ps_set hN hi hx peW hs hf) (he Hf σ H S R _ fun p Hf1 H1 m1 S1 => ⟨Hf1, _, _, m0.trans m1, S1, (R.mono m1).set (s := .raw (.ref p)) rfl i, h p⟩)
theorem sd_ret (he : ES Z e ρ own s) (hs : s ≠ .un) (h : D.rt s own) : SD Z (.Return (some e) pos) D ρ own := fun H0 Hf σ H m0 S R => wS.of (ps_ret peW) (he Hf σ H S R _ fun v Hf1 H1 m1 S1 r1 => ⟨Hf1, s, own, m0.trans m1, S1, r1, hs, h⟩)
theorem sd_retD (he : ED Z e ρ own x) (h : D.rt (.d x) own) : SD Z (.Return (some e) pos) D ρ own := sd_ret he (fun q => nomatch q) h
theorem sd_expr (he : ES Z e ρ own s) (h : D.nx ρ own) (hs : swapsWith e none pos.line Z.X.env = pure false := by rfl) : SD Z (.Expr e pos) D ρ own := fun H0 Hf σ H m0 S R => wS.of (ps_expr peW hs) (he Hf σ H S R _ fun v Hf1 H1 m1 S1 r1 => ⟨Hf1, ρ, own, m0.trans m1, S1, R.mono m1, h⟩)
theorem sd_if {l : Bool} (hc : ET Z c ρ own l) (h1 : l = true → SDs Z A D ρ own) (h2 : l = false → SDs Z B D ρ own) : SD Z (.If c A B pos) D ρ own := fun H0 Hf σ H m0 S R => wS.of (ps_if ptW pssW pssW) (hc Hf σ H S R _ fun Hf1 H1 m1 S1 => by
  cases l with
  | true => exact iteT (h1 rfl H0 Hf1 σ H1 (m0.trans m1) S1 (R.mono m1))
  | false => exact iteF (h2 rfl H0 Hf1 σ H1 (m0.trans m1) S1 (R.mono m1)))
/-- weaker ends -/
theorem SDs.imp {D' : DE} (h : SDs Z sts D ρ own) (h1 : ∀ ρ own, D.nx ρ own → D'.nx ρ own) (h2 : ∀ s own, D.rt s own → D'.rt s own) (h3 : ∀ ρ own, D.bk ρ own → D'.bk ρ own) (h4 : ∀ ρ own, D.ct ρ own → D'.ct ρ own) : SDs Z sts D' ρ own := fun H0 Hf σ H m0 S R => wSs.imp (h H0 Hf σ H m0 S R)
  (fun _ _ ⟨a, b, c, m, d, e, f⟩ => ⟨a, b, c, m, d, e, h1 _ _ f⟩) (fun _ _ ⟨a, b, c, m, d, e, g, f⟩ => ⟨a, b, c, m, d, e, g, h2 _ _ f⟩) (fun _ _ ⟨a, b, c, m, d, e, f⟩ => ⟨a, b, c, m, d, e, h3 _ _ f⟩) (fun _ _ ⟨a, b, c, m, d, e, f⟩ => ⟨a, b, c, m, d, e, h4 _ _ f⟩)
/-- a list of one's own is data from here on (its name: slot i) -/
theorem sds_freeze (i : Nat) {oa ob : Own} {p : Addr} {ds : List PyData} (hi : ρ[i]? = some (.raw (.ref p))) (h : SDs Z sts D (ρ.set i (.d (.list ds))) (oa ++ ob)) : SDs Z sts D ρ (oa ++ (p, .lst ds) :: ob) := fun H0 Hf σ H m0 S R => by
  obtain ⟨Hf', m, S', r⟩ := S.freeze
  refine h H0 Hf' σ H (m0.trans m) S' ?_
  have hv := (R.mono m).raw hi
  have R' := (R.mono m).set (v := .ref p) (s := .d (.list ds)) r i
  have e : σ.set i (some (.ref p)) = σ := by
    refine List.ext_getElem? fun j => ?_
    by_cases hj : i = j
    · subst hj
      have hl : i < σ.length := by
        obtain ⟨h, _⟩ := List.getElem?_eq_some_iff.mp hv
        exact h
      rw [List.getElem?_set_self hl, hv]
    · rw [List.getElem?_set_ne hj]
  rw [e] at R'
  exact R'
end
end Sd


namespace Sd
open PySem PySem.Spec PyProof.Rows L2
/-! ### values with a change of what is owned -/
def EG (Z : Ctx) (e : Expr) (ρ : List Slot) (own : Own) (R : Slot → Own → Prop) : Prop := ∀ Hf σ H, Sat Z.B Hf H own → EnvR Hf σ ρ → ∀ Q : VK, (∀ v Hf' H' s own', Same Hf Hf' → Sat Z.B Hf' H' own' → SlotR Hf' v s → s ≠ .un → R s own' → Q v H') → wE Z.X e σ H Q
section
variable {Z : Ctx} {e a b c : Expr} {es : List Expr} {ρ : List Slot} {own : Own} {pos : Pos} {x y : PyData} {i j : Int} {s t u : Slot} {k : Nat} {R : Slot → Own → Prop}
theorem ES.toEG (h : ES Z e ρ own s) (hs : s ≠ .un) (q : R s own) : EG Z e ρ own R := fun Hf σ H S E Q k => h Hf σ H S E Q fun v Hf' H' m S' r => k v Hf' H' s own m S' r hs q
theorem EG.toES (h : EG Z e ρ own fun t o => t = s ∧ o = own) : ES Z e ρ own s := fun Hf σ H S E Q k => h Hf σ H S E Q fun v Hf' H' t o m S' r _ q => by
  obtain ⟨rfl, rfl⟩ := q
  exact k v Hf' H' m S' r
theorem EG.toEL {ds : List PyData} (h : EG Z e ρ own fun t o => ∃ p, t = .raw (.ref p) ∧ o = (p, .lst ds) :: own) : EL Z e ρ own ds := fun Hf σ H S E Q k => h Hf σ H S E Q fun v Hf' H' t o m S' r _ q => by
  obtain ⟨p, rfl, rfl⟩ := q
  cases (show v = .ref p from r)
  exact k p Hf' H' m S'
theorem EL.toEG {ds : List PyData} (h : EL Z e ρ own ds) (q : ∀ p, R (.raw (.ref p)) ((p, .lst ds) :: own)) : EG Z e ρ own R := fun Hf σ H S E Q k => h Hf σ H S E Q fun p Hf' H' m S' => k _ Hf' H' (.raw (.ref p)) _ m S' rfl (fun z => nomatch z) (q p)
theorem EG.imp {R' : Slot → Own → Prop} (h : EG Z e ρ own R) (q : ∀ s o, R s o → R' s o) : EG Z e ρ own R' := fun Hf σ H S E Q k => h Hf σ H S E Q fun v Hf' H' s o m S' r hs z => k v Hf' H' s o m S' r hs (q s o z)
/-- a op b, the right one with a change -/
theorem eg_bin {op : Operator} {r : R2} {R1 : Slot → Own → Prop} (ho : OpR Z.X (binaryOp op) r) (ha : ES Z a ρ own s) (hb : EG Z b ρ own R1)
    (hr : ∀ v w Hf H t own', Sat Z.B Hf H own' → SlotR Hf v s → SlotR Hf w t → R1 t own' → ∀ Q : VK, (∀ z Hf' H' u, Same Hf Hf' → Sat Z.B Hf' H' own' → SlotR Hf' z u → u ≠ .un → R u own' → Q z H') → r v w H Q) : EG Z (.BinOp a op b pos) ρ own R := fun Hf σ H S E Q q =>
  wE.of (pe_op ho peW peW) (ha Hf σ H S E _ fun v Hf1 H1 m1 S1 r1 => hb Hf1 σ H1 S1 (E.mono m1) _ fun w Hf2 H2 t own' m2 S2 r2 _ q2 => hr v w Hf2 H2 t own' S2 (r1.mono m2) r2 q2 Q fun z Hf3 H3 u m3 S3 r3 hu q3 => q z Hf3 H3 u own' ((m1.trans m2).trans m3) S3 r3 hu q3)
theorem eg_add {P : Int → Own → Prop} (ha : ED Z a ρ own (.int i)) (hb : EG Z b ρ own fun t o => ∃ j, t = .d (.int j) ∧ P j o) : EG Z (.BinOp a .Add b pos) ρ own (fun t o => ∃ j, t = .d (.int (i + j)) ∧ P j o) := eg_bin op_add ha hb fun v w Hf H t own' S r1 r2 q2 Q q => by
  obtain ⟨j, rfl, hp⟩ := q2
  cases r1; cases r2
  exact ⟨i, j, rfl, rfl, q _ Hf H (.d (.int (i + j))) (Same.refl _) S (Rep.int (i + j)) (fun z => nomatch z) ⟨j, rfl, hp⟩⟩
end

/-! ### built-ins called by name -/
section
variable {Z : Ctx} {e a b c : Expr} {es : List Expr} {ρ : List Slot} {own : Own} {pos p : Pos} {x y : PyData} {i j : Int} {s t u : Slot} {k : Nat} {ss : List Slot}
theorem es_callB {id : String} {z : Str} {r : List V → Hp → VK → Prop} (hc : CallR Z.X (.builtin id) r) (hg : Gl Z.X z) (hm : Z.X.mg z = none) (hv : bootBuiltins z = some (.builtin id)) (ha : EA Z (e :: es) ρ own ss)
    (hr : ∀ vs Hf H, Sat Z.B Hf H own → SlotsR Hf vs ss → ∀ Q : VK, (∀ v Hf' H', Same Hf Hf' → Sat Z.B Hf' H' own → SlotR Hf' v s → Q v H') → r vs H Q)
    (hn : z ≠ "__name__" := by decide) (hdb : (z == ("__debug__" : Str)) = false := by decide) (hs : starEach (e :: es) Z.X.env = (false, eval e Z.X.env) :: starEach es Z.X.env := by first | assumption | rfl) (hpl : (backTo pos (starEach es Z.X.env)).any (·.1) = false := by first | assumption | rfl) : ES Z (.Call (.Name z p) (e :: es) [] pos) ρ own s := fun Hf σ H S E Q q =>
  wE.of (pe_callB hc hg hm hv paW hn hdb hs hpl) (ha Hf σ H S E _ fun vs Hf1 H1 m1 S1 r1 => hr vs Hf1 H1 S1 r1 Q fun v Hf2 H2 m2 S2 r2 => q v Hf2 H2 (m1.trans m2) S2 r2)
theorem el_callB {id : String} {z : Str} {ds : List PyData} {r : List V → Hp → VK → Prop} (hc : CallR Z.X (.builtin id) r) (hg : Gl Z.X z) (hm : Z.X.mg z = none) (hv : bootBuiltins z = some (.builtin id)) (ha : EA Z (e :: es) ρ own ss)
    (hr : ∀ vs Hf H, Sat Z.B Hf H own → SlotsR Hf vs ss → ∀ Q : VK, (∀ p Hf' H', Same Hf Hf' → Sat Z.B Hf' H' ((p, .lst ds) :: own) → Q (.ref p) H') → r vs H Q)
    (hn : z ≠ "__name__" := by decide) (hdb : (z == ("__debug__" : Str)) = false := by decide) (hs : starEach (e :: es) Z.X.env = (false, eval e Z.X.env) :: starEach es Z.X.env := by first | assumption | rfl) (hpl : (backTo pos (starEach es Z.X.env)).any (·.1) = false := by first | assumption | rfl) : EL Z (.Call (.Name z p) (e :: es) [] pos) ρ own ds := fun Hf σ H S E Q q =>
  wE.of (pe_callB hc hg hm hv paW hn hdb hs hpl) (ha Hf σ H S E _ fun vs Hf1 H1 m1 S1 r1 => hr vs Hf1 H1 S1 r1 Q fun v Hf2 H2 m2 S2 => q v Hf2 H2 (m1.trans m2) S2)
theorem es_callTy {T : String} {z : Str} {r : List V → Hp → VK → Prop} (hc : CallR Z.X (.type T) r) (hg : Gl Z.X z) (hm : Z.X.mg z = none) (hv : bootBuiltins z = some (.type T)) (ha : EA Z (e :: es) ρ own ss)
    (hr : ∀ vs Hf H, Sat Z.B Hf H own → SlotsR Hf vs ss → ∀ Q : VK, (∀ v Hf' H', Same Hf Hf' → Sat Z.B Hf' H' own → SlotR Hf' v s → Q v H') → r vs H Q)
    (hn : z ≠ "__name__" := by decide) (hdb : (z == ("__debug__" : Str)) = false := by decide) (hs : starEach (e :: es) Z.X.env = (false, eval e Z.X.env) :: starEach es Z.X.env := by first | assumption | rfl) (hpl : (backTo pos (starEach es Z.X.env)).any (·.1) = false := by first | assumption | rfl) : ES Z (.Call (.Name z p) (e :: es) [] pos) ρ own s := fun Hf σ H S E Q q =>
  wE.of (pe_callTy hc hg hm hv paW hn hdb hs hpl) (ha Hf σ H S E _ fun vs Hf1 H1 m1 S1 r1 => hr vs Hf1 H1 S1 r1 Q fun v Hf2 H2 m2 S2 r2 => q v Hf2 H2 (m1.trans m2) S2 r2)
theorem el_callTy {T : String} {z : Str} {ds : List PyData} {r : List V → Hp → VK → Prop} (hc : CallR Z.X (.type T) r) (hg : Gl Z.X z) (hm : Z.X.mg z = none) (hv : bootBuiltins z = some (.type T)) (ha : EA Z (e :: es) ρ own ss)
    (hr : ∀ vs Hf H, Sat Z.B Hf H own → SlotsR Hf vs ss → ∀ Q : VK, (∀ p Hf' H', Same Hf Hf' → Sat Z.B Hf' H' ((p, .lst ds) :: own) → Q (.ref p) H') → r vs H Q)
    (hn : z ≠ "__name__" := by decide) (hdb : (z == ("__debug__" : Str)) = false := by decide) (hs : starEach (e :: es) Z.X.env = (false, eval e Z.X.env) :: starEach es Z.X.env := by first | assumption | rfl) (hpl : (backTo pos (starEach es Z.X.env)).any (·.1) = false := by first | assumption | rfl) : EL Z (.Call (.Name z p) (e :: es) [] pos) ρ own ds := fun Hf σ H S E Q q =>
  wE.of (pe_callTy hc hg hm hv paW hn hdb hs hpl) (ha Hf σ H S E _ fun vs Hf1 H1 m1 S1 r1 => hr vs Hf1 H1 S1 r1 Q fun v Hf2 H2 m2 S2 => q v Hf2 H2 (m1.trans m2) S2)
theorem SlotsR.one {Hf : Hp} {vs : List V} (h : SlotsR Hf vs [s]) : ∃ v, vs = [v] ∧ SlotR Hf v s := by
  cases h with
  | cons a b => cases b; exact ⟨_, rfl, a⟩
theorem SlotsR.two {Hf : Hp} {vs : List V} (h : SlotsR Hf vs [s, t]) : ∃ v w, vs = [v, w] ∧ SlotR Hf v s ∧ SlotR Hf w t := by
  cases h with
  | cons a b =>
    obtain ⟨w, rfl, c⟩ := b.one
    exact ⟨_, w, rfl, a, c⟩
/-- len of a list -/
theorem ed_len {ds : List PyData} (hm : Z.X.mg "len" = none) (h : ES Z e ρ own s) (L : Lst own s ds) (hg : Gl Z.X "len" := by rfl) (hs : starEach [e] Z.X.env = (false, eval e Z.X.env) :: starEach [] Z.X.env := by rfl) : ED Z (.Call (.Name "len" p) [e] [] pos) ρ own (.int ds.length) :=
  es_callB call_len_seq hg hm PySem.boot_len (ea_cons h ea_nil hs) fun vs Hf H S r0 Q q => by
    obtain ⟨v, rfl, r⟩ := r0.one
    obtain ⟨p, vs, rfl, h1, h2⟩ := L.at S r
    exact ⟨p, vs, rfl, .inl (SqL.of h1), by rw [h2.length]; exact q _ Hf H (Same.refl _) S (.int _)⟩
/-- sum of a list of ints -/
theorem ed_sum {ns : List Int} (g : Gd Z k) (hm : Z.X.mg "sum" = none) (h : ES Z e ρ own s) (L : Lst own s (ns.map PyData.int)) (hg : Gl Z.X "sum" := by rfl) (hs : starEach [e] Z.X.env = (false, eval e Z.X.env) :: starEach [] Z.X.env := by rfl) : ED Z (.Call (.Name "sum" p) [e] [] pos) ρ own (.int ns.sum) :=
  es_callB (cr_sum g.calm) hg hm (by decide +kernel) (ea_cons h ea_nil hs) fun vs Hf H S r0 Q q => by
    obtain ⟨v, rfl, r⟩ := r0.one
    obtain ⟨p, vs, rfl, h1, h2⟩ := L.at S r
    cases h2.of_ints
    exact ⟨p, ns, rfl, SqL.of h1, q _ Hf H (Same.refl _) S (.int _)⟩
theorem ed_abs (hm : Z.X.mg "abs" = none) (h : ED Z e ρ own (.int i)) (hg : Gl Z.X "abs" := by rfl) (hs : starEach [e] Z.X.env = (false, eval e Z.X.env) :: starEach [] Z.X.env := by rfl) : ED Z (.Call (.Name "abs" p) [e] [] pos) ρ own (.int (if i < 0 then -i else i)) :=
  es_callB call_abs hg hm (by decide +kernel) (ea_cons h ea_nil hs) fun vs Hf H S r0 Q q => by
    obtain ⟨v, rfl, r⟩ := r0.one
    cases r
    exact ⟨i, rfl, q _ Hf H (Same.refl _) S (.int _)⟩
theorem ed_all {ns : List Bool} (g : Gd Z k) (hm : Z.X.mg "all" = none) (h : ES Z e ρ own s) (L : Lst own s (ns.map PyData.bool)) (hg : Gl Z.X "all" := by rfl) (hs : starEach [e] Z.X.env = (false, eval e Z.X.env) :: starEach [] Z.X.env := by rfl) : ED Z (.Call (.Name "all" p) [e] [] pos) ρ own (.bool (ns.all id)) :=
  es_callB (cr_all g.calm) hg hm (by decide +kernel) (ea_cons h ea_nil hs) fun vs Hf H S r0 Q q => by
    obtain ⟨v, rfl, r⟩ := r0.one
    obtain ⟨p, vs, rfl, e1, e2⟩ := L.at S r
    cases e2.of_bls
    exact ⟨p, ns, rfl, SqL.of e1, q _ Hf H (Same.refl _) S (.bl _)⟩
theorem el_list {ds : List PyData} (hm : Z.X.mg "list" = none) (h : ES Z e ρ own s) (L : Lst own s ds) (hg : Gl Z.X "list" := by rfl) (hs : starEach [e] Z.X.env = (false, eval e Z.X.env) :: starEach [] Z.X.env := by rfl) : EL Z (.Call (.Name "list" p) [e] [] pos) ρ own ds :=
  el_callTy call_list_of hg hm (by decide +kernel) (ea_cons h ea_nil hs) fun vs Hf H S r0 Q q => by
    obtain ⟨v, rfl, r⟩ := r0.one
    obtain ⟨p, vs, rfl, e1, e2⟩ := L.at S r
    exact ⟨p, vs, rfl, .inl (SqL.of e1), fun l hl => q l Hf _ (Same.refl _) (S.newOwn hl ⟨_, upd_same, e2⟩)⟩
theorem ed_tuple {ds : List PyData} (hm : Z.X.mg "tuple" = none) (h : ES Z e ρ own s) (L : Lst own s ds) (hg : Gl Z.X "tuple" := by rfl) (hs : starEach [e] Z.X.env = (false, eval e Z.X.env) :: starEach [] Z.X.env := by rfl) : ED Z (.Call (.Name "tuple" p) [e] [] pos) ρ own (.tuple ds) :=
  es_callTy call_tuple_of hg hm (by decide +kernel) (ea_cons h ea_nil hs) fun vs Hf H S r0 Q q => by
    obtain ⟨v, rfl, r⟩ := r0.one
    obtain ⟨p, vs, rfl, e1, e2⟩ := L.at S r
    exact ⟨p, vs, rfl, .inl ⟨SqL.of e1, fun l hl => q (.ref l) _ _ (S.new_same hl _) (S.new hl _) (.tup upd_same (e2.mono (S.new_same hl _)))⟩⟩
/-- isinstance of data -/
def tyD : PyData → String
  | .none => "NoneType"
  | .bool _ => "bool"
  | .int _ => "int"
  | .str _ => "str"
  | .list _ => "list"
  | .tuple _ => "tuple"
  | .dict _ => "dict"
theorem tyX_rep {K : PySem.W.Frag} {H : Hp} {v : V} {d : PyData} (r : Rep H v d) : TyX K H v (.type (tyD d)) := by
  cases r with
  | non => exact .base .non
  | bl b => exact .base (.bl b)
  | int i => exact .base (.int i)
  | str z => exact .base (.str z)
  | lst h _ => exact .base (.lst h)
  | tup h _ => exact .base (.tup h)
theorem ed_isi {T : String} {l : Bool} (hm : Z.X.mg "isinstance" = none) (h : ES Z a ρ own s) (d : Dat own s x) (hc : EV Z b ρ own (.ty T)) (hk : kitB (tyD x) T = some l) (hg : Gl Z.X "isinstance" := by rfl) (hs : starEach [a, b] Z.X.env = (false, eval a Z.X.env) :: starEach [b] Z.X.env := by rfl) (hs2 : starEach [b] Z.X.env = (false, eval b Z.X.env) :: starEach [] Z.X.env := by rfl) (hpl : (backTo pos (starEach [b] Z.X.env)).any (·.1) = false := by rfl) :
    ED Z (.Call (.Name "isinstance" p) [a, b] [] pos) ρ own (.bool l) :=
  es_callB call_isi hg hm (by decide +kernel) (ea_cons h (ea_cons hc ea_nil hs2) hs) (fun vs Hf H S r0 Q q => by
    obtain ⟨v, w, rfl, r1, r2⟩ := r0.two
    cases (show w = .ty T from r2)
    exact ⟨v, .ty T, .type (tyD x), .type T, l, rfl, .ty T, tyX_rep (d.at S r1), kit_ty hk, q _ Hf H (Same.refl _) S (.bl l)⟩) (by decide) (by decide) hs hpl
end

/-! ### targets -/
structure wG (X : Cx) (tg : Expr) (v : V) (σ : L2.St) (H : Hp) (Q : L2.St → Hp → Prop) : Prop where
  run : ∀ (pins : List (Addr × Obj)) (s : Shared) (u : Value), Inv X pins σ H s → RelV v u → wpAny (model X.prog X.w) X.A (assign tg X.env u) (fun _ s' => ∃ σ' H', Inv X pins σ' H' s' ∧ Q σ' H') X.xe s
structure wGs (X : Cx) (ts : List Expr) (vs : List V) (σ : L2.St) (H : Hp) (Q : L2.St → Hp → Prop) : Prop where
  run : ∀ (pins : List (Addr × Obj)) (s : Shared) (us : List Value), Inv X pins σ H s → Vals vs us → wpAny (model X.prog X.w) X.A (assignInOrder ((assignEach ts X.env).map (·.2)) us) (fun _ s' => ∃ σ' H', Inv X pins σ' H' s' ∧ Q σ' H') X.xe s
theorem pgW {X : Cx} {tg : Expr} : PG X tg (wG X tg) := ⟨fun pins s _ _ _ u _ I r h => h.run pins s u I r⟩
theorem pgsW {X : Cx} {ts : List Expr} : PGs X ts (wGs X ts) := ⟨fun pins s _ _ _ us _ I r h => h.run pins s us I r⟩
theorem wG.of {X : Cx} {tg : Expr} {g : TG} (h : PG X tg g) {v : V} {σ : L2.St} {H : Hp} {Q : L2.St → Hp → Prop} (q : g v σ H Q) : wG X tg v σ H Q := ⟨fun pins s u I r => h.run pins s σ H v u Q I r q⟩
theorem wGs.of {X : Cx} {ts : List Expr} {g : TGs} (h : PGs X ts g) {v : List V} {σ : L2.St} {H : Hp} {Q : L2.St → Hp → Prop} (q : g v σ H Q) : wGs X ts v σ H Q := ⟨fun pins s u I r => h.run pins s σ H v u Q I r q⟩
/-- σ' is σ but for the slots is -/
def But (is : List Nat) (σ σ' : L2.St) : Prop := σ'.length = σ.length ∧ ∀ i : Nat, i ∉ is → σ'[i]? = σ[i]?
def GT (Z : Ctx) (tg : Expr) (x : PyData) (ρ ρ' : List Slot) (is : List Nat) : Prop := ∀ own Hf σ H v, Sat Z.B Hf H own → EnvR Hf σ ρ → Rep Hf v x → ∀ Q : L2.St → Hp → Prop, (∀ σ', EnvR Hf σ' ρ' → But is σ σ' → Q σ' H) → wG Z.X tg v σ H Q
def GTs (Z : Ctx) (ts : List Expr) (xs : List PyData) (ρ ρ' : List Slot) (is : List Nat) : Prop := ∀ own Hf σ H vs, Sat Z.B Hf H own → EnvR Hf σ ρ → Reps Hf vs xs → ∀ Q : L2.St → Hp → Prop, (∀ σ', EnvR Hf σ' ρ' → But is σ σ' → Q σ' H) → wGs Z.X ts vs σ H Q
section
variable {Z : Ctx} {e : Expr} {es : List Expr} {ρ ρ' ρ'' : List Slot} {x : PyData} {xs : List PyData} {is js : List Nat} {pos : Pos}
theorem gt_name (i : Nat) {z : Str} (nd : Z.X.N.Nodup) (hi : Z.X.N[i]? = some z := by rfl) (hx : Loc Z.X.env.scope z := by first | exact Or.inl rfl | exact Or.inr rfl) (hf : Z.X.fn z = true ∨ Z.X.env.scope.names.lookup z = some .local := by first | exact .inl rfl | exact .inr rfl | assumption) : GT Z (.Name z pos) x ρ (ρ.set i (.d x)) [i] := fun own Hf σ H v S R r Q q =>
  wG.of (pg_name nd hi hx hf) (q _ (R.set (s := .d x) r i) ⟨by rw [List.length_set], fun j hj => by rw [List.getElem?_set_ne (fun z => hj (by simp [z]))]⟩)
theorem gts_nil : GTs Z [] [] ρ ρ [] := fun own Hf σ H v S R r Q q => wGs.of pgs_nil (by
  cases r
  exact ⟨rfl, q σ R ⟨rfl, fun _ _ => rfl⟩⟩)
theorem gts_cons (h1 : GT Z e x ρ ρ' is) (h2 : GTs Z es xs ρ' ρ'' js) (hs : (assignEach (e :: es) Z.X.env).map (·.2) = assign e Z.X.env :: (assignEach es Z.X.env).map (·.2) := by rfl) : GTs Z (e :: es) (x :: xs) ρ ρ'' (is ++ js) := fun own Hf σ H vs S R r Q q => wGs.of (pgs_cons pgW pgsW hs) (by
  cases r with
  | cons a b =>
    refine ⟨_, _, rfl, h1 own Hf σ H _ S R a _ fun σ1 R1 b1 => h2 own Hf σ1 H _ S R1 b Q fun σ2 R2 b2 => q σ2 R2 ⟨b2.1.trans b1.1, fun i hi => ?_⟩⟩
    rw [b2.2 i (fun z => hi (List.mem_append_right _ z)), b1.2 i (fun z => hi (List.mem_append_left _ z))])
theorem gt_tup {n : Nat} {kk : Nat} (hc : Z.X.calm = true) (h : GTs Z es xs ρ ρ' is) (hl : xs.length = n) (hn : (assignEach es Z.X.env).length = n := by rfl) (hst : (assignEach es Z.X.env).findIdx? (·.1) = none := by rfl) : GT Z (.Tuple es kk pos) (.tuple xs) ρ ρ' is := fun own Hf σ H v S R r Q q => wG.of (pg_tup hc pgsW hn hst) (by
  cases r with
  | tup h1 h2 => exact ⟨_, _, rfl, SqT.of (S.e1 _ _ h1), by rw [h2.length, hl], h own Hf σ H _ S R h2 Q q⟩)
end

/-! ### what is walked -/
structure Walk (B : Bs) (J : It) (Hf : Hp) (ys : List PyData) (Po : Own → Prop) : Prop where
  go : ∀ i Hf' H' own', Same Hf Hf' → Sat B Hf' H' own' → Po own' → i < ys.length → J.go i H'
  yld : ∀ i y Hf' H' own' x H2, Same Hf Hf' → Sat B Hf' H' own' → Po own' → ys[i]? = some y → J.yld i H' x H2 → ∃ Hf2, Same Hf' Hf2 ∧ Sat B Hf2 H2 own' ∧ Rep Hf2 x y
  stop : ∀ i Hf' H' own', Same Hf Hf' → Sat B Hf' H' own' → Po own' → ys.length ≤ i → J.stop i H'
def IT (Z : Ctx) (tg iter : Expr) (ρ : List Slot) (own : Own) (Po : Own → Prop) (ys : List PyData) : Prop := ∃ wi : TI, PI Z.X tg iter wi ∧ ∀ Hf σ H, Sat Z.B Hf H own → EnvR Hf σ ρ → ∀ R : It → Hp → Prop, (∀ J Hf' H', Same Hf Hf' → Sat Z.B Hf' H' own → Walk Z.B J Hf' ys Po → R J H') → wi σ H R
section
variable {Z : Ctx} {e tg a b c : Expr} {ρ : List Slot} {own : Own} {pos p : Pos} {i j : Int} {k : Nat} {s : Slot} {ds : List PyData}
theorem it_list (h : ED Z e ρ own (.list ds)) : IT Z tg e ρ own (fun _ => True) ds := ⟨_, pi_list peW, fun Hf σ H S E R q => h Hf σ H S E _ fun v Hf1 H1 m1 S1 r1 => by
  cases r1 with
  | @lst a xs _ h1 h2 =>
    refine ⟨a, rfl, ⟨xs, SqL.of (S1.e1 _ _ h1)⟩, q _ Hf1 H1 m1 S1 ⟨fun i Hf' H' own' m S' _ hi => ?_, fun i y Hf' H' own' x H2 m S' _ hy hx => ?_, fun i Hf' H' own' m S' _ hi => ?_⟩⟩
    · have hl : i < xs.length := by rw [h2.length]; exact hi
      exact ⟨xs, xs[i], SqL.of (S'.e1 _ _ (m _ _ h1)), List.getElem?_eq_getElem hl⟩
    · obtain ⟨rfl, hx⟩ := hx
      obtain ⟨v, h3, h4⟩ := h2.get hy
      have e1 := hx xs (SqL.of (S'.e1 _ _ (m _ _ h1)))
      rw [h3] at e1
      cases e1
      exact ⟨Hf', Same.refl _, S', h4.mono m⟩
    · exact ⟨xs, SqL.of (S'.e1 _ _ (m _ _ h1)), by rw [h2.length]; exact hi⟩⟩
/-- lo, lo + 1, .. as data -/
def rng (lo : Int) (n : Nat) : List PyData := (List.range n).map fun (k : Nat) => PyData.int (lo + (k : Int))
theorem rng_length (lo : Int) (n : Nat) : (rng lo n).length = n := by simp [rng]
theorem rng_get {lo : Int} {n k : Nat} {y : PyData} (h : (rng lo n)[k]? = some y) : k < n ∧ y = .int (lo + (k : Int)) := by
  unfold rng at h
  rw [List.getElem?_map] at h
  cases e : (List.range n)[k]? with
  | none => rw [e] at h; cases h
  | some m =>
    rw [e] at h
    obtain ⟨h1, h2⟩ := List.getElem?_eq_some_iff.mp e
    rw [List.getElem_range] at h2
    subst h2
    cases h
    exact ⟨by simpa using h1, rfl⟩
theorem walk_rng {B : Bs} {Hf : Hp} (lo : Int) (n : Nat) : Walk B (Itr lo n) Hf (rng lo n) (fun _ => True) where
  go := fun i _ _ _ _ _ _ hi => by rw [rng_length] at hi; exact hi
  yld := fun i y Hf' H' own' x H2 m S _ hy hx => by
    obtain ⟨rfl, rfl⟩ := hx
    obtain ⟨_, rfl⟩ := rng_get hy
    exact ⟨Hf', Same.refl _, S, .int _⟩
  stop := fun i _ _ _ _ _ _ hi => by rw [rng_length] at hi; exact hi
theorem it_range1 (hm : Z.X.mg "range" = none) (h : ED Z a ρ own (.int i)) (hi : -1000000 ≤ i ∧ i ≤ 1000000) (hg : Gl Z.X "range" := by rfl) (hs : starEach [a] Z.X.env = [(false, eval a Z.X.env)] := by rfl) : IT Z tg (.Call (.Name "range" p) [a] [] pos) ρ own (fun _ => True) (rng 0 i.toNat) :=
  ⟨_, pi_range1 hg hm paW hs, fun Hf σ H S E R q => (ea_cons h ea_nil hs) Hf σ H S E _ fun vs Hf1 H1 m1 S1 r1 => by
    obtain ⟨v, rfl, r⟩ := r1.one
    cases r
    exact ⟨i, rfl, by omega, by omega, q _ Hf1 H1 m1 S1 (walk_rng 0 _)⟩⟩
theorem it_range2 (hm : Z.X.mg "range" = none) (h : ED Z a ρ own (.int i)) (h' : ED Z b ρ own (.int j)) (hi : -1000000 ≤ i ∧ i ≤ 1000000 ∧ -1000000 ≤ j ∧ j ≤ 1000000) (hg : Gl Z.X "range" := by rfl) (hs : starEach [a, b] Z.X.env = [(false, eval a Z.X.env), (false, eval b Z.X.env)] := by rfl) (hs2 : starEach [b] Z.X.env = [(false, eval b Z.X.env)] := by rfl) : IT Z tg (.Call (.Name "range" p) [a, b] [] pos) ρ own (fun _ => True) (rng i (j - i).toNat) :=
  ⟨_, pi_range2 hg hm paW hs hs2, fun Hf σ H S E R q => (ea_cons h (ea_cons h' ea_nil hs2) (by rw [hs, hs2])) Hf σ H S E _ fun vs Hf1 H1 m1 S1 r0 => by
    obtain ⟨v, w, rfl, r1, r2⟩ := r0.two
    cases r1; cases r2
    exact ⟨i, j, rfl, by omega, q _ Hf1 H1 m1 S1 (walk_rng i _)⟩⟩
/-- zip of two lists -/
def zipD (xs ys : List PyData) : List PyData := (xs.zip ys).map fun p => PyData.tuple [p.1, p.2]
theorem it_zip {e2 : Expr} {ys : List PyData} {elts : List Expr} {kk : Nat} {tpos : Pos} (hm : Z.X.mg "zip" = none) (h : ED Z e ρ own (.list ds)) (h' : ED Z e2 ρ own (.list ys)) (hg : Gl Z.X "zip" := by rfl) (hs : starEach [e, e2] Z.X.env = (false, eval e Z.X.env) :: starEach [e2] Z.X.env := by rfl) (hs2 : starEach [e2] Z.X.env = (false, eval e2 Z.X.env) :: starEach [] Z.X.env := by rfl) (hpl : (backTo pos (starEach [e2] Z.X.env)).any (·.1) = false := by rfl) : IT Z (.Tuple elts kk tpos) (.Call (.Name "zip" p) [e, e2] [] pos) ρ own (fun _ => True) (zipD ds ys) :=
  ⟨_, pi_zip hg hm paW hs hpl, fun Hf σ H S E R q => (ea_cons h (ea_cons h' ea_nil hs2) hs) Hf σ H S E _ fun vs Hf1 H1 m1 S1 r0 => by
    obtain ⟨v, w, rfl, r1, r2⟩ := r0.two
    cases (show Rep Hf1 v (.list ds) from r1) with
    | @lst a xs _ h1 h2 =>
      cases (show Rep Hf1 w (.list ys) from r2) with
      | @lst b zs _ g1 g2 =>
        have ln : (zipD ds ys).length = min xs.length zs.length := by rw [h2.length, g2.length]; simp [zipD]
        refine ⟨a, b, xs, zs, rfl, SqL.of (S1.e1 _ _ h1), SqL.of (S1.e1 _ _ g1), q _ Hf1 H1 m1 S1 ⟨fun i Hf' H' own' m S' _ hi => ?_, fun i y Hf' H' own' x H2 m S' _ hy hx => ?_, fun i Hf' H' own' m S' _ hi => ?_⟩⟩
        · rw [ln] at hi
          have hl : i < xs.length := by omega
          have hl2 : i < zs.length := by omega
          exact ⟨xs, zs, xs[i], zs[i], SqL.of (S'.e1 _ _ (m _ _ h1)), SqL.of (S'.e1 _ _ (m _ _ g1)), List.getElem?_eq_getElem hl, List.getElem?_eq_getElem hl2⟩
        · obtain ⟨T, z1, z2, rfl, nT, rfl, hx1, hx2⟩ := hx
          unfold zipD at hy
          rw [List.getElem?_map] at hy
          cases ez : (ds.zip ys)[i]? with
          | none => rw [ez] at hy; cases hy
          | some pr =>
            rw [ez] at hy
            cases hy
            obtain ⟨d1, d2⟩ := pr
            rw [List.getElem?_zip_eq_some] at ez
            obtain ⟨v1, h3, h4⟩ := h2.get ez.1
            obtain ⟨v2, h5, h6⟩ := g2.get ez.2
            have e1 := hx1 xs (SqL.of (S'.e1 _ _ (m _ _ h1)))
            rw [h3] at e1
            cases e1
            have e2 := hx2 zs (SqL.of (S'.e1 _ _ (m _ _ g1)))
            rw [h5] at e2
            cases e2
            exact ⟨_, S'.new_same nT _, S'.new nT _, .tup upd_same (.cons (h4.mono (m.trans (S'.new_same nT _))) (.cons (h6.mono (m.trans (S'.new_same nT _))) .nil))⟩
        · rw [ln] at hi
          exact ⟨xs, zs, SqL.of (S'.e1 _ _ (m _ _ h1)), SqL.of (S'.e1 _ _ (m _ _ g1)), by omega⟩⟩
end

/-! ### loops -/
section
variable {Z : Ctx} {D : DE} {ρ : List Slot} {own : Own} {pos : Pos} {body : List Stmt} {tg iter c : Expr} {ys : List PyData} {Po : Own → Prop} {k : Nat}
theorem sd_for (g : Gd Z k) (it : IT Z tg iter ρ own Po ys) (I : Nat → List Slot → Own → Prop) (h0 : I 0 ρ own) (hp : ∀ i ρ own, I i ρ own → Po own)
    (step : ∀ i y ρ1 own1, ys[i]? = some y → I i ρ1 own1 → ∃ ρ2 is, GT Z tg y ρ1 ρ2 is ∧ SDs Z body { D with nx := I (i + 1), ct := I (i + 1), bk := D.nx } ρ2 own1) (hd : ∀ ρ1 own1, I ys.length ρ1 own1 → D.nx ρ1 own1)
    (hs : ∀ x, foldedSetIterable iter Z.X.env x = pure x := by intro _; rfl) : SD Z (.For tg iter body [] pos) D ρ own := by
  obtain ⟨wi, hi, hw⟩ := it
  refine fun H0 Hf σ H m0 S E => wS.of (ps_for g.po g.calm hi pgW pssW hs) (hw Hf σ H S E _ fun J Hf1 H1 m1 S1 W => ?_)
  refine ⟨fun i m σ' H' => m = ys.length - i ∧ i ≤ ys.length ∧ ∃ Hf' ρ' own', Same Hf1 Hf' ∧ Sat Z.B Hf' H' own' ∧ EnvR Hf' σ' ρ' ∧ I i ρ' own', ⟨ys.length, by omega, by omega, Hf1, ρ, own, Same.refl _, S1, E.mono m1, h0⟩, ?_⟩
  rintro i m σ' H' ⟨rfl, hi, Hf', ρ', own', m', S', E', q⟩
  by_cases hlt : i < ys.length
  · refine .inr ⟨W.go i Hf' H' own' m' S' (hp _ _ _ q) hlt, fun σ2 H2 => ∃ Hf2 ρ2 own2, Same Hf1 Hf2 ∧ Sat Z.B Hf2 H2 own2 ∧ EnvR Hf2 σ2 ρ2 ∧ I (i + 1) ρ2 own2, fun σ2 H2 ⟨Hf2, ρ2, own2, m2, S2, E2, q2⟩ => ⟨ys.length - (i + 1), by omega, rfl, hlt, Hf2, ρ2, own2, m2, S2, E2, q2⟩, fun x H2 hx => ?_⟩
    obtain ⟨Hf2, m2, S2, r2⟩ := W.yld i _ Hf' H' own' x H2 m' S' (hp _ _ _ q) (List.getElem?_eq_getElem hlt) hx
    obtain ⟨ρ2, is, gt, sb⟩ := step i _ ρ' own' (List.getElem?_eq_getElem hlt) q
    refine gt own' Hf2 σ' H2 x S2 (E'.mono m2) r2 _ fun σ3 E3 _ => ?_
    refine wSs.imp (sb Hf1 Hf2 σ3 H2 (m'.trans m2) S2 E3) (fun _ _ q => q) (fun v H3 ⟨a1, a2, a3, a4, a5⟩ => ⟨a1, a2, a3, (m0.trans m1).trans a4, a5⟩) (fun v H3 ⟨a1, a2, a3, a4, a5⟩ => ⟨a1, a2, a3, (m0.trans m1).trans a4, a5⟩) (fun _ _ q => q)
  · have e : i = ys.length := by omega
    subst e
    exact .inl ⟨W.stop _ Hf' H' own' m' S' (hp _ _ _ q) (Nat.le_refl _), Hf', ρ', own', (m0.trans m1).trans m', S', E', hd _ _ q⟩
end
end Sd


namespace Sd
open PySem PySem.Spec PyProof.Rows L2
/-! ### promises of defs, over data -/
inductive Out where
  | ret (s : Slot) (own : Own)
  | exc (C : Addr) (own : Own)
abbrev Pr := List Slot → Own → (Out → Prop) → Prop
def spG (Pre : Pr) : Sp := fun vs H Q E => ∃ Hf HB ss own post, Sat ⟨Hf, HB⟩ Hf H own ∧ SlotsR Hf vs ss ∧ Pre ss own post ∧ (∀ s own' v Hf' H', post (.ret s own') → Sat ⟨Hf, HB⟩ Hf' H' own' → SlotR Hf' v s → s ≠ .un → Q v H') ∧
  (∀ C own' Hf' H', post (.exc C own') → Sat ⟨Hf, HB⟩ Hf' H' own' → E (.ref C) none H')
/-- the heap without some addresses -/
def less (H : Hp) (l : List Addr) : Hp := fun p => if p ∈ l then none else H p
theorem less_out {H : Hp} {l : List Addr} {p : Addr} (h : p ∉ l) : less H l p = H p := by unfold less; rw [if_neg h]
theorem less_in {H : Hp} {l : List Addr} {p : Addr} (h : p ∈ l) : less H l p = none := by unfold less; rw [if_pos h]
theorem less_none {H : Hp} {l : List Addr} {p : Addr} (h : less H l p = none) : p ∈ l ∨ H p = none := by
  by_cases hp : p ∈ l
  · exact .inl hp
  · rw [less_out hp] at h; exact .inr h
/-- into a callee with part of what is owned, and back -/
theorem Sat.into {B : Bs} {Hf H : Hp} {oa o1 ob : Own} (S : Sat B Hf H (oa ++ o1 ++ ob)) : Sat ⟨Hf, less H (o1.map (·.1))⟩ Hf H o1 := by
  have nd := S.nd
  rw [List.map_append, List.map_append] at nd
  refine ⟨Same.refl _, S.e1, fun p o h => ?_, fun p o h hb => ?_, fun q hq => ?_, (List.nodup_append.mp (List.nodup_append.mp nd).1).2.1, S.tp⟩
  · have h : less H (o1.map (·.1)) p = some o := h
    by_cases hp : p ∈ o1.map (·.1)
    · rw [show less H (o1.map (·.1)) p = none from less_in hp] at h; cases h
    · rw [← less_out (H := H) hp]; exact h
  · rw [show Hf p = none from hb] at h; cases h
  · obtain ⟨a, b, c⟩ := S.ow q (by simp [hq])
    exact ⟨a, less_in (List.mem_map.mpr ⟨q, hq, rfl⟩), c⟩
theorem Sat.back {B : Bs} {Hf H Hf' H' : Hp} {oa o1 o1' ob : Own} (S : Sat B Hf H (oa ++ o1 ++ ob)) (S' : Sat ⟨Hf, less H (o1.map (·.1))⟩ Hf' H' o1') : Sat B Hf' H' (oa ++ o1' ++ ob) := by
  have nd := S.nd
  rw [List.map_append, List.map_append] at nd
  obtain ⟨nd12, nd3, d3⟩ := List.nodup_append.mp nd
  obtain ⟨nd1, nd2, d1⟩ := List.nodup_append.mp nd12
  have b1 : ∀ p, p ∈ o1.map (·.1) → B.HB p = none := fun p hp => by
    obtain ⟨q, hq, rfl⟩ := List.mem_map.mp hp
    exact (S.ow q (by simp [hq])).2.1
  have other : ∀ q, q ∈ oa ∨ q ∈ ob → q ∈ oa ++ o1 ++ ob ∧ q.1 ∉ o1.map (·.1) := fun q hq => by
    rcases hq with h | h
    · exact ⟨by simp [h], fun z => d1 _ (List.mem_map.mpr ⟨q, h, rfl⟩) _ z rfl⟩
    · exact ⟨by simp [h], fun z => d3 _ (List.mem_append_right _ z) _ (List.mem_map.mpr ⟨q, h, rfl⟩) rfl⟩
  have there : ∀ q, q ∈ oa ∨ q ∈ ob → ∃ u, less H (o1.map (·.1)) q.1 = some u ∧ H q.1 = some u := fun q hq => by
    obtain ⟨hm, hn⟩ := other q hq
    obtain ⟨u, hu⟩ := (S.ow q hm).2.2.there
    exact ⟨u, by rw [less_out hn]; exact hu, hu⟩
  have keyO : ∀ q, q ∈ oa ∨ q ∈ ob → Hf' q.1 = none ∧ B.HB q.1 = none ∧ OwnOk Hf' H' q.1 q.2 := fun q hq => by
    obtain ⟨hm, hn⟩ := other q hq
    obtain ⟨a, b, c⟩ := S.ow q hm
    obtain ⟨u, h1, h2⟩ := there q hq
    refine ⟨?_, b, c.mono S'.e0 fun u' hu' => S'.eb _ _ (by show less H _ q.1 = _; rw [less_out hn]; exact hu')⟩
    cases e : Hf' q.1 with
    | none => rfl
    | some o =>
      have z := S'.fr q.1 o e a
      have z' : less H (o1.map (·.1)) q.1 = none := z
      rw [h1] at z'; cases z'
  refine ⟨S.e0.trans S'.e0, S'.e1, fun p o h => ?_, fun p o h hb => ?_, fun q hq => ?_, ?_, S'.tp⟩
  · refine S'.eb p o ?_
    show less H _ p = some o
    rw [less_out (fun z => by rw [b1 p z] at h; cases h)]
    exact S.eb p o h
  · cases e : Hf p with
    | some u => exact S.fr p u e hb
    | none =>
      have z : less H (o1.map (·.1)) p = none := S'.fr p o h e
      rcases less_none z with z | z
      · exact b1 p z
      · exact S.eb.free z
  · rcases List.mem_append.mp hq with h | h
    · rcases List.mem_append.mp h with h | h
      · exact keyO q (.inl h)
      · obtain ⟨a, b, c⟩ := S'.ow q h
        refine ⟨a, ?_, c⟩
        rcases less_none (show less H (o1.map (·.1)) q.1 = none from b) with z | z
        · exact b1 _ z
        · exact S.eb.free z
    · exact keyO q (.inr h)
  · have dj : ∀ q q', (q ∈ oa ∨ q ∈ ob) → q' ∈ o1' → q.1 ≠ q'.1 := fun q q' hq hq' e => by
      obtain ⟨u, h1, _⟩ := there q hq
      have z : less H (o1.map (·.1)) q'.1 = none := (S'.ow q' hq').2.1
      rw [← e, h1] at z; cases z
    rw [List.map_append, List.map_append]
    refine List.nodup_append.mpr ⟨List.nodup_append.mpr ⟨nd1, S'.nd, fun x hx y hy => ?_⟩, nd3, fun x hx y hy => ?_⟩
    · obtain ⟨q, hq, rfl⟩ := List.mem_map.mp hx
      obtain ⟨q', hq', rfl⟩ := List.mem_map.mp hy
      exact dj q q' (.inl hq) hq'
    · obtain ⟨q', hq', rfl⟩ := List.mem_map.mp hy
      rcases List.mem_append.mp hx with hx | hx
      · exact d3 _ (List.mem_append_left _ hx) _ (List.mem_map.mpr ⟨q', hq', rfl⟩)
      · obtain ⟨q, hq, rfl⟩ := List.mem_map.mp hx
        exact fun e => dj q' q (.inr hq') hq e.symm

/-! ### a def keeps its promise -/
section
variable {P : Program} {w : World} {K : PySem.W.Frag} {mg : Str → Option Value} {base : Heap}
theorem SlotsR.env {Hf : Hp} : ∀ {vs : List V} {ss : List Slot}, SlotsR Hf vs ss → ∀ n : Nat, EnvR Hf (vs.map some ++ List.replicate n none) (ss ++ List.replicate n .un)
  | _, _, .nil, n => ⟨by simp, fun i s h => .inl (by
      have h' : (List.replicate n Slot.un)[i]? = some s := h
      rw [List.getElem?_replicate] at h'
      split at h'
      · cases h'; rfl
      · cases h')⟩
  | _, _, .cons (s := s₀) a b, n => by
    have ih := SlotsR.env b n
    refine ⟨by simpa using ih.len, fun i s h => ?_⟩
    cases i with
    | zero =>
      have e : s₀ = s := by simpa using h
      subst e
      exact .inr ⟨_, rfl, a⟩
    | succ i => exact ih.at_ i s (by simpa using h)
/-- the context of a def's body -/
abbrev ctxOf (P : Program) (w : World) (K : PySem.W.Frag) (mg : Str → Option Value) (base : Heap) (N : List Str) (qual : Str) (st : Stmt) (f : Addr) (cdv : Value) (A : Around) (outer : List Env) (s : Shared) (H : Hp) (E : XK) (B : Bs) (ex : Addr → List Slot → Own → Prop) : Ctx :=
  ⟨cxOf (L2.CX P w) P w K mg base N qual (defScope st) f cdv A outer s H E, B, ex⟩
/-- what a body may lean on: the module's facts, the def's names -/
structure Bd (Z : Ctx) (P : Program) (w : World) (K : PySem.W.Frag) (mg : Str → Option Value) (base : Heap) : Prop where
  p : Z.X.prog = P
  w_ : Z.X.w = w
  k : Z.X.K = K
  mg : Z.X.mg = mg
  b : Z.X.base = base
theorem okG {x qual : Str} {st : Stmt} {f : Addr} {fd : FuncData} {N ps : List Str} {k : Nat} {Pre : Pr} (F : Fun K x qual st f fd) (S : FnScope N ps (defScope st)) (len : ∀ ss own post, Pre ss own post → ss.length = ps.length)
    (hbody : ∀ (ss : List Slot) (own : Own) (post : Out → Prop), Pre ss own post → ∀ (cdv : Value) (A : Around) (outer : List Env) (s : Shared) (H : Hp) (E : XK) (B : Bs), Gd (ctxOf P w K mg base N qual st f cdv A outer s H E B (fun C _ own => post (.exc C own))) k →
      SDs (ctxOf P w K mg base N qual st f cdv A outer s H E B (fun C _ own => post (.exc C own))) (defBody st) { nx := fun _ own => post (.ret (.d .none) own), rt := fun s own => post (.ret s own) } (ss ++ List.replicate (N.length - ss.length) .un) own) :
    FnOk P w K mg base (L2.CX P w) (k + 1) f fd ps (spG Pre) := by
  refine F.okX S (fun vs H Q E h => ?_) (fun cdv A outer s H vs Q E hr h => ?_)
  · obtain ⟨Hf, HB, ss, own, post, _, r, h, _⟩ := h
    rw [r.length]
    exact len _ _ _ h
  · obtain ⟨Hf, HB, ss, own, post, S0, r, h, q1, q2⟩ := h
    refine ⟨_, pssW, ?_⟩
    have g : Gd (ctxOf P w K mg base N qual st f cdv A outer s H E ⟨Hf, HB⟩ (fun C _ own => post (.exc C own))) k := by
      refine ⟨?_, passes_of rfl, rfl, S.nd, hr⟩
      refine Takes.imp (takes_of (E := E) rfl rfl rfl rfl) fun c d σ H' hw => ?_
      obtain ⟨C, Hf', ρ, own', rfl, rfl, S', _, hx⟩ := hw
      exact q2 C own' Hf' H' hx S'
    have z := hbody ss own post h cdv A outer s H E ⟨Hf, HB⟩ g Hf Hf (L2.start N vs) H (Same.refl _) S0 (by unfold L2.start; rw [r.length]; exact r.env _)
    refine wSs.imp z (fun σ H' hz => ?_) (fun v H' hz => ?_) (fun _ _ hz => ?_) (fun _ _ hz => ?_)
    · obtain ⟨Hf', ρ, own', _, S', _, hp⟩ := hz
      exact q1 _ own' _ Hf' H' hp S' (Rep.non) (fun z => nomatch z)
    · obtain ⟨Hf', t, own', _, S', r', hu, hp⟩ := hz
      exact q1 t own' v Hf' H' hp S' r' hu
    · obtain ⟨_, _, _, _, _, _, hp⟩ := hz
      exact hp.elim
    · obtain ⟨_, _, _, _, _, _, hp⟩ := hz
      exact hp.elim
end

/-! ### calls of defs -/
/-- all that a call of the def named z wants -/
structure Fn (K : PySem.W.Frag) (mg : Str → Option Value) (P : Program) (w : World) (base : Heap) (z : Str) (ps : List Str) (k : Nat) (Pre : Pr) : Prop where
  ex : ∃ f fd, FnOk P w K mg base (L2.CX P w) k f fd ps (spG Pre) ∧ mg z = some (.ref f) ∧ PySem.W.keepIn K (.ref f) = true ∧ Binds K fd ps []
section
variable {Z : Ctx} {e a b c : Expr} {es : List Expr} {ρ : List Slot} {own oa o1 ob : Own} {pos p : Pos} {x y : PyData} {s t u : Slot} {k j : Nat} {ss : List Slot} {z : Str} {ps : List Str} {Pre : Pr} {post : Out → Prop} {R : Slot → Own → Prop}
theorem eg_call (F : Fn Z.X.K Z.X.mg Z.X.prog Z.X.w Z.X.base z ps j Pre) (g : Gd Z k) (hj : j ≤ k) (ha : EA Z (e :: es) ρ (oa ++ o1 ++ ob) ss) (hp : Pre ss o1 post) (h1 : ∀ s o1', post (.ret s o1') → R s (oa ++ o1' ++ ob)) (h2 : ∀ C o1', post (.exc C o1') → Z.ex C ρ (oa ++ o1' ++ ob))
    (hg : Gl Z.X z := by rfl) (hdb : (z == ("__debug__" : Str)) = false := by decide) (he : starEach (e :: es) Z.X.env = (false, eval e Z.X.env) :: starEach es Z.X.env := by rfl) (hpl : (backTo pos (starEach es Z.X.env)).any (·.1) = false := by rfl) :
    EG Z (.Call (.Name z p) (e :: es) [] pos) ρ (oa ++ o1 ++ ob) R := by
  obtain ⟨f, fd, ok, hm, hk, hb⟩ := F.ex
  refine fun Hf σ H S E Q q => wE.of (pe_callS (E := WE (Wish Z)) ok (g.hr.mono hj) hg hm hk hb (fun σ => passAt g.tk σ) paW hdb he hpl) (ha Hf σ H S E _ fun vs Hf1 H1 m1 S1 r1 => ?_)
  refine ⟨Hf1, less H1 (o1.map (·.1)), ss, o1, post, S1.into, r1, hp, fun s own' v Hf' H' hq S' r' hs => ?_, fun C own' Hf' H' hq S' => ?_⟩
  · exact q v Hf' H' s _ (m1.trans S'.e0) (S1.back S') r' hs (h1 s own' hq)
  · exact ⟨C, Hf', ρ, _, rfl, rfl, S1.back S', E.mono (m1.trans S'.e0), h2 C own' hq⟩
/-- a def called upon data, that gives data -/
theorem es_call (F : Fn Z.X.K Z.X.mg Z.X.prog Z.X.w Z.X.base z ps j Pre) (g : Gd Z k) (hj : j ≤ k) (ha : EA Z (e :: es) ρ own ss) (hp : Pre ss [] (fun o => o = .ret (.d x) []))
    (hg : Gl Z.X z := by rfl) (hdb : (z == ("__debug__" : Str)) = false := by decide) (he : starEach (e :: es) Z.X.env = (false, eval e Z.X.env) :: starEach es Z.X.env := by rfl) (hpl : (backTo pos (starEach es Z.X.env)).any (·.1) = false := by rfl) : ED Z (.Call (.Name z p) (e :: es) [] pos) ρ own x := by
  have := eg_call (p := p) (oa := []) (o1 := []) (ob := own) (R := fun t o => t = .d x ∧ o = own) F g hj ha hp (fun s o1' h => by cases h; exact ⟨rfl, rfl⟩) (fun C o1' h => nomatch h) hg hdb he hpl
  exact EG.toES this
end

/-! ### statements with a change of what is owned -/
section
variable {Z : Ctx} {D : DE} {ρ : List Slot} {own : Own} {pos : Pos} {e : Expr} {R : Slot → Own → Prop}
theorem sd_setG (i : Nat) {z : Str} {pos' : Pos} (hN : Z.X.N.Nodup) (he : EG Z e ρ own R) (h : ∀ s own', R s own' → D.nx (ρ.set i s) own') (hi : Z.X.N[i]? = some z := by rfl) (hx : Loc Z.X.env.scope z := by first | exact Or.inl rfl | exact Or.inr rfl) (hs : swapsWith e (some (.Name z pos')) pos.line Z.X.env = pure false := by rfl)
    (hf : Z.X.fn z = true ∨ Z.X.env.scope.names.lookup z = some .local := by first | exact .inl rfl | exact .inr rfl | assumption) : SD Z (.Assign [.Name z pos'] e pos) D ρ own := fun H0 Hf σ H m0 S E => wS.of (ps_set hN hi hx peW hs hf) (he Hf σ H S E _ fun v Hf1 H1 s own' m1 S1 r1 _ q => ⟨Hf1, _, own', m0.trans m1, S1, (E.mono m1).set r1 i, h s own' q⟩)
theorem sd_exprG (he : EG Z e ρ own R) (h : ∀ s own', R s own' → D.nx ρ own') (hs : swapsWith e none pos.line Z.X.env = pure false := by rfl) : SD Z (.Expr e pos) D ρ own := fun H0 Hf σ H m0 S E => wS.of (ps_expr peW hs) (he Hf σ H S E _ fun v Hf1 H1 s own' m1 S1 r1 _ q => ⟨Hf1, ρ, own', m0.trans m1, S1, E.mono m1, h s own' q⟩)
theorem sd_retG (he : EG Z e ρ own R) (h : ∀ s own', R s own' → D.rt s own') : SD Z (.Return (some e) pos) D ρ own := fun H0 Hf σ H m0 S E => wS.of (ps_ret peW) (he Hf σ H S E _ fun v Hf1 H1 s own' m1 S1 r1 hs q => ⟨Hf1, s, own', m0.trans m1, S1, r1, hs, h s own' q⟩)
end

/-! ### raise -/
section
variable {Z : Ctx} {D : DE} {ρ : List Slot} {own : Own} {pos p p2 pos' : Pos} {k : Nat}
/-- a class of errors of the program -/
structure ErrC (K : PySem.W.Frag) (mg : Str → Option Value) (z : Str) (C : Addr) : Prop where
  g : mg z = some (.ref C)
  x : PySem.W.excIn K C [.type "ValueError", .type "Exception", .type "BaseException", .type "object"] "ValueError.__new__" = true
  k : PySem.W.keepIn K (.ref C) = true
  b : PySem.W.subIn K (.ref C) (.type "BaseException") = some true
  t : PySem.W.typeIn K (.ref C) = some (.type "type")
theorem sd_raise {z m : Str} {C : Addr} {j : Nat} (g : Gd Z k) (T : ErrC Z.X.K Z.X.mg z C) (h : Z.ex C ρ own) (hg : Gl Z.X z := by rfl) (hdb : (z == ("__debug__" : Str)) = false := by decide) : SD Z (.Raise (some (.Call (.Name z p) [.Constant (.str m) j p2] [] pos')) none pos) D ρ own := fun H0 Hf σ H m0 S E =>
  wS.of (ps_raise g.calm g.tk (pmk_own PySem.F.excBase_ValueError T.x T.g T.k (raises_own T.b T.t) hg hdb)) ⟨C, Hf, ρ, own, rfl, rfl, S, E, h⟩
end

/-! ### while, augmented assignments, items stored, append -/
section
variable {Z : Ctx} {D : DE} {ρ : List Slot} {own oa ob : Own} {pos tpos : Pos} {body : List Stmt} {c e a b : Expr} {k : Nat} {i j : Int} {s t : Slot} {ds : List PyData} {x : PyData}
theorem sd_while (g : Gd Z k) (I : Nat → List Slot → Own → Prop) (m : Nat) (h0 : I m ρ own)
    (step : ∀ m ρ1 own1, I m ρ1 own1 → ∃ l, ET Z c ρ1 own1 l ∧ (l = true → SDs Z body { D with nx := fun ρ2 own2 => ∃ m', m' < m ∧ I m' ρ2 own2, ct := fun ρ2 own2 => ∃ m', m' < m ∧ I m' ρ2 own2, bk := D.nx } ρ1 own1) ∧ (l = false → D.nx ρ1 own1)) : SD Z (.While c body [] pos) D ρ own := by
  refine fun H0 Hf σ H m0 S E => wS.of (ps_while g.po ptW pssW) ?_
  refine ⟨fun m σ' H' => ∃ Hf' ρ' own', Same H0 Hf' ∧ Sat Z.B Hf' H' own' ∧ EnvR Hf' σ' ρ' ∧ I m ρ' own', ⟨m, Hf, ρ, own, m0, S, E, h0⟩, ?_⟩
  rintro m σ' H' ⟨Hf', ρ', own', m', S', E', q⟩
  obtain ⟨l, ht, h1, h2⟩ := step m ρ' own' q
  refine ht Hf' σ' H' S' E' _ fun Hf2 H2 m2 S2 => ?_
  cases l with
  | true =>
    refine iteT ⟨fun σ3 H3 => ∃ Hf3 ρ3 own3, Same H0 Hf3 ∧ Sat Z.B Hf3 H3 own3 ∧ EnvR Hf3 σ3 ρ3 ∧ ∃ m', m' < m ∧ I m' ρ3 own3, fun σ3 H3 ⟨Hf3, ρ3, own3, m3, S3, E3, m', hm, q3⟩ => ⟨m', hm, Hf3, ρ3, own3, m3, S3, E3, q3⟩, ?_⟩
    exact wSs.imp (h1 rfl H0 Hf2 σ' H2 (m'.trans m2) S2 (E'.mono m2)) (fun _ _ q => q) (fun _ _ q => q) (fun _ _ q => q) (fun _ _ q => q)
  | false => exact iteF ⟨Hf2, ρ', own', m'.trans m2, S2, E'.mono m2, h2 rfl⟩
/-- x op= e for ints -/
theorem sd_aug (n : Nat) {z : Str} {op : Operator} {C : Int → Int → Prop} {f : Int → Int → Int} {pos' : Pos} (ho : OpR Z.X (inplaceOp op) (rI C fun i j => .int (f i j))) (hN : Z.X.N.Nodup) (hv : ρ[n]? = some (.d (.int i))) (he : ED Z e ρ own (.int j)) (hc : C i j) (h : D.nx (ρ.set n (.d (.int (f i j)))) own)
    (hi : Z.X.N[n]? = some z := by rfl) (hx : Loc Z.X.env.scope z := by first | exact Or.inl rfl | exact Or.inr rfl) (hf : Z.X.fn z = true ∨ Z.X.env.scope.names.lookup z = some .local := by first | exact .inl rfl | exact .inr rfl | assumption) : SD Z (.AugAssign (.Name z pos') op e pos) D ρ own := fun H0 Hf σ H m0 S E => wS.of (ps_aug hN hi hx peW ho hf) (by
  obtain ⟨v, hv1, hv2⟩ := E.d hv
  cases hv2
  refine ⟨.int i, hv1, he Hf σ H S E _ fun w Hf1 H1 m1 S1 r1 => ?_⟩
  cases r1
  exact ⟨i, j, rfl, rfl, hc, Hf1, _, own, m0.trans m1, S1, (E.mono m1).set (s := .d (.int (f i j))) (Rep.int _) n, h⟩)
theorem iop_addC {X : Cx} : OpR X (inplaceOp .Add) (rI (fun _ _ => True) fun i j => .int (i + j)) := opI fun _ _ _ _ _ _ _ _ q => iadd_int q
theorem iop_subC {X : Cx} : OpR X (inplaceOp .Sub) (rI (fun _ _ => True) fun i j => .int (i - j)) := opI fun _ _ _ _ _ _ _ _ q => isub_int q
theorem iop_mulW {X : Cx} : OpR X (inplaceOp .Mult) (rI CMulW fun i j => .int (i * j)) := opI fun _ _ _ _ _ _ _ hc q => imul_int q hc.ok
/-- xs[i] = e, xs one's own -/
theorem sd_setitem {p : Addr} {n : Nat} (he : ED Z e ρ (oa ++ (p, .lst ds) :: ob) x) (ha : EV Z a ρ (oa ++ (p, .lst ds) :: ob) (.ref p)) (hb : ED Z b ρ (oa ++ (p, .lst ds) :: ob) (.int i)) (hi : ixN ds.length i = some n) (h : D.nx ρ (oa ++ (p, .lst (ds.set n x)) :: ob))
    (hs : swapsWithSole [.Subscript a b tpos] e pos.line Z.X.env = pure false := by rfl) (hw : swappedStores [.Subscript a b tpos] e Z.X.env = pure none := by rfl) (h1 : (assignEach [.Subscript a b tpos] Z.X.env).map (·.2) = [assign (.Subscript a b tpos) Z.X.env] := by rfl)
    (hq : ∀ v, assign (.Subscript a b tpos) Z.X.env v = (do
      let ov ← holding [v] (eval a Z.X.env)
      let iv ← holding [v, ov] (eval b Z.X.env)
      standAt tpos
      holding [v, ov, iv] (setItem ov iv v)
      release [v, ov, iv] []) := by intro _; rfl) : SD Z (.Assign [.Subscript a b tpos] e pos) D ρ (oa ++ (p, .lst ds) :: ob) := fun H0 Hf σ H m0 S E => wS.of (ps_asg peW (pg_sub peW peW set_list hq) hs hw h1) (he Hf σ H S E _ fun v Hf1 H1 m1 S1 r1 => ha Hf1 σ H1 S1 (E.mono m1) _ fun w Hf2 H2 m2 S2 r2 =>
  hb Hf2 σ H2 S2 (E.mono (m1.trans m2)) _ fun z Hf3 H3 m3 S3 r3 => by
    cases r3
    cases (show w = .ref p from r2)
    obtain ⟨_, _, vs, g1, g2⟩ := S3.at (p := p) (oo := .lst ds) (by simp)
    refine ⟨p, vs, i, n, rfl, rfl, g1, by rw [g2.length]; exact hi, Hf3, ρ, _, ((m0.trans m1).trans m2).trans m3, S3.write (oo' := .lst (ds.set n x)) ⟨_, upd_same, g2.set ((show Rep Hf1 v x from r1).mono (m2.trans m3)) n⟩, E.mono ((m1.trans m2).trans m3), h⟩)
/-- xs.append(e), xs one's own -/
theorem sd_append {p : Addr} {apos cpos : Pos} (ha : EV Z a ρ (oa ++ (p, .lst ds) :: ob) (.ref p)) (he : ED Z e ρ (oa ++ (p, .lst ds) :: ob) x) (hl : ds.length < 100000) (h : D.nx ρ (oa ++ (p, .lst (ds ++ [x])) :: ob))
    (hs0 : swapsWith (.Call (.Attribute a "append" apos) [e] [] cpos) none pos.line Z.X.env = pure false := by rfl) (hbase : attributeBase a "append" Z.X.env (eval a Z.X.env) = eval a Z.X.env := by rfl)
    (hfew : ((backTo cpos (starEach [e] Z.X.env)).all (fun x => !x.1) && (backToKw cpos (keywordEach [] Z.X.env)).all (fun x => x.1.isSome)
      && decide ([e].length + ([] : List Keyword).length + (if ([] : List Keyword).isEmpty then 0 else 1) < 30)) = true := by rfl)
    (hline : (apos.endLine == cpos.line) = true := by rfl) (hs : starEach [e] Z.X.env = (false, eval e Z.X.env) :: starEach [] Z.X.env := by rfl) (hplain : (backTo cpos (starEach [] Z.X.env)).any (·.1) = false := by rfl) :
    SD Z (.Expr (.Call (.Attribute a "append" apos) [e] [] cpos) pos) D ρ (oa ++ (p, .lst ds) :: ob) := fun H0 Hf σ H m0 S E => wS.of (ps_expr (pe_bm PySem.F.plainAttrs_list PySem.F.slot_list_append PySem.F.type_list_append mt_append peW (pa_cons peW pa_nil hs) hbase hfew hline hs hplain) hs0)
  (ha Hf σ H S E _ fun v Hf1 H1 m1 S1 r1 => by
    cases (show v = .ref p from r1)
    obtain ⟨_, _, vs, g1, g2⟩ := S1.at (p := p) (oo := .lst ds) (by simp)
    refine ⟨.inl ⟨rfl, _, SqL.of g1⟩, he Hf1 σ H1 S1 (E.mono m1) _ fun w Hf2 H2 m2 S2 r2 => ?_⟩
    obtain ⟨_, _, vs, g1, g2⟩ := S2.at (p := p) (oo := .lst ds) (by simp)
    refine ⟨p, vs, w, rfl, rfl, g1, by rw [g2.length]; exact Nat.lt_of_lt_of_le hl (by decide), Hf2, ρ, _, (m0.trans m1).trans m2, S2.write (oo' := .lst (ds ++ [x])) ⟨_, upd_same, g2.append (.cons r2 .nil)⟩, E.mono (m1.trans m2), h⟩)
/-- xs[i], by values -/
theorem get_list {X : Cx} : PGet X (rIxL X.K) := by
  intro pins s σ H x y v u Q I rx ry h
  obtain ⟨p, xs, i, z, rfl, rfl, hq, he, q⟩ := h
  cases (show v = Value.ref p from rx)
  obtain ⟨t, rfl⟩ := ry
  obtain ⟨its, r, pl, hz⟩ := I.list hq
  obtain ⟨j, h1, h2, h3, h4, h5⟩ := atI_get he
  obtain ⟨w, ew, rw'⟩ := r.get h2
  have hl := r.length
  have hn := line63
  have fin : EP X pins σ Q w s := ⟨z, H, I, rw', q⟩
  by_cases h0 : 0 ≤ i
  · have hj : i.toNat = j := by
      rw [seqIndex_of h0 h5] at h1
      exact Option.some.inj h1
    exact wpAny_getItem_list pl.isList h0 (by omega) (by rw [hj]; simpa using ew) fin
  · have hj : (i + (its.toArray.size : Int)).toNat = j := by
      rw [seqIndex_neg (by omega) h4] at h1
      rw [List.size_toArray, ← hl]
      exact Option.some.inj h1
    exact wpAny_getItem_list_neg pl.isList (by omega) (by rw [List.size_toArray] <;> omega) (by omega) (by rw [hj]; simpa using ew) fin
theorem atI_ixN {α : Type} {xs : List α} {i : Int} {n : Nat} {v : α} (h : ixN xs.length i = some n) (hv : xs[n]? = some v) : atI xs i = some v := by
  unfold atI
  rw [h]
  exact hv
/-- xs[i] op= e, ints, xs one's own -/
theorem sd_augitem {p : Addr} {n : Nat} {op : Operator} {C : Int → Int → Prop} {f : Int → Int → Int} {y z : Int} (ho : OpR Z.X (inplaceOp op) (rI C fun i j => .int (f i j))) (ha : EV Z a ρ (oa ++ (p, .lst ds) :: ob) (.ref p)) (hb : ED Z b ρ (oa ++ (p, .lst ds) :: ob) (.int i)) (he : ED Z e ρ (oa ++ (p, .lst ds) :: ob) (.int z))
    (hi : ixN ds.length i = some n) (hy : ds[n]? = some (.int y)) (hc : C y z) (h : D.nx ρ (oa ++ (p, .lst (ds.set n (.int (f y z)))) :: ob))
    (hq : ∀ ov iv new, augStore b ov iv new = (do holding [new, ov, iv] (setItem ov iv new); release [new, ov, iv] []; pure .next) := by intros; rfl) : SD Z (.AugAssign (.Subscript a b tpos) op e pos) D ρ (oa ++ (p, .lst ds) :: ob) := fun H0 Hf σ H m0 S E => wS.of (ps_augS peW peW get_list peW ho set_list hq)
  (ha Hf σ H S E _ fun w Hf1 H1 m1 S1 r1 => hb Hf1 σ H1 S1 (E.mono m1) _ fun w2 Hf2 H2 m2 S2 r2 => by
    cases r2
    cases (show w = .ref p from r1)
    obtain ⟨_, _, vs, g1, g2⟩ := S2.at (p := p) (oo := .lst ds) (by simp)
    obtain ⟨u, g3, g4⟩ := g2.get hy
    cases g4
    refine ⟨p, vs, i, .int y, rfl, rfl, SqL.of g1, atI_ixN (by rw [g2.length]; exact hi) g3, he Hf2 σ H2 S2 (E.mono (m1.trans m2)) _ fun w3 Hf3 H3 m3 S3 r3 => ?_⟩
    cases r3
    obtain ⟨_, _, vs, g1, g2⟩ := S3.at (p := p) (oo := .lst ds) (by simp)
    exact ⟨y, z, rfl, rfl, hc, p, vs, i, n, rfl, rfl, g1, by rw [g2.length]; exact hi, Hf3, ρ, _, ((m0.trans m1).trans m2).trans m3, S3.write (oo' := .lst (ds.set n (.int (f y z)))) ⟨_, upd_same, g2.set (.int _) n⟩, E.mono ((m1.trans m2).trans m3), h⟩)
/-- a, b = x, y with plain local names -/
theorem sd_par (n m : Nat) {x y : Str} {px py pt pt2 : Pos} {kt k2 : Nat} {s t : Slot} (g : Gd Z k) (ha : EA Z [a, b] ρ own [s, t]) (h : D.nx ((ρ.set n s).set m t) own) (hi : Z.X.N[n]? = some x := by rfl) (hj : Z.X.N[m]? = some y := by rfl) (hij : n ≠ m := by decide)
    (hx : Z.X.env.scope.names.lookup x = some .local := by rfl) (hy : Z.X.env.scope.names.lookup y = some .local := by rfl)
    (hw : swappedStores [.Tuple [.Name x px, .Name y py] kt pt] (.Tuple [a, b] k2 pt2) Z.X.env = pure (some [x, y]) := by rfl)
    (hs : swapsWithSole [.Tuple [.Name x px, .Name y py] kt pt] (.Tuple [a, b] k2 pt2) pos.line Z.X.env = pure false := by rfl) : SD Z (.Assign [.Tuple [.Name x px, .Name y py] kt pt] (.Tuple [a, b] k2 pt2) pos) D ρ own := fun H0 Hf σ H m0 S E => wS.of (ps_par g.calm g.nd hi hj hij hx hy paW hw hs)
  (ha Hf σ H S E _ fun vs Hf1 H1 m1 S1 r1 => by
    obtain ⟨v, w, rfl, r1, r2⟩ := r1.two
    exact ⟨v, w, rfl, Hf1, _, own, m0.trans m1, S1, ((E.mono m1).set r1 n).set r2 m, h⟩)
end
end Sd


namespace Sd
open PySem PySem.Spec PyProof.Rows L2
/-! ### comprehensions -/
abbrev blkZ (Z : Ctx) (scope : Scope) (s : Shared) (H : Hp) (C : Addr) (cl : List (Str × Addr)) (fp : List Addr) : Ctx := ⟨Z.X.blk s H scope (compEnvC scope cl C Z.X.env) fp, Z.B, fun _ _ _ => False⟩
structure wTs (X : Cx) (ifs : List Expr) (σ : L2.St) (H : Hp) (Q : Bool → Hp → Prop) : Prop where
  run : ∀ (pins : List (Addr × Obj)) (s : Shared), Inv X pins σ H s → wpAny (model X.prog X.w) X.A (forIn ifs true fun c r => if r = true then do let ok ← isTrue c X.env (eval c X.env); pure (ForInStep.yield ok) else pure (ForInStep.yield r)) (TP X pins σ Q) X.xe s
theorem wTs.of {X : Cx} {ifs : List Expr} {t : TT} (h : PTs X ifs t) {σ : L2.St} {H : Hp} {Q : Bool → Hp → Prop} (q : t σ H Q) : wTs X ifs σ H Q := ⟨fun pins s I => h.run pins s σ H Q I q⟩
def ETs (Z : Ctx) (ifs : List Expr) (ρ : List Slot) (own : Own) (b : Bool) : Prop := ∀ Hf σ H, Sat Z.B Hf H own → EnvR Hf σ ρ → ∀ Q : Bool → Hp → Prop, (∀ Hf' H', Same Hf Hf' → Sat Z.B Hf' H' own → Q b H') → wTs Z.X ifs σ H Q
theorem ets_nil {Z : Ctx} {ρ : List Slot} {own : Own} : ETs Z [] ρ own true := fun Hf σ H S R Q q => wTs.of pts_nil (q Hf H (Same.refl _) S)
theorem ets_one {Z : Ctx} {c : Expr} {ρ : List Slot} {own : Own} {l : Bool} (h : ET Z c ρ own l) : ETs Z [c] ρ own l := fun Hf σ H S R Q q => wTs.of (pts_one ptW) (h Hf σ H S R Q q)
theorem Gd.blk {Z : Ctx} {k : Nat} (g : Gd Z k) (scope : Scope) (s : Shared) (H : Hp) (C : Addr) (cl : List (Str × Addr)) (fp : List Addr) : Gd (blkZ Z scope s H C cl fp) k :=
  ⟨Takes.imp takes0 fun _ _ _ _ ⟨_, _, _, _, _, _, _, _, h⟩ => h, PassesOwn.never, g.calm, g.nd, g.hr⟩
theorem wipe_get {σ : L2.St} {i : Nat} : ∀ {vs : List Nat}, (wipe σ vs)[i]? = if i ∈ vs then (σ[i]?).map (fun _ => none) else σ[i]?
  | [] => by simp [wipe]
  | v :: vs => by
    unfold wipe
    by_cases hi : v = i
    · subst hi
      rw [if_pos (by simp)]
      by_cases hl : v < σ.length
      · rw [List.getElem?_set_self (by rw [wipe_length]; exact hl), List.getElem?_eq_getElem hl]
        rfl
      · rw [List.getElem?_eq_none (by rw [List.length_set, wipe_length]; omega), List.getElem?_eq_none (by omega)]
        rfl
    · rw [List.getElem?_set_ne hi, wipe_get]
      by_cases h2 : i ∈ vs
      · rw [if_pos h2, if_pos (List.mem_cons_of_mem _ h2)]
      · rw [if_neg h2, if_neg (by simp only [List.mem_cons, not_or]; exact ⟨fun e => hi e.symm, h2⟩)]
theorem wipe_but {σ σ2 : L2.St} {is vs : List Nat} (hb : But is (wipe σ vs) σ2) (hi : ∀ i ∈ is, i ∈ vs) : wipe σ2 vs = wipe σ vs := by
  refine List.ext_getElem? fun i => ?_
  rw [wipe_get, wipe_get]
  by_cases h : i ∈ vs
  · rw [if_pos h, if_pos h]
    have hl : σ2.length = σ.length := by rw [hb.1, wipe_length]
    by_cases hn : i < σ.length
    · rw [List.getElem?_eq_getElem hn, List.getElem?_eq_getElem (by omega)]
      rfl
    · rw [List.getElem?_eq_none (by omega), List.getElem?_eq_none (by omega)]
  · rw [if_neg h, if_neg h, hb.2 i (fun z => h (hi i z)), wipe_get, if_neg h]
/-- a comprehension: what it needs, and what its list may be at the end -/
def CP (Z : Ctx) (elt tg iter : Expr) (ifs : List Expr) (scope : Scope) (ρ : List Slot) (own : Own) (Fin : List PyData → Own → Prop) : Prop :=
  ∃ (wi : TI) (g : TG) (tt : TT) (te : TE) (on : List (Str × Nat)), PI Z.X tg iter wi ∧ BlkOk Z.X.N Z.X.env.scope scope on ∧ (∀ (s : Shared) (H : Hp) (C : Addr) (cl : List (Str × Addr)) (fp : List Addr), PG (Z.X.blk s H scope (compEnvC scope cl C Z.X.env) fp) tg g) ∧
    (∀ (s : Shared) (H : Hp) (C : Addr) (cl : List (Str × Addr)) (fp : List Addr), PTs (Z.X.blk s H scope (compEnvC scope cl C Z.X.env) fp) ifs tt) ∧ (∀ (s : Shared) (H : Hp) (C : Addr) (cl : List (Str × Addr)) (fp : List Addr), PE (Z.X.blk s H scope (compEnvC scope cl C Z.X.env) fp) elt te) ∧
    ∀ Hf σ H, Sat Z.B Hf H own → EnvR Hf σ ρ → ∀ Q : VK, (∀ p Hf' H' ds own', Same Hf Hf' → Sat Z.B Hf' H' ((p, .lst ds) :: own') → Fin ds own' → Q (.ref p) H') → tLc wi g tt te (on.map (·.2)) σ H Q
section
variable {Z : Ctx} {elt tg iter : Expr} {ifs : List Expr} {scope : Scope} {ρ : List Slot} {own : Own} {Fin : List PyData → Own → Prop} {k : Nat} {Po : Own → Prop} {ys : List PyData} {pos : Pos} {D : DE}
theorem comp (g : Gd Z k) (it : IT Z tg iter ρ own Po ys) (on : List (Str × Nat)) (ok : BlkOk Z.X.N Z.X.env.scope scope on) (I : Nat → List PyData → Own → Prop) (h0 : I 0 [] own) (hpo : ∀ i acc o D, I i acc o → Po ((D, .lst acc) :: o)) (hlen : ∀ i acc o, I i acc o → acc.length < 100000)
    (step : ∀ i y acc o D, ys[i]? = some y → I i acc o → ∃ ρ2 is l, (∀ i ∈ is, i ∈ on.map (·.2)) ∧ (∀ s H C cl fp, GT (blkZ Z scope s H C cl fp) tg y (wipeR ρ (on.map (·.2))) ρ2 is) ∧ (∀ s H C cl fp, ETs (blkZ Z scope s H C cl fp) ifs ρ2 ((D, .lst acc) :: o) l) ∧
      (l = true → ∀ s H C cl fp, EG (blkZ Z scope s H C cl fp) elt ρ2 ((D, .lst acc) :: o) (fun t o2 => ∃ d o', t = .d d ∧ o2 = (D, .lst acc) :: o' ∧ I (i + 1) (acc ++ [d]) o')) ∧ (l = false → I (i + 1) acc o)) :
    CP Z elt tg iter ifs scope ρ own (fun ds o => I ys.length ds o) := by
  obtain ⟨wi, hi, hw⟩ := it
  refine ⟨wi, fun v σ H Q => ∀ s' H' C cl fp, wG (Z.X.blk s' H' scope (compEnvC scope cl C Z.X.env) fp) tg v σ H Q, fun σ H Q => ∀ s' H' C cl fp, wTs (Z.X.blk s' H' scope (compEnvC scope cl C Z.X.env) fp) ifs σ H Q, fun σ H Q => ∀ s' H' C cl fp, wE (Z.X.blk s' H' scope (compEnvC scope cl C Z.X.env) fp) elt σ H Q, on, hi, ok,
    fun s' H' C cl fp => ⟨fun pins s σ H v u Q I r h => (h s' H' C cl fp).run pins s u I r⟩, fun s' H' C cl fp => ⟨fun pins s σ H Q I h => (h s' H' C cl fp).run pins s I⟩, fun s' H' C cl fp => ⟨fun pins s σ H Q I h => (h s' H' C cl fp).run pins s I⟩, fun Hf σ H S E Q q => ?_⟩
  refine hw Hf σ H S E _ fun J Hf1 H1 m1 S1 W D hD => ?_
  refine ⟨fun i m H' => m = ys.length - i ∧ i ≤ ys.length ∧ ∃ Hf' acc o, Same Hf1 Hf' ∧ Sat Z.B Hf' H' ((D, .lst acc) :: o) ∧ I i acc o, ⟨ys.length, by omega, by omega, Hf1, [], own, Same.refl _, S1.newOwn hD ⟨[], upd_same, .nil⟩, h0⟩, ?_⟩
  rintro i m H' ⟨rfl, hil, Hf', acc, o, m', S', q'⟩
  by_cases hlt : i < ys.length
  · refine .inr ⟨W.go i Hf' H' _ m' S' (hpo i acc o D q') hlt, fun H2 => ∃ Hf2 acc2 o2, Same Hf1 Hf2 ∧ Sat Z.B Hf2 H2 ((D, .lst acc2) :: o2) ∧ I (i + 1) acc2 o2, fun H2 ⟨Hf2, acc2, o2, m2, S2, q2⟩ => ⟨ys.length - (i + 1), by omega, rfl, hlt, Hf2, acc2, o2, m2, S2, q2⟩, fun x H2 hx => ?_⟩
    obtain ⟨Hf2, m2, S2, r2⟩ := W.yld i _ Hf' H' _ x H2 m' S' (hpo i acc o D q') (List.getElem?_eq_getElem hlt) hx
    obtain ⟨ρ2, is, l, hin, gt, et, h1, h2⟩ := step i _ acc o D (List.getElem?_eq_getElem hlt) q'
    have E2 : EnvR Hf2 (wipe σ (on.map (·.2))) (wipeR ρ (on.map (·.2))) := (E.mono ((m1.trans m').trans m2)).wipe _
    intro s' H'' C cl fp
    refine gt s' H'' C cl fp _ Hf2 _ H2 x S2 E2 r2 _ fun σ3 E3 b3 => ⟨wipe_but b3 hin, ?_⟩
    intro s' H'' C cl fp
    refine et s' H'' C cl fp Hf2 σ3 H2 S2 E3 _ fun Hf3 H3 m3 S3 => ?_
    cases l with
    | false => exact iteF ⟨Hf3, acc, o, (m'.trans m2).trans m3, S3, h2 rfl⟩
    | true =>
      refine iteT ?_
      intro s' H'' C cl fp
      refine h1 rfl s' H'' C cl fp Hf3 σ3 H3 S3 (E3.mono m3) _ fun v Hf4 H4 t o2 m4 S4 r4 _ hq => ?_
      obtain ⟨d, o', rfl, rfl, hI⟩ := hq
      obtain ⟨_, _, vs, g1, g2⟩ := S4.at (p := D) (oo := .lst acc) (by simp)
      exact ⟨vs, g1, by rw [g2.length]; exact Nat.lt_of_lt_of_le (hlen _ _ _ q') (by decide), Hf4, acc ++ [d], o', ((m'.trans m2).trans m3).trans m4, S4.write (oa := []) (oo' := .lst (acc ++ [d])) ⟨_, upd_same, g2.append (.cons r4 .nil)⟩, hI⟩
  · have e : i = ys.length := by omega
    subst e
    exact .inl ⟨W.stop _ Hf' H' _ m' S' (hpo _ _ _ _ q') (Nat.le_refl _), q D Hf' H' acc o (m1.trans m') S' q'⟩
theorem eg_comp (g : Gd Z k) (h : CP Z elt tg iter ifs scope ρ own Fin) (hs : ∀ x, foldedSetIterable iter Z.X.env x = pure x := by intro _; rfl) : EG Z (.ListComp elt [⟨tg, iter, ifs, 0⟩] scope pos) ρ own (fun s o => ∃ p ds o', s = .raw (.ref p) ∧ o = (p, .lst ds) :: o' ∧ Fin ds o') := by
  obtain ⟨wi, gg, tt, te, on, hi, ok, hg, ht, he, hq⟩ := h
  exact fun Hf σ H S E Q q => wE.of (pe_lc g.calm g.nd hi ok hg ht he hs) (hq Hf σ H S E Q fun p Hf' H' ds own' m S' hf => q _ Hf' H' (.raw (.ref p)) _ m S' rfl (fun z => nomatch z) ⟨p, ds, own', rfl, rfl, hf⟩)
theorem el_comp {ds : List PyData} (g : Gd Z k) (h : CP Z elt tg iter ifs scope ρ own (fun xs o => xs = ds ∧ o = own)) (hs : ∀ x, foldedSetIterable iter Z.X.env x = pure x := by intro _; rfl) : EL Z (.ListComp elt [⟨tg, iter, ifs, 0⟩] scope pos) ρ own ds :=
  EG.toEL ((eg_comp g h hs).imp fun s o ⟨p, xs, o', e1, e2, e3, e4⟩ => ⟨p, e1, by rw [e2, e3, e4]⟩)
/-- name = [..] on one line -/
theorem sd_setC (n : Nat) {y : Str} {py spos : Pos} (g : Gd Z k) (h : CP Z elt tg iter ifs scope ρ own Fin) (hn : ∀ p ds o', Fin ds o' → D.nx (ρ.set n (.raw (.ref p))) ((p, .lst ds) :: o'))
    (hsw : swapsWith (.ListComp elt [⟨tg, iter, ifs, 0⟩] scope pos) (some (.Name y py)) spos.line Z.X.env = pure true) (hy : Z.X.N[n]? = some y := by rfl) (hyl : Z.X.env.scope.names.lookup y = some .local := by rfl) (hs : ∀ x, foldedSetIterable iter Z.X.env x = pure x := by intro _; rfl) :
    SD Z (.Assign [.Name y py] (.ListComp elt [⟨tg, iter, ifs, 0⟩] scope pos) spos) D ρ own := by
  obtain ⟨wi, gg, tt, te, on, hi, ok, hg, ht, he, hq⟩ := h
  exact fun H0 Hf σ H m0 S E => wS.of (ps_setLc g.calm g.nd hy hyl hsw hi ok hg ht he hs) (hq Hf σ H S E _ fun p Hf' H' ds own' m S' hf => ⟨Hf', _, _, m0.trans m, S', (E.mono m).set (s := .raw (.ref p)) rfl n, hn p ds own' hf⟩)
/-- .. whose elements change nothing -/
theorem compP {α : Type} (g : Gd Z k) (it : IT Z tg iter ρ own Po ys) (on : List (Str × Nat)) (ok : BlkOk Z.X.N Z.X.env.scope scope on) (xs : List α) (enc : α → PyData) (hy : ys = xs.map enc) (F : α → Option PyData) (ρ2 : α → List Slot) (is : List Nat)
    (his : ∀ i ∈ is, i ∈ on.map (·.2)) (hl : xs.length < 100000) (hpo : ∀ acc D, Po ((D, .lst acc) :: own)) (gt : ∀ a ∈ xs, ∀ s H C cl fp, Gd (blkZ Z scope s H C cl fp) k → GT (blkZ Z scope s H C cl fp) tg (enc a) (wipeR ρ (on.map (·.2))) (ρ2 a) is)
    (et : ∀ a ∈ xs, ∀ s H C cl fp o, Gd (blkZ Z scope s H C cl fp) k → ETs (blkZ Z scope s H C cl fp) ifs (ρ2 a) o (F a).isSome) (ed : ∀ a ∈ xs, ∀ d, F a = some d → ∀ s H C cl fp o, Gd (blkZ Z scope s H C cl fp) k → ED (blkZ Z scope s H C cl fp) elt (ρ2 a) o d) :
    CP Z elt tg iter ifs scope ρ own (fun ds o => ds = xs.filterMap F ∧ o = own) := by
  subst hy
  have := comp (Po := Po) (ys := xs.map enc) (elt := elt) (ifs := ifs) (scope := scope) g it on ok (fun i acc o => acc = (xs.take i).filterMap F ∧ o = own ∧ i ≤ xs.length) ⟨rfl, rfl, Nat.zero_le _⟩ (fun i acc o D h => by rw [h.2.1]; exact hpo acc D) (fun i acc o h => by
    rw [h.1]
    have h1 := List.length_filterMap_le F (xs.take i)
    rw [List.length_take] at h1
    omega) (fun i y acc o D hy h => by
      obtain ⟨rfl, rfl, hi⟩ := h
      rw [List.getElem?_map] at hy
      cases ea : xs[i]? with
      | none => rw [ea] at hy; cases hy
      | some a =>
        rw [ea] at hy
        cases hy
        have hm : a ∈ xs := List.mem_of_getElem? ea
        have hlt : i < xs.length := (List.getElem?_eq_some_iff.mp ea).1
        have tk : (xs.take (i + 1)).filterMap F = (xs.take i).filterMap F ++ (F a).toList := by
          rw [List.take_add_one, ea, List.filterMap_append]
          cases hF : F a <;> simp [hF]
        refine ⟨ρ2 a, is, (F a).isSome, his, fun s H C cl fp => gt a hm s H C cl fp (g.blk ..), fun s H C cl fp => et a hm s H C cl fp _ (g.blk ..), fun hs s H C cl fp => ?_, fun hs => ?_⟩
        · obtain ⟨d, hd⟩ := Option.isSome_iff_exists.mp hs
          exact ES.toEG (ed a hm d hd s H C cl fp _ (g.blk ..)) (fun z => nomatch z) ⟨d, o, rfl, rfl, by rw [tk, hd]; rfl, rfl, hlt⟩
        · refine ⟨?_, rfl, hlt⟩
          rw [tk]
          cases hF : F a with
          | none => simp
          | some d => rw [hF] at hs; cases hs)
  obtain ⟨a1, a2, a3, a4, a5, b1, b2, b3, b4, b5, b6⟩ := this
  refine ⟨a1, a2, a3, a4, a5, b1, b2, b3, b4, b5, fun Hf σ H S E Q q => b6 Hf σ H S E Q fun p Hf' H' ds own' m S' hf => q p Hf' H' ds own' m S' ⟨?_, hf.2.1⟩⟩
  rw [hf.1, List.length_map, List.take_length]
end

/-! ### more values -/
section
variable {Z : Ctx} {D : DE} {e a b : Expr} {ρ : List Slot} {own oa ob : Own} {pos p1 p2 p3 : Pos} {s t : Slot} {k j : Nat} {ds ys : List PyData}
end
end Sd


namespace Sd
open PySem PySem.Spec PyProof.Rows L2
/-! ### lists of values, one's own (raw); items with a change of what is owned -/
section
variable {Z : Ctx} {D : DE} {e a b c : Expr} {es : List Expr} {ρ : List Slot} {own oa ob : Own} {pos tpos p : Pos} {i j : Int} {s t : Slot} {k : Nat} {ds : List PyData} {x : PyData} {q : Addr} {vs : List V} {R : Slot → Own → Prop}
theorem es_ixR {v : V} (hq : (q, OO.raw (.lst vs)) ∈ own) (ha : EV Z a ρ own (.ref q)) (hb : ED Z b ρ own (.int i)) (h : atI vs i = some v) (hs : ∀ H, SlotR H v s) (hp : PlainIx b := by exact fun _ _ => rfl) : ES Z (.Subscript a b pos) ρ own s := fun Hf σ H S E Q k =>
  wE.of (pe_ix ix_list peW peW hp) (ha Hf σ H S E _ fun w Hf1 H1 m1 S1 r1 => hb Hf1 σ H1 S1 (E.mono m1) _ fun w2 Hf2 H2 m2 S2 r2 => by
    cases r2
    cases (show w = .ref q from r1)
    obtain ⟨_, _, g⟩ := S2.at hq
    exact ⟨q, vs, i, v, rfl, rfl, SqL.of g, h, k v Hf2 H2 (m1.trans m2) S2 (hs _)⟩)
theorem sd_setitemR {v : V} {n : Nat} (he : ES Z e ρ (oa ++ (q, .raw (.lst vs)) :: ob) s) (hv : ∀ H w, SlotR H w s → w = v) (ha : EV Z a ρ (oa ++ (q, .raw (.lst vs)) :: ob) (.ref q)) (hb : ED Z b ρ (oa ++ (q, .raw (.lst vs)) :: ob) (.int i)) (hi : ixN vs.length i = some n) (h : D.nx ρ (oa ++ (q, .raw (.lst (vs.set n v))) :: ob))
    (hs : swapsWithSole [.Subscript a b tpos] e pos.line Z.X.env = pure false := by rfl) (hw : swappedStores [.Subscript a b tpos] e Z.X.env = pure none := by rfl) (h1 : (assignEach [.Subscript a b tpos] Z.X.env).map (·.2) = [assign (.Subscript a b tpos) Z.X.env] := by rfl)
    (hq : ∀ v, assign (.Subscript a b tpos) Z.X.env v = (do
      let ov ← holding [v] (eval a Z.X.env)
      let iv ← holding [v, ov] (eval b Z.X.env)
      standAt tpos
      holding [v, ov, iv] (setItem ov iv v)
      release [v, ov, iv] []) := by intro _; rfl) : SD Z (.Assign [.Subscript a b tpos] e pos) D ρ (oa ++ (q, .raw (.lst vs)) :: ob) := fun H0 Hf σ H m0 S E => wS.of (ps_asg peW (pg_sub peW peW set_list hq) hs hw h1) (he Hf σ H S E _ fun v1 Hf1 H1 m1 S1 r1 => ha Hf1 σ H1 S1 (E.mono m1) _ fun w Hf2 H2 m2 S2 r2 =>
  hb Hf2 σ H2 S2 (E.mono (m1.trans m2)) _ fun z Hf3 H3 m3 S3 r3 => by
    cases r3
    cases (show w = .ref q from r2)
    cases hv _ _ r1
    obtain ⟨_, _, g⟩ := S3.at (p := q) (oo := .raw (.lst vs)) (by simp)
    exact ⟨q, vs, i, n, rfl, rfl, g, hi, Hf3, ρ, _, ((m0.trans m1).trans m2).trans m3, S3.write (oo' := .raw (.lst (vs.set n v))) upd_same, E.mono ((m1.trans m2).trans m3), h⟩)
/-- xs[..], the place with a change -/
theorem eg_ixL {P : Int → Own → Prop} (ha : ED Z a ρ own (.list ds)) (hb : EG Z b ρ own fun t o => ∃ i, t = .d (.int i) ∧ P i o) (h : ∀ i o, P i o → ∃ d, atI ds i = some d ∧ R (.d d) o) (hp : PlainIx b := by exact fun _ _ => rfl) : EG Z (.Subscript a b pos) ρ own R := fun Hf σ H S E Q k =>
  wE.of (pe_ix ix_list peW peW hp) (ha Hf σ H S E _ fun v Hf1 H1 m1 S1 r1 => hb Hf1 σ H1 S1 (E.mono m1) _ fun w Hf2 H2 t o m2 S2 r2 _ hq => by
    obtain ⟨i, rfl, hq⟩ := hq
    obtain ⟨d, h1, h2⟩ := h i o hq
    obtain ⟨p, vs, rfl, g1, g2⟩ := (Lst.d (own := o)).at S2 (r1.mono m2)
    cases r2
    obtain ⟨z, h3, h4⟩ := atI_rep g2 h1
    exact ⟨p, vs, i, z, rfl, rfl, SqL.of g1, h3, k z Hf2 H2 (.d d) o (m1.trans m2) S2 h4 (fun z => nomatch z) h2⟩)
/-- a new list turned into data -/
theorem EG.frz {P : List PyData → Own → Prop} (h : EG Z e ρ own fun s o => ∃ p ds o', s = .raw (.ref p) ∧ o = (p, .lst ds) :: o' ∧ P ds o') (hR : ∀ ds o, P ds o → R (.d (.list ds)) o) : EG Z e ρ own R := fun Hf σ H S E Q k => h Hf σ H S E Q fun v Hf1 H1 s o m1 S1 r1 hs hq => by
  obtain ⟨p, ds, o', rfl, rfl, hq⟩ := hq
  obtain ⟨Hf2, m2, S2, r2⟩ := Sat.freeze (oa := []) S1
  cases (show v = .ref p from r1)
  exact k _ Hf2 H1 (.d (.list ds)) o' (m1.trans m2) S2 r2 (fun z => nomatch z) (hR ds o' hq)
/-- arguments, the first with a change -/
def EAG (Z : Ctx) (es : List Expr) (ρ : List Slot) (own : Own) (R : List Slot → Own → Prop) : Prop := ∀ Hf σ H, Sat Z.B Hf H own → EnvR Hf σ ρ → ∀ Q : List V → Hp → Prop, (∀ vs Hf' H' ss own', Same Hf Hf' → Sat Z.B Hf' H' own' → SlotsR Hf' vs ss → R ss own' → Q vs H') → wA Z.X es σ H Q
theorem EA.toEAG {ss : List Slot} {R : List Slot → Own → Prop} (h : EA Z es ρ own ss) (q : R ss own) : EAG Z es ρ own R := fun Hf σ H S E Q k => h Hf σ H S E Q fun vs Hf' H' m S' r => k vs Hf' H' ss own m S' r q
theorem eag_cons {R : List Slot → Own → Prop} {P : Slot → Own → Prop} (h : EG Z e ρ own P) (hr : ∀ s o, P s o → s ≠ .un → EAG Z es ρ o (fun ss o' => R (s :: ss) o')) (hs : starEach (e :: es) Z.X.env = (false, eval e Z.X.env) :: starEach es Z.X.env := by rfl) : EAG Z (e :: es) ρ own R := fun Hf σ H S E Q k => wA.of (pa_cons peW paW hs) (h Hf σ H S E _ fun v Hf1 H1 s o m1 S1 r1 hu q1 =>
  hr s o q1 hu Hf1 σ H1 S1 (E.mono m1) _ fun vs Hf2 H2 ss o2 m2 S2 r2 q2 => k (v :: vs) Hf2 H2 (s :: ss) o2 (m1.trans m2) S2 (.cons (r1.mono m2) r2) q2)
end
/-! ### a range whose end changes what is owned, walked by a comprehension -/
section
variable {Z : Ctx} {elt tg iter a : Expr} {ifs : List Expr} {scope : Scope} {ρ : List Slot} {own : Own} {k : Nat} {pos p : Pos}
def ITG (Z : Ctx) (tg iter : Expr) (ρ : List Slot) (own : Own) (P : List PyData → Own → Prop) : Prop := ∃ wi : TI, PI Z.X tg iter wi ∧ ∀ Hf σ H, Sat Z.B Hf H own → EnvR Hf σ ρ → ∀ R : It → Hp → Prop, (∀ J Hf' H' ys own', Same Hf Hf' → Sat Z.B Hf' H' own' → P ys own' → Walk Z.B J Hf' ys (fun _ => True) → R J H') → wi σ H R
theorem itg_range1 {P : Int → Own → Prop} (hm : Z.X.mg "range" = none) (h : EG Z a ρ own fun t o => ∃ i, t = .d (.int i) ∧ (-1000000 ≤ i ∧ i ≤ 1000000) ∧ P i o) (hg : Gl Z.X "range" := by rfl) (hs : starEach [a] Z.X.env = [(false, eval a Z.X.env)] := by rfl) : ITG Z tg (.Call (.Name "range" p) [a] [] pos) ρ own (fun ys o => ∃ i, ys = rng 0 i.toNat ∧ P i o) :=
  ⟨_, pi_range1 hg hm paW hs, fun Hf σ H S E R q => (eag_cons (R := fun ss o => ∃ i, ss = [.d (.int i)] ∧ (-1000000 ≤ i ∧ i ≤ 1000000) ∧ P i o) h (fun s o hq _ => by
      obtain ⟨i, rfl, hi, hp⟩ := hq
      exact EA.toEAG ea_nil ⟨i, rfl, hi, hp⟩) hs) Hf σ H S E _ fun vs Hf1 H1 ss o m1 S1 r1 hq => by
    obtain ⟨i, rfl, hi, hp⟩ := hq
    obtain ⟨v, rfl, r⟩ := r1.one
    cases r
    exact ⟨i, rfl, by omega, by omega, q _ Hf1 H1 _ _ m1 S1 ⟨i, rfl, hp⟩ (walk_rng 0 _)⟩⟩
theorem compG {P : List PyData → Own → Prop} (g : Gd Z k) (it : ITG Z tg iter ρ own P) (on : List (Str × Nat)) (ok : BlkOk Z.X.N Z.X.env.scope scope on) (I : List PyData → Nat → List PyData → Own → Prop) (h0 : ∀ ys o, P ys o → I ys 0 [] o) (hlen : ∀ ys i acc o, I ys i acc o → acc.length < 100000)
    (step : ∀ ys i y acc o D, ys[i]? = some y → I ys i acc o → ∃ ρ2 is l, (∀ i ∈ is, i ∈ on.map (·.2)) ∧ (∀ s H C cl fp, GT (blkZ Z scope s H C cl fp) tg y (wipeR ρ (on.map (·.2))) ρ2 is) ∧ (∀ s H C cl fp, ETs (blkZ Z scope s H C cl fp) ifs ρ2 ((D, .lst acc) :: o) l) ∧
      (l = true → ∀ s H C cl fp, EG (blkZ Z scope s H C cl fp) elt ρ2 ((D, .lst acc) :: o) (fun t o2 => ∃ d o', t = .d d ∧ o2 = (D, .lst acc) :: o' ∧ I ys (i + 1) (acc ++ [d]) o')) ∧ (l = false → I ys (i + 1) acc o)) :
    CP Z elt tg iter ifs scope ρ own (fun ds o => ∃ ys, I ys ys.length ds o) := by
  obtain ⟨wi, hi, hw⟩ := it
  refine ⟨wi, fun v σ H Q => ∀ s' H' C cl fp, wG (Z.X.blk s' H' scope (compEnvC scope cl C Z.X.env) fp) tg v σ H Q, fun σ H Q => ∀ s' H' C cl fp, wTs (Z.X.blk s' H' scope (compEnvC scope cl C Z.X.env) fp) ifs σ H Q, fun σ H Q => ∀ s' H' C cl fp, wE (Z.X.blk s' H' scope (compEnvC scope cl C Z.X.env) fp) elt σ H Q, on, hi, ok,
    fun s' H' C cl fp => ⟨fun pins s σ H v u Q I r h => (h s' H' C cl fp).run pins s u I r⟩, fun s' H' C cl fp => ⟨fun pins s σ H Q I h => (h s' H' C cl fp).run pins s I⟩, fun s' H' C cl fp => ⟨fun pins s σ H Q I h => (h s' H' C cl fp).run pins s I⟩, fun Hf σ H S E Q q => ?_⟩
  refine hw Hf σ H S E _ fun J Hf1 H1 ys own1 m1 S1 hP W D hD => ?_
  refine ⟨fun i m H' => m = ys.length - i ∧ i ≤ ys.length ∧ ∃ Hf' acc o, Same Hf1 Hf' ∧ Sat Z.B Hf' H' ((D, .lst acc) :: o) ∧ I ys i acc o, ⟨ys.length, by omega, by omega, Hf1, [], own1, Same.refl _, S1.newOwn hD ⟨[], upd_same, .nil⟩, h0 ys own1 hP⟩, ?_⟩
  rintro i m H' ⟨rfl, hil, Hf', acc, o, m', S', q'⟩
  by_cases hlt : i < ys.length
  · refine .inr ⟨W.go i Hf' H' _ m' S' trivial hlt, fun H2 => ∃ Hf2 acc2 o2, Same Hf1 Hf2 ∧ Sat Z.B Hf2 H2 ((D, .lst acc2) :: o2) ∧ I ys (i + 1) acc2 o2, fun H2 ⟨Hf2, acc2, o2, m2, S2, q2⟩ => ⟨ys.length - (i + 1), by omega, rfl, hlt, Hf2, acc2, o2, m2, S2, q2⟩, fun x H2 hx => ?_⟩
    obtain ⟨Hf2, m2, S2, r2⟩ := W.yld i _ Hf' H' _ x H2 m' S' trivial (List.getElem?_eq_getElem hlt) hx
    obtain ⟨ρ2, is, l, hin, gt, et, h1, h2⟩ := step ys i _ acc o D (List.getElem?_eq_getElem hlt) q'
    have E2 : EnvR Hf2 (wipe σ (on.map (·.2))) (wipeR ρ (on.map (·.2))) := (E.mono ((m1.trans m').trans m2)).wipe _
    intro s' H'' C cl fp
    refine gt s' H'' C cl fp _ Hf2 _ H2 x S2 E2 r2 _ fun σ3 E3 b3 => ⟨wipe_but b3 hin, ?_⟩
    intro s' H'' C cl fp
    refine et s' H'' C cl fp Hf2 σ3 H2 S2 E3 _ fun Hf3 H3 m3 S3 => ?_
    cases l with
    | false => exact iteF ⟨Hf3, acc, o, (m'.trans m2).trans m3, S3, h2 rfl⟩
    | true =>
      refine iteT ?_
      intro s' H'' C cl fp
      refine h1 rfl s' H'' C cl fp Hf3 σ3 H3 S3 (E3.mono m3) _ fun v Hf4 H4 t o2 m4 S4 r4 _ hq => ?_
      obtain ⟨d, o', rfl, rfl, hI⟩ := hq
      obtain ⟨_, _, vs, g1, g2⟩ := S4.at (p := D) (oo := .lst acc) (by simp)
      exact ⟨vs, g1, by rw [g2.length]; exact Nat.lt_of_lt_of_le (hlen _ _ _ _ q') (by decide), Hf4, acc ++ [d], o', ((m'.trans m2).trans m3).trans m4, S4.write (oa := []) (oo' := .lst (acc ++ [d])) ⟨_, upd_same, g2.append (.cons r4 .nil)⟩, hI⟩
  · have e : i = ys.length := by omega
    subst e
    exact .inl ⟨W.stop _ Hf' H' _ m' S' trivial (Nat.le_refl _), q D Hf' H' acc o (m1.trans m') S' ⟨ys, q'⟩⟩
end
/-! ### a def of the text as the top has left it -/
structure Df (K : PySem.W.Frag) (mg : Str → Option Value) (z : Str) (st : Stmt) (ps : List Str) : Prop where
  ex : ∃ f fd, Fun K z z st f fd ∧ mg z = some (.ref f) ∧ ∀ us : List Value, us.length = ps.length → bindArgs fd ⟨us, []⟩ = pure (ps.zip us)
theorem Df.fn {K : PySem.W.Frag} {mg : Str → Option Value} {P : Program} {w : World} {base : Heap} {z : Str} {st : Stmt} {ps : List Str} {k : Nat} {Pre : Pr} (D : Df K mg z st ps) (h : ∀ f fd, Fun K z z st f fd → FnOk P w K mg base (L2.CX P w) k f fd ps (spG Pre)) : Fn K mg P w base z ps k Pre := by
  obtain ⟨f, fd, F, hm, hb⟩ := D.ex
  exact ⟨f, fd, h f fd F, hm, F.kp, Binds.all hb⟩
theorem df_mk {K : PySem.W.Frag} {mg : Str → Option Value} {h : Heap} {z : Str} {st : Stmt} {ps : List Str} {f : Addr} {oc : Value} {od an : Option Addr} {sl : Array (Option Value)} {kV dc pm cd ct : Value} (X : K.In h) (G : h.Ns mainGlobals mg)
    (hb : ∀ (kV doc pm : Value) (an : Option Addr) (cdv ct : Value) (us : List Value), us.length = ps.length → bindArgs (PySem.W.fnOf z z (defArgs st) (defBody st) (defScope st) .none kV doc pm an cdv ct) ⟨us, []⟩ = pure (ps.zip us))
    (a : PySem.W.nsIn K mainGlobals z = some (some (.ref f))) (l : K.lookup f = some ⟨oc, od, .func (PySem.W.fnOf z z (defArgs st) (defBody st) (defScope st) .none kV dc pm an cd ct), sl⟩) (c : PySem.W.codeIn K cd z = true) (k : PySem.W.keepIn K (.ref f) = true) : Df K mg z st ps :=
  have F := fun_mk (st := st) l c k
  ⟨f, _, F, PySem.W.mg_of X G a, fun us hl => hb _ _ _ _ _ _ us hl⟩
theorem err_mk {K : PySem.W.Frag} {mg : Str → Option Value} {h : Heap} {z : Str} {C : Addr} (X : K.In h) (G : h.Ns mainGlobals mg) (a : PySem.W.nsIn K mainGlobals z = some (some (.ref C)))
    (x : PySem.W.excIn K C [.type "ValueError", .type "Exception", .type "BaseException", .type "object"] "ValueError.__new__" = true) (k : PySem.W.keepIn K (.ref C) = true) (b : PySem.W.subIn K (.ref C) (.type "BaseException") = some true) (t : PySem.W.typeIn K (.ref C) = some (.type "type")) : ErrC K mg z C := ⟨PySem.W.mg_of X G a, x, k, b, t⟩
/-- the classes of the program -/
structure Cl where
  DayError : Addr
  BadYear : Addr
  BadDay : Addr
  BadNumber : Addr
  BadShare : Addr
  BadText : Addr
  NotFound : Addr
  Calendar : Addr
end Sd


/-! fractions as data, sizes -/
namespace Sd
open PySem PySem.Spec PyProof.Rows L2
def fr (q : Rat) : PyData := .tuple [.int q.num, .int (q.den : Int)]
theorem low_eq (a b : Int) (hb : 0 < b) : ((a : Rat) / b).num = a / (Int.gcd a b) ∧ (((a : Rat) / b).den : Int) = b / (Int.gcd a b) := by
  rw [← Rat.divInt_eq_div]
  refine ⟨?_, ?_⟩
  · rw [Rat.num_divInt, Int.sign_eq_one_of_pos hb, Int.one_mul, Int.gcd_comm]
  · rw [Rat.den_divInt, if_neg (by omega), Int.gcd_comm, Int.natCast_ediv, Int.natAbs_of_nonneg (by omega)]
theorem fr_low (a b : Int) (hb : 0 < b) : PyData.tuple [.int (a / (Int.gcd a b : Nat)), .int (b / (Int.gcd a b : Nat))] = fr ((a : Rat) / b) := by
  unfold fr
  rw [(low_eq a b hb).1, (low_eq a b hb).2]
theorem den_pos (q : Rat) : (0 : Int) < (q.den : Int) := by
  have := q.den_nz
  omega
theorem num_den (q : Rat) : (q.num : Rat) / ((q.den : Int) : Rat) = q := by
  rw [← Rat.divInt_eq_div, Rat.num_divInt_den]
theorem den_ne (q : Rat) : ((q.den : Int) : Rat) ≠ 0 := by
  intro h
  have : (q.den : Int) = 0 := by exact_mod_cast h
  have := den_pos q
  omega
theorem num_eq (q : Rat) : (q.num : Rat) = q * ((q.den : Int) : Rat) := by
  have h := num_den q
  have h2 := den_ne q
  grind
theorem eqv_fr (p q : Rat) : PyData.eqv (fr p) (fr q) = decide (p = q) := by
  have e : PyData.eqv (fr p) (fr q) = (decide (p.num = q.num) && decide ((p.den : Int) = (q.den : Int))) := by
    simp [fr, PyData.eqv, PyData.eqvAll, Bool.beq_eq_decide_eq]
  rw [e, Bool.eq_iff_iff]
  simp only [Bool.and_eq_true, decide_eq_true_eq]
  constructor
  · rintro ⟨h1, h2⟩
    exact Rat.ext h1 (by omega)
  · rintro rfl
    exact ⟨rfl, rfl⟩
/-! shapes -/
def Shp (n : Nat) (d : PyData) : Prop := d.canLay0 = true ∧ d.depth ≤ n
theorem Shp.shaped {n : Nat} {d : PyData} (h : Shp n d) (hn : n ≤ 64) : SeqAt.shaped d = true := by
  unfold SeqAt.shaped
  rw [h.1, decide_eq_true (Nat.le_trans h.2 hn)]
  rfl
theorem depthAll_le {n : Nat} : ∀ {ds : List PyData}, (∀ d ∈ ds, d.depth ≤ n) → PyData.depthAll ds ≤ n
  | [], _ => Nat.zero_le _
  | d :: ds, h => by
    unfold PyData.depthAll
    exact Nat.max_le.mpr ⟨h d (by simp), depthAll_le fun x hx => h x (by simp [hx])⟩
theorem canAll_of : ∀ {ds : List PyData}, (∀ d ∈ ds, d.canLay0 = true) → PyData.canLayAll0 ds = true
  | [], _ => by simp [PyData.canLayAll0]
  | d :: ds, h => by
    unfold PyData.canLayAll0
    rw [h d (by simp), canAll_of fun x hx => h x (by simp [hx])]
    rfl
theorem shp_int (i : Int) : Shp 0 (.int i) := ⟨by simp [PyData.canLay0], by simp [PyData.depth]⟩
theorem shp_bool (i : Bool) : Shp 0 (.bool i) := ⟨by simp [PyData.canLay0], by simp [PyData.depth]⟩
theorem shp_list {n : Nat} {ds : List PyData} (h : ∀ d ∈ ds, Shp n d) : Shp (n + 1) (.list ds) := ⟨by unfold PyData.canLay0; exact canAll_of fun d hd => (h d hd).1, by unfold PyData.depth; have := depthAll_le (n := n) fun d hd => (h d hd).2; omega⟩
theorem shp_tup {n : Nat} {ds : List PyData} (h : ∀ d ∈ ds, Shp n d) : Shp (n + 1) (.tuple ds) := ⟨by unfold PyData.canLay0; exact canAll_of fun d hd => (h d hd).1, by unfold PyData.depth; have := depthAll_le (n := n) fun d hd => (h d hd).2; omega⟩
theorem shp_fr (q : Rat) : Shp 1 (fr q) := shp_tup fun d hd => by
  simp only [List.mem_cons, List.not_mem_nil, or_false] at hd
  rcases hd with rfl | rfl <;> exact shp_int _
theorem shp_ints (ns : List Int) : Shp 1 (.list (ns.map PyData.int)) := shp_list fun d hd => by
  obtain ⟨n, _, rfl⟩ := List.mem_map.mp hd
  exact shp_int n
theorem sh_fr (q : Rat) : SeqAt.shaped (fr q) = true := (shp_fr q).shaped (by decide)
theorem sh_ints (ns : List Int) : SeqAt.shaped (.list (ns.map PyData.int)) = true := (shp_ints ns).shaped (by decide)
def Sz (n : Nat) (i : Int) : Prop := i.natAbs < 2 ^ n
def Sq (n : Nat) (q : Rat) : Prop := q.num.natAbs < 2 ^ n ∧ q.den < 2 ^ n
theorem pow_le {m n : Nat} (h : m ≤ n) : 2 ^ m ≤ 2 ^ n := Nat.pow_le_pow_right (by decide) h
theorem Sz.mono {m n : Nat} {i : Int} (h : Sz m i) (hn : m ≤ n) : Sz n i := Nat.lt_of_lt_of_le h (pow_le hn)
theorem Sq.mono {m n : Nat} {q : Rat} (h : Sq m q) (hn : m ≤ n) : Sq n q := ⟨Nat.lt_of_lt_of_le h.1 (pow_le hn), Nat.lt_of_lt_of_le h.2 (pow_le hn)⟩
theorem Sz.mul {m n : Nat} {i j : Int} (h : Sz m i) (h' : Sz n j) : Sz (m + n) (i * j) := wide_lt h h'
theorem Sz.add {m n : Nat} {i j : Int} (h : Sz m i) (h' : Sz n j) : Sz (max m n + 1) (i + j) := by
  have h1 := (h.mono (Nat.le_max_left m n))
  have h2 := (h'.mono (Nat.le_max_right m n))
  unfold Sz at *
  rw [Nat.pow_succ]
  omega
theorem Sz.neg {m : Nat} {i : Int} (h : Sz m i) : Sz m (-i) := by unfold Sz at *; rw [Int.natAbs_neg]; exact h
theorem Sz.sub {m n : Nat} {i j : Int} (h : Sz m i) (h' : Sz n j) : Sz (max m n + 1) (i - j) := by rw [Int.sub_eq_add_neg]; exact h.add h'.neg
theorem Sq.num {m : Nat} {q : Rat} (h : Sq m q) : Sz m q.num := h.1
theorem Sq.den {m : Nat} {q : Rat} (h : Sq m q) : Sz m (q.den : Int) := by unfold Sz; rw [Int.natAbs_natCast]; exact h.2
theorem cmul_of {a b : Nat} {i j : Int} (ha : Sz a i) (hb : Sz b j) (h : a + b ≤ 999998) : CMulW i j := wide_mul (a := a + 1) (b := b + 1) (ha.mono (by omega)) (hb.mono (by omega)) (by omega) (by omega) (by omega)
theorem cdiv_of {b : Nat} {i j : Int} (h : 0 < j) (hb : Sz b j) (h9 : b ≤ 8999) : CDivW i j := wide_div (b := b + 1) h (hb.mono (by omega)) (by omega) (by omega)
theorem ediv_le_natAbs (a : Int) (g : Nat) (hd : (g : Int) ∣ a) : (a / (g : Int)).natAbs ≤ a.natAbs := by
  rw [Int.natAbs_ediv_of_dvd hd]
  exact Nat.div_le_self _ _
theorem Sq.of_div {n : Nat} {a b : Int} (hb : 0 < b) (h1 : Sz n a) (h2 : Sz n b) : Sq n ((a : Rat) / b) := by
  obtain ⟨e1, e2⟩ := low_eq a b hb
  constructor
  · rw [e1]
    exact Nat.lt_of_le_of_lt (ediv_le_natAbs a _ (Int.gcd_dvd_left a b)) h1
  · have h3 := ediv_le_natAbs b _ (Int.gcd_dvd_right a b)
    rw [← e2] at h3
    rw [Int.natAbs_natCast] at h3
    exact Nat.lt_of_le_of_lt h3 h2
theorem plus_eq (p q : Rat) : ((p.num * (q.den : Int) + q.num * (p.den : Int) : Int) : Rat) / ((p.den : Int) * (q.den : Int) : Int) = p + q := by
  have h1 := num_eq p
  have h2 := num_eq q
  have h3 := den_ne p
  have h4 := den_ne q
  push_cast at *
  rw [h1, h2]
  grind
theorem minus_eq (p q : Rat) : ((p.num * (q.den : Int) - q.num * (p.den : Int) : Int) : Rat) / ((p.den : Int) * (q.den : Int) : Int) = p - q := by
  have h1 := num_eq p
  have h2 := num_eq q
  have h3 := den_ne p
  have h4 := den_ne q
  push_cast at *
  rw [h1, h2]
  grind
theorem Sq.add {m n : Nat} {p q : Rat} (h : Sq m p) (h' : Sq n q) : Sq (m + n + 1) (p + q) := by
  rw [← plus_eq]
  refine Sq.of_div (Int.mul_pos (den_pos p) (den_pos q)) ?_ ((h.den.mul h'.den).mono (by omega))
  exact ((h.num.mul h'.den).add (h'.num.mul h.den)).mono (by omega)
theorem Sq.sub {m n : Nat} {p q : Rat} (h : Sq m p) (h' : Sq n q) : Sq (m + n + 1) (p - q) := by
  rw [← minus_eq]
  refine Sq.of_div (Int.mul_pos (den_pos p) (den_pos q)) ?_ ((h.den.mul h'.den).mono (by omega))
  exact ((h.num.mul h'.den).sub (h'.num.mul h.den)).mono (by omega)
theorem lt_fr (p q : Rat) : (p.num * (q.den : Int) < q.num * (p.den : Int)) ↔ p < q := (Rat.lt_iff p q).symm
theorem gcd_step (a b : Int) (ha : 0 ≤ a) (hb : 0 < b) : Int.gcd b (a % b) = Int.gcd a b := by
  have e : (a % b).natAbs = a.natAbs % b.natAbs := by
    rw [Int.natAbs_emod_of_nonneg ha]
  unfold Int.gcd
  rw [e, Nat.gcd_comm b.natAbs, ← Nat.gcd_rec, Nat.gcd_comm]
/-! no data is a dict -/
theorem Rep.nd {H : Hp} {v : V} {x : PyData} (h : Rep H v x) : ∀ kvs, x ≠ .dict kvs := fun kvs e => by
  subst e
  cases h
theorem Reps.nd {H : Hp} : ∀ {vs : List V} {ds : List PyData}, Reps H vs ds → ∀ d ∈ ds, ∀ kvs, d ≠ .dict kvs
  | _, _, .nil, _, h => nomatch h
  | _, _, .cons a b, d, h => by
    rcases List.mem_cons.mp h with rfl | h
    · exact a.nd
    · exact b.nd d h
def NoD (x : PyData) : Prop := (∀ kvs, x ≠ .dict kvs) ∧ ∀ ds, x = .list ds ∨ x = .tuple ds → ∀ d ∈ ds, ∀ kvs, d ≠ .dict kvs
theorem Rep.noD {H : Hp} {v : V} {x : PyData} (h : Rep H v x) : NoD x := ⟨h.nd, fun ds e => by
  rcases e with rfl | rfl
  · cases h with
    | lst _ r => exact r.nd
  · cases h with
    | tup _ r => exact r.nd⟩
theorem sds_nd {Z : Ctx} {sts : List Stmt} {D : DE} {ρ : List Slot} {own : Own} (i : Nat) {x : PyData} (hi : ρ[i]? = some (.d x)) (k : NoD x → SDs Z sts D ρ own) : SDs Z sts D ρ own := fun H0 Hf σ H m0 S E => by
  obtain ⟨v, _, r⟩ := E.d hi
  exact k r.noD H0 Hf σ H m0 S E
/-! years -/
def isInt (x : PyData) (lo hi : Int) : Bool := match x with
  | .int i => decide (lo ≤ i) && decide (i ≤ hi)
  | _ => false
def isYear (x : PyData) : Bool := match x with
  | .list ds => decide (1 ≤ (ds.length : Int)) && decide ((ds.length : Int) ≤ 8) && (ds.map fun d => isInt d 1 20).all id
  | _ => false
/-- a year of ints -/
structure Yr (ys : List Int) : Prop where
  lo : 1 ≤ ys.length
  hi : ys.length ≤ 8
  it : ∀ y ∈ ys, 1 ≤ y ∧ y ≤ 20
abbrev li (ns : List Int) : PyData := .list (ns.map PyData.int)
theorem Yr.is {ys : List Int} (h : Yr ys) : isYear (li ys) = true := by
  have e : isYear (li ys) = (decide (1 ≤ ((ys.map PyData.int).length : Int)) && decide (((ys.map PyData.int).length : Int) ≤ 8) && ((ys.map PyData.int).map fun d => isInt d 1 20).all id) := rfl
  have h1 := h.lo
  have h2 := h.hi
  rw [e, List.length_map, decide_eq_true (by omega), decide_eq_true (by omega), List.map_map]
  simp only [Bool.and_self, Bool.true_and, List.all_eq_true, List.mem_map]
  rintro x ⟨y, hy, rfl⟩
  have := h.it y hy
  simp [isInt, this.1, this.2]
theorem Sz.pow {k : Nat} {b : Int} (h : Sz k b) : ∀ n : Nat, Sz (k * n + 1) (b ^ n)
  | 0 => by unfold Sz; simp
  | n + 1 => by
    rw [Int.pow_succ]
    exact ((Sz.pow h n).mul h).mono (by rw [Nat.mul_succ]; omega)
/-! binomials -/
def bin : Nat → Nat → Nat
  | _, 0 => 1
  | 0, _ + 1 => 0
  | n + 1, k + 1 => bin n k + bin n (k + 1)
theorem bin_zero (n : Nat) : bin n 0 = 1 := by cases n <;> rfl
theorem bin_succ (n k : Nat) : bin (n + 1) (k + 1) = bin n k + bin n (k + 1) := rfl
theorem bin_out : ∀ (n k : Nat), n < k → bin n k = 0
  | _, 0, h => by omega
  | 0, _ + 1, _ => rfl
  | n + 1, k + 1, h => by rw [bin_succ, bin_out n k (by omega), bin_out n (k + 1) (by omega)]
theorem bin_mul : ∀ (n k : Nat), (n + 1) * bin n k = bin (n + 1) (k + 1) * (k + 1)
  | 0, 0 => rfl
  | 0, k + 1 => by simp [bin]
  | n + 1, 0 => by
    have h := bin_mul n 0
    rw [bin_zero] at *
    rw [bin_succ, bin_zero]
    omega
  | n + 1, k + 1 => by
    have h1 := bin_mul n k
    have h2 := bin_mul n (k + 1)
    rw [bin_succ (n + 1) (k + 1)]
    rw [bin_succ n (k + 1)] at h2 ⊢
    rw [bin_succ n k] at h1 ⊢
    grind
theorem bin_next (n k : Nat) (h : k ≤ n) : bin n (k + 1) * (k + 1) = bin n k * (n - k) := by
  have h1 := bin_mul n k
  rw [bin_succ] at h1
  obtain ⟨m, rfl⟩ : ∃ m, n = k + m := ⟨n - k, by omega⟩
  have e : k + m - k = m := by omega
  rw [e]
  grind
theorem bin_step (n i : Nat) (h : i ≤ n) : ((bin n i : Nat) : Int) * ((n : Int) - (0 + (i : Int))) / (0 + (i : Int) + 1) = (bin n (i + 1) : Nat) := by
  have h1 := bin_next n i h
  have h2 : ((bin n i : Nat) : Int) * ((n : Int) - (0 + (i : Int))) = ((bin n (i + 1) : Nat) : Int) * (0 + (i : Int) + 1) := by
    have e1 : ((n : Int) - (0 + (i : Int))) = ((n - i : Nat) : Int) := by omega
    have e2 : (0 + (i : Int) + 1) = ((i + 1 : Nat) : Int) := by omega
    rw [e1, e2]
    exact_mod_cast h1.symm
  rw [h2, Int.mul_ediv_cancel _ (by omega)]
theorem bin_le : ∀ (n k : Nat), bin n k ≤ 2 ^ n
  | n, 0 => by rw [bin_zero]; exact Nat.one_le_two_pow
  | 0, k + 1 => by simp [bin]
  | n + 1, k + 1 => by
    have h1 := bin_le n k
    have h2 := bin_le n (k + 1)
    rw [bin_succ, Nat.pow_succ]
    omega
theorem bin_lt (n i : Nat) {k : Nat} (h : i < k) (hk : k ≤ n) : bin n i < 2 ^ n := by
  cases n with
  | zero => omega
  | succ n =>
    cases i with
    | zero => rw [bin_zero]; exact Nat.one_lt_two_pow (by omega)
    | succ i =>
      have h1 := bin_le n i
      have h2 := bin_le n (i + 1)
      rw [bin_succ, Nat.pow_succ]
      by_cases e : i = n
      · omega
      · have : ∀ (n i : Nat), i < n → bin n i < 2 ^ n := fun n i hi => by
          induction n generalizing i with
          | zero => omega
          | succ n ih =>
            cases i with
            | zero => rw [bin_zero]; exact Nat.one_lt_two_pow (by omega)
            | succ i =>
              have a1 := ih i (by omega)
              have a2 := bin_le n (i + 1)
              rw [bin_succ, Nat.pow_succ]
              omega
        have a := this n i (by omega)
        omega
/-! lists of ints walked -/
theorem fm_congr {α β : Type} {f g : α → Option β} : ∀ {l : List α}, (∀ a ∈ l, f a = g a) → l.filterMap f = l.filterMap g
  | [], _ => rfl
  | a :: l, h => by
    rw [List.filterMap_cons, List.filterMap_cons, h a (by simp), fm_congr fun x hx => h x (by simp [hx])]

theorem zipD_ints (xs ys : List Int) : zipD (xs.map PyData.int) (ys.map PyData.int) = (xs.zip ys).map fun p => PyData.tuple [.int p.1, .int p.2] := by
  unfold zipD
  rw [List.zip_map, List.map_map]
  rfl
theorem sum_le_mul {b : Int} : ∀ {ys : List Int}, (∀ y ∈ ys, y ≤ b) → ys.sum ≤ b * ys.length
  | [], _ => by simp
  | y :: ys, h => by
    have h1 := sum_le_mul (ys := ys) fun z hz => h z (by simp [hz])
    have h2 := h y (by simp)
    rw [List.sum_cons, List.length_cons]
    push_cast
    rw [Int.mul_add]
    omega
theorem sum_ge_mul {b : Int} : ∀ {ys : List Int}, (∀ y ∈ ys, b ≤ y) → b * ys.length ≤ ys.sum
  | [], _ => by simp
  | y :: ys, h => by
    have h1 := sum_ge_mul (ys := ys) fun z hz => h z (by simp [hz])
    have h2 := h y (by simp)
    rw [List.sum_cons, List.length_cons]
    push_cast
    rw [Int.mul_add]
    omega
theorem Yr.sum_lo {ys : List Int} (h : Yr ys) : 1 ≤ ys.sum := by
  have h1 := sum_ge_mul (b := 1) fun y hy => (h.it y hy).1
  have := h.lo
  omega
theorem Yr.sum_hi {ys : List Int} (h : Yr ys) : ys.sum ≤ 160 := by
  have h1 := sum_le_mul (b := 20) fun y hy => (h.it y hy).2
  have := h.hi
  omega
theorem mem_le_sum : ∀ {ys : List Int}, (∀ y ∈ ys, 0 ≤ y) → ∀ y ∈ ys, y ≤ ys.sum
  | y :: ys, h, z, hz => by
    have hs : 0 ≤ ys.sum := by
      have := sum_ge_mul (b := 0) (ys := ys) fun x hx => h x (by simp [hx])
      simpa using this
    rw [List.sum_cons]
    rcases List.mem_cons.mp hz with rfl | hz
    · omega
    · have h1 := mem_le_sum (ys := ys) (fun x hx => h x (by simp [hx])) z hz
      have := h y (by simp)
      omega
theorem Yr.le_sum {ys : List Int} (h : Yr ys) {y : Int} (hy : y ∈ ys) : y ≤ ys.sum := mem_le_sum (fun z hz => by have := h.it z hz; omega) y hy
theorem Yr.szW {ys : List Int} (h : Yr ys) : Sz 8 ys.sum := by
  have h1 := h.sum_lo
  have h2 := h.sum_hi
  unfold Sz
  omega
theorem Yr.szD {ys : List Int} (h : Yr ys) {y : Int} (hy : y ∈ ys) : Sz 8 (ys.sum - y) := by
  have h1 := h.sum_lo
  have h2 := h.sum_hi
  have h3 := h.it y hy
  have h4 := h.le_sum hy
  unfold Sz
  omega
theorem Yr.szy {ys : List Int} (h : Yr ys) {y : Int} (hy : y ∈ ys) : Sz 8 y := by
  have h3 := h.it y hy
  unfold Sz
  omega
theorem Yr.posP {ys : List Int} (h : Yr ys) (n : Nat) : 0 < ys.sum ^ n := Int.pow_pos (by have := h.sum_lo; omega)
theorem Sz.nat {n k : Nat} (h : n < 2 ^ k) : Sz k (n : Int) := by unfold Sz; rw [Int.natAbs_natCast]; exact h
theorem Sz.one : Sz 1 1 := by unfold Sz; decide
theorem fr_zero : fr 0 = .tuple [.int 0, .int 1] := rfl
theorem Sq.one : Sq 1 1 := ⟨by decide, by decide⟩
theorem Sq.zero : Sq 1 0 := ⟨by decide, by decide⟩
theorem getI {ys : List Int} {j : Nat} {y : Int} (h : ys[j]? = some y) : atI (ys.map PyData.int) (j : Int) = some (.int y) := atI_nat (by rw [List.getElem?_map, h]; rfl)
theorem bin_sz (n k : Nat) : Sz (n + 1) (bin n k : Nat) := Sz.nat (Nat.lt_of_le_of_lt (bin_le n k) (by rw [Nat.pow_succ]; have := Nat.one_le_two_pow (n := n); omega))
/-- told numbers on the days: ways -/
def plcW : List Int → List Nat → Nat → Int
  | y :: ys, k :: ks, left => (bin left k : Nat) * y ^ k * plcW ys ks (left - k)
  | _, _, _ => 1
def maxL (ys : List Int) : Int := ys.foldl max 0
theorem maxL_aux : ∀ (ys : List Int) (a : Int), a ≤ ys.foldl max a ∧ (∀ y ∈ ys, y ≤ ys.foldl max a) ∧ (ys.foldl max a = a ∨ ys.foldl max a ∈ ys)
  | [], a => ⟨Int.le_refl _, by simp, .inl rfl⟩
  | y :: ys, a => by
    obtain ⟨h1, h2, h3⟩ := maxL_aux ys (max a y)
    rw [List.foldl_cons]
    refine ⟨by omega, fun z hz => ?_, ?_⟩
    · rcases List.mem_cons.mp hz with rfl | hz
      · omega
      · exact h2 z hz
    · rcases h3 with h3 | h3
      · rw [h3]
        by_cases h : a ≤ y
        · right
          rw [Int.max_eq_right h]
          simp
        · left
          exact Int.max_eq_left (by omega)
      · exact .inr (by simp [h3])
theorem Yr.max_le {ys : List Int} (h : Yr ys) : ∀ y ∈ ys, y ≤ maxL ys := (maxL_aux ys 0).2.1
/-- a list of numbers for the days -/
structure Ct (ys : List Int) (cs : List Nat) : Prop where
  len : cs.length = ys.length
  sum : cs.sum ≤ 12
def nI (cs : List Nat) : List Int := cs.map fun (n : Nat) => (n : Int)
theorem nI_sum : ∀ cs : List Nat, (nI cs).sum = (cs.sum : Nat)
  | [] => rfl
  | k :: ks => by
    have := nI_sum ks
    unfold nI at *
    rw [List.map_cons, List.sum_cons, List.sum_cons, this]
    push_cast
    rfl
theorem nat_mem_sum : ∀ {cs : List Nat} {k : Nat}, k ∈ cs → k ≤ cs.sum
  | y :: ys, k, h => by
    rw [List.sum_cons]
    rcases List.mem_cons.mp h with rfl | h
    · omega
    · have := nat_mem_sum h
      omega
end Sd


/-! the script, the draws -/
namespace Sd
open PySem PySem.Spec PyProof.Rows L2
def ScrAt (K : PySem.W.Frag) (own : Own) (a : Addr) (xs : List Int) : Prop := ∀ (Hf H : Hp), (∀ q ∈ own, OwnOk Hf H q.1 q.2) → SqL K H a (xs.map V.int)
theorem ScrAt.at {K : PySem.W.Frag} {own : Own} {a : Addr} {xs : List Int} {B : Bs} {Hf H : Hp} (h : ScrAt K own a xs) (S : Sat B Hf H own) : SqL K H a (xs.map V.int) := h Hf H fun q hq => (S.ow q hq).2.2
theorem dp_ints {K : PySem.W.Frag} {H : Hp} : ∀ xs : List Int, DpAll K H (xs.map V.int) (xs.map PyData.int)
  | [] => .nil
  | x :: xs => .cons (.int x) (dp_ints xs)
section
variable {Z : Ctx} {e a b c : Expr} {ρ : List Slot} {own : Own} {pos p : Pos} {i : Int} {k : Nat} {q : Addr} {xs : List Int}
theorem c_neScr (g : Gd Z k) (h : ScrAt Z.X.K own q xs) : CmpB Z .NotEq own (.raw (.ref q)) (.d (.list [])) (!decide (xs = [])) := ⟨_, op_neD g.hr.units, fun v w Hf H S r1 r2 Q k => by
  cases (show v = .ref q from r1)
  refine ⟨.list (xs.map PyData.int), .list [], .lst (h.at S) (dp_ints xs), (Rep.mono S.e1 r2).dp, sh_ints xs, (shp_list (n := 0) (ds := []) (fun d hd => absurd hd (by simp))).shaped (by decide), ?_⟩
  have e : PyData.eqv (.list (xs.map PyData.int)) (.list []) = decide (xs = []) := by
    cases xs <;> simp [PyData.eqv, PyData.eqvAll]
  rw [e]
  exact k⟩
theorem el_listScr (hm : Z.X.mg "list" = none) (h : EV Z e ρ own (.ref q)) (hs' : ScrAt Z.X.K own q xs) (hg : Gl Z.X "list" := by rfl) (hs : starEach [e] Z.X.env = (false, eval e Z.X.env) :: starEach [] Z.X.env := by rfl) : EL Z (.Call (.Name "list" p) [e] [] pos) ρ own (xs.map PyData.int) :=
  el_callTy call_list_of hg hm (by decide +kernel) (ea_cons h ea_nil hs) fun vs Hf H S r0 Q k => by
    obtain ⟨v, rfl, r⟩ := r0.one
    cases (show v = .ref q from r)
    exact ⟨q, _, rfl, .inl (hs'.at S), fun l hl => k l Hf _ (Same.refl _) (S.newOwn (oo := .lst (xs.map PyData.int)) hl ⟨_, upd_same, Reps.ints xs⟩)⟩
/-- [a, i], the first a value with a change -/
theorem eg_lst2 {P : V → Own → Prop} (h1 : EG Z a ρ own fun s o => ∃ v, s = .raw v ∧ P v o) (h2 : ∀ v o, P v o → ED Z b ρ o (.int i)) (hs : starEach [a, b] Z.X.env = (false, eval a Z.X.env) :: starEach [b] Z.X.env := by rfl) (hs2 : starEach [b] Z.X.env = (false, eval b Z.X.env) :: starEach [] Z.X.env := by rfl) :
    EG Z (.List [a, b] pos) ρ own (fun s o => ∃ q v o', s = .raw (.ref q) ∧ o = (q, .raw (.lst [v, .int i])) :: o' ∧ P v o') := fun Hf σ H S E Q k => wE.of (pe_lst paW)
  ((eag_cons (R := fun ss o => ∃ v, ss = [.raw v, .d (.int i)] ∧ P v o) h1 (fun s o hq _ => by
      obtain ⟨v, rfl, hq⟩ := hq
      exact EA.toEAG (ea_cons (h2 v o hq) ea_nil hs2) ⟨v, rfl, hq⟩) hs) Hf σ H S E _ fun vs Hf1 H1 ss o m1 S1 r1 hq => by
    obtain ⟨v, rfl, hq⟩ := hq
    obtain ⟨v1, v2, rfl, r2, r3⟩ := r1.two
    cases (show v1 = v from r2)
    cases r3
    exact ⟨by show 2 ≤ sizeLine; decide, fun p hp => k _ Hf1 _ (.raw (.ref p)) _ m1 (S1.newOwn (oo := .raw (.lst [v, .int i])) hp upd_same) rfl (fun z => nomatch z) ⟨p, v, o, rfl, rfl, hq⟩⟩)
end
/-- what the draws are: a list of a list of ints and a count -/
def drw (d n : Addr) (cells : List Int) (cnt : Int) : Own := [(d, .raw (.lst [.ref n, .int cnt])), (n, .lst (cells.map PyData.int))]
theorem cx_no {P : Program} {w : World} {H : Hp} {s : Shared} {e : Value} {s' : Shared} (h : L2.CX P w [] H s (fun _ _ _ => False) e s') : False := by
  obtain ⟨_, _, _, _, _, _, _, _, _, _, _, _, z⟩ := h
  exact z
def pre_law (K : PySem.W.Frag) : Pr := fun ss own post => ∃ (a : Addr) (ns : List Int), ss = [.raw (.ref a)] ∧ ScrAt K own a ns ∧ ns.length ≤ 63 ∧ post = fun o => ∃ own', o = .ret (.d (.bool true)) own'
theorem law_in {K : PySem.W.Frag} {H : Hp} {a : Addr} {ns : List Int} (hl : ns.length ≤ 63) (hO : Only H) (hS : SqL K H a (ns.map V.int)) : spG (pre_law K) [.ref a] H (fun v _ => v = .bl true) (fun _ _ _ => False) := by
  have fin : ∀ (own : Own) (HB : Hp), Sat ⟨fun _ => none, HB⟩ (fun _ => none) H own → ScrAt K own a ns → spG (pre_law K) [.ref a] H (fun v _ => v = .bl true) (fun _ _ _ => False) := fun own HB S hs =>
    ⟨fun _ => none, HB, [.raw (.ref a)], own, _, S, .cons rfl .nil, ⟨a, ns, rfl, hs, hl, rfl⟩, fun s own' v Hf' H' hq S' r hu => by
      obtain ⟨o, hq⟩ := hq
      cases hq
      cases r
      rfl, fun C own' Hf' H' hq S' => by
      obtain ⟨o, hq⟩ := hq
      cases hq⟩
  have nt : ∀ (p : Addr) (xs : List V), H p = some (.tup xs) → (none : Option HO) = some (.tup xs) := fun p xs h => by
    rcases hO p with z | ⟨o, ys, z⟩
    · rw [z] at h; cases h
    · rw [z] at h; cases h
  rcases hS with (h | ⟨o, h⟩) | h
  · rcases hO a with z | ⟨o, xs, z⟩
    · rw [z] at h; cases h
    · rw [z] at h; cases h
  · refine fin [(a, .raw (.frz o (.lst (ns.map V.int))))] (less H [a]) ⟨fun _ _ h => h, fun _ _ h => (by cases h), fun p u h => ?_, fun p u h => (by cases h), fun q hq => ?_, by simp, nt⟩ (fun Hf H' hq => ?_)
    · by_cases hp : p ∈ [a]
      · have h : less H [a] p = some u := h
        rw [less_in hp] at h; cases h
      · have h : less H [a] p = some u := h
        rw [less_out hp] at h; exact h
    · have e : q = (a, .raw (.frz o (.lst (ns.map V.int)))) := by simpa using hq
      subst e
      exact ⟨rfl, less_in (by simp), h⟩
    · have h' := hq (a, .raw (.frz o (.lst (ns.map V.int)))) (by simp)
      exact .inl (.inr ⟨o, h'⟩)
  · exact fin [] H ⟨fun _ _ h => h, fun _ _ h => (by cases h), fun _ _ h => h, fun p u h => (by cases h), fun q hq => (nomatch hq), by simp, nt⟩ (fun Hf H' _ => .inr h)
end Sd


/-! more statements -/
namespace Sd
open PySem PySem.Spec PyProof.Rows L2
section
variable {Z : Ctx} {D : DE} {e a b c tg : Expr} {es : List Expr} {ρ : List Slot} {own oa ob : Own} {pos tpos p : Pos} {i j : Int} {s t : Slot} {k : Nat} {ds : List PyData} {x : PyData} {q : Addr} {R : Slot → Own → Prop}
end
section
variable {Z : Ctx} {e : Expr} {es : List Expr} {ρ : List Slot} {o1 : Own} {pos p : Pos} {k j : Nat} {ss : List Slot} {z : Str} {ps : List Str} {Pre : Pr} {post : Out → Prop} {R : Slot → Own → Prop}
/-- a def that gets all that is owned -/
theorem eg_callW (F : Fn Z.X.K Z.X.mg Z.X.prog Z.X.w Z.X.base z ps j Pre) (g : Gd Z k) (hj : j ≤ k) (ha : EA Z (e :: es) ρ o1 ss) (hp : Pre ss o1 post) (h1 : ∀ s o1', post (.ret s o1') → R s o1') (h2 : ∀ C o1', post (.exc C o1') → Z.ex C ρ o1')
    (hg : Gl Z.X z := by rfl) (hdb : (z == ("__debug__" : Str)) = false := by decide) (he : starEach (e :: es) Z.X.env = (false, eval e Z.X.env) :: starEach es Z.X.env := by rfl) (hpl : (backTo pos (starEach es Z.X.env)).any (·.1) = false := by rfl) :
    EG Z (.Call (.Name z p) (e :: es) [] pos) ρ o1 R := by
  have e0 : ∀ o : Own, [] ++ o ++ [] = o := fun o => by rw [List.nil_append, List.append_nil]
  have := eg_call (p := p) (R := R) (oa := []) (o1 := o1) (ob := []) F g hj (by rw [e0]; exact ha) hp (fun s o h => by rw [e0]; exact h1 s o h) (fun C o h => by rw [e0]; exact h2 C o h) hg hdb he hpl
  rw [e0] at this
  exact this
end
theorem eqv_self {n : Nat} {d : PyData} (h : Shp n d) : PyData.eqv d d = true := SeqAt.eqv_refl d h.1
end Sd


/-! still more rules -/
namespace Sd
open PySem PySem.Spec PyProof.Rows L2
section
variable {Z : Ctx} {D : DE} {e a b c tg : Expr} {es : List Expr} {ρ : List Slot} {own oa ob : Own} {pos tpos p : Pos} {i j : Int} {s t : Slot} {k : Nat} {ds : List PyData} {x y : PyData} {q : Addr} {R : Slot → Own → Prop}
/-- a test that fails: nothing happens -/
theorem sd_ifF {A : List Stmt} (hc : ET Z c ρ own false) (h : D.nx ρ own) : SD Z (.If c A [] pos) D ρ own := sd_if hc (fun e => nomatch e) fun _ => sds_nil h
end
theorem eqv_bool (a b : Bool) : PyData.eqv (.bool a) (.bool b) = decide (a = b) := by cases a <;> cases b <;> rfl
theorem sh_bool (a : Bool) : SeqAt.shaped (.bool a) = true := (shp_bool a).shaped (by decide)
end Sd


/-! an exception that is caught and kept in a name -/
namespace Sd
open PySem PySem.Spec PyProof.Rows L2
section
variable {X : Cx} {pins : List (Addr × Obj)} {σ : L2.St} {H : Hp} {s : Shared}
end
section
variable {Z : Ctx} {D : DE} {ρ : List Slot} {own : Own} {k : Nat} {x n z : Str} {c : Value} {body : List Stmt} {np pos pos' p1 p2 p3 : Pos}
end
/-! ### isinstance of a kept exception -/
section
variable {Z : Ctx} {a b o e : Expr} {ρ : List Slot} {own : Own} {pos p cpos apos : Pos} {k : Nat} {q D : Addr} {s t : Slot} {ds : List PyData} {x : PyData}
theorem mt_countD {X : Cx} (hu : X.A.units + 65 < cLine) : MtR X "list.count" (fun x xs H Q => ∃ (a : Addr) (y : V) (d : PyData) (ds : List PyData), x = V.ref a ∧ xs = [y] ∧ Dp X.K H (V.ref a) (.list ds) ∧ Dp X.K H y d ∧ PyData.plainAll ds = true ∧ d.plain = true ∧ d.depth ≤ 64 ∧ Q (.int (ds.countP (fun z => PyData.eqv z d) : Nat)) H) := by
  intro pins s σ H x xs v us Q I rx rxs h
  obtain ⟨a, y, d, ds, rfl, rfl, hl, hy, h1, h2, h3, q⟩ := h
  cases rx
  obtain ⟨uy, rfl, ry⟩ := rxs.one
  obtain ⟨bs, r1⟩ := Dp.reads I d y uy hy ry
  cases hl with
  | lst hs ha =>
    obtain ⟨its, rv, ⟨⟨cls, dd, data, sls⟩, n, ho, hc, hdn, hdt⟩, hlen⟩ := I.list hs
    obtain ⟨as, h4⟩ := Dp.readsAll I ds _ its ha rv
    exact SeqAt.count_list_data (vs := its.toArray) ⟨_, ho, hc, n, hdt⟩ h4 r1 h1 h2 (by omega) ⟨.int _, H, I.tok _, ⟨s.toks, rfl⟩, q⟩
theorem ed_count (g : Gd Z (k + 1)) (ho : ES Z o ρ own s) (L : Lst own s ds) (he : ED Z e ρ own x) (h1 : PyData.plainAll ds = true) (h2 : x.plain = true) (h3 : x.depth ≤ 64)
    (hbase : attributeBase o "count" Z.X.env (eval o Z.X.env) = eval o Z.X.env := by rfl)
    (hfew : ((backTo cpos (starEach [e] Z.X.env)).all (fun x => !x.1) && (backToKw cpos (keywordEach [] Z.X.env)).all (fun x => x.1.isSome)
      && decide ([e].length + ([] : List Keyword).length + (if ([] : List Keyword).isEmpty then 0 else 1) < 30)) = true := by rfl)
    (hline : (apos.endLine == cpos.line) = true := by rfl) (hs : starEach [e] Z.X.env = (false, eval e Z.X.env) :: starEach [] Z.X.env := by rfl) (hplain : (backTo cpos (starEach [] Z.X.env)).any (·.1) = false := by rfl) :
    ED Z (.Call (.Attribute o "count" apos) [e] [] cpos) ρ own (.int (ds.countP (fun z => PyData.eqv z x) : Nat)) := fun Hf σ H S E Q q => wE.of (pe_bm PySem.F.plainAttrs_list PySem.F.slot_list_count PySem.F.type_list_count (mt_countD (by have := g.hr.un; omega)) peW (pa_cons peW pa_nil hs) hbase hfew hline hs hplain)
  (ho Hf σ H S E _ fun v Hf1 H1 m1 S1 r1 => by
    obtain ⟨p, vs, rfl, g1, _⟩ := L.at S1 r1
    refine ⟨.inl ⟨rfl, _, SqL.of g1⟩, he Hf1 σ H1 S1 (E.mono m1) _ fun w Hf2 H2 m2 S2 r2 => ?_⟩
    obtain ⟨p', vs', e', g1, g2⟩ := L.at S2 (r1.mono m2)
    cases e'
    exact ⟨p, w, x, ds, rfl, rfl, (Rep.lst g1 (g2.mono S2.e1)).dp, (Rep.mono S2.e1 r2).dp, h1, h2, h3, q _ Hf2 H2 (m1.trans m2) S2 (.int _)⟩)
end
/-- what is known of a class of errors beside the others -/
structure ErrK (K : PySem.W.Frag) (C y d n s t o D : Addr) (by_ bd bn bs bt bo : Bool) : Prop where
  xc : ExcC K C
  y : PySem.W.kitOne K (.ref C) (.ref y) = some by_
  d : PySem.W.kitOne K (.ref C) (.ref d) = some bd
  n : PySem.W.kitOne K (.ref C) (.ref n) = some bn
  s : PySem.W.kitOne K (.ref C) (.ref s) = some bs
  t : PySem.W.kitOne K (.ref C) (.ref t) = some bt
  o : PySem.W.kitOne K (.ref C) (.ref o) = some bo
  de : PySem.W.kitOne K (.ref C) (.ref D) = some true
  ve : PySem.W.kitOne K (.ref C) (.type "ValueError") = some true
  ex : PySem.W.exmOne K (.ref C) (.ref D) = some true
end Sd


/-! sets of ints -/
namespace Sd
open PySem PySem.Spec PyProof.Rows L2
/-- how many different ones -/
def dst (ns : List Int) : Nat := (firstMet (fun i => ns.getD i 0) ns.length).length
section
variable {X : Cx}
def tLenS (K : PySem.W.Frag) (ta : TE) : TE := fun σ H Q => ta σ H fun x H1 => ∃ (l : Addr) (ns : List Int), x = .ref l ∧ SqL K H1 l (ns.map V.int) ∧ ns.length ≤ 1000 ∧ Q (.int (dst ns : Nat)) H1
theorem pe_lenS {a : Expr} {ta : TE} {p p2 q pos : Pos} (hc : X.calm = true) (hg : Gl X "len") (hm : X.mg "len" = none) (hg2 : Gl X "set") (hm2 : X.mg "set" = none) (ha : PE X a ta)
    (na : starEach [a] X.env = (false, eval a X.env) :: starEach [] X.env := by rfl) : PE X (.Call (.Name "len" p) [.Call (.Name "set" p2) [a] [] q] [] pos) (tLenS X.K ta) := by
  refine ⟨fun pins s σ H Q I h => Call_ (ld_blt I hg hm boot_len (PyProof.Rows.callWith_builtin1 (PyProof.Rows.args_cons (Call_ (ld_blt I hg2 hm2 boot_set (PyProof.Rows.callWith_type1 (PyProof.Rows.args_cons (thn (ha.run pins s σ H _ I h) fun v t hq => PyProof.Rows.args_nil ?_) na) na rfl))) rfl) rfl rfl))⟩
  obtain ⟨x, H1, J, r, l, ns, rfl, hl, hn, hQ⟩ := hq
  cases r
  obtain ⟨its, rv, pl, _⟩ := J.list hl
  have hi := ints_of_vals rv
  have hz : its.length = ns.length := IntsAre.length hi
  refine call_set_list (J.ok.hd hc) pl.isList (by simpa using hi) (by rw [List.size_toArray, hz]; show ns.length + 1 < 4096; omega) fun h' tk hS hk => ?_
  have hz2 : its.toArray.size = ns.length := by rw [List.size_toArray, hz]
  rw [hz2] at hS
  obtain ⟨o, es, ep, t', ho, hex, hd, _, _, _, hf, hn'⟩ := hS
  have hle := firstMet_length_le (fun i => ns.getD i 0) ns.length
  have J2 : Inv X pins σ H1 { t with heap := h', toks := tk } := J.kept fun b o e => hk b o (Heap.lt_size e) e
  exact PyProof.Rows.args_nil (call_len_set ho hex hd hf (by rw [hn']; omega) ⟨.int (dst ns : Nat), H1, J2.tok _, ⟨_, by rw [hn']; rfl⟩, hQ⟩)
end
section
variable {Z : Ctx} {e : Expr} {ρ : List Slot} {own : Own} {pos p p2 q : Pos} {k : Nat} {s : Slot}
theorem ed_lenset {ns : List Int} (g : Gd Z k) (hm : Z.X.mg "len" = none) (hm2 : Z.X.mg "set" = none) (h : ES Z e ρ own s) (L : Lst own s (ns.map PyData.int)) (hn : ns.length ≤ 1000) (hg : Gl Z.X "len" := by rfl) (hg2 : Gl Z.X "set" := by rfl) (hs : starEach [e] Z.X.env = (false, eval e Z.X.env) :: starEach [] Z.X.env := by rfl) :
    ED Z (.Call (.Name "len" p) [.Call (.Name "set" p2) [e] [] q] [] pos) ρ own (.int (dst ns : Nat)) := fun Hf σ H S E Q k => wE.of (pe_lenS g.calm hg hm hg2 hm2 peW hs) (h Hf σ H S E _ fun v Hf1 H1 m1 S1 r1 => by
  obtain ⟨p, vs, rfl, e1, e2⟩ := L.at S1 r1
  cases e2.of_ints
  exact ⟨p, ns, rfl, SqL.of e1, hn, k _ Hf1 H1 m1 S1 (.int _)⟩)
end
theorem sdd_mem (l : List Int) (x : Int) : ∀ k, k ∈ step_dedup l x ↔ k ∈ l ∨ k = x := by
  intro k
  unfold step_dedup
  split
  · rename_i h
    constructor
    · exact fun z => .inl z
    · rintro (z | rfl)
      · exact z
      · simpa using h
  · simp [List.mem_append]
theorem fm_mem (val : Nat → Int) : ∀ (i : Nat) (k : Int), k ∈ firstMet val i ↔ ∃ j, j < i ∧ val j = k
  | 0, k => by simp [firstMet_zero]
  | i + 1, k => by
    rw [firstMet_succ, sdd_mem, fm_mem val i]
    constructor
    · rintro (⟨j, hj, e⟩ | rfl)
      · exact ⟨j, by omega, e⟩
      · exact ⟨i, by omega, rfl⟩
    · rintro ⟨j, hj, e⟩
      by_cases hji : j = i
      · right; rw [← e, hji]
      · exact .inl ⟨j, by omega, e⟩
theorem fm_nodup (val : Nat → Int) : ∀ i : Nat, (firstMet val i).Nodup
  | 0 => by simp [firstMet_zero]
  | i + 1 => by
    rw [firstMet_succ]
    have ih := fm_nodup val i
    unfold step_dedup
    split
    · exact ih
    · rename_i h
      refine List.nodup_append.mpr ⟨ih, by simp, fun a ha b hb => ?_⟩
      have hb : b = val i := by simpa using hb
      subst hb
      rintro rfl
      exact h (by simpa using ha)
theorem Sat.nil {B : Bs} {Hf H : Hp} {own : Own} (S : Sat B Hf H own) : Sat B Hf H [] := ⟨S.e0, S.e1, S.eb, S.fr, (fun q hq => nomatch hq), by simp, S.tp⟩
section
variable {Z : Ctx} {D : DE} {ρ : List Slot} {own : Own} {sts : List Stmt} {a b c : Expr} {pos : Pos} {R : Slot → Own → Prop}
end
/-! ### one class of errors beside another -/
end Sd


/-! sorted of pairs of ints -/
namespace Sd
open PySem PySem.Spec PyProof.Rows L2
abbrev pr (p : Int × Int) : PyData := .tuple [.int p.1, .int p.2]
def kOf (H : Hp) (x : V) : Int × Int := match x with
  | .ref t => match H t with
    | some (.tup [.int i, .int j]) => (i, j)
    | _ => (0, 0)
  | _ => (0, 0)
theorem Rep.pair {H : Hp} {v : V} {p : Int × Int} (h : Rep H v (pr p)) : ∃ t, v = .ref t ∧ H t = some (.tup [.int p.1, .int p.2]) ∧ kOf H v = p := by
  cases h with
  | tup h1 h2 =>
    cases h2 with
    | cons a b =>
      cases b with
      | cons b c =>
        cases c
        cases a
        cases b
        exact ⟨_, rfl, h1, by unfold kOf; simp only [h1]⟩
theorem Reps.pairs {H : Hp} : ∀ {vs : List V} {ps : List (Int × Int)}, Reps H vs (ps.map pr) → vs.map (kOf H) = ps
  | [], [], .nil => rfl
  | v :: vs, p :: ps, .cons a b => by
    obtain ⟨_, _, _, e⟩ := a.pair
    rw [List.map_cons, e, Reps.pairs b]
section
variable {Z : Ctx} {e : Expr} {ρ : List Slot} {own : Own} {pos p : Pos} {s : Slot}
end
end Sd


/-! texts -/
namespace Sd
open PySem PySem.Spec PyProof.Rows L2
section
variable {Z : Ctx} {e o a b tg : Expr} {ρ : List Slot} {own : Own} {pos p apos cpos : Pos} {s : Slot} {i n : Int} {z y : Str} {k : Nat}
end
end Sd


namespace Sd
open PySem PySem.Spec PyProof.Rows L2
/-! sums over ints, lists given by functions -/
def sumN (f : Nat → Int) : Nat → Int
  | 0 => 0
  | n + 1 => sumN f n + f n
theorem sumN_congr {f g : Nat → Int} : ∀ {n : Nat}, (∀ i, i < n → f i = g i) → sumN f n = sumN g n
  | 0, _ => rfl
  | n + 1, h => by rw [sumN, sumN, sumN_congr fun i hi => h i (by omega), h n (by omega)]
theorem sumN_add (f g : Nat → Int) : ∀ n : Nat, sumN (fun i => f i + g i) n = sumN f n + sumN g n
  | 0 => rfl
  | n + 1 => by simp only [sumN]; rw [sumN_add f g n]; omega
theorem sumN_mul (c : Int) (f : Nat → Int) : ∀ n : Nat, sumN (fun i => c * f i) n = c * sumN f n
  | 0 => by simp [sumN]
  | n + 1 => by simp only [sumN]; rw [sumN_mul c f n, Int.mul_add]
theorem sumN_nonneg {f : Nat → Int} : ∀ {n : Nat}, (∀ i, i < n → 0 ≤ f i) → 0 ≤ sumN f n
  | 0, _ => Int.le_refl _
  | n + 1, h => by
    have := sumN_nonneg (f := f) (n := n) fun i hi => h i (by omega)
    have := h n (by omega)
    rw [sumN]
    omega
theorem sumN_le {f g : Nat → Int} : ∀ {n : Nat}, (∀ i, i < n → f i ≤ g i) → sumN f n ≤ sumN g n
  | 0, _ => Int.le_refl _
  | n + 1, h => by
    have := sumN_le (f := f) (g := g) (n := n) fun i hi => h i (by omega)
    have := h n (by omega)
    rw [sumN, sumN]
    omega
theorem sumN_shift (f : Nat → Int) : ∀ n : Nat, sumN f (n + 1) = f 0 + sumN (fun i => f (i + 1)) n
  | 0 => by simp [sumN]
  | n + 1 => by rw [sumN, sumN_shift f n, sumN]; omega
theorem rng_nat {i : Int} {n : Nat} (h : i = (n : Int)) : rng 0 i.toNat = (List.range n).map fun (k : Nat) => PyData.int (k : Int) := by
  subst h
  simp [rng]
theorem Sat.perm {B : Bs} {Hf H : Hp} {o o' : Own} (h : o.Perm o') (S : Sat B Hf H o) : Sat B Hf H o' := ⟨S.e0, S.e1, S.eb, S.fr, fun q hq => S.ow q (h.mem_iff.mpr hq), (h.map Prod.fst).nodup_iff.mp S.nd, S.tp⟩
section
variable {Z : Ctx} {elt tg iter : Expr} {scope : Scope} {ρ : List Slot} {own : Own} {k : Nat} {Po : Own → Prop} {ys : List PyData} {pos : Pos} {D : DE}
end
end Sd


/-! list(range(..)), tuple(range(..)), sorted of a tuple of ints -/
namespace Sd
open PySem PySem.Spec PyProof.Rows L2
section
variable {Z : Ctx} {a b e : Expr} {ρ : List Slot} {own : Own} {pos p p2 q : Pos} {k : Nat} {i j : Int}
end
/-- sorted(t), t a tuple of ints -/
theorem sorted_tupI {prog : Program} {w : World} {A : Around} {E : Value → Shared → Prop} {s : Shared} {l : Addr} {vs : List Value} {ns : List Int} {Q : Value → Shared → Prop} (hl : IsTup s.heap l vs.toArray) (hI : IntsAre vs ns) (h64 : vs.length < 64)
    (h : ∀ (h1 h' : Heap) (out : Array Value) (ns' : List Int) (e : Nat), IntsAre out.toList ns' → ns'.Perm ns → ns'.Pairwise (· ≤ ·) → (∀ b o, s.heap.get? b = some o → h1.get? b = some o) → (∀ b o, h1.get? b = some o → h'.get? b = some o) → h'.get? h1.objs.size = some (seqObj "list" out e) → Q (.ref h1.objs.size) { s with heap := h' }) :
    wpAny (model prog w) A (call (.builtin "sorted") [.ref l]) Q E s := by
  obtain ⟨o, ho, hc, n, hd⟩ := hl
  refine Calls.call_function_entry kind_sorted plain_sorted entry_sorted (args_sorted1 _) ?_
  unfold Builtin.«sorted»
  refine wpAny_bind (m := checkCount "sorted" 1 1 _) (wpAny_pure ?_)
  refine wpAny_bind (wpAny_collect_seq l (.inr rfl) ho hc hd (fun h1 k1 => ?_) (by rw [List.size_toArray, sizeLine_eq]; omega))
  refine wpAny_bind (wpAny_newList ?_ (by show vs.length ≤ _; rw [sizeLine_eq]; omega))
  have hoL : (h1.push (seqObj "list" vs.toArray 0)).get? h1.objs.size = some (seqObj "list" vs.toArray 0) := Heap.get?_push_size _ rfl
  show wpAny _ _ _ _ _ { s with heap := h1.push (seqObj "list" vs.toArray 0) }
  refine wpAny_bind (wpAny_holding (wpAny_call_entry slot_list_sort ⟨_, hoL, rfl⟩ entry_list_sort (list_sort_tree hoL hI h64 fun out ns' a1 a2 a3 => ⟨_, rfl, ?_⟩) (args_list_sort _)))
  obtain ⟨e, he⟩ := sortedHeap_at (out := out) hoL
  refine wpAny_pure ⟨_, rfl, h h1 _ out ns' e a1 a2 a3 k1 (fun b ob hb1 => ?_) he⟩
  have hlt := Heap.lt_size hb1
  rw [sortedHeap_old (Nat.ne_of_lt hlt) (by rw [size_push']; exact Nat.lt_succ_of_lt hlt)]
  exact Heap.get?_push_of_some _ hb1
theorem cr_sortedTI {X : Cx} : CallR X (.builtin "sorted") (fun vs H Q => ∃ (a : Addr) (ns : List Int), vs = [V.ref a] ∧ SqT X.K H a (ns.map V.int) ∧ ns.length < 64 ∧ ∀ (ns' : List Int) (p : Addr), ns'.Perm ns → ns'.Pairwise (· ≤ ·) → H p = none → Q (.ref p) (upd H p (.lst (ns'.map V.int)))) := by
  intro pins s σ H vs us Q I r h
  obtain ⟨a, ns, rfl, hs, h64, q⟩ := h
  obtain ⟨its, rv, hl, _⟩ := I.tuple hs
  rw [Vals.ref1 r]
  have hi := rv.ints
  refine sorted_tupI hl hi (by rw [hi.length]; exact h64) fun h1 h' out ns' e a1 a2 a3 k1 k2 he => ?_
  have hlen : (ns'.map V.int).length ≤ sizeLine := by rw [List.length_map, a2.length_eq]; exact small64 h64
  have I1 : Inv X pins σ H { s with heap := h1 } := I.kept (t' := s.toks) k1
  exact ⟨.ref _, upd H h1.objs.size (.lst (ns'.map V.int)), I1.laid (t' := s.toks) k2 (Nat.le_refl _) ⟨hlen, out.toList, e, vals_of_ints a1, he⟩, rfl, q ns' _ a2 a3 (I1.hok.fresh (Nat.le_refl _))⟩
theorem el_sortedTI {Z : Ctx} {e : Expr} {ρ : List Slot} {own : Own} {pos p : Pos} {ns res : List Int} (hm : Z.X.mg "sorted" = none) (h : ED Z e ρ own (.tuple (ns.map PyData.int))) (hl : ns.length < 64) (hr : ∀ ns' : List Int, ns'.Perm ns → ns'.Pairwise (· ≤ ·) → ns' = res) (hg : Gl Z.X "sorted" := by rfl) (hs : starEach [e] Z.X.env = (false, eval e Z.X.env) :: starEach [] Z.X.env := by rfl) : EL Z (.Call (.Name "sorted" p) [e] [] pos) ρ own (res.map PyData.int) :=
  el_callB cr_sortedTI hg hm (by decide +kernel) (ea_cons h ea_nil hs) fun vs Hf H S r0 Q k => by
    obtain ⟨v, rfl, r⟩ := r0.one
    cases (show Rep Hf v (.tuple (ns.map PyData.int)) from r) with
    | tup e1 e2 =>
      cases e2.of_ints
      refine ⟨_, ns, rfl, SqT.of (S.e1 _ _ e1), hl, fun ns' l hp ho hn => ?_⟩
      rw [hr ns' hp ho]
      exact k l Hf _ (Same.refl _) (S.newOwn (oo := .lst (res.map PyData.int)) hn ⟨_, upd_same, Reps.ints res⟩)
end Sd


/-! dicts with tuples of ints as keys -/
namespace Sd
open PySem PySem.Spec PyProof.Rows L2
/-! ### walking d.items() -/
section
variable {X : Cx} {pins : List (Addr × Obj)} {σ : L2.St} {H : Hp} {s : Shared}
end

/-! ### a display of one pair -/
def getT {κ α : Type} [DecidableEq κ] (tb : List (κ × α)) (k : κ) : Option α := (tb.find? fun e => decide (e.1 = k)).map (·.2)
def putT {κ α : Type} [DecidableEq κ] (tb : List (κ × α)) (k : κ) (v : α) : List (κ × α) :=
  if (tb.any fun e => decide (e.1 = k)) = true then tb.map (fun e => if e.1 = k then (e.1, v) else e) else tb ++ [(k, v)]
theorem inl_inj : ∀ {a b : List Int}, (a.map Sum.inl : List Key) = b.map Sum.inl → a = b
  | [], [], _ => rfl
  | [], _ :: _, h => nomatch h
  | _ :: _, [], h => nomatch h
  | x :: a, y :: b, h => by
    rw [List.map_cons, List.map_cons] at h
    injection h with h1 h2
    injection h1 with h1
    rw [h1, inl_inj h2]
theorem DtOk.nil {Hf : Hp} : DtOk Hf [] [] := ⟨rfl, .nil⟩
theorem DtOk.inv {Hf : Hp} {kvs : List (List Key × V)} {e : List Int × PyData} {tb : List (List Int × PyData)} (h : DtOk Hf kvs (e :: tb)) : ∃ v r, kvs = (e.1.map Sum.inl, v) :: r ∧ Rep Hf v e.2 ∧ DtOk Hf r tb := by
  obtain ⟨h1, h2⟩ := h
  match kvs, h1, h2 with
  | [], h1, _ => exact nomatch h1
  | (k, v) :: r, h1, h2 =>
    rw [List.map_cons, List.map_cons] at h1
    injection h1 with h3 h4
    cases h2 with
    | cons a b => exact ⟨v, r, by rw [← h3], a, h4, b⟩
theorem DtOk.inv0 {Hf : Hp} {kvs : List (List Key × V)} (h : DtOk Hf kvs []) : kvs = [] := by
  have := h.ks
  simpa using this
theorem DtOk.cons {Hf : Hp} {r : List (List Key × V)} {e : List Int × PyData} {tb : List (List Int × PyData)} {v : V} (a : Rep Hf v e.2) (h : DtOk Hf r tb) : DtOk Hf ((e.1.map Sum.inl, v) :: r) (e :: tb) :=
  ⟨by rw [List.map_cons, List.map_cons, h.ks], .cons a h.vs⟩
theorem DtOk.length {Hf : Hp} {kvs : List (List Key × V)} {tb : List (List Int × PyData)} (h : DtOk Hf kvs tb) : kvs.length = tb.length := by
  have := congrArg List.length h.ks
  simpa using this
theorem DtOk.any {Hf : Hp} (k : List Int) : ∀ {tb : List (List Int × PyData)} {kvs : List (List Key × V)}, DtOk Hf kvs tb → (kvs.any fun kv => decide (kv.1 = k.map Sum.inl)) = tb.any fun e => decide (e.1 = k)
  | [], kvs, h => by rw [h.inv0]; rfl
  | e :: tb, kvs, h => by
    obtain ⟨v, r, rfl, _, h2⟩ := h.inv
    rw [List.any_cons, List.any_cons, DtOk.any k h2]
    congr 1
    refine decide_eq_decide.mpr ⟨fun z => inl_inj z, fun z => by rw [z]⟩
theorem DtOk.get {Hf : Hp} (k : List Int) : ∀ {tb : List (List Int × PyData)} {kvs : List (List Key × V)}, DtOk Hf kvs tb → (getT tb k = none → valV kvs (k.map Sum.inl) = none) ∧ ∀ d, getT tb k = some d → ∃ v, valV kvs (k.map Sum.inl) = some v ∧ Rep Hf v d
  | [], kvs, h => by rw [h.inv0]; exact ⟨fun _ => rfl, fun d z => nomatch z⟩
  | e :: tb, kvs, h => by
    obtain ⟨v, r, rfl, hv, h2⟩ := h.inv
    have ih := DtOk.get k h2
    by_cases hk : e.1 = k
    · have g : getT (e :: tb) k = some e.2 := by simp [getT, List.find?_cons, hk]
      rw [g]
      refine ⟨(fun z => nomatch z), fun d z => ?_⟩
      cases z
      exact ⟨v, valV_pos (by rw [hk]), hv⟩
    · have g : getT (e :: tb) k = getT tb k := by simp [getT, List.find?_cons, hk]
      rw [g, valV_neg (fun z => hk (inl_inj z))]
      exact ih
theorem DtOk.repl {Hf : Hp} (k : List Int) {x : V} {d : PyData} (hx : Rep Hf x d) : ∀ {tb : List (List Int × PyData)} {kvs : List (List Key × V)}, DtOk Hf kvs tb → DtOk Hf (kvs.map fun kv => if kv.1 = k.map Sum.inl then (kv.1, x) else kv) (tb.map fun e => if e.1 = k then (e.1, d) else e)
  | [], kvs, h => by rw [h.inv0]; exact .nil
  | e :: tb, kvs, h => by
    obtain ⟨v, r, rfl, hv, h2⟩ := h.inv
    have ih := DtOk.repl k hx h2
    rw [List.map_cons, List.map_cons]
    by_cases hk : e.1 = k
    · rw [if_pos (by rw [hk]), if_pos hk]
      exact .cons (e := (e.1, d)) hx ih
    · rw [if_neg (fun z => hk (inl_inj z)), if_neg hk]
      exact .cons hv ih
theorem DtOk.put {Hf : Hp} (k : List Int) {x : V} {d : PyData} (hx : Rep Hf x d) {tb : List (List Int × PyData)} {kvs : List (List Key × V)} (h : DtOk Hf kvs tb) : DtOk Hf (putK kvs (k.map Sum.inl) x) (putT tb k d) := by
  unfold putK putT
  rw [h.any k]
  by_cases q : (tb.any fun e => decide (e.1 = k)) = true
  · rw [if_pos q, if_pos q]
    exact h.repl k hx
  · rw [if_neg q, if_neg q]
    exact ⟨by rw [List.map_append, List.map_append, h.ks]; rfl, by rw [List.map_append, List.map_append]; exact h.vs.append (.cons hx .nil)⟩
theorem DtOk.at {Hf : Hp} : ∀ {tb : List (List Int × PyData)} {kvs : List (List Key × V)} {i : Nat} {k : List Key} {v : V}, DtOk Hf kvs tb → kvs[i]? = some (k, v) → ∃ e, tb[i]? = some e ∧ k = e.1.map Sum.inl ∧ Rep Hf v e.2
  | [], kvs, i, k, v, h, q => by rw [h.inv0] at q; simp at q
  | e :: tb, kvs, 0, k, v, h, q => by
    obtain ⟨v', r, rfl, hv, h2⟩ := h.inv
    simp at q
    obtain ⟨rfl, rfl⟩ := q
    exact ⟨e, rfl, rfl, hv⟩
  | e :: tb, kvs, i + 1, k, v, h, q => by
    obtain ⟨v', r, rfl, hv, h2⟩ := h.inv
    exact DtOk.at (i := i) h2 (by simpa using q)
theorem kv_ints (k : List Int) : (k.map Sum.inl : List Key).map kV = k.map V.int := by
  rw [List.map_map]
  rfl
section
variable {Z : Ctx} {D : DE} {e f o a : Expr} {ρ : List Slot} {own oa ob : Own} {pos p tpos apos cpos : Pos} {q : Addr} {tb : List (List Int × PyData)} {k : List Int} {d d0 x : PyData} {n : Nat} {R : Slot → Own → Prop}
/-- {} -/
theorem eg_dnew (h : ∀ p, R (.raw (.ref p)) ((p, .dt []) :: own)) : EG Z (.Dict [] [] pos) ρ own R := fun Hf σ H S E Q q =>
  wE.of pe_dnewT fun p hp => q (.ref p) Hf _ (.raw (.ref p)) _ (Same.refl _) (S.newOwn (oo := .dt []) hp ⟨[], upd_same, .nil⟩) rfl (fun z => nomatch z) (h p)
theorem keyAt {Hf : Hp} {v : V} (r : Rep Hf v (.tuple (k.map PyData.int))) : ∃ b, v = .ref b ∧ Hf b = some (.tup ((k.map Sum.inl : List Key).map kV)) := by
  cases r with
  | tup h1 h2 =>
    cases h2.of_ints
    exact ⟨_, rfl, by rw [kv_ints]; exact h1⟩
/-- d.get(k, x) -/
theorem ed_dget2 (g : Gd Z n) (hq : (q, OO.dt tb) ∈ own) (ho : EV Z o ρ own (.ref q)) (hk : ED Z e ρ own (.tuple (k.map PyData.int))) (hd : ED Z f ρ own d0)
    (hbase : attributeBase o "get" Z.X.env (eval o Z.X.env) = eval o Z.X.env := by rfl)
    (hfew : ((backTo cpos (starEach [e, f] Z.X.env)).all (fun x => !x.1) && (backToKw cpos (keywordEach [] Z.X.env)).all (fun x => x.1.isSome)
      && decide (([e, f] : List Expr).length + ([] : List Keyword).length + (if ([] : List Keyword).isEmpty then 0 else 1) < 30)) = true := by rfl)
    (hline : (apos.endLine == cpos.line) = true := by rfl) (ht : backTo cpos (starEach [e, f] Z.X.env) = [(false, eval e Z.X.env), (false, eval f Z.X.env)] := by rfl) :
    ED Z (.Call (.Attribute o "get" apos) [e, f] [] cpos) ρ own ((getT tb k).getD d0) := fun Hf σ H S E Q kq =>
  wE.of (pe_dget2 (by have := g.hr.units; omega) peW peW peW ⟨hbase, hfew, hline, ht⟩) (ho Hf σ H S E _ fun w Hf1 H1 m1 S1 r1 => by
    cases (show w = .ref q from r1)
    obtain ⟨_, _, kvs, g1, g2⟩ := S1.at hq
    refine ⟨q, rfl, .inr ⟨kvs, .inl g1⟩, hk Hf1 σ H1 S1 (E.mono m1) _ fun v2 Hf2 H2 m2 S2 r2 => hd Hf2 σ H2 S2 (E.mono (m1.trans m2)) _ fun v3 Hf3 H3 m3 S3 r3 => ?_⟩
    obtain ⟨b, rfl, hb⟩ := keyAt (r2.mono m3)
    obtain ⟨_, _, kvs3, g3, g4⟩ := S3.at hq
    obtain ⟨n1, n2⟩ := g4.get k
    refine ⟨_, .t g3 (S3.e1 _ _ hb), kq _ Hf3 H3 ((m1.trans m2).trans m3) S3 ?_⟩
    cases eg : getT tb k with
    | none => rw [n1 eg]; exact r3
    | some d =>
      obtain ⟨v, h1, h2⟩ := n2 d eg
      rw [h1]
      exact h2)
/-- d[k] -/
theorem ed_dget (g : Gd Z n) (hq : (q, OO.dt tb) ∈ own) (ho : EV Z o ρ own (.ref q)) (hk : ED Z e ρ own (.tuple (k.map PyData.int))) (hd : getT tb k = some d) (hs : NoSl e := by exact fun _ _ => rfl) : ED Z (.Subscript o e pos) ρ own d := fun Hf σ H S E Q kq =>
  wE.of (pe_dget (by have := g.hr.units; omega) peW peW hs) (ho Hf σ H S E _ fun w Hf1 H1 m1 S1 r1 => hk Hf1 σ H1 S1 (E.mono m1) _ fun v2 Hf2 H2 m2 S2 r2 => by
    cases (show w = .ref q from r1)
    obtain ⟨b, rfl, hb⟩ := keyAt r2
    obtain ⟨_, _, kvs3, g3, g4⟩ := S2.at hq
    obtain ⟨v, h1, h2⟩ := (g4.get k).2 d hd
    exact ⟨q, v, rfl, by rw [← h1]; exact .t g3 (S2.e1 _ _ hb), kq v Hf2 H2 (m1.trans m2) S2 h2⟩)
/-- d[k] = x -/
theorem sd_dput (g : Gd Z n) (he : ED Z f ρ (oa ++ (q, .dt tb) :: ob) x) (ho : EV Z o ρ (oa ++ (q, .dt tb) :: ob) (.ref q)) (hk : ED Z e ρ (oa ++ (q, .dt tb) :: ob) (.tuple (k.map PyData.int))) (hl : tb.length < 100000) (h : D.nx ρ (oa ++ (q, .dt (putT tb k x)) :: ob))
    (hs : swapsWith f (some (.Subscript o e tpos)) pos.line Z.X.env = pure false := by rfl) : SD Z (.Assign [.Subscript o e tpos] f pos) D ρ (oa ++ (q, .dt tb) :: ob) := fun H0 Hf σ H m0 S E =>
  wS.of (ps_dput (by have := g.hr.units; omega) peW peW peW hs) (he Hf σ H S E _ fun v1 Hf1 H1 m1 S1 r1 => ho Hf1 σ H1 S1 (E.mono m1) _ fun w Hf2 H2 m2 S2 r2 => hk Hf2 σ H2 S2 (E.mono (m1.trans m2)) _ fun v3 Hf3 H3 m3 S3 r3 => by
    cases (show w = .ref q from r2)
    obtain ⟨b, rfl, hb⟩ := keyAt r3
    obtain ⟨_, _, kvs3, g3, g4⟩ := S3.at (p := q) (oo := .dt tb) (by simp)
    refine ⟨q, _, rfl, .t g3 (S3.e1 _ _ hb) (by rw [g4.length, sizeLine_eq]; omega), Hf3, ρ, _, ((m0.trans m1).trans m2).trans m3, S3.write (oo' := .dt (putT tb k x)) ⟨_, upd_same, g4.put k (r1.mono (m2.trans m3))⟩, E.mono ((m1.trans m2).trans m3), h⟩)
/-! ### a dict that is walked is locked -/
end
/-! ### what is not needed any more -/
theorem Sat.sub {B : Bs} {Hf H : Hp} {o o' : Own} (h : o'.Sublist o) (S : Sat B Hf H o) : Sat B Hf H o' := ⟨S.e0, S.e1, S.eb, S.fr, fun q hq => S.ow q (h.subset hq), (h.map Prod.fst).nodup S.nd, S.tp⟩
end Sd


/-! a list of one's own, lent: data while an expression runs -/
namespace Sd
open PySem PySem.Spec PyProof.Rows L2
/-- no list within -/
inductive Fre : PyData → Prop
  | non : Fre .none
  | bl (b : Bool) : Fre (.bool b)
  | int (i : Int) : Fre (.int i)
  | str (z : Str) : Fre (.str z)
  | tup {ds : List PyData} : (∀ d ∈ ds, Fre d) → Fre (.tuple ds)
section
variable {Z : Ctx} {D : DE} {e : Expr} {ρ : List Slot} {own : Own} {p : Addr} {ds : List PyData} {R R' : Slot → Own → Prop}
theorem sds_sub {sts : List Stmt} {o o' : Own} (hp : o'.Sublist o) (h : SDs Z sts D ρ o') : SDs Z sts D ρ o := fun H0 Hf σ H m0 S E => h H0 Hf σ H m0 (S.sub hp) E
end
/-! ### a def without parameters -/
end Sd


/-! sorted(d), d a dict with tuples of ints as keys -/
namespace Sd
open PySem PySem.Spec PyProof.Rows L2
def NtAd : Value → Addr
  | .ref a => a
  | _ => 0
theorem swo_rank (r : Value → Int) : SrtO.Swo fun v u => decide (r v < r u) := by
  refine ⟨fun x y h => ?_, fun x y z h1 h2 => ?_⟩
  · have := of_decide_eq_true h
    exact decide_eq_false (by omega)
  · have := of_decide_eq_false h1
    have := of_decide_eq_false h2
    exact decide_eq_false (by omega)
theorem tups_sortable {prog : Program} {w : World} {A : Around} {s : Shared} {a : Addr} {vs : List Value} {d : Nat} {B : Int} {h0 : Heap} (hd : 1 ≤ d) (h2 : 2 ≤ vs.length) (x : TS.TupsOk s.heap d B vs) (ha : ∀ o, s.heap.get? a = some o → o.cls ≠ .type "tuple") (hr : ∀ v ∈ vs, TS.intsOf s.heap v = TS.intsOf h0 v) :
    SrtO.SortableO prog w A s a vs fun v u => decide (TS.code B (TS.intsOf h0 v) < TS.code B (TS.intsOf h0 u)) := by
  intro h' keep
  have kt : ∀ b o, s.heap.get? b = some o → o.cls = .type "tuple" → h'.get? b = some o := fun b o e c => keep b o (fun z => by subst z; exact ha o e c) e
  have x' := x.keeps kt
  obtain ⟨fs, k, hl, hi⟩ := TS.firsts_of hd vs x'
  refine ⟨_, fun Q E hq => PySem.W.kat_kind (T := Value.type "int") k (by omega) (fun f hf => ?_) rfl hq, ?_⟩
  · obtain ⟨n, t, rfl⟩ := hi f hf
    exact PySem.W.Looks.of_pure rfl
  · intro p q hp hq
    obtain ⟨ns, t1, l1, b1⟩ := x p.1 hp
    obtain ⟨ms, t2, l2, b2⟩ := x q.1 hq
    have e1 : TS.intsOf h0 p.1 = ns := (hr _ hp).symm.trans t1.ints
    have e2 : TS.intsOf h0 q.1 = ms := (hr _ hq).symm.trans t2.ints
    obtain ⟨a1, xs, ev, ⟨o1, ho1, hc1, n1, hd1⟩, i1⟩ := t1.keeps kt
    obtain ⟨a2, ys, ew, ⟨o2, ho2, hc2, n2, hd2⟩, i2⟩ := t2.keeps kt
    show wpAny _ _ (keyLt' _ p.1 q.1) (fun r s' => s' = _ ∧ r = decide (TS.code B (TS.intsOf h0 p.1) < TS.code B (TS.intsOf h0 q.1))) _ _
    rw [ev, ew]
    refine PySem.W.kat_lt ho1 hd1 ho2 hd2 ?_
    have hsz : decide (xs.size < ys.size) = false := by
      have h1 : xs.toList.length = ns.length := i1.length
      have h2 : ys.toList.length = ms.length := i2.length
      rw [Array.length_toList] at h1 h2
      exact decide_eq_false (by omega)
    rw [hsz]
    refine TS.lex_ints (B := B) 0 i1 i2 (by omega) b1 b2 ⟨rfl, ?_⟩
    rw [ev] at e1
    rw [ew] at e2
    rw [e1, e2]
section
variable {X : Cx}
/-- sorted(d): the keys' tuples, in some order by code -/
theorem cr_sortedDT (hc : X.calm = true) : CallR X (.builtin "sorted") (fun xs H Q => ∃ (a : Addr) (kvs : List (List Key × V)) (ks : List (List Int)) (n : Nat) (B : Int), xs = [V.ref a] ∧ Rd H a (.dT kvs) ∧ kvs.map (·.1) = ks.map (fun k => k.map Sum.inl) ∧ (∀ k ∈ ks, k.length = n ∧ TS.Bd B k) ∧ (1 ≤ n ∨ ks.length < 2) ∧
    ∀ (ys : List (List Int)) (bs : List Addr) (p : Addr), ys.Perm ks → ys.Pairwise (fun x y => TS.code B x ≤ TS.code B y) → Paired (fun k b => H b = some (.tup (k.map V.int))) ys bs → H p = none → Q (.ref p) (upd H p (.lst (bs.map V.ref)))) := by
  intro pins s σ H xs us Q I r h
  obtain ⟨d, kvs, keys, n, B, rfl, hd, hks, hB, hn1, q⟩ := h
  obtain ⟨u, rfl, rx⟩ := r.one
  cases rx
  obtain ⟨z, hs, ks, pr, o, es, ep, ho, hx, hdt, he, hn⟩ := (show ObjOk X.prog X.w H s.heap d (.dT kvs) from hd.ok I.hok)
  have l1 : es.size = ks.length := size_of_entries he
  have l2 : kvs.length = ks.length := Paired.length pr
  have l3 : kvs.length = keys.length := by
    have := congrArg List.length hks
    simpa using this
  refine Calls.call_function_entry PyProof.Rows.kind_sorted PyProof.Rows.plain_sorted PyProof.Rows.entry_sorted (PyProof.Rows.args_sorted1 _) ?_
  unfold Builtin.«sorted»
  refine wpAny_bind (m := checkCount "sorted" 1 1 _) (wpAny_pure ?_)
  refine wpAny_bind (PySem.W.kdu_collect (A := X.A.in1) (kdl_raw hs hx hdt) (I.ok.hd hc) ho (by omega) fun h' tk acc hk it => ?_)
  have ea : acc.toList = (ks.map fun x => x.2.1).map Value.ref := by
    have hl : acc.toList.length = ks.length := by rw [Array.length_toList, it.1]; exact l1
    apply List.ext_getElem?
    intro j
    rw [List.map_map, List.getElem?_map]
    cases hj : acc.toList[j]? with
    | none =>
      have h1 := List.getElem?_eq_none_iff.mp hj
      rw [List.getElem?_eq_none (by omega)]
      all_goals rfl
    | some v =>
      obtain ⟨en, hen, hv⟩ := it.2 j v (by rw [← Array.getElem?_toList]; exact hj)
      have qe := entry_at he j
      rw [hen] at qe
      cases hb : ks[j]? with
      | none =>
        rw [hb] at qe
        exact nomatch (show some en = none from qe)
      | some b =>
        rw [hb] at qe
        have e2 : en = entryOfKey (tupleKind (mixKind X.prog X.w)) b := Option.some.inj qe
        rw [hv, e2]
        all_goals rfl
  obtain ⟨bs, ebs⟩ : ∃ bs, bs = ks.map fun x => x.2.1 := ⟨_, rfl⟩
  rw [← ebs] at ea
  have ik := isKeys_of pr
  rw [← ebs] at ik
  -- by place: the key's ints
  have bl : bs.length = keys.length := by rw [← l3, Paired.length ik]
  have at1 : ∀ (j : Nat) (b : Addr), bs[j]? = some b → ∃ k, keys[j]? = some k ∧ H b = some (.tup (k.map V.int)) := fun j b hj => by
    have hjl := (List.getElem?_eq_some_iff.mp hj).1
    obtain ⟨kv, hkv⟩ : ∃ kv, kvs[j]? = some kv := ⟨kvs[j]'(by omega), List.getElem?_eq_getElem _⟩
    obtain ⟨b', hb', e⟩ := paired_get ik hkv
    rw [hj] at hb'
    cases hb'
    have e3 : (kvs.map (·.1))[j]? = some kv.1 := by rw [List.getElem?_map, hkv]; rfl
    rw [hks, List.getElem?_map] at e3
    cases e4 : keys[j]? with
    | none => rw [e4] at e3; cases e3
    | some k =>
      rw [e4] at e3
      have e5 : k.map Sum.inl = kv.1 := Option.some.inj e3
      refine ⟨k, rfl, ?_⟩
      rw [e, ← e5, kv_ints]
  have I1 : Inv X pins σ H { s with heap := h', toks := tk } := I.kept hk
  have tup1 : ∀ (b : Addr) (k : List Int), H b = some (.tup (k.map V.int)) → TS.TupInts h' (.ref b) k := fun b k e => tupI_raw I1 (SqT.of e)
  have al : acc.toList.length = keys.length := by rw [ea, List.length_map, bl]
  refine wpAny_bind (wpAny_newList ?_ (by rw [al]; omega))
  have hoL : (h'.push (seqObj "list" acc.toList.toArray 0)).get? h'.objs.size = some (seqObj "list" acc.toList.toArray 0) := Heap.get?_push_size _ rfl
  show wpAny _ _ _ _ _ { s with heap := h'.push (seqObj "list" acc.toList.toArray 0), toks := tk }
  have tok : TS.TupsOk h' n B acc.toList := fun v hv => by
    rw [ea] at hv
    obtain ⟨b, hb, rfl⟩ := List.mem_map.mp hv
    obtain ⟨j, hj⟩ := List.mem_iff_getElem?.mp hb
    obtain ⟨k, hk1, hk2⟩ := at1 j b hj
    have := hB k (List.mem_of_getElem? hk1)
    exact ⟨k, tup1 b k hk2, this.1, this.2⟩
  have kp2 : ∀ b o, h'.get? b = some o → o.cls = .type "tuple" → (h'.push (seqObj "list" acc.toList.toArray 0)).get? b = some o := fun b o e _ => Heap.get?_push_of_some _ e
  refine wpAny_bind (wpAny_holding (wpAny_call_entry PyProof.Rows.slot_list_sort ⟨_, hoL, rfl⟩ PyProof.Rows.entry_list_sort
    (SrtO.list_sort_ord (s := { s with heap := h'.push (seqObj "list" acc.toList.toArray 0), toks := tk }) (swo_rank fun v => TS.code B (TS.intsOf h' v)) hoL (by rw [al]; omega) (fun h2 => tups_sortable (by omega) h2 (tok.keeps kp2) (fun o e c => ?_) fun v hv => ?_) fun out g1 g2 => ⟨_, rfl, ?_⟩) (PyProof.Rows.args_list_sort _)))
  · rw [hoL] at e
    cases e
    exact absurd (Value.type.inj c) (by decide)
  · obtain ⟨ns, t, _⟩ := tok v hv
    rw [t.ints]
    exact (t.keeps kp2).ints
  have pm : out.Perm (bs.map Value.ref) := by rw [← ea]; exact g2.perm
  have hrf : ∀ v ∈ out, ∃ b ∈ bs, v = .ref b := fun v hv => by
    obtain ⟨b, hb, rfl⟩ := List.mem_map.mp (pm.mem_iff.mp hv)
    exact ⟨b, hb, rfl⟩
  obtain ⟨cs, ecs⟩ : ∃ cs : List Addr, out = cs.map Value.ref := by
    clear g1 g2 pm
    induction out with
    | nil => exact ⟨[], rfl⟩
    | cons v out ih =>
      obtain ⟨cs, e⟩ := ih fun w hw => hrf w (List.mem_cons_of_mem _ hw)
      obtain ⟨b, _, rfl⟩ := hrf v List.mem_cons_self
      exact ⟨b :: cs, by rw [e]; rfl⟩
  have inj : ∀ l : List Addr, (l.map Value.ref).map NtAd = l := fun l => by
    rw [List.map_map]
    exact List.map_id'' (fun _ => rfl) l
  have pcs : cs.Perm bs := by
    rw [ecs] at pm
    have := pm.map NtAd
    rw [inj, inj] at this
    exact this
  have kof : ∀ b ∈ bs, H b = some (.tup ((TS.intsOf h' (.ref b)).map V.int)) := fun b hb => by
    obtain ⟨j, hj⟩ := List.mem_iff_getElem?.mp hb
    obtain ⟨k, hk1, hk2⟩ := at1 j b hj
    rw [(tup1 b k hk2).ints]
    exact hk2
  have ekeys : bs.map (fun b => TS.intsOf h' (.ref b)) = keys := by
    apply List.ext_getElem?
    intro j
    rw [List.getElem?_map]
    cases hj : bs[j]? with
    | none =>
      have := List.getElem?_eq_none_iff.mp hj
      rw [List.getElem?_eq_none (by omega)]
      rfl
    | some b =>
      obtain ⟨k, hk1, hk2⟩ := at1 j b hj
      rw [hk1]
      show some (TS.intsOf h' (.ref b)) = _
      rw [(tup1 b k hk2).ints]
  obtain ⟨e', he'⟩ := PyProof.Rows.sortedHeap_at (vs := acc.toList) (out := out.toArray) hoL
  have hlen : (cs.map V.ref).length ≤ sizeLine := by rw [List.length_map, pcs.length_eq]; omega
  refine wpAny_pure ⟨_, rfl, .ref h'.objs.size, upd H h'.objs.size (.lst (cs.map V.ref)), I1.laid (t' := tk) (fun b u e => ?_) (Nat.le_refl _)
    (show ObjOk X.prog X.w _ _ _ (.lst (cs.map V.ref)) from ⟨hlen, out, e', by rw [ecs]; exact vals_refs cs, he'⟩), rfl, q (cs.map fun b => TS.intsOf h' (.ref b)) cs _ ?_ ?_ ?_ (I1.hok.fresh (Nat.le_refl _))⟩
  · have hb : b < h'.objs.size := Heap.lt_size e
    rw [PyProof.Rows.sortedHeap_old (Nat.ne_of_lt hb) (by rw [size_push']; exact Nat.lt_succ_of_lt hb)]
    exact Heap.get?_push_of_some _ e
  · have := pcs.map (fun b => TS.intsOf h' (.ref b))
    rw [ekeys] at this
    exact this
  · have g3 : out.Pairwise fun a b => decide (TS.code B (TS.intsOf h' b) < TS.code B (TS.intsOf h' a)) = false := g1
    rw [ecs, List.pairwise_map] at g3
    rw [List.pairwise_map]
    refine List.Pairwise.imp (fun {a b} hab => ?_) g3
    have := of_decide_eq_false hab
    omega
  · have hin : ∀ b ∈ cs, H b = some (.tup ((TS.intsOf h' (.ref b)).map V.int)) := fun b hb => kof b (pcs.mem_iff.mp hb)
    clear ecs pcs
    induction cs with
    | nil => exact .nil
    | cons b cs ih => exact .cons (hin b List.mem_cons_self) (ih (by rw [List.length_map] at hlen ⊢; simp at hlen; omega) fun b' hb' => hin b' (List.mem_cons_of_mem _ hb'))
end
end Sd
namespace Sd
open PySem PySem.Spec PyProof.Rows L2
abbrev tupI (k : List Int) : PyData := .tuple (k.map PyData.int)
def leL (B : Int) (x y : List Int) : Bool := decide (TS.code B x ≤ TS.code B y)
def srtL (B : Int) (ks : List (List Int)) : List (List Int) := ks.mergeSort (leL B)
theorem srtL_perm (B : Int) (ks : List (List Int)) : (srtL B ks).Perm ks := List.mergeSort_perm ks (leL B)
theorem srtL_sorted (B : Int) (ks : List (List Int)) : (srtL B ks).Pairwise fun x y => leL B x y = true := by
  refine List.pairwise_mergeSort (fun a b c h1 h2 => ?_) (fun a b => ?_) ks
  · have := of_decide_eq_true h1
    have := of_decide_eq_true h2
    exact decide_eq_true (by omega)
  · unfold leL
    simp only [Bool.or_eq_true, decide_eq_true_eq]
    omega
theorem code_inj' {B : Int} : ∀ {x y : List Int}, x.length = y.length → TS.Bd B x → TS.Bd B y → TS.code B x = TS.code B y → x = y
  | [], [], _, _, _, _ => rfl
  | a :: x, b :: y, hl, hx, hy, e => by
    have hl' : x.length = y.length := by simpa using hl
    have h1 : ¬ a < b := fun h => by
      have := TS.code_lt hl' hx.tail hy.tail h
      omega
    have h2 : ¬ b < a := fun h => by
      have := TS.code_lt hl'.symm hy.tail hx.tail h
      omega
    have hab : a = b := by omega
    subst hab
    have h3 : ¬ TS.code B x < TS.code B y := fun h => by
      have := (TS.code_same (d := a) hl').mpr h
      omega
    have h4 : ¬ TS.code B y < TS.code B x := fun h => by
      have := (TS.code_same (d := a) hl'.symm).mpr h
      omega
    rw [code_inj' hl' hx.tail hy.tail (by omega)]
theorem perm_srtL {B : Int} {n : Nat} {a b : List (List Int)} (hb : ∀ k ∈ b, k.length = n ∧ TS.Bd B k) (h : a.Perm b) (ha : a.Pairwise (fun x y => TS.code B x ≤ TS.code B y)) : a = srtL B b := by
  refine List.Perm.eq_of_pairwise (le := fun x y => TS.code B x ≤ TS.code B y) (fun x y hx hy h1 h2 => ?_) ha ((srtL_sorted B b).imp fun h => of_decide_eq_true h) (h.trans (srtL_perm B b).symm)
  have h3 := hb x (h.mem_iff.mp hx)
  have h4 := hb y ((srtL_perm B b).mem_iff.mp hy)
  exact code_inj' (by rw [h3.1, h4.1]) h3.2 h4.2 (by omega)
theorem reps_tups {B : Bs} {Hf H : Hp} {own : Own} (S : Sat B Hf H own) : ∀ {ys : List (List Int)} {bs : List Addr}, Paired (fun k b => H b = some (.tup (k.map V.int))) ys bs → Reps Hf (bs.map V.ref) (ys.map tupI)
  | [], _, .nil => .nil
  | _ :: _, _, .cons h t => .cons (.tup (S.tp _ _ h) (Reps.ints _)) (reps_tups S t)
section
variable {Z : Ctx} {e : Expr} {ρ : List Slot} {own : Own} {pos p : Pos} {s : Slot} {k : Nat}
theorem el_sortedDT {q : Addr} {tb : List (List Int × PyData)} {n : Nat} {B : Int} (g : Gd Z k) (hm : Z.X.mg "sorted" = none) (hq : (q, OO.dt tb) ∈ own) (h : EV Z e ρ own (.ref q)) (hB : ∀ t ∈ tb, t.1.length = n ∧ TS.Bd B t.1) (hn : 1 ≤ n ∨ tb.length < 2) (hg : Gl Z.X "sorted" := by rfl) (hs : starEach [e] Z.X.env = (false, eval e Z.X.env) :: starEach [] Z.X.env := by rfl) : EL Z (.Call (.Name "sorted" p) [e] [] pos) ρ own ((srtL B (tb.map (·.1))).map tupI) :=
  el_callB (cr_sortedDT g.calm) hg hm (by decide +kernel) (ea_cons h ea_nil hs) fun vs Hf H S r0 Q kq => by
    obtain ⟨v, rfl, r⟩ := r0.one
    cases r
    obtain ⟨_, _, kvs, h1, ok⟩ := S.at hq
    have hks : ∀ x ∈ tb.map (·.1), x.length = n ∧ TS.Bd B x := fun x hx => by
      obtain ⟨t, ht, rfl⟩ := List.mem_map.mp hx
      exact hB t ht
    refine ⟨q, kvs, tb.map (·.1), n, B, rfl, Rd.of h1, by rw [ok.ks, List.map_map]; rfl, hks, by rw [List.length_map]; exact hn, fun ys bs p hp hso pr hpn => ?_⟩
    have ey : ys = srtL B (tb.map (·.1)) := perm_srtL hks hp hso
    subst ey
    exact kq p Hf _ (Same.refl _) (S.newOwn (oo := .lst ((srtL B (tb.map (·.1))).map tupI)) hpn ⟨_, upd_same, reps_tups S pr⟩)
end
end Sd
namespace Sd
open PySem PySem.Spec PyProof.Rows L2
/-! a comprehension whose elements read what is owned -/
section
variable {Z : Ctx} {elt tg iter : Expr} {ifs : List Expr} {scope : Scope} {ρ : List Slot} {own : Own} {Fin : List PyData → Own → Prop} {k : Nat} {Po : Own → Prop} {ys : List PyData} {pos : Pos} {D : DE}
theorem compO {α : Type} (g : Gd Z k) (it : IT Z tg iter ρ own Po ys) (on : List (Str × Nat)) (ok : BlkOk Z.X.N Z.X.env.scope scope on) (xs : List α) (enc : α → PyData) (hy : ys = xs.map enc) (F : α → Option PyData) (ρ2 : α → List Slot) (is : List Nat)
    (his : ∀ i ∈ is, i ∈ on.map (·.2)) (hl : xs.length < 100000) (hpo : ∀ acc D, Po ((D, .lst acc) :: own)) (gt : ∀ a ∈ xs, ∀ s H C cl fp, Gd (blkZ Z scope s H C cl fp) k → GT (blkZ Z scope s H C cl fp) tg (enc a) (wipeR ρ (on.map (·.2))) (ρ2 a) is)
    (et : ∀ a ∈ xs, ∀ s H C cl fp D acc, Gd (blkZ Z scope s H C cl fp) k → ETs (blkZ Z scope s H C cl fp) ifs (ρ2 a) ((D, .lst acc) :: own) (F a).isSome) (ed : ∀ a ∈ xs, ∀ d, F a = some d → ∀ s H C cl fp D acc, Gd (blkZ Z scope s H C cl fp) k → ED (blkZ Z scope s H C cl fp) elt (ρ2 a) ((D, .lst acc) :: own) d) :
    CP Z elt tg iter ifs scope ρ own (fun ds o => ds = xs.filterMap F ∧ o = own) := by
  subst hy
  have := comp (Po := Po) (ys := xs.map enc) (elt := elt) (ifs := ifs) (scope := scope) g it on ok (fun i acc o => acc = (xs.take i).filterMap F ∧ o = own ∧ i ≤ xs.length) ⟨rfl, rfl, Nat.zero_le _⟩ (fun i acc o D h => by rw [h.2.1]; exact hpo acc D) (fun i acc o h => by
    rw [h.1]
    have h1 := List.length_filterMap_le F (xs.take i)
    rw [List.length_take] at h1
    omega) (fun i y acc o D hy h => by
      obtain ⟨rfl, rfl, hi⟩ := h
      rw [List.getElem?_map] at hy
      cases ea : xs[i]? with
      | none => rw [ea] at hy; cases hy
      | some a =>
        rw [ea] at hy
        cases hy
        have hm : a ∈ xs := List.mem_of_getElem? ea
        have hlt : i < xs.length := (List.getElem?_eq_some_iff.mp ea).1
        have tk : (xs.take (i + 1)).filterMap F = (xs.take i).filterMap F ++ (F a).toList := by
          rw [List.take_add_one, ea, List.filterMap_append]
          cases hF : F a <;> simp [hF]
        refine ⟨ρ2 a, is, (F a).isSome, his, fun s H C cl fp => gt a hm s H C cl fp (g.blk ..), fun s H C cl fp => et a hm s H C cl fp _ _ (g.blk ..), fun hs s H C cl fp => ?_, fun hs => ?_⟩
        · obtain ⟨d, hd⟩ := Option.isSome_iff_exists.mp hs
          exact ES.toEG (ed a hm d hd s H C cl fp _ _ (g.blk ..)) (fun z => nomatch z) ⟨d, o, rfl, rfl, by rw [tk, hd]; rfl, rfl, hlt⟩
        · refine ⟨?_, rfl, hlt⟩
          rw [tk]
          cases hF : F a with
          | none => simp
          | some d => rw [hF] at hs; cases hs)
  obtain ⟨a1, a2, a3, a4, a5, b1, b2, b3, b4, b5, b6⟩ := this
  refine ⟨a1, a2, a3, a4, a5, b1, b2, b3, b4, b5, fun Hf σ H S E Q q => b6 Hf σ H S E Q fun p Hf' H' ds own' m S' hf => q p Hf' H' ds own' m S' ⟨?_, hf.2.1⟩⟩
  rw [hf.1, List.length_map, List.take_length]
end

/-! x in a tuple of ints -/
section
variable {Z : Ctx} {own : Own}
theorem inV_ints (i : Int) : ∀ k : List Int, inV (.int i) (k.map V.int) = decide (i ∈ k)
  | [] => rfl
  | a :: k => by
    have ih := inV_ints i k
    unfold inV at ih ⊢
    rw [List.map_cons, List.any_cons, ih]
    have e : eqV (.int a) (.int i) = decide (a = i) := by
      unfold eqV
      rw [Bool.eq_iff_iff]
      simp
    rw [e, Bool.eq_iff_iff]
    simp only [Bool.or_eq_true, decide_eq_true_eq, List.mem_cons]
    exact ⟨fun h => h.elim (fun h => .inl h.symm) .inr, fun h => h.elim (fun h => .inl h.symm) .inr⟩
theorem flat_ints : ∀ k : List Int, (k.map V.int).all flatV = true
  | [] => rfl
  | a :: k => by rw [List.map_cons, List.all_cons, flat_ints k]; rfl
theorem c_inTI {i : Int} {k : List Int} : CmpB Z .In own (.d (.int i)) (.d (tupI k)) (decide (i ∈ k)) := ⟨_, op_in_seq, fun v w Hf H S r1 r2 Q q => by
  cases r1
  cases r2 with
  | tup h1 h2 =>
    cases h2.of_ints
    refine ⟨_, _, rfl, .inr (SqT.of (S.e1 _ _ h1)), rfl, flat_ints k, ?_⟩
    rw [if_neg (by simp), inV_ints]
    exact q⟩
theorem c_notInTI {i : Int} {k : List Int} : CmpB Z .NotIn own (.d (.int i)) (.d (tupI k)) (!decide (i ∈ k)) := ⟨_, op_notIn_seq, fun v w Hf H S r1 r2 Q q => by
  cases r1
  cases r2 with
  | tup h1 h2 =>
    cases h2.of_ints
    refine ⟨_, _, rfl, .inr (SqT.of (S.e1 _ _ h1)), rfl, flat_ints k, ?_⟩
    rw [if_pos rfl, inV_ints]
    exact q⟩
end
end Sd


/-! dicts with int keys -/
namespace Sd
open PySem PySem.Spec PyProof.Rows L2
theorem DkOk.nil {Hf : Hp} : DkOk Hf [] [] := ⟨rfl, .nil⟩
theorem DkOk.inv {Hf : Hp} {kvs : List (Key × V)} {e : Int × PyData} {tb : List (Int × PyData)} (h : DkOk Hf kvs (e :: tb)) : ∃ v r, kvs = ((Sum.inl e.1 : Key), v) :: r ∧ Rep Hf v e.2 ∧ DkOk Hf r tb := by
  obtain ⟨h1, h2⟩ := h
  match kvs, h1, h2 with
  | [], h1, _ => exact nomatch h1
  | (k, v) :: r, h1, h2 =>
    rw [List.map_cons, List.map_cons] at h1
    injection h1 with h3 h4
    cases h2 with
    | cons a b => exact ⟨v, r, by rw [← h3], a, h4, b⟩
theorem DkOk.inv0 {Hf : Hp} {kvs : List (Key × V)} (h : DkOk Hf kvs []) : kvs = [] := by
  have := h.ks
  simpa using this
theorem DkOk.cons {Hf : Hp} {r : List (Key × V)} {e : Int × PyData} {tb : List (Int × PyData)} {v : V} (a : Rep Hf v e.2) (h : DkOk Hf r tb) : DkOk Hf (((Sum.inl e.1 : Key), v) :: r) (e :: tb) :=
  ⟨by rw [List.map_cons, List.map_cons, h.ks], .cons a h.vs⟩
theorem DkOk.length {Hf : Hp} {kvs : List (Key × V)} {tb : List (Int × PyData)} (h : DkOk Hf kvs tb) : kvs.length = tb.length := by
  have := congrArg List.length h.ks
  simpa using this
theorem DkOk.any {Hf : Hp} (k : Int) : ∀ {tb : List (Int × PyData)} {kvs : List (Key × V)}, DkOk Hf kvs tb → (kvs.any fun kv => decide (kv.1 = Sum.inl k)) = tb.any fun e => decide (e.1 = k)
  | [], kvs, h => by rw [h.inv0]; rfl
  | e :: tb, kvs, h => by
    obtain ⟨v, r, rfl, _, h2⟩ := h.inv
    rw [List.any_cons, List.any_cons, DkOk.any k h2]
    congr 1
    refine decide_eq_decide.mpr ⟨fun z => Sum.inl.inj z, fun z => by rw [z]⟩
theorem DkOk.get {Hf : Hp} (k : Int) : ∀ {tb : List (Int × PyData)} {kvs : List (Key × V)}, DkOk Hf kvs tb → (getT tb k = none → valV kvs (Sum.inl k) = none) ∧ ∀ d, getT tb k = some d → ∃ v, valV kvs (Sum.inl k) = some v ∧ Rep Hf v d
  | [], kvs, h => by rw [h.inv0]; exact ⟨fun _ => rfl, fun d z => nomatch z⟩
  | e :: tb, kvs, h => by
    obtain ⟨v, r, rfl, hv, h2⟩ := h.inv
    have ih := DkOk.get k h2
    by_cases hk : e.1 = k
    · have g : getT (e :: tb) k = some e.2 := by simp [getT, List.find?_cons, hk]
      rw [g]
      refine ⟨(fun z => nomatch z), fun d z => ?_⟩
      cases z
      exact ⟨v, valV_pos (by rw [hk]), hv⟩
    · have g : getT (e :: tb) k = getT tb k := by simp [getT, List.find?_cons, hk]
      rw [g, valV_neg (fun z => hk (Sum.inl.inj z))]
      exact ih
theorem DkOk.repl {Hf : Hp} (k : Int) {x : V} {d : PyData} (hx : Rep Hf x d) : ∀ {tb : List (Int × PyData)} {kvs : List (Key × V)}, DkOk Hf kvs tb → DkOk Hf (kvs.map fun kv => if kv.1 = Sum.inl k then (kv.1, x) else kv) (tb.map fun e => if e.1 = k then (e.1, d) else e)
  | [], kvs, h => by rw [h.inv0]; exact .nil
  | e :: tb, kvs, h => by
    obtain ⟨v, r, rfl, hv, h2⟩ := h.inv
    have ih := DkOk.repl k hx h2
    rw [List.map_cons, List.map_cons]
    by_cases hk : e.1 = k
    · rw [if_pos (by rw [hk]), if_pos hk]
      exact .cons (e := (e.1, d)) hx ih
    · rw [if_neg (fun z => hk (Sum.inl.inj z)), if_neg hk]
      exact .cons hv ih
theorem DkOk.put {Hf : Hp} (k : Int) {x : V} {d : PyData} (hx : Rep Hf x d) {tb : List (Int × PyData)} {kvs : List (Key × V)} (h : DkOk Hf kvs tb) : DkOk Hf (putK kvs (Sum.inl k) x) (putT tb k d) := by
  unfold putK putT
  rw [h.any k]
  by_cases q : (tb.any fun e => decide (e.1 = k)) = true
  · rw [if_pos q, if_pos q]
    exact h.repl k hx
  · rw [if_neg q, if_neg q]
    exact ⟨by rw [List.map_append, List.map_append, h.ks]; rfl, by rw [List.map_append, List.map_append]; exact h.vs.append (.cons hx .nil)⟩
section
variable {Z : Ctx} {D : DE} {e f o a : Expr} {ρ : List Slot} {own oa ob : Own} {pos p tpos apos cpos : Pos} {q : Addr} {tb : List (Int × PyData)} {k : Int} {d d0 x : PyData} {n : Nat} {R : Slot → Own → Prop}
end
end Sd


namespace Sd
open PySem PySem.Spec PyProof.Rows L2
/-! displays of constants: the step over a constant is proved once, for any constant (quick) -/
section
variable {Z : Sd.Ctx} {ρ : List Slot} {own : Own} {es : List Expr} {s : Slot} {ss : List Slot} {p pos : Pos} {x1 : Nat}
theorem eb_k {x : Const} {j : Nat} (h : ES Z (.Constant x j p) ρ own s) (hr : EA Z es ρ own ss) : EA Z (.Constant x j p :: es) ρ own (s :: ss) := ea_cons h hr
theorem ed_lb1 {x : PyData} (h : EA Z es ρ own [.d x]) : ED Z (.List es pos) ρ own (.list [x]) := ed_lst (ds := [x]) h
theorem ed_tb2 {x y : PyData} (h : EA Z es ρ own [.d x, .d y]) : ED Z (.Tuple es x1 pos) ρ own (.tuple [x, y]) := ed_tup (ds := [x, y]) h
theorem ed_k2 {i i' : Int} {j j' : Nat} {p' : Pos} : ED Z (.Tuple [.Constant (.int i) j p, .Constant (.int i') j' p'] x1 pos) ρ own (.tuple [.int i, .int i']) := by with_reducible exact ed_tb2 (eb_k ed_int (eb_k ed_int ea_nil))
theorem ed_k1 {i : Int} {j : Nat} : ED Z (.List [.Constant (.int i) j p] pos) ρ own (.list [.int i]) := by with_reducible exact ed_lb1 (eb_k ed_int ea_nil)
end
end Sd


/-! append of an element whose reading changes what is owned; remove -/
namespace Sd
open PySem PySem.Spec PyProof.Rows L2
section
variable {Z : Ctx} {D : DE} {ρ : List Slot} {own oa ob : Own} {pos : Pos} {e a : Expr} {ds : List PyData}
theorem sd_appendG {p : Addr} {apos cpos : Pos} {P : PyData → Own → Own → Prop} (hq : (p, OO.lst ds) ∈ own) (ha : EV Z a ρ own (.ref p)) (he : EG Z e ρ own fun t o => ∃ x oa ob, t = .d x ∧ o = oa ++ (p, .lst ds) :: ob ∧ P x oa ob) (hl : ds.length < 100000) (h : ∀ x oa ob, P x oa ob → D.nx ρ (oa ++ (p, .lst (ds ++ [x])) :: ob))
    (hs0 : swapsWith (.Call (.Attribute a "append" apos) [e] [] cpos) none pos.line Z.X.env = pure false := by rfl) (hbase : attributeBase a "append" Z.X.env (eval a Z.X.env) = eval a Z.X.env := by rfl)
    (hfew : ((backTo cpos (starEach [e] Z.X.env)).all (fun x => !x.1) && (backToKw cpos (keywordEach [] Z.X.env)).all (fun x => x.1.isSome)
      && decide ([e].length + ([] : List Keyword).length + (if ([] : List Keyword).isEmpty then 0 else 1) < 30)) = true := by rfl)
    (hline : (apos.endLine == cpos.line) = true := by rfl) (hs : starEach [e] Z.X.env = (false, eval e Z.X.env) :: starEach [] Z.X.env := by rfl) (hplain : (backTo cpos (starEach [] Z.X.env)).any (·.1) = false := by rfl) :
    SD Z (.Expr (.Call (.Attribute a "append" apos) [e] [] cpos) pos) D ρ own := fun H0 Hf σ H m0 S E => wS.of (ps_expr (pe_bm PySem.F.plainAttrs_list PySem.F.slot_list_append PySem.F.type_list_append mt_append peW (pa_cons peW pa_nil hs) hbase hfew hline hs hplain) hs0)
  (ha Hf σ H S E _ fun v Hf1 H1 m1 S1 r1 => by
    cases (show v = .ref p from r1)
    obtain ⟨_, _, vs, g1, g2⟩ := S1.at hq
    refine ⟨.inl ⟨rfl, _, SqL.of g1⟩, he Hf1 σ H1 S1 (E.mono m1) _ fun w Hf2 H2 s o m2 S2 r2 _ q => ?_⟩
    obtain ⟨x, oa, ob, rfl, rfl, hP⟩ := q
    obtain ⟨_, _, vs, g1, g2⟩ := S2.at (p := p) (oo := .lst ds) (by simp)
    refine ⟨p, vs, w, rfl, rfl, g1, by rw [g2.length]; exact Nat.lt_of_lt_of_le hl (by decide), ?_⟩
    exact ⟨Hf2, ρ, _, m0.trans (m1.trans m2), S2.write (oo' := .lst (ds ++ [x])) ⟨_, upd_same, g2.append (.cons r2 .nil)⟩, E.mono (m1.trans m2), h x oa ob hP⟩)
/-- a, b = (.., ..) where what is told may be owned -/
theorem sd_asg2R (n m : Nat) {k : Nat} {b : Expr} {x y : Str} {px py pt pt2 : Pos} {kt k2 : Nat} {R : List Slot → Own → Prop} (g : Gd Z k) (ha : EAG Z [a, b] ρ own R) (h : ∀ ss o, R ss o → ∃ s t, ss = [s, t] ∧ D.nx ((ρ.set n s).set m t) o) (hi : Z.X.N[n]? = some x := by rfl) (hj : Z.X.N[m]? = some y := by rfl)
    (hx : Loc Z.X.env.scope x := by first | exact Or.inl rfl | exact Or.inr rfl) (hy : Loc Z.X.env.scope y := by first | exact Or.inl rfl | exact Or.inr rfl)
    (hfx : Z.X.fn x = true ∨ Z.X.env.scope.names.lookup x = some .local := by first | exact .inl rfl | exact .inr rfl | assumption) (hfy : Z.X.fn y = true ∨ Z.X.env.scope.names.lookup y = some .local := by first | exact .inl rfl | exact .inr rfl | assumption)
    (hs : swapsWithSole [.Tuple [.Name x px, .Name y py] kt pt] (.Tuple [a, b] k2 pt2) pos.line Z.X.env = pure false := by rfl) (hw : swappedStores [.Tuple [.Name x px, .Name y py] kt pt] (.Tuple [a, b] k2 pt2) Z.X.env = pure none := by rfl)
    (h1 : (assignEach [.Tuple [.Name x px, .Name y py] kt pt] Z.X.env).map (·.2) = [assign (.Tuple [.Name x px, .Name y py] kt pt) Z.X.env] := by rfl)
    (hn : (assignEach [.Name x px, .Name y py] Z.X.env).length = 2 := by rfl) (hst : (assignEach [.Name x px, .Name y py] Z.X.env).findIdx? (·.1) = none := by rfl)
    (hs1 : (assignEach [.Name x px, .Name y py] Z.X.env).map (·.2) = assign (.Name x px) Z.X.env :: (assignEach [.Name y py] Z.X.env).map (·.2) := by rfl) (hs2 : (assignEach [.Name y py] Z.X.env).map (·.2) = assign (.Name y py) Z.X.env :: (assignEach [] Z.X.env).map (·.2) := by rfl) :
    SD Z (.Assign [.Tuple [.Name x px, .Name y py] kt pt] (.Tuple [a, b] k2 pt2) pos) D ρ own := fun H0 Hf σ H m0 S E => wS.of (ps_asg peW pgW hs hw h1)
  (wE.of (pe_tup paW) (ha Hf σ H S E _ fun vs Hf1 H1 ss o m1 S1 r1 hq => by
    obtain ⟨s, t, rfl, hnx⟩ := h ss o hq
    obtain ⟨v, w, rfl, rv, rw⟩ := r1.two
    refine ⟨show 2 ≤ sizeLine by decide, fun p hp => wG.of (pg_tup g.calm pgsW hn hst) ⟨p, [v, w], rfl, SqT.of upd_same, rfl, wGs.of (pgs_cons pgW pgsW hs1) ⟨_, _, rfl, wG.of (pg_name g.nd hi hx hfx) (wGs.of (pgs_cons pgW pgsW hs2) ⟨_, _, rfl, wG.of (pg_name g.nd hj hy hfy) (wGs.of pgs_nil ⟨rfl, ?_⟩)⟩)⟩⟩⟩
    have m2 := S1.new_same hp (.tup [v, w])
    exact ⟨_, _, o, m0.trans (m1.trans m2), S1.new hp _, ((E.mono (m1.trans m2)).set (rv.mono m2) n).set (rw.mono m2) m, hnx⟩))
/-- t + u -/
theorem ed_catT {b : Expr} {xs ys : List PyData} (ha : ED Z a ρ own (.tuple xs)) (hb : ED Z b ρ own (.tuple ys)) (hl : xs.length + ys.length ≤ 100000) : ED Z (.BinOp a .Add b pos) ρ own (.tuple (xs ++ ys)) := es_bin op_catA ha hb fun v w Hf H S r1 r2 Q q => by
  have r1 : Rep Hf v (.tuple xs) := r1
  have r2 : Rep Hf w (.tuple ys) := r2
  have r1' := r1
  have r2' := r2
  cases r1 with
  | @tup p1 vs _ h1 g1 =>
    cases r2 with
    | @tup p2 ws _ h2 g2 =>
      have e1 := g1.length
      have e2 := g2.length
      refine ⟨_, _, _, _, rfl, rfl, SqT.of (S.e1 _ _ h1), SqT.of (S.e1 _ _ h2), Nat.le_trans (by omega : _ ≤ 100000) (by decide), fun hz => ?_, fun _ hz => ?_, fun _ _ p hp => ?_⟩
      · subst hz
        have : xs = [] := List.eq_nil_of_length_eq_zero (by simpa using e1.symm)
        subst this
        exact q _ Hf H (Same.refl _) S r2'
      · subst hz
        have : ys = [] := List.eq_nil_of_length_eq_zero (by simpa using e2.symm)
        subst this
        rw [List.append_nil] at q
        exact q _ Hf H (Same.refl _) S r1'
      · exact q _ _ _ (S.new_same hp _) (S.new hp _) (.tup upd_same ((g1.append g2).mono (S.new_same hp _)))
end
end Sd


/-! objects of a class of the program -/
namespace Sd
open PySem PySem.Spec PyProof.Rows L2
section
variable {X : Cx} {CX : CXT} {k : Nat} {f C : Addr} {fd : FuncData} {ps : List Str} {sp : Sp} {E : L2.St → XK} {x m : Str} {p pos apos : Pos} {e o : Expr} {es : List Expr} {ta : TE} {t : TA}
theorem pe_methE {pl : Sem Bool} (he : PE X o ta) (c : Cls X.K C) (hm : Meth X.K C m f) (F : FnOk X.prog X.w X.K X.mg X.base CX k f fd ps sp) (hr : Room k X.A) (hb : Binds X.K fd ps []) (hx : ∀ σ, PassesAt CX X σ (E σ)) (ha : PA X (e :: es) t)
    (hst : starEach (e :: es) X.env = (false, eval e X.env) :: starEach es X.env := by rfl) (hpl : (backTo pos (starEach es X.env)).any (·.1) = false := by rfl)
    (ht : eval (.Call (.Attribute o m apos) (e :: es) [] pos) X.env = (do
      let ov ← eval o X.env
      standAt apos.atName
      let (f, first) ← holding [ov] (getMethod ov m pl)
      callWith pos f first (backTo pos (starEach (e :: es) X.env)) (backToKw pos (keywordEach [] X.env))) := by rfl) :
    PE X (.Call (.Attribute o m apos) (e :: es) [] pos) (fun σ H Q => ta σ H fun x H1 => ∃ a dx fs, x = .ref a ∧ H1 a = some (.ins C dx fs) ∧ fs.lookup m = none ∧ t σ H1 fun vs H2 => sp (.ref a :: vs) H2 Q (E σ)) := by
  refine ⟨fun pins s σ H Q I h => PySem.W.methodCall_KW (pl := pl) (thn (he.run pins s σ H _ I h) fun u s1 hq => ?_) ht⟩
  obtain ⟨x, H1, I1, rx, a, dx, fs, rfl, ea, l, q⟩ := hq
  cases (show u = Value.ref a from rx)
  refine getmeth_ok I1 ea c hm l (PySem.W.callWith_K (first := [.ref a]) (h₀ := X.base) I.ok.mod.kin hm.kp (thn (ha.run pos pins s1 σ H1 _ I1 q) fun us s2 hq2 => ?_) hst hpl)
  obtain ⟨vs, H2, I2, r, q2⟩ := hq2
  exact ⟨I2.kIn, run_fnS (us := .ref a :: us) (vs := .ref a :: vs) F hr hb (hx σ) I2 (.cons rfl r) q2⟩
theorem pe_methE0 {pl : Sem Bool} (he : PE X o ta) (c : Cls X.K C) (hm : Meth X.K C m f) (F : FnOk X.prog X.w X.K X.mg X.base CX k f fd ps sp) (hr : Room k X.A) (hb : Binds X.K fd ps []) (hx : ∀ σ, PassesAt CX X σ (E σ))
    (ht : eval (.Call (.Attribute o m apos) [] [] pos) X.env = (do
      let ov ← eval o X.env
      standAt apos.atName
      let (f, first) ← holding [ov] (getMethod ov m pl)
      callWith pos f first (backTo pos (starEach [] X.env)) (backToKw pos (keywordEach [] X.env))) := by rfl) :
    PE X (.Call (.Attribute o m apos) [] [] pos) (fun σ H Q => ta σ H fun x H1 => ∃ a dx fs, x = .ref a ∧ H1 a = some (.ins C dx fs) ∧ fs.lookup m = none ∧ sp [.ref a] H1 Q (E σ)) := by
  refine ⟨fun pins s σ H Q I h => PySem.W.methodCall_KW (pl := pl) (thn (he.run pins s σ H _ I h) fun u s1 hq => ?_) ht⟩
  obtain ⟨x, H1, I1, rx, a, dx, fs, rfl, ea, l, q⟩ := hq
  cases (show u = Value.ref a from rx)
  exact getmeth_ok I1 ea c hm l (PySem.W.callWith_K0 (first := [.ref a]) I1.kIn hm.kp (run_fnS (us := [.ref a]) (vs := [.ref a]) F hr hb (hx σ) I1 (.cons rfl .nil) q))
end
/-- a method of the program's class, by its promise -/
structure Mth (K : PySem.W.Frag) (mg : Str → Option Value) (P : Program) (w : World) (base : Heap) (C : Addr) (m : Str) (ps : List Str) (k : Nat) (Pre : Pr) : Prop where
  ex : ∃ f fd, FnOk P w K mg base (L2.CX P w) k f fd ps (spG Pre) ∧ Meth K C m f ∧ Binds K fd ps []
section
variable {Z : Ctx} {D : DE} {e o : Expr} {es : List Expr} {ρ : List Slot} {own oa o1 ob : Own} {pos p apos tpos : Pos} {s : Slot} {k j : Nat} {ss : List Slot} {m f : Str} {ps : List Str} {Pre : Pr} {post : Out → Prop} {R : Slot → Own → Prop} {C x dx : Addr} {fs : List (Str × V)} {v : V} {ds : List PyData} {d : PyData}
theorem ev_fld (cl : Cls Z.X.K C) (nA : NoAttr Z.X.K C f) (hq : (x, OO.raw (.ins C dx fs)) ∈ own) (ho : EV Z o ρ own (.ref x)) (hl : fs.lookup f = some v) (hb : attributeBase o f Z.X.env (eval o Z.X.env) = eval o Z.X.env := by rfl) : EV Z (.Attribute o f pos) ρ own v := fun Hf σ H S E Q q => wE.of (pe_fld peW hb) (ho Hf σ H S E _ fun w Hf1 H1 m1 S1 r1 => by
  cases (show w = .ref x from r1)
  obtain ⟨_, _, g⟩ := S1.at hq
  exact ⟨x, C, dx, fs, v, rfl, g, cl, nA, hl, q v Hf1 H1 m1 S1 rfl⟩)
theorem eg_meth (M : Mth Z.X.K Z.X.mg Z.X.prog Z.X.w Z.X.base C m ps j Pre) (cl : Cls Z.X.K C) (g : Gd Z k) (hj : j ≤ k) (ho : EV Z o ρ (oa ++ o1 ++ ob) (.ref x)) (hq : (x, OO.raw (.ins C dx fs)) ∈ oa ++ o1 ++ ob) (hl : fs.lookup m = none) (ha : EA Z (e :: es) ρ (oa ++ o1 ++ ob) ss) (hp : Pre (.raw (.ref x) :: ss) o1 post) (h1 : ∀ s o1', post (.ret s o1') → R s (oa ++ o1' ++ ob)) (h2 : ∀ C o1', post (.exc C o1') → Z.ex C ρ (oa ++ o1' ++ ob))
    (hst : starEach (e :: es) Z.X.env = (false, eval e Z.X.env) :: starEach es Z.X.env := by rfl) (hpl : (backTo pos (starEach es Z.X.env)).any (·.1) = false := by rfl) {pl : Sem Bool}
    (ht : eval (.Call (.Attribute o m apos) (e :: es) [] pos) Z.X.env = (do
      let ov ← eval o Z.X.env
      standAt apos.atName
      let (f, first) ← holding [ov] (getMethod ov m pl)
      callWith pos f first (backTo pos (starEach (e :: es) Z.X.env)) (backToKw pos (keywordEach [] Z.X.env))) := by rfl) :
    EG Z (.Call (.Attribute o m apos) (e :: es) [] pos) ρ (oa ++ o1 ++ ob) R := by
  obtain ⟨f, fd, ok, hm, hb⟩ := M.ex
  refine fun Hf σ H S E Q q => wE.of (pe_methE (E := WE (Wish Z)) (pl := pl) peW cl hm ok (g.hr.mono hj) hb (fun σ => passAt g.tk σ) paW hst hpl ht) (ho Hf σ H S E _ fun w Hf1 H1 m1 S1 r1 => ?_)
  cases (show w = .ref x from r1)
  obtain ⟨_, _, gx⟩ := S1.at hq
  refine ⟨x, dx, fs, rfl, gx, hl, ha Hf1 σ H1 S1 (E.mono m1) _ fun vs Hf2 H2 m2 S2 r2 => ?_⟩
  refine ⟨Hf2, less H2 (o1.map (·.1)), .raw (.ref x) :: ss, o1, post, S2.into, .cons rfl r2, hp, fun s own' v Hf' H' hq S' r' hs => ?_, fun C own' Hf' H' hq S' => ?_⟩
  · exact q v Hf' H' s _ ((m1.trans m2).trans S'.e0) (S2.back S') r' hs (h1 s own' hq)
  · exact ⟨C, Hf', ρ, _, rfl, rfl, S2.back S', E.mono ((m1.trans m2).trans S'.e0), h2 C own' hq⟩
theorem eg_meth0 (M : Mth Z.X.K Z.X.mg Z.X.prog Z.X.w Z.X.base C m ps j Pre) (cl : Cls Z.X.K C) (g : Gd Z k) (hj : j ≤ k) (ho : EV Z o ρ (oa ++ o1 ++ ob) (.ref x)) (hq : (x, OO.raw (.ins C dx fs)) ∈ oa ++ o1 ++ ob) (hl : fs.lookup m = none) (hp : Pre [.raw (.ref x)] o1 post) (h1 : ∀ s o1', post (.ret s o1') → R s (oa ++ o1' ++ ob)) (h2 : ∀ C o1', post (.exc C o1') → Z.ex C ρ (oa ++ o1' ++ ob)) {pl : Sem Bool}
    (ht : eval (.Call (.Attribute o m apos) [] [] pos) Z.X.env = (do
      let ov ← eval o Z.X.env
      standAt apos.atName
      let (f, first) ← holding [ov] (getMethod ov m pl)
      callWith pos f first (backTo pos (starEach [] Z.X.env)) (backToKw pos (keywordEach [] Z.X.env))) := by rfl) :
    EG Z (.Call (.Attribute o m apos) [] [] pos) ρ (oa ++ o1 ++ ob) R := by
  obtain ⟨f, fd, ok, hm, hb⟩ := M.ex
  refine fun Hf σ H S E Q q => wE.of (pe_methE0 (E := WE (Wish Z)) (pl := pl) peW cl hm ok (g.hr.mono hj) hb (fun σ => passAt g.tk σ) ht) (ho Hf σ H S E _ fun w Hf1 H1 m1 S1 r1 => ?_)
  cases (show w = .ref x from r1)
  obtain ⟨_, _, gx⟩ := S1.at hq
  refine ⟨x, dx, fs, rfl, gx, hl, Hf1, less H1 (o1.map (·.1)), [.raw (.ref x)], o1, post, S1.into, .cons rfl .nil, hp, fun s own' v Hf' H' hq S' r' hs => ?_, fun C own' Hf' H' hq S' => ?_⟩
  · exact q v Hf' H' s _ (m1.trans S'.e0) (S1.back S') r' hs (h1 s own' hq)
  · exact ⟨C, Hf', ρ, _, rfl, rfl, S1.back S', E.mono (m1.trans S'.e0), h2 C own' hq⟩
/-- self.f = a new list -/
theorem sd_fldL (cl : Cls Z.X.K C) (nA : NoAttr Z.X.K C f) (he : EL Z e ρ (oa ++ (x, .raw (.ins C dx fs)) :: ob) ds) (ho : ∀ p', EV Z o ρ ((p', .lst ds) :: (oa ++ (x, .raw (.ins C dx fs)) :: ob)) (.ref x)) (hfew : fs.length < 1000) (h : ∀ p', D.nx ρ ((p', .lst ds) :: (oa ++ (x, .raw (.ins C dx (putF f (.ref p') fs))) :: ob)))
    (hs : swapsWith e (some (.Attribute o f tpos)) pos.line Z.X.env = pure false := by rfl) : SD Z (.Assign [.Attribute o f tpos] e pos) D ρ (oa ++ (x, .raw (.ins C dx fs)) :: ob) := fun H0 Hf σ H m0 S E => wS.of (ps_fld peW peW hs) (he Hf σ H S E _ fun p' Hf1 H1 m1 S1 => ho p' Hf1 σ H1 S1 (E.mono m1) _ fun w Hf2 H2 m2 S2 r2 => by
    cases (show w = .ref x from r2)
    obtain ⟨_, _, g⟩ := S2.at (p := x) (oo := .raw (.ins C dx fs)) (by simp)
    exact ⟨x, C, dx, fs, rfl, g, cl, nA, hfew, Hf2, ρ, _, (m0.trans m1).trans m2, S2.write (oa := (p', .lst ds) :: oa) (oo' := .raw (.ins C dx (putF f (.ref p') fs))) upd_same, E.mono (m1.trans m2), h p'⟩)
end
end Sd


/-! sorted(set(xs)) of a list of ints; pop; making an object; its length -/
namespace Sd
open PySem PySem.Spec PyProof.Rows L2
section
variable {P : Program} {w : World} {A : Around} {E : Value → Shared → Prop} {s : Shared}
/-- set(xs) of a list of ints, as sorted wants it -/
theorem set_of_list {l : Addr} {items : Array Value} (ns : List Int) {Q : Value → Shared → Prop} (calm : A.handled = none) (hl : s.heap.IsList l items) (hit : IntsAre items.toList ns) (hb : ns.length + 1 < scanBound)
    (h : ∀ (h' : Heap) (tk c : Nat), SetR w h' s.heap.objs.size (fun j => decide (j ∈ ns)) c → c ≤ ns.length → (∀ b o, s.heap.get? b = some o → h'.get? b = some o) → Q (.ref s.heap.objs.size) { s with heap := h', toks := tk }) : wpAny (model P w) A (call (.type "set") [.ref l]) Q E s := by
  have size_ns : items.size = ns.length := by rw [← Array.length_toList]; exact IntsAre.length hit
  obtain ⟨m0, m1, mro⟩ := F.called_set.mro
  have made := F.called_set.made
  have subs := F.called_set.sub
  refine wpAny_call (codeAny_of_tree (show wpAny _ _ (callAny (.type "set") _) _ _ _ from wpAny_pure ⟨Code.quiet_builtin _ (by decide +kernel), codeAny_builtin F.entry_type_call ?_⟩))
  rw [Around.under_plain (weight_type_call_type "set" [.ref l] []) rfl]
  have f1 := F.called_set.notType
  have f2 := F.called_set.canCreate
  have f3 := F.typeCall_set_1 (.ref l)
  repeat (any_goals (first | assumption | wp_step))
  refine codeAny_mono (code_set_led1 (.ref l) (E := E) (Q₁ := fun obj t => obj = .ref s.heap.objs.size ∧ t = { s with heap := s.heap.push { cls := .type "set", dict := none, data := .set #[] 0 (.fresh 0 0 (!w.params.followText "set-order")) } }) ⟨rfl, rfl⟩) fun res t hres => ?_
  rcases res with er | fl
  · exact hres
  rcases fl with _ | _ | _ | obj
  all_goals first | exact hres.elim | skip
  obtain ⟨rfl, rfl⟩ := hres
  generalize hN : (⟨.type "set", none, .set #[] 0 (.fresh 0 0 (!w.params.followText "set-order")), #[]⟩ : Obj) = N
  have gS : (s.heap.push N).get? s.heap.objs.size = some N := Heap.get?_push_size _ (by rw [← hN]; rfl)
  have tS : Shared.TypeIs { s with heap := s.heap.push N } (.ref s.heap.objs.size) "set" := ⟨_, gS, by rw [← hN]⟩
  have g1 := F.called_set.init.lookup
  have g2 := F.called_set.init.bind (.ref s.heap.objs.size)
  repeat (any_goals (first | assumption | wp_step))
  refine codeAny_mono (codeAny_call_builtin (R := wants (fun res t => res = .none ∧ ∃ h' tk c, t = { s with heap := h', toks := tk } ∧ SetR w h' s.heap.objs.size (fun j => decide (j ∈ ns)) c ∧ c ≤ ns.length ∧ ∀ b o, s.heap.get? b = some o → h'.get? b = some o) E) F.called_set.init.plain F.entry_set_init (check_set_init_1 tS ?_)) fun res t hres => ?_
  · subst hN
    obtain ⟨⟨lc, ld, lda, ls⟩, gl, rfl, ln, rfl⟩ := hl
    have gl' : (s.heap.push { cls := .type "set", dict := none, data := .set #[] 0 (.fresh 0 0 (!w.params.followText "set-order")) }).get? l = some ⟨.type "list", ld, .seq items ln, ls⟩ := Heap.get?_push_of_some _ gl
    have u1 := F.sub_list_set
    have u2 := F.sub_list_frozenset
    have u3 : (Value.type "list" == Value.type "dict") = false := by decide
    have isl : (s.heap.push { cls := .type "set", dict := none, data := .set #[] 0 (.fresh 0 0 (!w.params.followText "set-order")) }).IsList l items := ⟨_, gl', rfl, ln, rfl⟩
    unfold Builtin.«set.__init__» noKeywords Builtin.Frozenset.updateFrom
    generalize ePI : pyIter = PI
    wp_walk
    subst ePI
    refine wpAny_pyIter_list (s := { s with heap := s.heap.push { cls := .type "set", dict := none, data := .set #[] 0 (.fresh 0 0 (!w.params.followText "set-order")) } }) isl ?_
    refine wpAny_bind (wpAny_runValue ?_)
    have lS : l < s.heap.objs.size := Heap.lt_size gl
    have zN : (s.heap.push { cls := .type "set", dict := none, data := .set #[] 0 (.fresh 0 0 (!w.params.followText "set-order")) }).objs.size = s.heap.objs.size + 1 := Heap.size_push ..
    have lI : l ≠ (s.heap.push { cls := .type "set", dict := none, data := .set #[] 0 (.fresh 0 0 (!w.params.followText "set-order")) }).objs.size := by rw [zN]; exact Nat.ne_of_lt (Nat.lt_succ_of_lt lS)
    have out : s.heap.objs.size ∉ [(s.heap.push { cls := .type "set", dict := none, data := .set #[] 0 (.fresh 0 0 (!w.params.followText "set-order")) }).objs.size, l] := by
      rw [zN]
      simp only [List.mem_cons, List.not_mem_nil, or_false, not_or]
      exact ⟨by omega, Nat.ne_of_gt lS⟩
    refine set_update_ints ((Walks.list (show A.in1.in1.in1.handled = none by simp [calm]) _ l lI items).toS) s.heap.objs.size out ns size_ns hb (fun i v hv => ?_) (items.size - 0) 0 _ (by omega) (Nat.zero_le _) ⟨⟨_, Heap.get?_push_size _ rfl, rfl, rfl⟩, isl.push _⟩ ?_ ?_
    · have hi : i < ns.length := by rw [← size_ns]; exact (Array.getElem?_eq_some_iff.mp hv).1
      obtain ⟨t, e⟩ := IntsAre.int_at hit i v (by rw [Array.getElem?_toList]; exact hv)
      refine ⟨ns[i], t, List.getElem?_eq_getElem hi, ?_⟩
      rw [List.getD_eq_getElem?_getD, List.getElem?_eq_getElem hi] at e
      exact e
    · refine ⟨0, Nat.le_refl 0, setR_new_at ?_⟩
      have := Heap.get?_push_of_some { cls := .type "list_iterator", data := .fields #[.ref l, .int 0 0] } gS
      exact this
    · intro t c' hm hc' hS'
      obtain ⟨h', g', d', tk', os'⟩ := t
      cases (show g' = s.gens from hm.gens)
      cases (show d' = s.drawn from hm.drawn)
      cases (show os' = s.os from hm.os)
      rw [size_ns] at hc'
      show wpAny _ _ _ _ _ _
      refine wpAny_pure ?_
      show wpAny _ _ (ret Value.none) _ _ _
      refine wpAny_pure ⟨rfl, h', tk', c', rfl, hS', hc', fun b o e => ?_⟩
      have b0 : b < s.heap.objs.size := Heap.lt_size e
      refine hm.heap b o ?_ (Heap.get?_push_of_some _ (Heap.get?_push_of_some _ e))
      simp only [List.mem_cons, List.not_mem_nil, or_false, not_or]
      rw [zN]
      exact ⟨Nat.ne_of_lt b0, Nat.ne_of_lt (Nat.lt_succ_of_lt b0)⟩
  · rcases res with er | fl
    · exact hres
    rcases fl with _ | _ | _ | r
    all_goals first | exact hres.elim | skip
    obtain ⟨rfl, h', tk, c', rfl, hS', hc', hk'⟩ := hres
    repeat (any_goals (first | assumption | wp_step))
    exact h _ _ _ hS' hc' hk'
end
section
variable {X : Cx}
def rSetL (K : PySem.W.Frag) (w : World) : List V → Hp → VK → Prop := fun xs H Q => ∃ (l : Addr) (ns : List Int), xs = [.ref l] ∧ SqL K H l (ns.map V.int) ∧ ns.length ≤ 1000 ∧ ∀ p c, c ≤ ns.length → H p = none → Q (.ref p) (upd H p (SetO w p (fun j => decide (j ∈ ns)) c))
theorem call_setL (hc : X.calm = true) : CallR X (.type "set") (rSetL X.K X.w) := by
  intro pins s σ H xs us Q I r h
  obtain ⟨l, ns, rfl, hl, hn, q⟩ := h
  rw [Vals.ref1 r]
  obtain ⟨its, rv, pl, _⟩ := I.list hl
  refine set_of_list ns (I.ok.hd hc) pl.isList (by simpa using ints_of_vals rv) (by show ns.length + 1 < 4096; omega) fun h' tk c hS hc' hk => ?_
  exact ⟨.ref _, upd H s.heap.objs.size (SetO X.w s.heap.objs.size (fun j => decide (j ∈ ns)) c), I.laid (t' := tk) hk (Nat.le_refl _) (setO_new hS), rfl, q _ c hc' (I.hok.fresh (Nat.le_refl _))⟩
end
end Sd


/-! making an object; its length; pop; sorted(set(..)) -/
namespace Sd
open PySem PySem.Spec PyProof.Rows L2
section
variable {X : Cx} {CX : CXT} {k : Nat} {f C : Addr} {fd : FuncData} {ps : List Str} {sp : Sp} {E : L2.St → XK} {x : Str} {p pos : Pos} {e : Expr} {es : List Expr} {t : TA}
theorem run_makeE {pins : List (Addr × Obj)} {σ : L2.St} {H : Hp} {s : Shared} {Q : VK} {us : List Value} {vs : List V} (M : Mk X.K C f) (F : FnOk X.prog X.w X.K X.mg X.base CX k f fd ps sp) (hr : Room (k + 1) X.A) (hb : Binds X.K fd ps [])
    (hx : ∀ σ, PassesAt CX X σ (E σ)) (I : Inv X pins σ H s) (r : Vals vs us)
    (h : ∀ x dx, H x = none → H dx = none → dx ≠ x → sp (.ref x :: vs) (upd (upd H dx (.own x)) x (.ins C dx [])) (fun v H2 => v = .non ∧ Q (.ref x) H2) (E σ)) :
    wpAny (model X.prog X.w) X.A (call (.ref C) us) (EP X pins σ Q) X.xe s := by
  have hq := h (s.heap.objs.size + 1) s.heap.objs.size (I.hok.fresh (Nat.le_succ _)) (I.hok.fresh (Nat.le_refl _)) (Nat.ne_of_lt (Nat.lt_succ_self _))
  have I2 := Inv.made (C := C) I
  have r2 : Vals (V.ref (s.heap.objs.size + 1) :: vs) (Value.ref (s.heap.objs.size + 1) :: us) := .cons rfl r
  have hl : (Value.ref (s.heap.objs.size + 1) :: us).length = ps.length := by
    have e := r2.length
    rw [F.len _ _ _ _ hq] at e
    exact e.symm
  have hbb := hb _ (Value.ref (s.heap.objs.size + 1) :: us) I2.kIn (by rw [List.append_nil]; exact hl)
  rw [List.append_nil] at hbb
  refine wpAny_call (make_map (f := f) I.kIn M.makes M.init (beq_iff_eq.mp M.fn) (codeAny_mono (F.run _ X.stack _ _ ⟨Value.ref (s.heap.objs.size + 1) :: us, []⟩ (Value.ref (s.heap.objs.size + 1) :: us) _ _ (E σ) (hr.make C us [])
    (I2.env0.make C us []) hbb r2 hq) fun r s' hq' => ?_))
  cases r with
  | error e => exact hx σ pins _ _ e s' I2 hq'
  | ok fl =>
    cases fl with
    | ret u =>
      obtain ⟨v, H', I3, rv, ev, q3⟩ := I2.after hq'
      subst ev
      exact ⟨rv, ⟨V.ref (s.heap.objs.size + 1), H', I3, rfl, q3⟩⟩
    | next => exact False.elim hq'
    | brk => exact False.elim hq'
    | cont => exact False.elim hq'
theorem pe_makeE (M : Mk X.K C f) (F : FnOk X.prog X.w X.K X.mg X.base CX k f fd ps sp) (hr : Room (k + 1) X.A) (hg : Gl X x) (hm : X.mg x = some (.ref C)) (hb : Binds X.K fd ps []) (hx : ∀ σ, PassesAt CX X σ (E σ))
    (ha : PA X (e :: es) t) (hdb : (x == ("__debug__" : Str)) = false := by decide) (he : starEach (e :: es) X.env = (false, eval e X.env) :: starEach es X.env := by rfl) (hpl : (backTo pos (starEach es X.env)).any (·.1) = false := by rfl) :
    PE X (.Call (.Name x p) (e :: es) [] pos) (fun σ H Q => t σ H fun vs H1 => ∀ x dx, H1 x = none → H1 dx = none → dx ≠ x → sp (.ref x :: vs) (upd (upd H1 dx (.own x)) x (.ins C dx [])) (fun v H2 => v = .non ∧ Q (.ref x) H2) (E σ)) := by
  refine ⟨fun pins s σ H Q I h => ?_⟩
  refine wpAny_Call_Name_kw (ld_glob I hg hm ?_ hdb)
  refine PySem.W.callWith_K (h₀ := X.base) I.ok.mod.kin M.kp (thn (ha.run pos pins s σ H _ I h) fun us s1 hq => ?_) he hpl
  obtain ⟨vs, H1, I1, r, q⟩ := hq
  exact ⟨I1.kIn, run_makeE M F hr hb hx I1 r q⟩
end
/-- a class of the program that can be made -/
structure MkT (K : PySem.W.Frag) (mg : Str → Option Value) (P : Program) (w : World) (base : Heap) (z : Str) (C : Addr) (ps : List Str) (k : Nat) (Pre : Pr) : Prop where
  ex : ∃ f fd, FnOk P w K mg base (L2.CX P w) k f fd ps (spG Pre) ∧ Mk K C f ∧ mg z = some (.ref C) ∧ Binds K fd ps []
section
variable {Z : Ctx} {D : DE} {e o : Expr} {es : List Expr} {ρ : List Slot} {own oa ob : Own} {pos p p2 q apos cpos : Pos} {s : Slot} {k j : Nat} {ss : List Slot} {z : Str} {ps : List Str} {Pre : Pr} {R : Slot → Own → Prop} {C x dx : Addr} {fs : List (Str × V)} {ds : List PyData} {d : PyData}
theorem eg_make {post : Addr → Addr → Out → Prop} (M : MkT Z.X.K Z.X.mg Z.X.prog Z.X.w Z.X.base z C ps j Pre) (g : Gd Z k) (hj : j + 1 ≤ k) (ha : EA Z (e :: es) ρ own ss) (hp : ∀ x dx, Pre (.raw (.ref x) :: ss) [(x, .raw (.ins C dx [])), (dx, .raw (.own x))] (post x dx)) (h1 : ∀ x dx s o1, post x dx (.ret s o1) → s = .d .none ∧ R (.raw (.ref x)) (o1 ++ own)) (h2 : ∀ x dx C o1, post x dx (.exc C o1) → Z.ex C ρ (o1 ++ own))
    (hg : Gl Z.X z := by rfl) (hdb : (z == ("__debug__" : Str)) = false := by decide) (he : starEach (e :: es) Z.X.env = (false, eval e Z.X.env) :: starEach es Z.X.env := by rfl) (hpl : (backTo pos (starEach es Z.X.env)).any (·.1) = false := by rfl) :
    EG Z (.Call (.Name z p) (e :: es) [] pos) ρ own R := by
  obtain ⟨f, fd, ok, mk, hm, hb⟩ := M.ex
  refine fun Hf σ H S E Q q => wE.of (pe_makeE (E := WE (Wish Z)) mk ok (g.hr.mono hj) hg hm hb (fun σ => passAt g.tk σ) paW hdb he hpl) (ha Hf σ H S E _ fun vs Hf1 H1 m1 S1 r1 => ?_)
  intro x dx nx nd ne
  have S2 : Sat Z.B Hf1 _ ((dx, .raw (.own x)) :: own) := S1.newOwn (o := .own x) nd upd_same
  have S3 : Sat Z.B Hf1 _ ([] ++ [(x, .raw (.ins C dx [])), (dx, .raw (.own x))] ++ own) := S2.newOwn (p := x) (o := .ins C dx []) (oo := .raw (.ins C dx [])) (by rw [upd_ne (Ne.symm ne)]; exact nx) upd_same
  refine ⟨Hf1, _, .raw (.ref x) :: ss, _, post x dx, S3.into, .cons rfl r1, hp x dx, fun s own' v Hf' H' hq S' r' hs => ?_, fun C own' Hf' H' hq S' => ?_⟩
  · obtain ⟨rfl, hR⟩ := h1 x dx s own' hq
    cases (show Rep Hf' v .none from r')
    have S4 := S3.back S'
    exact ⟨rfl, q (.ref x) Hf' H' (.raw (.ref x)) _ (m1.trans S'.e0) S4 rfl (fun z => nomatch z) hR⟩
  · exact ⟨C, Hf', ρ, _, rfl, rfl, S3.back S', E.mono (m1.trans S'.e0), h2 x dx C own' hq⟩
end
/-! sorted(set(xs)) -/
def insU (x : Int) : List Int → List Int
  | [] => [x]
  | y :: ys => if x < y then x :: y :: ys else if x = y then y :: ys else y :: insU x ys
def srtU : List Int → List Int
  | [] => []
  | x :: xs => insU x (srtU xs)
theorem insU_mem (x k : Int) : ∀ l, k ∈ insU x l ↔ k = x ∨ k ∈ l
  | [] => by simp [insU]
  | y :: ys => by
    unfold insU
    split
    · simp
    · split
      · rename_i h
        subst h
        simp
      · rw [List.mem_cons, insU_mem x k ys, List.mem_cons]
        constructor
        · rintro (h | h | h)
          · exact .inr (.inl h)
          · exact .inl h
          · exact .inr (.inr h)
        · rintro (h | h | h)
          · exact .inr (.inl h)
          · exact .inl h
          · exact .inr (.inr h)
theorem srtU_mem (k : Int) : ∀ l, k ∈ srtU l ↔ k ∈ l
  | [] => by simp [srtU]
  | x :: xs => by rw [srtU, insU_mem, srtU_mem k xs, List.mem_cons]
theorem insU_pw (x : Int) : ∀ l, l.Pairwise (· < ·) → (insU x l).Pairwise (· < ·)
  | [], _ => by simp [insU]
  | y :: ys, h => by
    have h' := List.pairwise_cons.mp h
    unfold insU
    split
    · rename_i hx
      refine List.pairwise_cons.mpr ⟨fun z hz => ?_, h⟩
      rcases List.mem_cons.mp hz with e | hz
      · rw [e]; exact hx
      · exact Int.lt_trans hx (h'.1 z hz)
    · split
      · exact h
      · refine List.pairwise_cons.mpr ⟨fun z hz => ?_, insU_pw x ys h'.2⟩
        rcases (insU_mem x z ys).mp hz with e | hz
        · omega
        · exact h'.1 z hz
theorem srtU_pw : ∀ l, (srtU l).Pairwise (· < ·)
  | [] => .nil
  | x :: xs => insU_pw x _ (srtU_pw xs)
theorem pw_ext : ∀ {a b : List Int}, a.Pairwise (· < ·) → b.Pairwise (· < ·) → (∀ k, k ∈ a ↔ k ∈ b) → a = b
  | [], [], _, _, _ => rfl
  | [], y :: b, _, _, h => absurd ((h y).mpr (by simp)) (by simp)
  | x :: a, [], _, _, h => absurd ((h x).mp (by simp)) (by simp)
  | x :: a, y :: b, ha, hb, h => by
    have ha' := List.pairwise_cons.mp ha
    have hb' := List.pairwise_cons.mp hb
    have e : x = y := by
      have h1 := (h x).mp (by simp)
      have h2 := (h y).mpr (by simp)
      rcases List.mem_cons.mp h1 with e | h1
      · exact e
      · rcases List.mem_cons.mp h2 with e | h2
        · exact e.symm
        · have := ha'.1 y h2
          have := hb'.1 x h1
          omega
    subst e
    rw [pw_ext ha'.2 hb'.2 fun k => ⟨fun hk => ?_, fun hk => ?_⟩]
    · rcases List.mem_cons.mp ((h k).mp (by simp [hk])) with e | z
      · have := ha'.1 k hk
        omega
      · exact z
    · rcases List.mem_cons.mp ((h k).mpr (by simp [hk])) with e | z
      · have := hb'.1 k hk
        omega
      · exact z
section
variable {Z : Ctx} {e : Expr} {ρ : List Slot} {own : Own} {pos p p2 q : Pos} {s : Slot} {k : Nat}
theorem el_sortedSet {ns : List Int} (g : Gd Z k) (hm : Z.X.mg "sorted" = none) (hm2 : Z.X.mg "set" = none) (h : ES Z e ρ own s) (L : Lst own s (ns.map PyData.int)) (hn : ns.length < 64) (hg : Gl Z.X "sorted" := by rfl) (hg2 : Gl Z.X "set" := by rfl) (hs : starEach [e] Z.X.env = (false, eval e Z.X.env) :: starEach [] Z.X.env := by rfl)
    (hs2 : starEach [.Call (.Name "set" p2) [e] [] q] Z.X.env = (false, eval (.Call (.Name "set" p2) [e] [] q) Z.X.env) :: starEach [] Z.X.env := by rfl) :
    EL Z (.Call (.Name "sorted" p) [.Call (.Name "set" p2) [e] [] q] [] pos) ρ own ((srtU ns).map PyData.int) := fun Hf σ H S E Q k =>
  wE.of (pe_callB (cr_sortedSet g.calm) hg hm (by decide +kernel) (pa_cons (pe_callTy (call_setL g.calm) hg2 hm2 boot_set (pa_cons peW pa_nil hs) (he := hs)) pa_nil hs2) (he := hs2)) (h Hf σ H S E _ fun v Hf1 H1 m1 S1 r1 => by
    obtain ⟨l, vs, rfl, e1, e2⟩ := L.at S1 r1
    cases e2.of_ints
    refine ⟨l, ns, rfl, SqL.of e1, by omega, fun p c hc hp => ?_⟩
    have S2 := S1.new hp (SetO Z.X.w p (fun j => decide (j ∈ ns)) c)
    refine ⟨p, _, c, rfl, upd_same, by omega, fun ms p' h1 h2 h3 hp' => ?_⟩
    have em : ms = srtU ns := pw_ext h1 (srtU_pw ns) fun k => by rw [h2 k, srtU_mem]; simp
    subst em
    exact k p' _ _ (m1.trans (S1.new_same hp _)) (S2.newOwn hp' ⟨_, upd_same, Reps.ints _⟩))
end
/-! ### a class of the text as the top has left it -/
structure ClsT (K : PySem.W.Frag) (mg : Str → Option Value) (z : Str) (C : Addr) : Prop where
  cl : Cls K C
  mks : PySem.W.makesIn K C = true
  kp : PySem.W.keepIn K (.ref C) = true
  at_ : mg z = some (.ref C)
structure DfM (K : PySem.W.Frag) (C : Addr) (z qual : Str) (st : Stmt) (ps : List Str) : Prop where
  ex : ∃ f fd, Fun K z qual st f fd ∧ PySem.W.findIn K (.ref C) z = some (some (.ref f)) ∧ PySem.W.isFn K (.ref f) = true ∧ ∀ us : List Value, us.length = ps.length → bindArgs fd ⟨us, []⟩ = pure (ps.zip us)
theorem DfM.mth {K : PySem.W.Frag} {mg : Str → Option Value} {P : Program} {w : World} {base : Heap} {C : Addr} {z qual : Str} {st : Stmt} {ps : List Str} {k : Nat} {Pre : Pr} (D : DfM K C z qual st ps) (h : ∀ f fd, Fun K z qual st f fd → FnOk P w K mg base (L2.CX P w) k f fd ps (spG Pre)) : Mth K mg P w base C z ps k Pre := by
  obtain ⟨f, fd, F, hm, hf, hb⟩ := D.ex
  exact ⟨f, fd, h f fd F, ⟨hm, hf, F.kp⟩, Binds.all hb⟩
theorem DfM.mkt {K : PySem.W.Frag} {mg : Str → Option Value} {P : Program} {w : World} {base : Heap} {C : Addr} {y qual : Str} {st : Stmt} {ps : List Str} {k : Nat} {Pre : Pr} (D : DfM K C "__init__" qual st ps) (c : ClsT K mg y C) (h : ∀ f fd, Fun K "__init__" qual st f fd → FnOk P w K mg base (L2.CX P w) k f fd ps (spG Pre)) : MkT K mg P w base y C ps k Pre := by
  obtain ⟨f, fd, F, hm, hf, hb⟩ := D.ex
  exact ⟨f, fd, h f fd F, ⟨c.mks, hm, hf, c.kp⟩, c.at_, Binds.all hb⟩
theorem dfm_mk {K : PySem.W.Frag} {C : Addr} {z qual : Str} {st : Stmt} {ps : List Str} {f : Addr} {oc : Value} {od an : Option Addr} {sl : Array (Option Value)} {kV dc pm cd ct : Value}
    (hb : ∀ (kV doc pm : Value) (an : Option Addr) (cdv ct : Value) (us : List Value), us.length = ps.length → bindArgs (PySem.W.fnOf z qual (defArgs st) (defBody st) (defScope st) .none kV doc pm an cdv ct) ⟨us, []⟩ = pure (ps.zip us))
    (a : PySem.W.findIn K (.ref C) z = some (some (.ref f))) (i : PySem.W.isFn K (.ref f) = true) (l : K.lookup f = some ⟨oc, od, .func (PySem.W.fnOf z qual (defArgs st) (defBody st) (defScope st) .none kV dc pm an cd ct), sl⟩) (c : PySem.W.codeIn K cd qual = true) (k : PySem.W.keepIn K (.ref f) = true) : DfM K C z qual st ps :=
  have F := fun_mk (st := st) l c k
  ⟨f, _, F, a, i, fun us hl => hb _ _ _ _ _ _ us hl⟩
theorem cls_mk {K : PySem.W.Frag} {mg : Str → Option Value} {h : Heap} {z : Str} {C : Addr} (X : K.In h) (G : h.Ns mainGlobals mg) (a : PySem.W.nsIn K mainGlobals z = some (some (.ref C))) (pg : PySem.W.plainGet K C Str.empty = true) (hd : PySem.W.hasDictIn K C = true) (po : PySem.W.plainOver K C = true)
    (sa : PySem.W.findIn K (.ref C) "__setattr__" = some (some (.builtin "object.__setattr__"))) (mk : PySem.W.makesIn K C = true) (kc : PySem.W.keepIn K (.ref C) = true) : ClsT K mg z C := ⟨⟨pg, hd, po, sa⟩, mk, kc, PySem.W.mg_of X G a⟩
end Sd


/-! plain defs (no defaults): what the binder makes, once for all -/
namespace Sd
open PySem PySem.Spec PyProof.Rows L2
def plainA (a : Arguments) (ps : List Str) : Bool := a.posonlyargs.isEmpty && (a.args.map (·.arg) == ps && (a.vararg.isNone && (a.kwonlyargs.isEmpty && (a.kwarg.isNone && decide ps.Nodup))))
theorem lookz_bind : ∀ {ps : List Str} {us : List Value}, us.length = ps.length → ∀ n ∈ ps, (List.lookup n (ps.zip us)).isSome = true
  | [], _, _, n, h => nomatch h
  | p :: ps, [], hl, _, _ => nomatch hl
  | p :: ps, u :: us, hl, n, h => by
    rw [List.zip_cons_cons, List.lookup_cons]
    split
    · rfl
    · rename_i hne
      rcases List.mem_cons.mp h with rfl | h
      · simp at hne
      · exact lookz_bind (by simpa using hl) n h
theorem fmc_bind {α β : Type} {f g : α → Option β} : ∀ {l : List α}, (∀ x ∈ l, f x = g x) → l.filterMap f = l.filterMap g
  | [], _ => rfl
  | x :: l, h => by rw [List.filterMap_cons, List.filterMap_cons, h x (.head _), fmc_bind fun y hy => h y (.tail _ hy)]
theorem mapz_bind : ∀ {ps : List Str} {us : List Value}, us.length = ps.length → ps.Nodup → ps.filterMap (fun n => (List.lookup n (ps.zip us)).map (Prod.mk n)) = ps.zip us
  | [], _, _, _ => rfl
  | p :: ps, [], hl, _ => nomatch hl
  | p :: ps, u :: us, hl, nd => by
    rw [List.nodup_cons] at nd
    rw [List.zip_cons_cons, List.filterMap_cons, List.lookup_cons]
    simp only [beq_self_eq_true, Option.map_some]
    congr 1
    refine Eq.trans ?_ (mapz_bind (ps := ps) (us := us) (by simpa using hl) nd.2)
    refine fmc_bind fun n hn => ?_
    rw [List.lookup_cons, beq_eq_false_iff_ne.mpr (show n ≠ p from fun e => nd.1 (by rw [← e]; exact hn))]
theorem bind_plain {fd : FuncData} {ps : List Str} {us : List Value} (h : plainA fd.params ps = true) (hd : fd.defaults = .none) (hl : us.length = ps.length) : bindArgs fd ⟨us, []⟩ = pure (ps.zip us) := by
  simp only [plainA, Bool.and_eq_true, List.isEmpty_iff, beq_iff_eq, Option.isNone_iff_eq_none, decide_eq_true_eq] at h
  obtain ⟨h1, h2, h3, h4, h5, nd⟩ := h
  have hm : (ps.filter fun n => (List.lookup n (ps.zip us)).isNone) = [] := List.filter_eq_nil_iff.mpr fun n hn => by
    have := lookz_bind hl n hn
    cases h : List.lookup n (ps.zip us) <;> simp_all
  have hz := mapz_bind hl nd
  have hq : seqItems? Value.none = pure none := rfl
  have hg : decide (us.length > ps.length) = false := decide_eq_false (by omega)
  unfold bindArgs
  simp only [h1, h2, h3, h4, h5, hd, hq, hg, List.map_nil, List.nil_append, List.append_nil, List.forIn_nil, pure_bind, Option.getD_none, List.drop_nil, List.length_nil, Nat.sub_zero, List.take_length, List.drop_length, List.zip_nil_right, hm, List.isEmpty_nil, Bool.not_true, Bool.false_and, Bool.false_eq_true, if_false]
  exact congrArg pure hz
theorem df_mk2 {K : PySem.W.Frag} {mg : Str → Option Value} {h : Heap} {z : Str} {st : Stmt} {ps : List Str} {f : Addr} {oc : Value} {od an : Option Addr} {sl : Array (Option Value)} {kV dc pm cd ct : Value} (X : K.In h) (G : h.Ns mainGlobals mg) (hb : plainA (defArgs st) ps = true)
    (a : PySem.W.nsIn K mainGlobals z = some (some (.ref f))) (l : K.lookup f = some ⟨oc, od, .func (PySem.W.fnOf z z (defArgs st) (defBody st) (defScope st) .none kV dc pm an cd ct), sl⟩) (c : PySem.W.codeIn K cd z = true) (k : PySem.W.keepIn K (.ref f) = true) : Df K mg z st ps :=
  df_mk X G (fun _ _ _ _ _ _ _ hl => bind_plain hb rfl hl) a l c k
end Sd


/-! sums, binomial laws -/
namespace Sd
def sumTo (f : Nat → Rat) : Nat → Rat
  | 0 => 0
  | n + 1 => sumTo f n + f n
theorem pow_add1 (a : Rat) (n : Nat) : a ^ (n + 1) = a ^ n * a := Rat.pow_succ a n
theorem pow_ne {w : Rat} (hw : w ≠ 0) : ∀ k : Nat, w ^ k ≠ 0
  | 0 => by simp
  | k + 1 => by
    have := pow_ne hw k
    rw [pow_add1]
    grind
end Sd


namespace Pg
open PySem PySem.Spec PyProof.Rows L2 Sd
def topS (i : Nat) : Stmt := PySem.Challenge.pw_samedays_k15_whole_first.main.body.getD i (.Pass ⟨0, 0, 0, 0⟩)
abbrev s_wall : Stmt := topS 0
theorem pa_wall : plainA (defArgs s_wall) ["k"] = true := by decide +kernel
abbrev s_is_int : Stmt := topS 7
theorem sc_is_int : FnScope ["value", "low", "high"] ["value", "low", "high"] (defScope s_is_int) := ⟨rfl, rfl, rfl, by decide +kernel, rfl, by decide +kernel, by decide +kernel⟩
theorem pa_is_int : plainA (defArgs s_is_int) ["value", "low", "high"] = true := by decide +kernel
abbrev s_common : Stmt := topS 8
theorem sc_common : FnScope ["one", "other"] ["one", "other"] (defScope s_common) := ⟨rfl, rfl, rfl, by decide +kernel, rfl, by decide +kernel, by decide +kernel⟩
theorem pa_common : plainA (defArgs s_common) ["one", "other"] = true := by decide +kernel
abbrev s_is_year : Stmt := topS 9
theorem sc_is_year : FnScope ["value", "one"] ["value"] (defScope s_is_year) := ⟨rfl, rfl, rfl, by decide +kernel, rfl, by decide +kernel, by decide +kernel⟩
theorem pa_is_year : plainA (defArgs s_is_year) ["value"] = true := by decide +kernel
abbrev s_check_year : Stmt := topS 10
theorem sc_check_year : FnScope ["value"] ["value"] (defScope s_check_year) := ⟨rfl, rfl, rfl, by decide +kernel, rfl, by decide +kernel, by decide +kernel⟩
theorem pa_check_year : plainA (defArgs s_check_year) ["value"] = true := by decide +kernel
abbrev s_check_day : Stmt := topS 11
theorem sc_check_day : FnScope ["year", "value"] ["year", "value"] (defScope s_check_day) := ⟨rfl, rfl, rfl, by decide +kernel, rfl, by decide +kernel, by decide +kernel⟩
theorem pa_check_day : plainA (defArgs s_check_day) ["year", "value"] = true := by decide +kernel
abbrev s_check_many : Stmt := topS 12
theorem sc_check_many : FnScope ["value"] ["value"] (defScope s_check_many) := ⟨rfl, rfl, rfl, by decide +kernel, rfl, by decide +kernel, by decide +kernel⟩
theorem pa_check_many : plainA (defArgs s_check_many) ["value"] = true := by decide +kernel
abbrev s_lowest : Stmt := topS 14
theorem sc_lowest : FnScope ["top", "below", "divisor"] ["top", "below"] (defScope s_lowest) := ⟨rfl, rfl, rfl, by decide +kernel, rfl, by decide +kernel, by decide +kernel⟩
theorem pa_lowest : plainA (defArgs s_lowest) ["top", "below"] = true := by decide +kernel
abbrev s_plus : Stmt := topS 15
theorem sc_plus : FnScope ["one", "other"] ["one", "other"] (defScope s_plus) := ⟨rfl, rfl, rfl, by decide +kernel, rfl, by decide +kernel, by decide +kernel⟩
theorem pa_plus : plainA (defArgs s_plus) ["one", "other"] = true := by decide +kernel
abbrev s_minus : Stmt := topS 16
theorem sc_minus : FnScope ["one", "other"] ["one", "other"] (defScope s_minus) := ⟨rfl, rfl, rfl, by decide +kernel, rfl, by decide +kernel, by decide +kernel⟩
theorem pa_minus : plainA (defArgs s_minus) ["one", "other"] = true := by decide +kernel
abbrev s_power : Stmt := topS 17
theorem sc_power : FnScope ["base", "exponent", "found", "turn"] ["base", "exponent"] (defScope s_power) := ⟨rfl, rfl, rfl, by decide +kernel, rfl, by decide +kernel, by decide +kernel⟩
theorem pa_power : plainA (defArgs s_power) ["base", "exponent"] = true := by decide +kernel
abbrev s_choose : Stmt := topS 18
theorem sc_choose : FnScope ["whole", "part", "found", "k"] ["whole", "part"] (defScope s_choose) := ⟨rfl, rfl, rfl, by decide +kernel, rfl, by decide +kernel, by decide +kernel⟩
theorem pa_choose : plainA (defArgs s_choose) ["whole", "part"] = true := by decide +kernel
abbrev s_ordered : Stmt := topS 19
theorem sc_ordered : FnScope ["many", "found", "k"] ["many"] (defScope s_ordered) := ⟨rfl, rfl, rfl, by decide +kernel, rfl, by decide +kernel, by decide +kernel⟩
theorem pa_ordered : plainA (defArgs s_ordered) ["many"] = true := by decide +kernel
abbrev s_product_sums : Stmt := topS 20
theorem sc_product_sums : FnScope ["year", "found", "weight", "longer", "k"] ["year"] (defScope s_product_sums) := ⟨rfl, rfl, rfl, by decide +kernel, rfl, by decide +kernel, by decide +kernel⟩
theorem pa_product_sums : plainA (defArgs s_product_sums) ["year"] = true := by decide +kernel
abbrev s_unlike_of : Stmt := topS 22
theorem sc_unlike_of : FnScope ["year", "many", "sums"] ["year", "many"] (defScope s_unlike_of) := ⟨rfl, rfl, rfl, by decide +kernel, rfl, by decide +kernel, by decide +kernel⟩
theorem pa_unlike_of : plainA (defArgs s_unlike_of) ["year", "many"] = true := by decide +kernel
abbrev s_some_same : Stmt := topS 23
theorem sc_some_same : FnScope ["year", "many"] ["year", "many"] (defScope s_some_same) := ⟨rfl, rfl, rfl, by decide +kernel, rfl, by decide +kernel, by decide +kernel⟩
theorem pa_some_same : plainA (defArgs s_some_same) ["year", "many"] = true := by decide +kernel
abbrev s_first_same_at : Stmt := topS 24
theorem sc_first_same_at : FnScope ["year", "many"] ["year", "many"] (defScope s_first_same_at) := ⟨rfl, rfl, rfl, by decide +kernel, rfl, by decide +kernel, by decide +kernel⟩
theorem pa_first_same_at : plainA (defArgs s_first_same_at) ["year", "many"] = true := by decide +kernel
abbrev s_mean_used : Stmt := topS 26
theorem sc_mean_used : FnScope ["year", "many", "found", "whole", "weight"] ["year", "many"] (defScope s_mean_used) := ⟨rfl, rfl, rfl, by decide +kernel, rfl, by decide +kernel, by decide +kernel⟩
theorem pa_mean_used : plainA (defArgs s_mean_used) ["year", "many"] = true := by decide +kernel
abbrev s_new_day_at : Stmt := topS 27
theorem sc_new_day_at : FnScope ["year", "many", "found", "whole", "weight"] ["year", "many"] (defScope s_new_day_at) := ⟨rfl, rfl, rfl, by decide +kernel, rfl, by decide +kernel, by decide +kernel⟩
theorem pa_new_day_at : plainA (defArgs s_new_day_at) ["year", "many"] = true := by decide +kernel
abbrev s_check_counts : Stmt := topS 29
theorem sc_check_counts : FnScope ["year", "value", "one"] ["year", "value"] (defScope s_check_counts) := ⟨rfl, rfl, rfl, by decide +kernel, rfl, by decide +kernel, by decide +kernel⟩
theorem pa_check_counts : plainA (defArgs s_check_counts) ["year", "value"] = true := by decide +kernel
abbrev s_placed : Stmt := topS 30
theorem sc_placed : FnScope ["year", "counts", "ways", "left", "weight", "own"] ["year", "counts"] (defScope s_placed) := ⟨rfl, rfl, rfl, by decide +kernel, rfl, by decide +kernel, by decide +kernel⟩
theorem pa_placed : plainA (defArgs s_placed) ["year", "counts"] = true := by decide +kernel
abbrev s_next_on_used : Stmt := topS 31
theorem sc_next_on_used : FnScope ["year", "counts", "weight", "own"] ["year", "counts"] (defScope s_next_on_used) := ⟨rfl, rfl, rfl, by decide +kernel, rfl, by decide +kernel, by decide +kernel⟩
theorem pa_next_on_used : plainA (defArgs s_next_on_used) ["year", "counts"] = true := by decide +kernel
abbrev s_Calendar_init : Stmt := inClass (topS 33) 0
theorem sc_Calendar_init : FnScope ["self", "year"] ["self", "year"] (defScope s_Calendar_init) := ⟨rfl, rfl, rfl, by decide +kernel, rfl, by decide +kernel, by decide +kernel⟩
abbrev s_Calendar_put : Stmt := inClass (topS 33) 1
theorem sc_Calendar_put : FnScope ["self", "day"] ["self", "day"] (defScope s_Calendar_put) := ⟨rfl, rfl, rfl, by decide +kernel, rfl, by decide +kernel, by decide +kernel⟩
abbrev s_Calendar_counts : Stmt := inClass (topS 33) 2
theorem sc_Calendar_counts : FnScope ["self", "day"] ["self"] (defScope s_Calendar_counts) := ⟨rfl, rfl, rfl, by decide +kernel, rfl, by decide +kernel, by decide +kernel⟩
abbrev s_Calendar_pairs : Stmt := inClass (topS 33) 3
theorem sc_Calendar_pairs : FnScope ["self", "own"] ["self"] (defScope s_Calendar_pairs) := ⟨rfl, rfl, rfl, by decide +kernel, rfl, by decide +kernel, by decide +kernel⟩
abbrev s_Calendar_next_same : Stmt := inClass (topS 33) 4
theorem sc_Calendar_next_same : FnScope ["self", "used", "day"] ["self"] (defScope s_Calendar_next_same) := ⟨rfl, rfl, rfl, by decide +kernel, rfl, by decide +kernel, by decide +kernel⟩
abbrev s_Calendar_days : Stmt := inClass (topS 33) 5
abbrev s_Calendar_undo : Stmt := inClass (topS 33) 6
abbrev s_Calendar_len : Stmt := inClass (topS 33) 7
abbrev s_law_start : Stmt := topS 35
theorem sc_law_start : FnScope ["script"] ["script"] (defScope s_law_start) := ⟨rfl, rfl, rfl, by decide +kernel, rfl, by decide +kernel, by decide +kernel⟩
theorem pa_law_start : plainA (defArgs s_law_start) ["script"] = true := by decide +kernel
abbrev s_law_draw : Stmt := topS 36
theorem sc_law_draw : FnScope ["draws", "limit", "numbers", "at", "cell", "mixed"] ["draws", "limit"] (defScope s_law_draw) := ⟨rfl, rfl, rfl, by decide +kernel, rfl, by decide +kernel, by decide +kernel⟩
theorem pa_law_draw : plainA (defArgs s_law_draw) ["draws", "limit"] = true := by decide +kernel
abbrev s_law_pick : Stmt := topS 37
theorem sc_law_pick : FnScope ["draws", "choices"] ["draws", "choices"] (defScope s_law_pick) := ⟨rfl, rfl, rfl, by decide +kernel, rfl, by decide +kernel, by decide +kernel⟩
theorem pa_law_pick : plainA (defArgs s_law_pick) ["draws", "choices"] = true := by decide +kernel
abbrev s_law_low : Stmt := topS 38
theorem sc_law_low : FnScope ["top", "under", "one", "other"] ["top", "under"] (defScope s_law_low) := ⟨rfl, rfl, rfl, by decide +kernel, rfl, by decide +kernel, by decide +kernel⟩
theorem pa_law_low : plainA (defArgs s_law_low) ["top", "under"] = true := by decide +kernel
abbrev s_law_add : Stmt := topS 39
theorem sc_law_add : FnScope ["one", "other"] ["one", "other"] (defScope s_law_add) := ⟨rfl, rfl, rfl, by decide +kernel, rfl, by decide +kernel, by decide +kernel⟩
theorem pa_law_add : plainA (defArgs s_law_add) ["one", "other"] = true := by decide +kernel
abbrev s_law_less : Stmt := topS 40
theorem sc_law_less : FnScope ["one", "other"] ["one", "other"] (defScope s_law_less) := ⟨rfl, rfl, rfl, by decide +kernel, rfl, by decide +kernel, by decide +kernel⟩
theorem pa_law_less : plainA (defArgs s_law_less) ["one", "other"] = true := by decide +kernel
abbrev s_law_year : Stmt := topS 41
theorem sc_law_year : FnScope ["draws", "most", "wide", "k"] ["draws", "most"] (defScope s_law_year) := ⟨rfl, rfl, rfl, by decide +kernel, rfl, by decide +kernel, by decide +kernel⟩
theorem pa_law_year : plainA (defArgs s_law_year) ["draws", "most"] = true := by decide +kernel
abbrev s_law_fresh : Stmt := topS 42
theorem sc_law_fresh : FnScope ["draws", "year", "size", "middle", "many", "part", "shown", "line", "turn", "day"] ["draws", "year", "size"] (defScope s_law_fresh) := ⟨rfl, rfl, rfl, by decide +kernel, rfl, by decide +kernel, by decide +kernel⟩
theorem pa_law_fresh : plainA (defArgs s_law_fresh) ["draws", "year", "size"] = true := by decide +kernel
abbrev s_law : Stmt := topS 43
theorem sc_law : FnScope ["script", "draws", "year", "size", "whole", "total", "many", "rows", "turn", "fresh", "hits", "used", "one", "counts", "again", "day", "known", "key"] ["script"] (defScope s_law) := ⟨rfl, rfl, rfl, by decide +kernel, rfl, by decide +kernel, by decide +kernel⟩
theorem pa_law : plainA (defArgs s_law) ["script"] = true := by decide +kernel
structure Tx (K : PySem.W.Frag) (mg : Str → Option Value) (c : Cl) : Prop where
  d_wall : Df K mg "_wall" s_wall ["k"]
  e_DayError : ErrC K mg "DayError" c.DayError
  e_BadYear : ErrC K mg "BadYear" c.BadYear
  e_BadDay : ErrC K mg "BadDay" c.BadDay
  e_BadNumber : ErrC K mg "BadNumber" c.BadNumber
  k_MOST_THINGS : ∃ t, mg "MOST_THINGS" = some (.int 12 t)
  d_is_int : Df K mg "is_int" s_is_int ["value", "low", "high"]
  d_common : Df K mg "common" s_common ["one", "other"]
  d_is_year : Df K mg "is_year" s_is_year ["value"]
  d_check_year : Df K mg "check_year" s_check_year ["value"]
  d_check_day : Df K mg "check_day" s_check_day ["year", "value"]
  d_check_many : Df K mg "check_many" s_check_many ["value"]
  d_lowest : Df K mg "lowest" s_lowest ["top", "below"]
  d_plus : Df K mg "plus" s_plus ["one", "other"]
  d_minus : Df K mg "minus" s_minus ["one", "other"]
  d_power : Df K mg "power" s_power ["base", "exponent"]
  d_choose : Df K mg "choose" s_choose ["whole", "part"]
  d_ordered : Df K mg "ordered" s_ordered ["many"]
  d_product_sums : Df K mg "product_sums" s_product_sums ["year"]
  d_unlike_of : Df K mg "unlike_of" s_unlike_of ["year", "many"]
  d_some_same : Df K mg "some_same" s_some_same ["year", "many"]
  d_first_same_at : Df K mg "first_same_at" s_first_same_at ["year", "many"]
  d_mean_used : Df K mg "mean_used" s_mean_used ["year", "many"]
  d_new_day_at : Df K mg "new_day_at" s_new_day_at ["year", "many"]
  d_check_counts : Df K mg "check_counts" s_check_counts ["year", "value"]
  d_placed : Df K mg "placed" s_placed ["year", "counts"]
  d_next_on_used : Df K mg "next_on_used" s_next_on_used ["year", "counts"]
  o_Calendar : ClsT K mg "Calendar" c.Calendar
  o_year : NoAttr K c.Calendar "year"
  o_line : NoAttr K c.Calendar "line"
  m_init : DfM K c.Calendar "__init__" "Calendar.__init__" s_Calendar_init ["self", "year"]
  m_put : DfM K c.Calendar "put" "Calendar.put" s_Calendar_put ["self", "day"]
  m_counts : DfM K c.Calendar "counts" "Calendar.counts" s_Calendar_counts ["self"]
  m_pairs : DfM K c.Calendar "pairs" "Calendar.pairs" s_Calendar_pairs ["self"]
  m_next_same : DfM K c.Calendar "next_same" "Calendar.next_same" s_Calendar_next_same ["self"]
  m_days : DfM K c.Calendar "days" "Calendar.days" s_Calendar_days ["self"]
  m_undo : DfM K c.Calendar "undo" "Calendar.undo" s_Calendar_undo ["self"]
  m_len : DfM K c.Calendar "__len__" "Calendar.__len__" s_Calendar_len ["self"]
  d_law_start : Df K mg "_law_start" s_law_start ["script"]
  d_law_draw : Df K mg "_law_draw" s_law_draw ["draws", "limit"]
  d_law_pick : Df K mg "_law_pick" s_law_pick ["draws", "choices"]
  d_law_low : Df K mg "_law_low" s_law_low ["top", "under"]
  d_law_add : Df K mg "_law_add" s_law_add ["one", "other"]
  d_law_less : Df K mg "_law_less" s_law_less ["one", "other"]
  d_law_year : Df K mg "_law_year" s_law_year ["draws", "most"]
  d_law_fresh : Df K mg "_law_fresh" s_law_fresh ["draws", "year", "size"]
  d_law : Df K mg "law" s_law ["script"]
  n_isinstance : mg "isinstance" = none
  n_int : mg "int" = none
  n_bool : mg "bool" = none
  n_all : mg "all" = none
  n_list : mg "list" = none
  n_len : mg "len" = none
  n_abs : mg "abs" = none
  n_range : mg "range" = none
  n_sum : mg "sum" = none
  n_zip : mg "zip" = none
  n_sorted : mg "sorted" = none
  n_set : mg "set" = none
  n_tuple : mg "tuple" = none
end Pg

namespace Pg
open PySem PySem.Spec PyProof.Rows L2 Sd
section
variable {P : Program} {w : World} {K : PySem.W.Frag} {mg : Str → Option Value} {base : Heap} {c : Cl}
def pre_is_int : Pr := fun ss own post => ∃ x lo hi, ss = [.d x, .d (.int lo), .d (.int hi)] ∧ own = [] ∧ post = fun o => o = .ret (.d (.bool (isInt x lo hi))) []
theorem fn_is_int (T : Tx K mg c) : Fn K mg P w base "is_int" ["value", "low", "high"] 1 pre_is_int := T.d_is_int.fn fun f fd F => okG (k := 0) F sc_is_int (by rintro ss own post ⟨x, lo, hi, rfl, _⟩; rfl) (by
  rintro ss own post ⟨x, lo, hi, rfl, rfl, rfl⟩ cdv A outer s H E B g
  refine sds_nd 0 rfl fun hx => ?_
  have hx := hx.1
  refine sds_one (sd_retD (x := .bool (isInt x lo hi)) (ES.is (ed_and (l := isInt x lo hi) (ed_isi (x := x) (l := (kitB (tyD x) "int").getD false) T.n_isinstance (ed_v 0) .d (ev_ty (T := "int") rfl T.n_int (by decide +kernel)) ?_) fun hk => ?_) ?_) rfl)
  · cases x <;> first | rfl | exact absurd rfl (hx _)
  · refine ES.is (ed_and (l := isInt x lo hi) (ed_not (ed_isi (x := x) (l := (kitB (tyD x) "bool").getD false) T.n_isinstance (ed_v 0) .d (ev_ty (T := "bool") rfl T.n_bool (by decide +kernel)) ?_)) fun hk2 => ed_one ?_) ?_
    · cases x <;> first | rfl | exact absurd rfl (hx _)
    · cases x with
      | int i => exact ed_chain c_le c_le (ed_v 1) (ed_v 0) (ed_v 2)
      | bool b => exact nomatch (show false = true from hk2)
      | none => exact nomatch (show false = true from hk)
      | str z => exact nomatch (show false = true from hk)
      | list z => exact nomatch (show false = true from hk)
      | tuple z => exact nomatch (show false = true from hk)
      | dict z => exact absurd rfl (hx z)
    · cases x <;> first | rfl | exact nomatch (show false = true from hk) | exact absurd rfl (hx _)
  · cases x <;> first | rfl | exact absurd rfl (hx _))
end
end Pg

namespace Pg
open PySem PySem.Spec PyProof.Rows L2 Sd
section
variable {P : Program} {w : World} {K : PySem.W.Frag} {mg : Str → Option Value} {base : Heap} {c : Cl}
def pre_check_many (c : Cl) : Pr := fun ss own post => ∃ x : PyData, ss = [.d x] ∧ own = [] ∧ post = fun o => o = if isInt x 0 12 = true then .ret (.d .none) [] else .exc c.BadNumber []
theorem fn_check_many (T : Tx K mg c) : Fn K mg P w base "check_many" ["value"] 2 (pre_check_many c) := T.d_check_many.fn fun f fd F => okG (k := 1) F sc_check_many (by rintro ss own post ⟨x, rfl, _⟩; rfl) (by
  rintro ss own post ⟨x, rfl, rfl, rfl⟩ cdv A outer s H E B g
  obtain ⟨t, hm⟩ := T.k_MOST_THINGS
  refine sds_one (sd_if (et_not (et_val (es_call (fn_is_int T) g (by decide) (ea_cons (ed_v 0) (ea_cons ed_int (ea_cons (ed_glob rfl hm) ea_nil))) ⟨x, _, _, rfl, rfl, rfl⟩))) (fun h => ?_) fun h => ?_)
  · refine sds_one (sd_raise g T.e_BadNumber ?_)
    show Out.exc c.BadNumber [] = _
    rw [if_neg (by simpa using h)]
  · refine sds_nil ?_
    show Out.ret (.d .none) [] = _
    rw [if_pos (by simpa using h)])
theorem ok_many {c : Cl} {n : Int} (h : 0 ≤ n ∧ n ≤ 12) : pre_check_many c [.d (.int n)] [] (fun o => o = .ret (.d .none) []) := ⟨.int n, rfl, rfl, by
  rw [if_pos]
  simp [Sd.isInt, h.1, h.2]⟩
end
end Pg

namespace Pg
open PySem PySem.Spec PyProof.Rows L2 Sd
section
variable {P : Program} {w : World} {K : PySem.W.Frag} {mg : Str → Option Value} {base : Heap} {c : Cl}
def pre_is_year : Pr := fun ss own post => ∃ x, ss = [.d x] ∧ own = [] ∧ post = fun o => o = .ret (.d (.bool (isYear x))) []
theorem fn_is_year (T : Tx K mg c) : Fn K mg P w base "is_year" ["value"] 2 pre_is_year := T.d_is_year.fn fun f fd F => okG (k := 1) F sc_is_year (by rintro ss own post ⟨x, rfl, _⟩; rfl) (by
  rintro ss own post ⟨x, rfl, rfl, rfl⟩ cdv A outer s H E B g
  refine sds_nd 0 rfl fun hx => ?_
  have hx := hx.1
  by_cases hl : ∃ ds, x = .list ds
  · obtain ⟨ds, rfl⟩ := hl
    refine sds_cons (sd_if (l := !(decide (1 ≤ (ds.length : Int)) && decide ((ds.length : Int) ≤ 8))) (ET.is (EW.et (ew_or (et_not (et_val (ed_isi (x := .list ds) (l := true) T.n_isinstance (ed_v 0) .d (ev_ty (T := "list") rfl T.n_list (by decide +kernel)) rfl))) fun _ => ew_or1 (et_not (et_chain c_le c_le ed_int (ed_len T.n_len (ed_v 0) .d) ed_int)))) (by simp)) (fun h => ?_) fun h => ?_)
    · refine sds_one (sd_retD ed_bl ?_)
      have : isYear (.list ds) = false := by
        unfold isYear
        simp only [Bool.not_eq_true', Bool.and_eq_false_iff] at h ⊢
        exact .inl h
      rw [this]
    · have h : (decide (1 ≤ (ds.length : Int)) && decide ((ds.length : Int) ≤ 8)) = true := by simpa using h
      have hlen : ds.length ≤ 8 := by simp at h; omega
      refine sds_nil (sds_one (sd_retD (ed_all (ns := ds.map fun d => isInt d 1 20) g T.n_all (EL.ed (ds := (ds.map fun d => isInt d 1 20).map PyData.bool) (EL.is (el_comp g (compP g (it_list (ed_v 0)) [("one", 1)] (blkOk_by (N := ["value", "one"]) (sc := defScope s_is_year) (by decide +kernel)) ds id (by simp) (fun d => some (.bool (isInt d 1 20))) (fun d => [.d (.list ds), .d d]) [1] (by simp) (by omega) (fun _ _ => trivial)
        (fun d _ s H C cl fp g' => gt_name 1 g'.nd) (fun d _ s H C cl fp o g' => ets_nil) (fun d _ x hx s H C cl fp o g' => ?_))) ?_)) .d) ?_))
      · cases hx
        exact es_call (fn_is_int T) g' (by decide) (ea_cons (ed_v 1) (ea_cons ed_int (ea_cons ed_int ea_nil))) ⟨d, 1, 20, rfl, rfl, rfl⟩
      · rw [List.map_map]
        exact List.filterMap_eq_map' .. |>.symm ▸ rfl
      · show Out.ret (.d (.bool ((ds.map fun d => isInt d 1 20).all id))) [] = Out.ret (.d (.bool (isYear (.list ds)))) []
        have e : isYear (.list ds) = (decide (1 ≤ (ds.length : Int)) && decide ((ds.length : Int) ≤ 8) && (ds.map fun d => isInt d 1 20).all id) := rfl
        rw [e, h, Bool.true_and]
  · have hk : kitB (tyD x) "list" = some false := by
      cases x <;> first | rfl | exact absurd ⟨_, rfl⟩ hl | exact absurd rfl (hx _)
    refine sds_cons (sd_if (l := true) (EW.et (ew_or (k := true) (l := true) (et_not (k := false) (et_val (ed_isi (x := x) (l := false) T.n_isinstance (ed_v 0) .d (ev_ty (T := "list") rfl T.n_list (by decide +kernel)) hk))) fun h => nomatch h)) (fun h => ?_) fun h => nomatch h)
    refine sds_one (sd_retD ed_bl ?_)
    cases x <;> first | rfl | exact absurd ⟨_, rfl⟩ hl)
end
end Pg

namespace Pg
open PySem PySem.Spec PyProof.Rows L2 Sd
section
variable {P : Program} {w : World} {K : PySem.W.Frag} {mg : Str → Option Value} {base : Heap} {c : Cl}
def pre_check_year (c : Cl) : Pr := fun ss own post => ∃ x, ss = [.d x] ∧ own = [] ∧ post = fun o => o = if isYear x = true then .ret (.d .none) [] else .exc c.BadYear []
theorem fn_check_year (T : Tx K mg c) : Fn K mg P w base "check_year" ["value"] 3 (pre_check_year c) := T.d_check_year.fn fun f fd F => okG (k := 2) F sc_check_year (by rintro ss own post ⟨x, rfl, _⟩; rfl) (by
  rintro ss own post ⟨x, rfl, rfl, rfl⟩ cdv A outer s H E B g
  refine sds_one (sd_if (et_not (et_val (es_call (fn_is_year T) g (by decide) (ea_cons (ed_v 0) ea_nil) ⟨x, rfl, rfl, rfl⟩))) (fun h => ?_) fun h => ?_)
  · refine sds_one (sd_raise g T.e_BadYear ?_)
    show Out.exc c.BadYear [] = _
    rw [if_neg (by simpa using h)]
  · refine sds_nil ?_
    show Out.ret (.d .none) [] = _
    rw [if_pos (by simpa using h)])
/-- a year is checked -/
theorem ok_year {c : Cl} {ys : List Int} (h : Yr ys) : pre_check_year c [.d (li ys)] [] (fun o => o = .ret (.d .none) []) := ⟨li ys, rfl, rfl, by rw [if_pos h.is]⟩
end
end Pg

namespace Pg
open PySem PySem.Spec PyProof.Rows L2 Sd
section
variable {P : Program} {w : World} {K : PySem.W.Frag} {mg : Str → Option Value} {base : Heap} {c : Cl}
def pre_common : Pr := fun ss own post => ∃ a b : Int, ss = [.d (.int a), .d (.int b)] ∧ own = [] ∧ 0 ≤ a ∧ 0 ≤ b ∧ post = fun o => o = .ret (.d (.int (Int.gcd a b : Nat))) []
theorem fn_common (T : Tx K mg c) : Fn K mg P w base "common" ["one", "other"] 1 pre_common := T.d_common.fn fun f fd F => okG (k := 0) F sc_common (by rintro ss own post ⟨a, b, rfl, _⟩; rfl) (by
  rintro ss own post ⟨a, b, rfl, rfl, ha, hb, rfl⟩ cdv A outer s H E B g
  refine sds_cons (sd_while g (fun m ρ own => ∃ x y : Int, 0 ≤ x ∧ 0 ≤ y ∧ ρ = [.d (.int x), .d (.int y)] ∧ own = [] ∧ Int.gcd x y = Int.gcd a b ∧ m = y.toNat) b.toNat ⟨a, b, ha, hb, rfl, rfl, rfl, rfl⟩ ?_)
  rintro m ρ1 own1 ⟨x, y, hx, hy, rfl, rfl, e, rfl⟩
  refine ⟨_, et_cmp c_neI (ed_v 1) ed_int, fun h => ?_, fun h => ?_⟩
  · have h0 : 0 < y := by
      have : y ≠ 0 := fun z => by subst z; simp at h
      omega
    refine sds_one (sd_par 0 1 g (ea_cons (ed_v 1) (ea_cons (ed_mod (ed_v 0) (ed_v 1) h0) ea_nil)) ?_)
    have h1 := Int.emod_nonneg x (Int.ne_of_gt h0)
    have h2 := Int.emod_lt_of_pos x h0
    exact ⟨(x % y).toNat, by omega, y, x % y, hy, h1, rfl, rfl, (gcd_step x y hx h0).trans e, rfl⟩
  · have h0 : y = 0 := by simpa using h
    subst h0
    refine sds_one (sd_retD (ed_v 0) ?_)
    show Out.ret (.d (.int x)) [] = Out.ret (.d (.int (Int.gcd a b : Nat))) []
    rw [← e, Int.gcd_zero_right, Int.natAbs_of_nonneg hx])
end
end Pg

namespace Pg
open PySem PySem.Spec PyProof.Rows L2 Sd
section
variable {P : Program} {w : World} {K : PySem.W.Frag} {mg : Str → Option Value} {base : Heap} {c : Cl}
def pre_lowest : Pr := fun ss own post => ∃ a b : Int, ss = [.d (.int a), .d (.int b)] ∧ own = [] ∧ 0 < b ∧ Sz 8999 b ∧ post = fun o => o = .ret (.d (fr ((a : Rat) / b))) []
theorem fn_lowest (T : Tx K mg c) : Fn K mg P w base "lowest" ["top", "below"] 2 pre_lowest := T.d_lowest.fn fun f fd F => okG (k := 1) F sc_lowest (by rintro ss own post ⟨a, b, rfl, _⟩; rfl) (by
  rintro ss own post ⟨a, b, rfl, rfl, hb, hz, rfl⟩ cdv A outer s H E B g
  have eg : Int.gcd (if a < 0 then -a else a) b = Int.gcd a b := by
    split
    · rw [Int.gcd_comm, Int.gcd_neg, Int.gcd_comm]
    · rfl
  refine sds_cons (sd_set 2 g.nd (es_call (fn_common T) g (by decide) (ea_cons (ed_abs T.n_abs (ed_v 0)) (ea_cons (ed_v 1) ea_nil)) ⟨_, _, rfl, rfl, by split <;> omega, by omega, rfl⟩) ?_)
  rw [eg]
  have g0 : (0 : Int) < (Int.gcd a b : Nat) := by
    have := Int.gcd_pos_of_ne_zero_right a (show b ≠ 0 by omega)
    omega
  have gz : Sz 8999 (Int.gcd a b : Nat) := by
    have := Int.gcd_le_natAbs_right (a := a) (show b ≠ 0 by omega)
    unfold Sz at *
    rw [Int.natAbs_natCast]
    omega
  refine sds_one (sd_retD (ed_tup (ds := [_, _]) (ea_cons (ed_fdiv (ed_v 0) (ed_v 2) (cdiv_of g0 gz (by decide))) (ea_cons (ed_fdiv (ed_v 1) (ed_v 2) (cdiv_of g0 gz (by decide))) ea_nil))) ?_)
  show Out.ret (.d (.tuple [.int (a / (Int.gcd a b : Nat)), .int (b / (Int.gcd a b : Nat))])) [] = _
  rw [fr_low a b hb])
end
end Pg

namespace Pg
open PySem PySem.Spec PyProof.Rows L2 Sd
section
variable {P : Program} {w : World} {K : PySem.W.Frag} {mg : Str → Option Value} {base : Heap} {c : Cl}
def fac : Nat → Nat
  | 0 => 1
  | n + 1 => (n + 1) * fac n
theorem fac_sz : ∀ n : Nat, n ≤ 12 → Sz 30 (fac n : Nat) := by
  have h : ∀ n : Nat, n ≤ 12 → fac n < 2 ^ 30 := by decide
  intro n hn
  unfold Sz
  rw [Int.natAbs_natCast]
  exact h n hn
def pre_ordered : Pr := fun ss own post => ∃ n : Nat, ss = [.d (.int (n : Int))] ∧ own = [] ∧ n ≤ 12 ∧ post = fun o => o = .ret (.d (.int (fac n : Nat))) []
theorem fn_ordered (T : Tx K mg c) : Fn K mg P w base "ordered" ["many"] 1 pre_ordered := T.d_ordered.fn fun f fd F => okG (k := 0) F sc_ordered (by rintro ss own post ⟨n, rfl, _⟩; rfl) (by
  rintro ss own post ⟨n, rfl, rfl, hn, rfl⟩ cdv A outer s H E B g
  refine sds_cons (sd_set 1 g.nd ed_int ?_)
  refine sds_cons (sd_for g (it_range2 T.n_range ed_int (ed_add (ed_v 0) ed_int) ⟨by omega, by omega, by omega, by omega⟩) (fun i ρ own => own = [] ∧ ∃ t, ρ = [.d (.int (n : Int)), .d (.int (fac (i + 1) : Nat)), t]) ⟨rfl, _, rfl⟩ (fun _ _ _ _ => trivial) ?_ ?_)
  · rintro i y ρ1 own1 hy ⟨rfl, t, rfl⟩
    obtain ⟨hi, rfl⟩ := rng_get hy
    have hi : i + 1 < n := by omega
    refine ⟨_, _, gt_name 2 g.nd, sds_one (sd_aug 1 iop_mulW g.nd rfl (ed_v 2) (cmul_of (fac_sz (i + 1) (by omega)) (b := 4) (by unfold Sz; omega) (by decide)) ?_)⟩
    refine ⟨rfl, .d (.int (2 + (i : Int))), ?_⟩
    have e : ((fac (i + 1) : Nat) : Int) * (2 + (i : Int)) = (fac (i + 1 + 1) : Nat) := by
      show _ = (((i + 1 + 1) * fac (i + 1) : Nat) : Int)
      rw [Int.natCast_mul, Int.mul_comm]
      congr 1
      omega
    rw [e]
    rfl
  · rintro ρ1 own1 ⟨rfl, t, rfl⟩
    rw [rng_length]
    refine sds_one (sd_retD (ed_v 1) ?_)
    show Out.ret (.d (.int (fac (((n : Int) + 1 - 2).toNat + 1) : Nat))) [] = _
    have e : fac (((n : Int) + 1 - 2).toNat + 1) = fac n := by
      cases n with
      | zero => rfl
      | succ m =>
        rw [show (((m + 1 : Nat) : Int) + 1 - 2).toNat = m by omega]
    rw [e])
end
end Pg

namespace Pg
open PySem PySem.Spec PyProof.Rows L2 Sd
section
variable {P : Program} {w : World} {K : PySem.W.Frag} {mg : Str → Option Value} {base : Heap} {c : Cl}
def pre_power : Pr := fun ss own post => ∃ (b : Int) (n k : Nat), ss = [.d (.int b), .d (.int (n : Int))] ∧ own = [] ∧ Sz k b ∧ n ≤ 1000 ∧ k ≤ 100 ∧ post = fun o => o = .ret (.d (.int (b ^ n))) []
theorem fn_power (T : Tx K mg c) : Fn K mg P w base "power" ["base", "exponent"] 1 pre_power := T.d_power.fn fun f fd F => okG (k := 0) F sc_power (by rintro ss own post ⟨b, n, k, rfl, _⟩; rfl) (by
  rintro ss own post ⟨b, n, k, rfl, rfl, hb, hn, hk, rfl⟩ cdv A outer s H E B g
  refine sds_cons (sd_set 2 g.nd ed_int ?_)
  refine sds_cons (sd_for g (it_range1 T.n_range (ed_v 1) ⟨by omega, by omega⟩) (fun i ρ own => own = [] ∧ ∃ t, ρ = [.d (.int b), .d (.int (n : Int)), .d (.int (b ^ i)), t]) ⟨rfl, _, by rw [Int.pow_zero]; rfl⟩ (fun _ _ _ _ => trivial) ?_ ?_)
  · rintro i y ρ1 own1 hy ⟨rfl, t, rfl⟩
    obtain ⟨hi, rfl⟩ := rng_get hy
    have hi : i < n := by omega
    refine ⟨_, _, gt_name 3 g.nd, sds_one (sd_aug 2 iop_mulW g.nd rfl (ed_v 0) (cmul_of (hb.pow i) hb ?_) ?_)⟩
    · have : k * i ≤ 100 * 1000 := Nat.mul_le_mul hk (by omega)
      omega
    · exact ⟨rfl, _, by rw [Int.pow_succ]; rfl⟩
  · rintro ρ1 own1 ⟨rfl, t, rfl⟩
    rw [rng_length]
    refine sds_one (sd_retD (ed_v 2) ?_)
    show Out.ret (.d (.int (b ^ (n : Int).toNat))) [] = _
    rw [Int.toNat_natCast])
end
end Pg

namespace Pg
open PySem PySem.Spec PyProof.Rows L2 Sd
section
variable {P : Program} {w : World} {K : PySem.W.Frag} {mg : Str → Option Value} {base : Heap} {c : Cl}
def psK (f : List Int) (y : Int) : Nat → List Int
  | 0 => f ++ [0]
  | k + 1 => (psK f y k).set (k + 1) ((psK f y k).getD (k + 1) 0 + f.getD k 0 * y)
def psS (f : List Int) (y : Int) : List Int := psK f y f.length
def psums (ys : List Int) : List Int := ys.foldl psS [1]
theorem psK_len (f : List Int) (y : Int) : ∀ k, (psK f y k).length = f.length + 1
  | 0 => by simp [psK]
  | k + 1 => by rw [psK, List.length_set, psK_len f y k]
theorem fold_len : ∀ (ys f : List Int), (ys.foldl psS f).length = f.length + ys.length
  | [], f => rfl
  | y :: ys, f => by
    rw [List.foldl_cons, fold_len ys, psS, psK_len, List.length_cons]
    omega
theorem psums_len (ys : List Int) : (psums ys).length = ys.length + 1 := by
  rw [psums, fold_len]
  simp
  omega
theorem psums_take {ys : List Int} {i : Nat} {y : Int} (h : ys[i]? = some y) : psums (ys.take (i + 1)) = psS (psums (ys.take i)) y := by
  unfold psums
  rw [List.take_add_one, h, List.foldl_append]
  rfl
def pre_product_sums : Pr := fun ss own post => ∃ ys : List Int, ss = [.d (li ys)] ∧ own = [] ∧ Yr ys ∧ post = fun o => o = .ret (.d (li (psums ys))) []
theorem fn_product_sums (T : Tx K mg c) : Fn K mg P w base "product_sums" ["year"] 1 pre_product_sums := T.d_product_sums.fn fun f fd F => okG (k := 0) F sc_product_sums (by rintro ss own post ⟨n, rfl, _⟩; rfl) (by
  rintro ss own post ⟨ys, rfl, rfl, hY, rfl⟩ cdv A outer s H E B g
  have hl := hY.hi
  refine sds_cons (sd_setL 1 g.nd (el_lst (ds := [.int 1]) (ea_cons ed_int ea_nil)) fun p0 => ?_)
  refine sds_freeze 1 (oa := []) rfl ?_
  refine sds_cons (sd_for g (it_list (ed_v 0)) (fun i ρ own => own = [] ∧ ∃ t2 t3 t4, ρ = [.d (li ys), .d (li (psums (ys.take i))), t2, t3, t4]) ⟨rfl, _, _, _, rfl⟩ (fun _ _ _ _ => trivial) ?_ ?_)
  · rintro i y ρ1 own1 hy ⟨rfl, t2, t3, t4, rfl⟩
    rw [List.getElem?_map] at hy
    cases ea : ys[i]? with
    | none => rw [ea] at hy; cases hy
    | some y' =>
      rw [ea] at hy
      cases hy
      have hm : y' ∈ ys := List.mem_of_getElem? ea
      have hy := hY.it _ hm
      have hi := (List.getElem?_eq_some_iff.mp ea).1
      have hfl : (psums (ys.take i)).length ≤ 9 := by
        rw [psums_len, List.length_take]
        omega
      rw [psums_take ea]
      generalize psums (ys.take i) = f at hfl ⊢
      refine ⟨_, _, gt_name 2 g.nd, ?_⟩
      refine sds_cons (sd_setL 3 g.nd (el_cat (ed_v 1) (ed_k1 (i := 0)) .d .d (by simp; omega)) fun p => ?_)
      refine sds_cons (sd_for g (it_range1 T.n_range (ed_len T.n_len (ed_v 1) .d) ⟨by rw [List.length_map]; omega, by rw [List.length_map]; omega⟩) (fun j ρ own => own = [(p, .lst ((psK f y' j).map PyData.int))] ∧ ∃ t4, ρ = [.d (li ys), .d (li f), .d (.int y'), .raw (.ref p), t4]) ⟨by rw [psK, List.map_append]; rfl, _, rfl⟩ (fun _ _ _ _ => trivial) ?_ ?_)
      · rintro j yy ρ2 own2 hyy ⟨rfl, t4, rfl⟩
        obtain ⟨hj, rfl⟩ := rng_get hyy
        have hj : j < f.length := by
          rw [List.length_map] at hj
          omega
        have e1 : f[j]? = some (f.getD j 0) := by
          rw [List.getD_eq_getElem?_getD, List.getElem?_eq_getElem hj]
          rfl
        have hjk : j + 1 < (psK f y' j).length := by
          rw [psK_len]
          omega
        have e2 : (psK f y' j)[j + 1]? = some ((psK f y' j).getD (j + 1) 0) := by
          rw [List.getD_eq_getElem?_getD, List.getElem?_eq_getElem hjk]
          rfl
        have e0 : (0 : Int) + (j : Int) = (j : Int) := by omega
        rw [e0]
        refine ⟨_, _, gt_name 4 g.nd, sds_one (sd_augitem (oa := []) (ob := []) (n := j + 1) iop_addC (ev_v 3) (ed_add (ed_v 4) ed_int) (ed_mulS (ed_ixL (ed_v 1) (ed_v 4) .d (getI e1)) (ed_v 2) (.inr ⟨by omega, by omega⟩)) ?_ (by rw [List.getElem?_map, e2]; rfl) trivial ?_)⟩
        · unfold ixN
          rw [List.length_map, if_pos (by omega), if_pos (by omega)]
          congr 1
        · refine ⟨?_, _, rfl⟩
          rw [psK, List.map_set]
          rfl
      · rintro ρ2 own2 ⟨rfl, t4, rfl⟩
        rw [rng_length, Int.toNat_natCast, List.length_map]
        refine sds_cons (sd_set 1 g.nd (ev_v 3) ?_)
        refine sds_freeze 1 (oa := []) rfl ?_
        exact sds_nil ⟨rfl, _, _, _, rfl⟩
  · rintro ρ1 own1 ⟨rfl, t2, t3, t4, rfl⟩
    rw [List.length_map, List.take_length]
    exact sds_one (sd_retD (ed_v 1) rfl))
end
end Pg

namespace Pg
open PySem PySem.Spec PyProof.Rows L2 Sd
section
variable {P : Program} {w : World} {K : PySem.W.Frag} {mg : Str → Option Value} {base : Heap} {c : Cl}
def unl (ys : List Int) (n : Nat) : Rat := ((((fac n : Nat) * (psums ys).getD n 0 : Int) : Rat) / ((ys.sum ^ n : Int) : Rat))
def pre_unlike_of : Pr := fun ss own post => ∃ (ys : List Int) (n : Nat), ss = [.d (li ys), .d (.int (n : Int))] ∧ own = [] ∧ Yr ys ∧ n ≤ 12 ∧ post = fun o => o = .ret (.d (fr (unl ys n))) []
theorem fn_unlike_of (T : Tx K mg c) : Fn K mg P w base "unlike_of" ["year", "many"] 3 pre_unlike_of := T.d_unlike_of.fn fun f fd F => okG (k := 2) F sc_unlike_of (by rintro ss own post ⟨ys, n, rfl, _⟩; rfl) (by
  rintro ss own post ⟨ys, n, rfl, rfl, hY, hn, rfl⟩ cdv A outer s H E B g
  have hl := psums_len ys
  refine sds_cons (sd_set 2 g.nd (es_call (fn_product_sums T) g (by decide) (ea_cons (ed_v 0) ea_nil) ⟨ys, rfl, rfl, hY, rfl⟩) ?_)
  refine sds_cons (sd_if (l := decide (((psums ys).length : Int) ≤ (n : Int))) (et_cmp (c_ge (i := n) (j := (psums ys).length)) (ed_v 1) (ES.is (ed_len T.n_len (ed_v 2) .d) (by rw [List.length_map]))) (fun h => ?_) fun h => sds_nil ?_)
  · have h : (psums ys).length ≤ n := by simpa using h
    refine sds_one (sd_retD (ed_k2 (i := 0) (i' := 1)) ?_)
    have e : unl ys n = 0 := by
      unfold unl
      rw [List.getD_eq_getElem?_getD, List.getElem?_eq_none h]
      simp
      exact Rat.zero_mul _
    rw [e]
    rfl
  · have h : n < (psums ys).length := by simpa using h
    have e1 : (psums ys)[n]? = some ((psums ys).getD n 0) := by
      rw [List.getD_eq_getElem?_getD, List.getElem?_eq_getElem h]
      rfl
    have z := fac_sz n hn
    unfold Sz at z
    have h2 : Sz 97 (ys.sum ^ n) := (hY.szW.pow n).mono (by omega)
    exact sds_one (sd_retD (es_call (fn_lowest T) g (by decide) (ea_cons (ed_mulS (es_call (fn_ordered T) g (by decide) (ea_cons (ed_v 1) ea_nil) ⟨n, rfl, rfl, hn, rfl⟩) (ed_ixL (ed_v 2) (ed_v 1) .d (getI e1)) (.inl ⟨by omega, by omega⟩)) (ea_cons (es_call (fn_power T) g (by decide) (ea_cons (ed_sum g T.n_sum (ed_v 0) .d) (ea_cons (ed_v 1) ea_nil)) ⟨_, n, 8, rfl, rfl, hY.szW, by omega, by decide, rfl⟩) ea_nil)) ⟨_, _, rfl, rfl, hY.posP n, h2.mono (by decide), rfl⟩) rfl))
end
end Pg

namespace Pg
open PySem PySem.Spec PyProof.Rows L2 Sd
section
variable {P : Program} {w : World} {K : PySem.W.Frag} {mg : Str → Option Value} {base : Heap} {c : Cl}
end
end Pg

namespace Pg
open PySem PySem.Spec PyProof.Rows L2 Sd
section
variable {P : Program} {w : World} {K : PySem.W.Frag} {mg : Str → Option Value} {base : Heap} {c : Cl}
end
end Pg

namespace Pg
open PySem PySem.Spec PyProof.Rows L2 Sd
section
variable {P : Program} {w : World} {K : PySem.W.Frag} {mg : Str → Option Value} {base : Heap} {c : Cl}
end
end Pg

namespace Pg
open PySem PySem.Spec PyProof.Rows L2 Sd
section
variable {P : Program} {w : World} {K : PySem.W.Frag} {mg : Str → Option Value} {base : Heap} {c : Cl}
end
end Pg

namespace Pg
open PySem PySem.Spec PyProof.Rows L2 Sd
section
variable {P : Program} {w : World} {K : PySem.W.Frag} {mg : Str → Option Value} {base : Heap} {c : Cl}
/-! elementary symmetric sums -/
def esI : List Int → Nat → Int
  | _, 0 => 1
  | [], _ + 1 => 0
  | a :: l, n + 1 => esI l (n + 1) + a * esI l n
theorem esI_zero (l : List Int) : esI l 0 = 1 := by cases l <;> rfl
theorem esI_cons (a : Int) (l : List Int) (n : Nat) : esI (a :: l) (n + 1) = esI l (n + 1) + a * esI l n := rfl
theorem esI_perm {l l' : List Int} (h : l.Perm l') : ∀ n, esI l n = esI l' n := by
  induction h with
  | nil => intro n; rfl
  | cons x _ ih =>
    intro n
    cases n with
    | zero => rfl
    | succ n => rw [esI_cons, esI_cons, ih, ih]
  | swap x y l =>
    intro n
    cases n with
    | zero => rfl
    | succ n =>
      cases n with
      | zero => simp only [esI_cons, esI_zero]; grind
      | succ n => simp only [esI_cons]; grind
  | trans _ _ h1 h2 => intro n; rw [h1, h2]
theorem psK_get (f : List Int) (y : Int) : ∀ k, k ≤ f.length → ∀ n, (psK f y k).getD n 0 = f.getD n 0 + (if 1 ≤ n ∧ n ≤ k then f.getD (n - 1) 0 * y else 0)
  | 0, _, n => by
    rw [psK, if_neg (by omega)]
    simp only [List.getD_eq_getElem?_getD]
    by_cases h : n < f.length
    · rw [List.getElem?_append_left h]; omega
    · rw [List.getElem?_append_right (by omega), List.getElem?_eq_none (l := f) (by omega)]
      by_cases e : n = f.length
      · subst e; simp
      · rw [List.getElem?_eq_none (by simp; omega)]; rfl
  | k + 1, hk, n => by
    have ih := psK_get f y k (by omega)
    rw [psK]
    by_cases e : n = k + 1
    · subst e
      rw [List.getD_eq_getElem?_getD, List.getElem?_set_self (by rw [psK_len]; omega), Option.getD_some, ih, if_neg (by omega), if_pos (by omega)]
      simp
    · rw [List.getD_eq_getElem?_getD, List.getElem?_set_ne (by omega), ← List.getD_eq_getElem?_getD, ih]
      by_cases h : 1 ≤ n ∧ n ≤ k
      · rw [if_pos h, if_pos (by omega)]
      · rw [if_neg h, if_neg (by omega)]
theorem psS_zero (f : List Int) (y : Int) : (psS f y).getD 0 0 = f.getD 0 0 := by
  rw [psS, psK_get f y _ (Nat.le_refl _), if_neg (by omega)]; omega
theorem psS_succ (f : List Int) (y : Int) (n : Nat) : (psS f y).getD (n + 1) 0 = f.getD (n + 1) 0 + f.getD n 0 * y := by
  rw [psS, psK_get f y _ (Nat.le_refl _)]
  by_cases h : n + 1 ≤ f.length
  · rw [if_pos (by omega)]; rfl
  · rw [if_neg (by omega), show f.getD n 0 = 0 by rw [List.getD_eq_getElem?_getD, List.getElem?_eq_none (by omega)]; rfl]
    simp
theorem foldr_es : ∀ (zs : List Int) (n : Nat), (zs.foldr (fun y f => psS f y) [1]).getD n 0 = esI zs n
  | [], 0 => rfl
  | [], n + 1 => by simp [esI]
  | z :: zs, 0 => by rw [List.foldr_cons, psS_zero, foldr_es zs 0, esI_zero, esI_zero]
  | z :: zs, n + 1 => by rw [List.foldr_cons, psS_succ, foldr_es zs, foldr_es zs, esI_cons, Int.mul_comm]
theorem psums_es (ys : List Int) (n : Nat) : (psums ys).getD n 0 = esI ys n := by
  have e : psums ys = ys.reverse.foldr (fun y f => psS f y) [1] := by rw [psums, List.foldr_reverse]
  rw [e, foldr_es, esI_perm (List.reverse_perm ys)]
theorem esI_one : ∀ l : List Int, esI l 1 = l.sum
  | [] => rfl
  | a :: l => by rw [esI_cons, esI_one l, esI_zero, List.sum_cons]; omega
theorem esI_nonneg : ∀ (l : List Int) (n : Nat), (∀ x ∈ l, 0 ≤ x) → 0 ≤ esI l n
  | l, 0, _ => by rw [esI_zero]; decide
  | [], n + 1, _ => by simp [esI]
  | a :: l, n + 1, h => by
    have h1 := esI_nonneg l (n + 1) fun x hx => h x (by simp [hx])
    have h2 := esI_nonneg l n fun x hx => h x (by simp [hx])
    have h3 := Int.mul_nonneg (h a (by simp)) h2
    rw [esI_cons]; omega
theorem unl_es (ys : List Int) (n : Nat) : unl ys n = (((fac n : Nat) * esI ys n : Int) : Rat) / ((ys.sum ^ n : Int) : Rat) := by rw [unl, psums_es]
/-- over the rationals -/
def es : List Rat → Nat → Rat
  | _, 0 => 1
  | [], _ + 1 => 0
  | a :: l, n + 1 => es l (n + 1) + a * es l n
theorem es_zero (l : List Rat) : es l 0 = 1 := by cases l <;> rfl
theorem es_cons (a : Rat) (l : List Rat) (n : Nat) : es (a :: l) (n + 1) = es l (n + 1) + a * es l n := rfl
theorem es_out : ∀ (l : List Rat) (n : Nat), l.length < n → es l n = 0
  | [], n + 1, _ => rfl
  | a :: l, n + 1, h => by
    simp only [List.length_cons] at h
    rw [es_cons, es_out l (n + 1) (by omega), es_out l n (by omega)]; grind
def shs (ys : List Int) : List Rat := ys.map fun (y : Int) => (y : Rat) / (ys.sum : Rat)
theorem es_div (W : Rat) (hW : W ≠ 0) : ∀ (ys : List Int) (n : Nat), es (ys.map fun (y : Int) => (y : Rat) / W) n = (esI ys n : Rat) / W ^ n
  | ys, 0 => by rw [es_zero, esI_zero]; simp; grind
  | [], n + 1 => by
    show (0 : Rat) = ((0 : Int) : Rat) / _
    simp
    grind
  | y :: ys, n + 1 => by
    have hp := pow_ne hW n
    rw [List.map_cons, es_cons, esI_cons, es_div W hW ys, es_div W hW ys, pow_add1]
    push_cast
    grind
theorem unl_shs (ys : List Int) (hW : ys.sum ≠ 0) (n : Nat) : unl ys n = ((fac n : Nat) : Rat) * es (shs ys) n := by
  have hw : (ys.sum : Rat) ≠ 0 := by exact_mod_cast hW
  rw [unl_es, shs, es_div _ hw]
  have hp := pow_ne hw n
  push_cast
  grind
theorem sq_pos {ys : List Int} (h : Yr ys) : (0 : Rat) < (ys.sum : Rat) := by
  have := h.sum_lo
  have h0 : (0 : Int) < ys.sum := by omega
  exact_mod_cast h0
theorem es_one_shs {ys : List Int} (h : Yr ys) : es (shs ys) 1 = 1 := by
  have hw : (ys.sum : Rat) ≠ 0 := Rat.ne_of_gt (sq_pos h)
  rw [shs, es_div _ hw, esI_one, Rat.pow_succ]
  simp
  grind
theorem unl_zero {ys : List Int} (h : Yr ys) : unl ys 0 = 1 := by
  have hy : ys.sum ≠ 0 := by have := h.sum_lo; omega
  rw [unl_shs ys hy, es_zero]; simp [fac]
theorem unl_one {ys : List Int} (h : Yr ys) : unl ys 1 = 1 := by
  have hy : ys.sum ≠ 0 := by have := h.sum_lo; omega
  rw [unl_shs ys hy, es_one_shs h]; simp [fac]
theorem unl_out {ys : List Int} (h : Yr ys) {n : Nat} (hn : ys.length < n) : unl ys n = 0 := by
  have hy : ys.sum ≠ 0 := by have := h.sum_lo; omega
  rw [unl_shs ys hy, es_out _ _ (by rw [shs, List.length_map]; omega)]; grind
theorem esI_le : ∀ (l : List Int) (n : Nat), (∀ x ∈ l, 0 ≤ x) → esI l n ≤ l.sum ^ n
  | l, 0, _ => by rw [esI_zero]; simp
  | [], n + 1, _ => by rw [List.sum_nil, Int.zero_pow (by omega)]; exact Int.le_refl _
  | a :: l, n + 1, h => by
    have hl : ∀ x ∈ l, 0 ≤ x := fun x hx => h x (by simp [hx])
    have h1 := esI_le l (n + 1) hl
    have h2 := esI_le l n hl
    have ha := h a (by simp)
    have hs : 0 ≤ l.sum := by
      have := sum_ge_mul (b := 0) (ys := l) hl
      simpa using this
    rw [esI_cons, List.sum_cons, Int.pow_succ]
    rw [Int.pow_succ] at h1
    have h3 := Int.mul_le_mul_of_nonneg_left h2 ha
    have h4 : l.sum ^ n ≤ (a + l.sum) ^ n := by
      have : ∀ m : Nat, l.sum ^ m ≤ (a + l.sum) ^ m := fun m => by
        induction m with
        | zero => simp
        | succ m ih =>
          rw [Int.pow_succ, Int.pow_succ]
          exact Int.mul_le_mul ih (by omega) hs (Int.pow_nonneg (by omega))
      exact this n
    have h5 := Int.mul_le_mul_of_nonneg_right h4 (show 0 ≤ a + l.sum by omega)
    have e : l.sum ^ n * l.sum + a * l.sum ^ n = l.sum ^ n * (a + l.sum) := by grind
    omega
theorem unl_sq {ys : List Int} (h : Yr ys) {n : Nat} (hn : n ≤ 12) : Sq 200 (unl ys n) := by
  rw [unl_es]
  have h1 : Sz 97 (ys.sum ^ n) := (h.szW.pow n).mono (by omega)
  have h0 : ∀ x ∈ ys, 0 ≤ x := fun x hx => by have := h.it x hx; omega
  have h2 := esI_le ys n h0
  have h3 := esI_nonneg ys n h0
  have h4 : Sz 97 (esI ys n) := by unfold Sz at *; omega
  exact Sq.of_div (h.posP n) (((fac_sz n hn).mul h4).mono (by decide)) (h1.mono (by decide))
end
end Pg

namespace Pg
open PySem PySem.Spec PyProof.Rows L2 Sd
section
variable {P : Program} {w : World} {K : PySem.W.Frag} {mg : Str → Option Value} {base : Heap} {c : Cl}
def pre_minus : Pr := fun ss own post => ∃ (p q : Rat) (m n : Nat), ss = [.d (fr p), .d (fr q)] ∧ own = [] ∧ Sq m p ∧ Sq n q ∧ m + n ≤ 8990 ∧ post = fun o => o = .ret (.d (fr (p - q))) []
theorem fn_minus (T : Tx K mg c) : Fn K mg P w base "minus" ["one", "other"] 3 pre_minus := T.d_minus.fn fun f fd F => okG (k := 2) F sc_minus (by rintro ss own post ⟨p, q, m, n, rfl, _⟩; rfl) (by
  rintro ss own post ⟨p, q, m, n, rfl, rfl, hp, hq, hmn, rfl⟩ cdv A outer s H E B g
  refine sds_one (sd_retD (es_call (fn_lowest T) g (by decide) (ea_cons (ed_sub (ed_mul (ed_ixT (ed_v 0) ed_int rfl) (ed_ixT (ed_v 1) ed_int rfl) (cmul_of hp.num hq.den (by omega))) (ed_mul (ed_ixT (ed_v 1) ed_int rfl) (ed_ixT (ed_v 0) ed_int rfl) (cmul_of hq.num hp.den (by omega))))
    (ea_cons (ed_mul (ed_ixT (ed_v 0) ed_int rfl) (ed_ixT (ed_v 1) ed_int rfl) (cmul_of hp.den hq.den (by omega))) ea_nil)) ⟨_, _, rfl, rfl, Int.mul_pos (den_pos p) (den_pos q), (hp.den.mul hq.den).mono (by omega), rfl⟩) ?_)
  rw [minus_eq])
end
end Pg

namespace Pg
open PySem PySem.Spec PyProof.Rows L2 Sd
section
variable {P : Program} {w : World} {K : PySem.W.Frag} {mg : Str → Option Value} {base : Heap} {c : Cl}
def fsa (ys : List Int) (n : Nat) : Rat := if n = 0 then 0 else unl ys (n - 1) - unl ys n
theorem fsa_sq {ys : List Int} (hY : Yr ys) {n : Nat} (hn : n ≤ 12) : Sq 401 (fsa ys n) := by
  unfold fsa
  split
  · exact Sq.zero.mono (by decide)
  · exact ((unl_sq hY (by omega)).sub (unl_sq hY hn)).mono (by decide)
def pre_first_same_at : Pr := fun ss own post => ∃ (ys : List Int) (n : Nat), ss = [.d (li ys), .d (.int (n : Int))] ∧ own = [] ∧ Yr ys ∧ n ≤ 12 ∧ post = fun o => o = .ret (.d (fr (fsa ys n))) []
theorem fn_first_same_at (T : Tx K mg c) : Fn K mg P w base "first_same_at" ["year", "many"] 4 pre_first_same_at := T.d_first_same_at.fn fun f fd F => okG (k := 3) F sc_first_same_at (by rintro ss own post ⟨ys, n, rfl, _⟩; rfl) (by
  rintro ss own post ⟨ys, n, rfl, rfl, hY, hn, rfl⟩ cdv A outer s H E B g
  refine sds_cons (sd_expr (es_call (fn_check_year T) g (by decide) (ea_cons (ed_v 0) ea_nil) (ok_year hY)) ?_)
  refine sds_cons (sd_expr (es_call (fn_check_many T) g (by decide) (ea_cons (ed_v 1) ea_nil) (ok_many ⟨by omega, by omega⟩)) ?_)
  refine sds_one (sd_retD (es_if (et_cmp c_eqI (ed_v 1) ed_int) (fun h => ES.is (ed_k2 (i := 0) (i' := 1)) ?_) fun h => ES.is (es_call (fn_minus T) g (by decide) (ea_cons (es_call (fn_unlike_of T) g (by decide) (ea_cons (ed_v 0) (ea_cons (ES.is (y := .int ((n - 1 : Nat) : Int)) (ed_sub (ed_v 1) ed_int) ?_) ea_nil)) ⟨ys, n - 1, rfl, rfl, hY, by omega, rfl⟩) (ea_cons (es_call (fn_unlike_of T) g (by decide) (ea_cons (ed_v 0) (ea_cons (ed_v 1) ea_nil)) ⟨ys, n, rfl, rfl, hY, hn, rfl⟩) ea_nil)) ⟨_, _, 200, 200, rfl, rfl, unl_sq hY (by omega), unl_sq hY hn, by decide, rfl⟩) ?_) rfl)
  · have h : n = 0 := by simpa using h
    rw [fsa, if_pos h, fr_zero]
  · have h : n ≠ 0 := by simpa using h
    rw [show ((n - 1 : Nat) : Int) = (n : Int) - 1 by omega]
  · have h : n ≠ 0 := by simpa using h
    rw [fsa, if_neg h])
end
end Pg

namespace Pg
open PySem PySem.Spec PyProof.Rows L2 Sd
section
variable {P : Program} {w : World} {K : PySem.W.Frag} {mg : Str → Option Value} {base : Heap} {c : Cl}
def pre_law_low : Pr := fun ss own post => ∃ a b : Int, ss = [.d (.int a), .d (.int b)] ∧ own = [] ∧ 0 < b ∧ Sz 8999 b ∧ post = fun o => o = .ret (.d (fr ((a : Rat) / b))) []
theorem fn_law_low (T : Tx K mg c) : Fn K mg P w base "_law_low" ["top", "under"] 1 pre_law_low := T.d_law_low.fn fun f fd F => okG (k := 0) F sc_law_low (by rintro ss own post ⟨a, b, rfl, _⟩; rfl) (by
  rintro ss own post ⟨a, b, rfl, rfl, hb, hz, rfl⟩ cdv A outer s H E B g
  have eg : Int.gcd (if a < 0 then -a else a) b = Int.gcd a b := by
    split
    · rw [Int.gcd_comm, Int.gcd_neg, Int.gcd_comm]
    · rfl
  have ha : 0 ≤ (if a < 0 then -a else a) := by split <;> omega
  refine sds_cons (sd_par 2 3 g (ea_cons (ed_abs T.n_abs (ed_v 0)) (ea_cons (ed_v 1) ea_nil)) ?_)
  generalize (if a < 0 then -a else a) = a' at eg ha
  refine sds_cons (sd_while g (fun m ρ own => ∃ x y : Int, 0 ≤ x ∧ 0 ≤ y ∧ ρ = [.d (.int a), .d (.int b), .d (.int x), .d (.int y)] ∧ own = [] ∧ Int.gcd x y = Int.gcd a b ∧ m = y.toNat) b.toNat ⟨a', b, ha, by omega, rfl, rfl, eg, rfl⟩ ?_)
  rintro m ρ1 own1 ⟨x, y, hx, hy, rfl, rfl, e, rfl⟩
  refine ⟨_, et_cmp c_neI (ed_v 3) ed_int, fun h => ?_, fun h => ?_⟩
  · have h0 : 0 < y := by
      have : y ≠ 0 := fun z => by subst z; simp at h
      omega
    refine sds_one (sd_par 2 3 g (ea_cons (ed_v 3) (ea_cons (ed_mod (ed_v 2) (ed_v 3) h0) ea_nil)) ?_)
    have h1 := Int.emod_nonneg x (Int.ne_of_gt h0)
    have h2 := Int.emod_lt_of_pos x h0
    exact ⟨(x % y).toNat, by omega, y, x % y, hy, h1, rfl, rfl, (gcd_step x y hx h0).trans e, rfl⟩
  · have h0 : y = 0 := by simpa using h
    subst h0
    have ex : x = (Int.gcd a b : Nat) := by rw [← e, Int.gcd_zero_right, Int.natAbs_of_nonneg hx]
    subst ex
    have g0 : (0 : Int) < (Int.gcd a b : Nat) := by
      have := Int.gcd_pos_of_ne_zero_right a (show b ≠ 0 by omega)
      omega
    have gz : Sz 8999 (Int.gcd a b : Nat) := by
      have := Int.gcd_le_natAbs_right (a := a) (show b ≠ 0 by omega)
      unfold Sz at *
      rw [Int.natAbs_natCast]
      omega
    refine sds_one (sd_retD (ed_tup (ds := [_, _]) (ea_cons (ed_fdiv (ed_v 0) (ed_v 2) (cdiv_of g0 gz (by decide))) (ea_cons (ed_fdiv (ed_v 1) (ed_v 2) (cdiv_of g0 gz (by decide))) ea_nil))) ?_)
    show Out.ret (.d (.tuple [.int (a / (Int.gcd a b : Nat)), .int (b / (Int.gcd a b : Nat))])) [] = _
    rw [fr_low a b hb])
end
end Pg

namespace Pg
open PySem PySem.Spec PyProof.Rows L2 Sd
section
variable {P : Program} {w : World} {K : PySem.W.Frag} {mg : Str → Option Value} {base : Heap} {c : Cl}
def pre_law_add : Pr := fun ss own post => ∃ (p q : Rat) (m n : Nat), ss = [.d (fr p), .d (fr q)] ∧ own = [] ∧ Sq m p ∧ Sq n q ∧ m + n ≤ 8990 ∧ post = fun o => o = .ret (.d (fr (p + q))) []
theorem fn_law_add (T : Tx K mg c) : Fn K mg P w base "_law_add" ["one", "other"] 2 pre_law_add := T.d_law_add.fn fun f fd F => okG (k := 1) F sc_law_add (by rintro ss own post ⟨p, q, m, n, rfl, _⟩; rfl) (by
  rintro ss own post ⟨p, q, m, n, rfl, rfl, hp, hq, hmn, rfl⟩ cdv A outer s H E B g
  refine sds_one (sd_retD (es_call (fn_law_low T) g (by decide) (ea_cons (ed_add (ed_mul (ed_ixT (ed_v 0) ed_int rfl) (ed_ixT (ed_v 1) ed_int rfl) (cmul_of hp.num hq.den (by omega))) (ed_mul (ed_ixT (ed_v 1) ed_int rfl) (ed_ixT (ed_v 0) ed_int rfl) (cmul_of hq.num hp.den (by omega))))
    (ea_cons (ed_mul (ed_ixT (ed_v 0) ed_int rfl) (ed_ixT (ed_v 1) ed_int rfl) (cmul_of hp.den hq.den (by omega))) ea_nil)) ⟨_, _, rfl, rfl, Int.mul_pos (den_pos p) (den_pos q), (hp.den.mul hq.den).mono (by omega), rfl⟩) ?_)
  rw [plus_eq])
end
end Pg

namespace Pg
open PySem PySem.Spec PyProof.Rows L2 Sd
section
variable {P : Program} {w : World} {K : PySem.W.Frag} {mg : Str → Option Value} {base : Heap} {c : Cl}
/-- a calendar as it lies in the heap -/
abbrev calX (c : Cl) (x dx py pl : Addr) : OO := .raw (.ins c.Calendar dx [("year", .ref py), ("line", .ref pl)])
abbrev cal (c : Cl) (x dx py pl : Addr) (ys ls : List Int) : Own := [(pl, .lst (ls.map PyData.int)), (py, .lst (ys.map PyData.int)), (x, calX c x dx py pl), (dx, .raw (.own x))]
theorem cntI (ls : List Int) (n : Int) : ((ls.map PyData.int).countP fun z => PyData.eqv z (.int n)) = ls.count n := by
  rw [List.countP_map]
  unfold List.count
  refine List.countP_congr fun a _ => ?_
  simp [PyData.eqv]
theorem pl_ints : ∀ ls : List Int, PyData.plainAll (ls.map PyData.int) = true
  | [] => rfl
  | x :: l => by
    rw [List.map_cons]
    unfold PyData.plainAll
    rw [pl_ints l]
    rfl
theorem dp_int (i : Int) : (PyData.int i).depth ≤ 64 := by simp [PyData.depth]
end
end Pg

namespace Pg
open PySem PySem.Spec PyProof.Rows L2 Sd
section
variable {P : Program} {w : World} {K : PySem.W.Frag} {mg : Str → Option Value} {base : Heap} {c : Cl}
def cnts (ys ls : List Int) : List Nat := (List.range ys.length).map fun i : Nat => ls.count (i : Int)
def pre_cal_counts (c : Cl) : Pr := fun ss own post => ∃ (x dx py pl : Addr) (ys ls : List Int), ss = [.raw (.ref x)] ∧ own = cal c x dx py pl ys ls ∧ ys.length ≤ 8 ∧ post = fun o => o = .ret (.d (li (nI (cnts ys ls)))) (cal c x dx py pl ys ls)
theorem fn_cal_counts (T : Tx K mg c) : Mth K mg P w base c.Calendar "counts" ["self"] 2 (pre_cal_counts c) := T.m_counts.mth fun f fd F => okG (k := 1) F sc_Calendar_counts (by rintro ss own post ⟨x, dx, py, pl, ys, ls, rfl, _⟩; rfl) (by
  rintro ss own post ⟨x, dx, py, pl, ys, ls, rfl, rfl, hl, rfl⟩ cdv A outer s H E B g
  refine sds_one (sd_retD (EL.ed (EL.is (el_comp g (compO g (it_range1 T.n_range (ed_len (ds := ys.map PyData.int) T.n_len (ev_fld T.o_Calendar.cl T.o_year (x := x) (dx := dx) (fs := [("year", .ref py), ("line", .ref pl)]) (by simp) (ev_v 0) rfl) (Lst.o (by simp))) (by rw [List.length_map]; omega)) [("day", 1)] (blkOk_by (N := ["self", "day"]) (sc := defScope s_Calendar_counts) (by decide +kernel)) (List.range ys.length) (fun i : Nat => PyData.int (i : Int)) ?_ (fun i : Nat => some (.int (ls.count (i : Int) : Nat))) (fun i : Nat => [.raw (.ref x), .d (.int (i : Int))]) [1] (by simp) (by rw [List.length_range]; omega) (fun _ _ => trivial)
      (fun i _ s H C cl fp g' => gt_name 1 g'.nd) (fun i _ s H C cl fp D acc g' => ets_nil) (fun i hi d hd s H C cl fp D acc g' => ?_))) ?_)) rfl)
  · rw [List.length_map]
    simp [rng]
  · cases hd
    exact ES.is (ed_count (k := 0) (ds := ls.map PyData.int) g' (ev_fld T.o_Calendar.cl T.o_line (x := x) (dx := dx) (fs := [("year", .ref py), ("line", .ref pl)]) (by simp) (ev_v 0) rfl) (Lst.o (by simp)) (ed_v 1) (pl_ints _) (by rfl) (dp_int _)) (by rw [cntI])
  · simp [cnts, nI])
end
end Pg

namespace Pg
open PySem PySem.Spec PyProof.Rows L2 Sd
section
variable {P : Program} {w : World} {K : PySem.W.Frag} {mg : Str → Option Value} {base : Heap} {c : Cl}
def pre_cal_init (c : Cl) : Pr := fun ss own post => ∃ (x dx : Addr) (ys : List Int), ss = [.raw (.ref x), .d (li ys)] ∧ own = [(x, .raw (.ins c.Calendar dx [])), (dx, .raw (.own x))] ∧ Yr ys ∧ post = fun o => ∃ py pl, o = .ret (.d .none) (cal c x dx py pl ys [])
theorem fn_cal_init (T : Tx K mg c) : MkT K mg P w base "Calendar" c.Calendar ["self", "year"] 4 (pre_cal_init c) := T.m_init.mkt T.o_Calendar fun f fd F => okG (k := 3) F sc_Calendar_init (by rintro ss own post ⟨x, dx, ys, rfl, _⟩; rfl) (by
  rintro ss own post ⟨x, dx, ys, rfl, rfl, hY, rfl⟩ cdv A outer s H E B g
  refine sds_cons (sd_expr (es_call (fn_check_year T) g (by decide) (ea_cons (ed_v 1) ea_nil) (ok_year hY)) ?_)
  refine sds_cons (sd_fldL (oa := []) T.o_Calendar.cl T.o_year (el_list (ds := ys.map PyData.int) T.n_list (ed_v 1) .d) (fun p' => ev_v 0) (by decide) fun py => ?_)
  refine sds_one (sd_fldL (oa := [_]) T.o_Calendar.cl T.o_line (el_lst (ds := []) ea_nil) (fun p' => ev_v 0) (Nat.lt_of_le_of_lt (Nat.le_refl 1) (by decide)) fun pl => ?_)
  exact ⟨py, pl, rfl⟩)
end
end Pg

namespace Pg
open PySem PySem.Spec PyProof.Rows L2 Sd
section
variable {P : Program} {w : World} {K : PySem.W.Frag} {mg : Str → Option Value} {base : Heap} {c : Cl}
def nxS (ys ls : List Int) : Int := ((srtU ls).map fun d => ys.getD d.toNat 0).sum
def pre_cal_next_same (c : Cl) : Pr := fun ss own post => ∃ (x dx py pl : Addr) (ys ls : List Int), ss = [.raw (.ref x)] ∧ own = cal c x dx py pl ys ls ∧ Yr ys ∧ ls.length ≤ 12 ∧ (∀ d ∈ ls, 0 ≤ d ∧ d < (ys.length : Int)) ∧ post = fun o => o = .ret (.d (fr ((nxS ys ls : Rat) / ys.sum))) (cal c x dx py pl ys ls)
theorem srtU_len : ∀ l : List Int, (srtU l).length ≤ l.length
  | [] => Nat.le_refl _
  | x :: l => by
    have h1 : ∀ (x : Int) (l : List Int), (insU x l).length ≤ l.length + 1 := fun x l => by
      induction l with
      | nil => simp [insU]
      | cons y ys ih =>
        unfold insU
        split
        · simp
        · split
          · simp
          · simp only [List.length_cons]; omega
    have h2 := srtU_len l
    have h3 := h1 x (srtU l)
    rw [srtU, List.length_cons]
    omega
theorem fn_cal_next_same (T : Tx K mg c) : Mth K mg P w base c.Calendar "next_same" ["self"] 4 (pre_cal_next_same c) := T.m_next_same.mth fun f fd F => okG (k := 3) F sc_Calendar_next_same (by rintro ss own post ⟨x, dx, py, pl, ys, ls, rfl, _⟩; rfl) (by
  rintro ss own post ⟨x, dx, py, pl, ys, ls, rfl, rfl, hY, hl2, hd, rfl⟩ cdv A outer s H E B g
  have hsl := srtU_len ls
  refine sds_cons (sd_set 1 g.nd (EL.ed (el_sortedSet (ns := ls) g T.n_sorted T.n_set (ev_fld T.o_Calendar.cl T.o_line (x := x) (dx := dx) (fs := [("year", .ref py), ("line", .ref pl)]) (by simp) (ev_v 0) rfl) (Lst.o (by simp)) (by omega))) ?_)
  refine sds_one (sd_retD (ES.is (es_call (fn_lowest T) g (by decide) (ea_cons (ed_sum (ns := (srtU ls).map fun d => ys.getD d.toNat 0) g T.n_sum (EL.ed (EL.is (el_comp g (compO g (it_list (ed_v 1)) [("day", 2)] (blkOk_by (N := ["self", "used", "day"]) (sc := defScope s_Calendar_next_same) (by decide +kernel)) (srtU ls) PyData.int rfl (fun d => some (.int (ys.getD d.toNat 0))) (fun d => [.raw (.ref x), .d (li (srtU ls)), .d (.int d)]) [2] (by simp) (by omega) (fun _ _ => trivial)
      (fun i _ s H C cl fp g' => gt_name 2 g'.nd) (fun i _ s H C cl fp D acc g' => ets_nil) (fun d hm z hz s H C cl fp D acc g' => ?_))) ?_)) .d) (ea_cons (ed_sum (ns := ys) g T.n_sum (ev_fld T.o_Calendar.cl T.o_year (x := x) (dx := dx) (fs := [("year", .ref py), ("line", .ref pl)]) (by simp) (ev_v 0) rfl) (Lst.o (by simp))) ea_nil)) ⟨_, _, rfl, rfl, by have := hY.sum_lo; omega, hY.szW.mono (by decide), rfl⟩) ?_) rfl)
  · cases hz
    obtain ⟨h0, h1⟩ := hd d ((srtU_mem d ls).mp hm)
    have hlt : d.toNat < ys.length := by omega
    refine ed_ixL (ds := ys.map PyData.int) (ev_fld T.o_Calendar.cl T.o_year (x := x) (dx := dx) (fs := [("year", .ref py), ("line", .ref pl)]) (by simp) (ev_v 0) rfl) (ed_v 2) (Lst.o (by simp)) ?_
    have e : d = ((d.toNat : Nat) : Int) := by omega
    rw [e]
    refine atI_nat ?_
    rw [List.getElem?_map, List.getD_eq_getElem?_getD, Int.toNat_natCast, List.getElem?_eq_getElem hlt]
    rfl
  · rw [List.map_map]
    exact List.filterMap_eq_map' .. |>.symm ▸ rfl
  · unfold nxS
    rfl)
end
end Pg

namespace Pg
open PySem PySem.Spec PyProof.Rows L2 Sd
section
variable {P : Program} {w : World} {K : PySem.W.Frag} {mg : Str → Option Value} {base : Heap} {c : Cl}
def prs (cs : List Nat) : Int := (cs.map fun (n : Nat) => (n : Int) * ((n : Int) - 1) / 2).sum
def pre_cal_pairs (c : Cl) : Pr := fun ss own post => ∃ (x dx py pl : Addr) (ys ls : List Int), ss = [.raw (.ref x)] ∧ own = cal c x dx py pl ys ls ∧ ys.length ≤ 8 ∧ ls.length ≤ 12 ∧ post = fun o => o = .ret (.d (.int (prs (cnts ys ls)))) (cal c x dx py pl ys ls)
theorem fn_cal_pairs (T : Tx K mg c) : Mth K mg P w base c.Calendar "pairs" ["self"] 3 (pre_cal_pairs c) := T.m_pairs.mth fun f fd F => okG (k := 2) F sc_Calendar_pairs (by rintro ss own post ⟨x, dx, py, pl, ys, ls, rfl, _⟩; rfl) (by
  rintro ss own post ⟨x, dx, py, pl, ys, ls, rfl, rfl, hl, hl2, rfl⟩ cdv A outer s H E B g
  have hle : ∀ n ∈ cnts ys ls, (n : Int) ≤ 12 := fun n hn => by
    obtain ⟨i, _, rfl⟩ := List.mem_map.mp hn
    have := List.count_le_length (a := (i : Int)) (l := ls)
    omega
  have hcl : (cnts ys ls).length = ys.length := by simp [cnts]
  refine sds_one (sd_retD (ES.is (ed_sum (ns := (cnts ys ls).map fun (n : Nat) => (n : Int) * ((n : Int) - 1) / 2) g T.n_sum (EL.ed (EL.is (el_comp g (compP g (it_list (EG.toES (eg_meth0 (oa := []) (o1 := cal c x dx py pl ys ls) (ob := []) (R := fun s o => s = .d (li (nI (cnts ys ls))) ∧ o = cal c x dx py pl ys ls) (fn_cal_counts T) T.o_Calendar.cl g (by decide) (x := x) (dx := dx) (fs := [("year", .ref py), ("line", .ref pl)]) (ev_v 0) (by simp) rfl ⟨x, dx, py, pl, ys, ls, rfl, rfl, hl, rfl⟩ (fun s o h => by cases h; exact ⟨rfl, by simp⟩) (fun C o h => nomatch h)))) [("own", 1)] (blkOk_by (N := ["self", "own"]) (sc := defScope s_Calendar_pairs) (by decide +kernel)) (cnts ys ls) (fun n : Nat => PyData.int (n : Int)) (by simp [nI]) (fun n : Nat => some (.int ((n : Int) * ((n : Int) - 1) / 2))) (fun n : Nat => [.raw (.ref x), .d (.int (n : Int))]) [1] (by simp) (by omega) (fun _ _ => trivial)
      (fun i _ s H C cl fp g' => gt_name 1 g'.nd) (fun i _ s H C cl fp o g' => ets_nil) (fun n hn z hz s H C cl fp o g' => ?_))) ?_)) .d) ?_) rfl)
  · cases hz
    have := hle n hn
    exact ed_fdivS (ed_mulS (ed_v 1) (ed_sub (ed_v 1) ed_int) (.inl ⟨by omega, by omega⟩)) ed_int ⟨by decide, by decide⟩
  · rw [List.map_map]
    exact List.filterMap_eq_map' .. |>.symm ▸ rfl
  · rfl)
end
end Pg

namespace Pg
open PySem PySem.Spec PyProof.Rows L2 Sd
section
variable {P : Program} {w : World} {K : PySem.W.Frag} {mg : Str → Option Value} {base : Heap} {c : Cl}
def pre_check_day_o (c : Cl) : Pr := fun ss own post => ∃ (q : Addr) (ds : List PyData) (x : PyData), ss = [.raw (.ref q), .d x] ∧ own = [(q, .lst ds)] ∧ post = fun o => o = if isInt x 0 ((ds.length : Int) - 1) = true then .ret (.d .none) [(q, .lst ds)] else .exc c.BadDay [(q, .lst ds)]
theorem fn_check_day_o (T : Tx K mg c) : Fn K mg P w base "check_day" ["year", "value"] 2 (pre_check_day_o c) := T.d_check_day.fn fun f fd F => okG (k := 1) F sc_check_day (by rintro ss own post ⟨q, ds, x, rfl, _⟩; rfl) (by
  rintro ss own post ⟨q, ds, x, rfl, rfl, rfl⟩ cdv A outer s H E B g
  refine sds_one (sd_if (et_not (et_val (es_call (fn_is_int T) g (by decide) (ea_cons (ed_v 1) (ea_cons ed_int (ea_cons (ed_sub (ed_len (ds := ds) T.n_len (ev_v 0) (Lst.o (by simp))) ed_int) ea_nil))) ⟨x, _, _, rfl, rfl, rfl⟩))) (fun h => ?_) fun h => ?_)
  · refine sds_one (sd_raise g T.e_BadDay ?_)
    show Out.exc c.BadDay _ = _
    rw [if_neg (by simpa using h)]
  · refine sds_nil ?_
    show Out.ret (.d .none) _ = _
    rw [if_pos (by simpa using h)])
end
end Pg

namespace Pg
open PySem PySem.Spec PyProof.Rows L2 Sd
section
variable {P : Program} {w : World} {K : PySem.W.Frag} {mg : Str → Option Value} {base : Heap} {c : Cl}
def pre_cal_put (c : Cl) : Pr := fun ss own post => ∃ (x dx py pl : Addr) (ys ls : List Int) (d : PyData), ss = [.raw (.ref x), .d d] ∧ own = cal c x dx py pl ys ls ∧ ls.length ≤ 12 ∧ post = fun o => (isInt d 0 ((ys.length : Int) - 1) = false ∧ o = .exc c.BadDay (cal c x dx py pl ys ls)) ∨
  ∃ n : Int, d = .int n ∧ 0 ≤ n ∧ n < ys.length ∧ ((ls.length = 12 ∧ o = .exc c.BadNumber (cal c x dx py pl ys ls)) ∨ (ls.length < 12 ∧ o = .ret (.d (.int ((ls ++ [n]).count n : Nat))) (cal c x dx py pl ys (ls ++ [n]))))
theorem isInt_day {d : PyData} {m : Nat} (h : isInt d 0 ((m : Int) - 1) = true) : ∃ n : Int, d = .int n ∧ 0 ≤ n ∧ n < m := by
  unfold Sd.isInt at h
  split at h
  · rename_i i
    rw [Bool.and_eq_true, decide_eq_true_eq, decide_eq_true_eq] at h
    exact ⟨i, rfl, h.1, by omega⟩
  · cases h
theorem fn_cal_put (T : Tx K mg c) : Mth K mg P w base c.Calendar "put" ["self", "day"] 3 (pre_cal_put c) := T.m_put.mth fun f fd F => okG (k := 2) F sc_Calendar_put (by rintro ss own post ⟨x, dx, py, pl, ys, ls, d, rfl, _⟩; rfl) (by
  rintro ss own post ⟨x, dx, py, pl, ys, ls, d, rfl, rfl, hl, rfl⟩ cdv A outer s H E B g
  have len : ((ys.map PyData.int).length : Int) = ys.length := by rw [List.length_map]
  refine sds_cons (sd_exprG (R := fun _ o => o = cal c x dx py pl ys ls ∧ isInt d 0 ((ys.length : Int) - 1) = true) (eg_call (oa := [(pl, .lst (ls.map PyData.int))]) (o1 := [(py, .lst (ys.map PyData.int))]) (ob := [(x, calX c x dx py pl), (dx, .raw (.own x))]) (fn_check_day_o T) g (by decide) (ea_cons (ev_fld T.o_Calendar.cl T.o_year (x := x) (dx := dx) (fs := [("year", .ref py), ("line", .ref pl)]) (by simp) (ev_v 0) rfl) (ea_cons (ed_v 1) ea_nil)) ⟨py, _, d, rfl, rfl, rfl⟩ ?_ ?_) ?_)
  · rintro s' o' h
    rw [len] at h
    split at h
    · cases h
      exact ⟨rfl, by assumption⟩
    · cases h
  · rintro C o' h
    rw [len] at h
    split at h
    · cases h
    · cases h
      exact .inl ⟨by simpa using ‹¬ isInt d 0 ((ys.length : Int) - 1) = true›, rfl⟩
  rintro _ _ ⟨rfl, hd⟩
  obtain ⟨n, rfl, h0, h1⟩ := isInt_day hd
  refine sds_cons (sd_if (l := decide (ls.length = 12)) (ET.is (et_cmp c_eqI (ed_len (ds := ls.map PyData.int) T.n_len (ev_fld T.o_Calendar.cl T.o_line (x := x) (dx := dx) (fs := [("year", .ref py), ("line", .ref pl)]) (by simp) (ev_v 0) rfl) (Lst.o (by simp))) ed_int) ?_) (fun h => ?_) fun h => ?_)
  · rw [List.length_map, decide_eq_decide]
    omega
  · refine sds_one (sd_raise g T.e_BadNumber ?_)
    exact .inr ⟨n, rfl, h0, h1, .inl ⟨by simpa using h, rfl⟩⟩
  · refine sds_nil ?_
    have hl' : ls.length < 12 := by
      have : ls.length ≠ 12 := by simpa using h
      omega
    refine sds_cons (sd_append (oa := []) (p := pl) (ds := ls.map PyData.int) (x := .int n) (ev_fld T.o_Calendar.cl T.o_line (x := x) (dx := dx) (fs := [("year", .ref py), ("line", .ref pl)]) (by simp) (ev_v 0) rfl) (ed_v 1) (by rw [List.length_map]; omega) ?_)
    have e : ls.map PyData.int ++ [.int n] = (ls ++ [n]).map PyData.int := by simp
    rw [e]
    refine sds_one (sd_retD (ES.is (ed_count (k := 1) (ds := (ls ++ [n]).map PyData.int) g (ev_fld T.o_Calendar.cl T.o_line (x := x) (dx := dx) (fs := [("year", .ref py), ("line", .ref pl)]) (by simp) (ev_v 0) rfl) (Lst.o (by simp)) (ed_v 1) (pl_ints _) (by rfl) (dp_int _)) (by rw [cntI])) ?_)
    exact .inr ⟨n, rfl, h0, h1, .inr ⟨hl', rfl⟩⟩)
end
end Pg

namespace Pg
open PySem PySem.Spec PyProof.Rows L2 Sd
section
variable {P : Program} {w : World} {K : PySem.W.Frag} {mg : Str → Option Value} {base : Heap} {c : Cl}
def pre_law_draw : Pr := fun ss own post => ∃ (d n : Addr) (cells : List Int) (cnt limit : Int), ss = [.raw (.ref d), .d (.int limit)] ∧ own = drw d n cells cnt ∧ cells ≠ [] ∧ 0 < limit ∧ limit < 1073741824 ∧
  post = fun o => ∃ r cells' cnt', 0 ≤ r ∧ r < limit ∧ cells' ≠ [] ∧ o = .ret (.d (.int r)) (drw d n cells' cnt')
theorem fn_law_draw (T : Tx K mg c) : Fn K mg P w base "_law_draw" ["draws", "limit"] 1 pre_law_draw := T.d_law_draw.fn fun f fd F => okG (k := 0) F sc_law_draw (by rintro ss own post ⟨d, n, cells, cnt, limit, rfl, _⟩; rfl) (by
  rintro ss own post ⟨d, n, cells, cnt, limit, rfl, rfl, hc, hl, hl2, rfl⟩ cdv A outer s H E B g
  unfold drw
  have hpos : (0 : Int) < cells.length := by
    have := List.length_pos_iff.mpr hc
    omega
  refine sds_cons (sd_set 2 g.nd (es_ixR (s := .raw (.ref n)) (q := d) (vs := [.ref n, .int cnt]) (by simp) (ev_v 0) ed_int rfl fun _ => rfl) ?_)
  refine sds_cons (sd_setitemR (oa := []) (q := d) (vs := [.ref n, .int cnt]) (n := 1) (v := .int (cnt + 1)) (ed_add (es_ixR (s := .d (.int cnt)) (q := d) (vs := [.ref n, .int cnt]) (by simp) (ev_v 0) ed_int rfl fun _ => Rep.int _) ed_int) (fun _ _ h => by cases h; rfl) (ev_v 0) ed_int rfl ?_)
  have eset : ([.ref n, .int cnt] : List V).set 1 (.int (cnt + 1)) = [.ref n, .int (cnt + 1)] := rfl
  rw [eset]
  refine sds_cons (sd_set 3 g.nd (ed_mod (es_ixR (s := .d (.int (cnt + 1))) (q := d) (vs := [.ref n, .int (cnt + 1)]) (by simp) (ev_v 0) ed_int rfl fun _ => Rep.int _) (ed_len (ds := cells.map PyData.int) T.n_len (ev_v 2) (Lst.o (by simp))) (by rw [List.length_map]; exact hpos)) ?_)
  rw [List.length_map]
  have h1 := Int.emod_nonneg (cnt + 1) (Int.ne_of_gt hpos)
  have h2 := Int.emod_lt_of_pos (cnt + 1) hpos
  obtain ⟨j, hj⟩ : ∃ j : Nat, (cnt + 1) % (cells.length : Int) = (j : Int) := ⟨((cnt + 1) % (cells.length : Int)).toNat, by omega⟩
  rw [hj]
  have hjl : j < cells.length := by omega
  have hat : (cells.map PyData.int)[j]? = some (.int cells[j]) := by
    rw [List.getElem?_map, List.getElem?_eq_getElem hjl]
    rfl
  have hix : ixN (cells.map PyData.int).length (j : Int) = some j := by
    unfold ixN
    rw [if_pos (by omega), if_pos (by rw [List.length_map]; omega)]
    simp
  refine sds_cons (sd_set 4 g.nd (ed_ixL (ds := cells.map PyData.int) (ev_v 2) (ed_v 3) (Lst.o (by simp)) (atI_ixN hix hat)) ?_)
  refine sds_cons (sd_if (et_cmp c_ge (ed_v 4) ed_int) (fun h => ?_) fun h => ?_)
  · refine sds_cons (sd_setitem (oa := [_]) (p := n) (n := j) (ed_fdivS (ed_v 4) (ed_v 1) ⟨hl, hl2⟩) (ev_v 2) (ed_v 3) hix ?_)
    refine sds_one (sd_retD (ed_mod (ed_v 4) (ed_v 1) hl) ?_)
    refine ⟨cells[j] % limit, cells.set j (cells[j] / limit), cnt + 1, Int.emod_nonneg _ (Int.ne_of_gt hl), Int.emod_lt_of_pos _ hl, fun z => hc (by simpa using z), ?_⟩
    rw [List.map_set]
    rfl
  · refine sds_nil ?_
    have m1 := fun x : Int => Int.emod_nonneg x (show (4294967291 : Int) ≠ 0 by decide)
    have m2 := fun x : Int => Int.emod_lt_of_pos x (show (0 : Int) < 4294967291 by decide)
    have m3 := fun x : Int => Int.emod_nonneg x (show (4294967279 : Int) ≠ 0 by decide)
    have m4 := fun x : Int => Int.emod_lt_of_pos x (show (0 : Int) < 4294967279 by decide)
    refine sds_cons (sd_set 5 g.nd (ed_mod (ed_add (ed_v 4) (ed_mulS ed_int (es_ixR (s := .d (.int (cnt + 1))) (q := d) (vs := [.ref n, .int (cnt + 1)]) (by simp) (ev_v 0) ed_int rfl fun _ => Rep.int _) (.inl ⟨by decide, by decide⟩))) ed_int (by decide)) ?_)
    refine sds_cons (sd_set 5 g.nd (ed_mod (ed_pow (ed_v 5) ed_int ⟨by decide, by decide, ?_⟩) ed_int (by decide)) ?_)
    · have a1 := m1 (cells[j] + 104729 * (cnt + 1))
      have a2 := m2 (cells[j] + 104729 * (cnt + 1))
      generalize (cells[j] + 104729 * (cnt + 1)) % 4294967291 = x at a1 a2
      show x.natAbs < 2 ^ 64
      omega
    · refine sds_one (sd_retD (ed_mod (ed_fdivS (ed_mod (ed_add (ed_mulS (ed_fdivS (ed_v 5) ed_int ⟨by decide, by decide⟩) ed_int (.inr ⟨by decide, by decide⟩)) (ed_v 5)) ed_int (by decide)) ed_int ⟨by decide, by decide⟩) (ed_v 1) hl) ?_)
      exact ⟨_, cells, cnt + 1, Int.emod_nonneg _ (Int.ne_of_gt hl), Int.emod_lt_of_pos _ hl, hc, rfl⟩)
end
end Pg

namespace Pg
open PySem PySem.Spec PyProof.Rows L2 Sd
section
variable {P : Program} {w : World} {K : PySem.W.Frag} {mg : Str → Option Value} {base : Heap} {c : Cl}
def pre_law_less : Pr := fun ss own post => ∃ (p q : Rat) (m n : Nat), ss = [.d (fr p), .d (fr q)] ∧ own = [] ∧ Sq m p ∧ Sq n q ∧ m + n ≤ 8990 ∧ post = fun o => o = .ret (.d (.bool (decide (p < q)))) []
theorem fn_law_less (T : Tx K mg c) : Fn K mg P w base "_law_less" ["one", "other"] 1 pre_law_less := T.d_law_less.fn fun f fd F => okG (k := 0) F sc_law_less (by rintro ss own post ⟨p, q, m, n, rfl, _⟩; rfl) (by
  rintro ss own post ⟨p, q, m, n, rfl, rfl, hp, hq, hmn, rfl⟩ cdv A outer s H E B g
  refine sds_one (sd_retD (ed_cmp c_lt (ed_mul (ed_ixT (ed_v 0) ed_int rfl) (ed_ixT (ed_v 1) ed_int rfl) (cmul_of hp.num hq.den (by omega))) (ed_mul (ed_ixT (ed_v 1) ed_int rfl) (ed_ixT (ed_v 0) ed_int rfl) (cmul_of hq.num hp.den (by omega)))) ?_)
  rw [decide_eq_decide.mpr (lt_fr p q)])
end
end Pg

namespace Pg
open PySem PySem.Spec PyProof.Rows L2 Sd
section
variable {P : Program} {w : World} {K : PySem.W.Frag} {mg : Str → Option Value} {base : Heap} {c : Cl}
theorem atI_last {xs : List PyData} {x : PyData} (h : xs.getLast? = some x) : atI xs (-1) = some x := by
  have hl : 0 < xs.length := by
    cases xs with
    | nil => simp at h
    | cons a l => simp
  unfold atI ixN
  rw [if_neg (by omega), if_pos (by omega)]
  rw [List.getLast?_eq_getElem?] at h
  show xs[((-1 : Int) + (xs.length : Int)).toNat]? = some x
  rw [show ((-1 : Int) + (xs.length : Int)).toNat = xs.length - 1 by omega]
  exact h
end
end Pg

namespace Pg
open PySem PySem.Spec PyProof.Rows L2 Sd
section
variable {P : Program} {w : World} {K : PySem.W.Frag} {mg : Str → Option Value} {base : Heap} {c : Cl}
def pre_law_pick : Pr := fun ss own post => ∃ (d n : Addr) (cells : List Int) (cnt : Int) (ds : List PyData), ss = [.raw (.ref d), .d (.list ds)] ∧ own = drw d n cells cnt ∧ cells ≠ [] ∧ ds ≠ [] ∧ ds.length ≤ 1000000 ∧
  post = fun o => ∃ x cells' cnt', x ∈ ds ∧ cells' ≠ [] ∧ o = .ret (.d x) (drw d n cells' cnt')
theorem fn_law_pick (T : Tx K mg c) : Fn K mg P w base "_law_pick" ["draws", "choices"] 2 pre_law_pick := T.d_law_pick.fn fun f fd F => okG (k := 1) F sc_law_pick (by rintro ss own post ⟨d, n, cells, cnt, ds, rfl, _⟩; rfl) (by
  rintro ss own post ⟨d, n, cells, cnt, ds, rfl, rfl, hc, hd, hl, rfl⟩ cdv A outer s H E B g
  have hpos : 0 < ds.length := List.length_pos_iff.mpr hd
  refine sds_one (sd_retG (eg_ixL (P := fun i o => ∃ cells' cnt', 0 ≤ i ∧ i < (ds.length : Int) ∧ cells' ≠ [] ∧ o = drw d n cells' cnt') (R := fun t o => ∃ x cells' cnt', x ∈ ds ∧ cells' ≠ [] ∧ t = .d x ∧ o = drw d n cells' cnt') (ed_v 1) (eg_call (oa := []) (o1 := drw d n cells cnt) (ob := []) (fn_law_draw T) g (by decide) (ea_cons (ev_v 0) (ea_cons (ed_len T.n_len (ed_v 1) .d) ea_nil)) ⟨d, n, cells, cnt, _, rfl, rfl, hc, by omega, by omega, rfl⟩ ?_ ?_) ?_) ?_)
  · rintro t o1 ⟨r, cells', cnt', h0, h1, h2, e⟩
    cases e
    exact ⟨r, rfl, cells', cnt', h0, h1, h2, by simp⟩
  · rintro C o1 ⟨r, cells', cnt', h0, h1, h2, e⟩
    cases e
  · rintro i o ⟨cells', cnt', h0, h1, h2, rfl⟩
    obtain ⟨j, rfl⟩ : ∃ j : Nat, i = (j : Int) := ⟨i.toNat, by omega⟩
    have hj : j < ds.length := by omega
    exact ⟨ds[j], atI_nat (List.getElem?_eq_getElem hj), ds[j], cells', cnt', List.getElem_mem hj, h2, rfl, rfl⟩
  · rintro t o ⟨x, cells', cnt', h1, h2, rfl, rfl⟩
    exact ⟨x, cells', cnt', h1, h2, rfl⟩)
end
end Pg

namespace Pg
open PySem PySem.Spec PyProof.Rows L2 Sd
section
variable {P : Program} {w : World} {K : PySem.W.Frag} {mg : Str → Option Value} {base : Heap} {c : Cl}
/-- a draw, a pick: in words of what is owned -/
theorem eg_draw {Z : Sd.Ctx} {k : Nat} {ρ : List Slot} {oa ob : Own} {e1 e2 : Expr} {p pos : Pos} {d n : Addr} {cells : List Int} {cnt limit : Int} (F : Fn Z.X.K Z.X.mg Z.X.prog Z.X.w Z.X.base "_law_draw" ["draws", "limit"] 1 pre_law_draw) (g : Gd Z k) (hk : 1 ≤ k) (hc : cells ≠ []) (ha : EA Z [e1, e2] ρ (oa ++ drw d n cells cnt ++ ob) [.raw (.ref d), .d (.int limit)]) (hl : 0 < limit) (hl2 : limit < 1073741824)
    (hg : Gl Z.X "_law_draw" := by rfl) (he : starEach [e1, e2] Z.X.env = (false, eval e1 Z.X.env) :: starEach [e2] Z.X.env := by rfl) (hpl : (backTo pos (starEach [e2] Z.X.env)).any (·.1) = false := by rfl) :
    EG Z (.Call (.Name "_law_draw" p) [e1, e2] [] pos) ρ (oa ++ drw d n cells cnt ++ ob) (fun t o => ∃ (r : Nat) (cells' : List Int) (cnt' : Int), (r : Int) < limit ∧ cells' ≠ [] ∧ t = .d (.int (r : Int)) ∧ o = oa ++ drw d n cells' cnt' ++ ob) :=
  eg_call F g hk ha ⟨d, n, cells, cnt, limit, rfl, rfl, hc, hl, hl2, rfl⟩ (by
    rintro t o1 ⟨r, cells', cnt', h0, h1, h2, e⟩
    cases e
    exact ⟨r.toNat, cells', cnt', by omega, h2, by rw [Int.toNat_of_nonneg h0], rfl⟩) (by
    rintro C o1 ⟨r, cells', cnt', h0, h1, h2, e⟩
    cases e) hg (by decide) he hpl
end
end Pg

namespace Pg
open PySem PySem.Spec PyProof.Rows L2 Sd
section
variable {P : Program} {w : World} {K : PySem.W.Frag} {mg : Str → Option Value} {base : Heap} {c : Cl}
def pre_check_counts : Pr := fun ss own post => ∃ (ys : List Int) (cs : List Nat), ss = [.d (li ys), .d (li (nI cs))] ∧ own = [] ∧ Ct ys cs ∧ ys.length ≤ 8 ∧ post = fun o => o = .ret (.d .none) []
theorem fn_check_counts (T : Tx K mg c) : Fn K mg P w base "check_counts" ["year", "value"] 2 pre_check_counts := T.d_check_counts.fn fun f fd F => okG (k := 1) F sc_check_counts (by rintro ss own post ⟨ys, cs, rfl, _⟩; rfl) (by
  rintro ss own post ⟨ys, cs, rfl, rfl, hC, hl, rfl⟩ cdv A outer s H E B g
  have hlen : (nI cs).length = cs.length := by simp [nI]
  have hcl := hC.len
  refine sds_cons (sd_if (l := false) (ET.is (EW.et (ew_or (et_not (et_val (ed_isi (x := li (nI cs)) (l := true) T.n_isinstance (ed_v 1) .d (ev_ty (T := "list") rfl T.n_list (by decide +kernel)) rfl))) fun _ => ew_or (et_cmp c_neI (ed_len T.n_len (ed_v 1) .d) (ed_len T.n_len (ed_v 0) .d)) fun _ => ew_or1 (et_not (et_val (ed_all (ns := (nI cs).map fun _ => true) g T.n_all (EL.ed (EL.is (el_comp g (compP g (it_list (ed_v 1)) [("one", 2)] (blkOk_by (N := ["year", "value", "one"]) (sc := defScope s_check_counts) (by decide +kernel)) (nI cs) PyData.int rfl (fun n => some (.bool true)) (fun n => [.d (li ys), .d (li (nI cs)), .d (.int n)]) [2] (by simp) (by omega) (fun _ _ => trivial)
        (fun d _ s H C cl fp g' => gt_name 2 g'.nd) (fun d _ s H C cl fp o g' => ets_nil) (fun n hn x hx s H C cl fp o g' => ?_))) ?_)) .d))))) ?_) (fun h => nomatch h) fun _ => sds_nil ?_)
  · cases hx
    refine ES.is (es_call (fn_is_int T) g' (by decide) (ea_cons (ed_v 2) (ea_cons ed_int (ea_cons ed_int ea_nil))) ⟨_, _, _, rfl, rfl, rfl⟩) ?_
    obtain ⟨k, hk, rfl⟩ := List.mem_map.mp hn
    have := nat_mem_sum hk
    have h12 := hC.sum
    have : ((k : Int) ≤ 12) := by omega
    simp [Sd.isInt, this]
  · rw [List.map_map]
    exact List.filterMap_eq_map' .. |>.symm ▸ rfl
  · rw [List.length_map, List.length_map, hlen, hcl]
    simp
  refine sds_one (sd_if (l := false) (ET.is (et_cmp c_gt (ed_sum (ns := nI cs) g T.n_sum (ed_v 1) .d) ed_int) ?_) (fun h => nomatch h) fun _ => sds_nil rfl)
  rw [nI_sum]
  have := hC.sum
  exact decide_eq_false (by omega))
end
end Pg

namespace Pg
open PySem PySem.Spec PyProof.Rows L2 Sd
section
variable {P : Program} {w : World} {K : PySem.W.Frag} {mg : Str → Option Value} {base : Heap} {c : Cl}
/-! dicts as lists of pairs -/
theorem getT_put {κ α : Type} [DecidableEq κ] (tb : List (κ × α)) (k j : κ) (v : α) : getT (putT tb k v) j = if j = k then some v else getT tb j := by
  unfold putT
  by_cases h : (tb.any fun e => decide (e.1 = k)) = true
  · rw [if_pos h]
    induction tb with
    | nil => cases h
    | cons e tb ih =>
      rw [List.map_cons]
      by_cases he : e.1 = k
      · rw [if_pos he]
        by_cases hj : j = k
        · subst hj
          simp [getT, List.find?_cons, he]
        · have hne : ¬ k = j := fun z => hj z.symm
          have e1 : getT ((e.1, v) :: tb.map fun e => if e.1 = k then (e.1, v) else e) j = getT (tb.map fun e => if e.1 = k then (e.1, v) else e) j := by simp [getT, List.find?_cons, he, hne]
          have e2 : getT (e :: tb) j = getT tb j := by simp [getT, List.find?_cons, he, hne]
          rw [e1, e2, if_neg hj]
          clear ih h
          induction tb with
          | nil => rfl
          | cons a tb ih2 =>
            rw [List.map_cons]
            by_cases ha : a.1 = k
            · rw [if_pos ha]
              have e3 : getT ((a.1, v) :: tb.map fun e => if e.1 = k then (e.1, v) else e) j = getT (tb.map fun e => if e.1 = k then (e.1, v) else e) j := by simp [getT, List.find?_cons, ha, hne]
              have e4 : getT (a :: tb) j = getT tb j := by simp [getT, List.find?_cons, ha, hne]
              rw [e3, e4]
              exact ih2 (by simp [getT, List.find?_cons, he, hne]) (by simp [getT, List.find?_cons, he, hne])
            · rw [if_neg ha]
              by_cases haj : a.1 = j
              · simp [getT, List.find?_cons, haj]
              · have e3 : getT (a :: tb.map fun e => if e.1 = k then (e.1, v) else e) j = getT (tb.map fun e => if e.1 = k then (e.1, v) else e) j := by simp [getT, List.find?_cons, haj]
                have e4 : getT (a :: tb) j = getT tb j := by simp [getT, List.find?_cons, haj]
                rw [e3, e4]
                exact ih2 (by simp [getT, List.find?_cons, he, hne]) (by simp [getT, List.find?_cons, he, hne])
      · rw [if_neg he]
        have h' : (tb.any fun e => decide (e.1 = k)) = true := by
          rw [List.any_cons] at h
          simpa [he] using h
        by_cases hej : e.1 = j
        · have hjk : ¬ j = k := fun z => he (hej.trans z)
          rw [if_neg hjk]
          simp [getT, List.find?_cons, hej]
        · have e3 : getT (e :: tb.map fun e => if e.1 = k then (e.1, v) else e) j = getT (tb.map fun e => if e.1 = k then (e.1, v) else e) j := by simp [getT, List.find?_cons, hej]
          have e4 : getT (e :: tb) j = getT tb j := by simp [getT, List.find?_cons, hej]
          rw [e3, e4]
          exact ih h'
  · rw [if_neg h]
    have h : ∀ e ∈ tb, e.1 ≠ k := fun e he z => h (List.any_eq_true.mpr ⟨e, he, decide_eq_true z⟩)
    unfold getT
    rw [List.find?_append]
    by_cases hj : j = k
    · subst hj
      rw [if_pos rfl, List.find?_eq_none.mpr (fun e he z => h e he (of_decide_eq_true z))]
      simp
    · have hne : ¬ k = j := fun z => hj z.symm
      rw [if_neg hj]
      cases tb.find? (fun e => decide (e.1 = j)) with
      | none => simp [hne]
      | some e => rfl
theorem putT_keys {κ α : Type} [DecidableEq κ] (tb : List (κ × α)) (k : κ) (v : α) : (putT tb k v).map (·.1) = if k ∈ tb.map (·.1) then tb.map (·.1) else tb.map (·.1) ++ [k] := by
  unfold putT
  by_cases h : (tb.any fun e => decide (e.1 = k)) = true
  · have hm : k ∈ tb.map (·.1) := by
      obtain ⟨e, he, hd⟩ := List.any_eq_true.mp h
      exact List.mem_map.mpr ⟨e, he, of_decide_eq_true hd⟩
    rw [if_pos h, if_pos hm, List.map_map]
    refine List.map_congr_left fun e _ => ?_
    show (if e.1 = k then (e.1, v) else e).1 = e.1
    split <;> rfl
  · have hm : k ∉ tb.map (·.1) := fun z => by
      obtain ⟨e, he, rfl⟩ := List.mem_map.mp z
      exact h (List.any_eq_true.mpr ⟨e, he, decide_eq_true rfl⟩)
    rw [if_neg h, if_neg hm, List.map_append]
    rfl
theorem putT_nodup {κ α : Type} [DecidableEq κ] {tb : List (κ × α)} (h : (tb.map (·.1)).Nodup) (k : κ) (v : α) : ((putT tb k v).map (·.1)).Nodup := by
  rw [putT_keys]
  split
  · exact h
  · rename_i hn
    refine List.nodup_append.mpr ⟨h, by simp, fun a ha b hb z => ?_⟩
    have : b = k := by simpa using hb
    rw [z, this] at ha
    exact hn ha
theorem getT_mem {κ α : Type} [DecidableEq κ] {tb : List (κ × α)} (h : (tb.map (·.1)).Nodup) {k : κ} {v : α} : (k, v) ∈ tb ↔ getT tb k = some v := by
  induction tb with
  | nil => simp [getT]
  | cons e tb ih =>
    rw [List.map_cons, List.nodup_cons] at h
    have ih := ih h.2
    by_cases he : e.1 = k
    · have e1 : getT (e :: tb) k = some e.2 := by simp [getT, List.find?_cons, he]
      rw [e1]
      constructor
      · intro hm
        rcases List.mem_cons.mp hm with rfl | hm
        · rfl
        · exact absurd (List.mem_map.mpr ⟨(k, v), hm, he.symm⟩) h.1
      · intro z
        cases z
        rw [← he]
        exact List.mem_cons_self
    · have e1 : getT (e :: tb) k = getT tb k := by simp [getT, List.find?_cons, he]
      rw [e1, ← ih]
      constructor
      · intro hm
        rcases List.mem_cons.mp hm with rfl | hm
        · exact absurd rfl he
        · exact hm
      · exact fun hm => List.mem_cons_of_mem _ hm
theorem nodup_lt : ∀ (n : Nat) (l : List Nat), l.Nodup → (∀ x ∈ l, x < n) → l.length ≤ n
  | 0, [], _, _ => Nat.le_refl _
  | 0, a :: l, _, h => absurd (h a List.mem_cons_self) (by omega)
  | n + 1, l, hn, h => by
    have h1 := nodup_lt n (l.erase n) (hn.erase n) fun x hx => by
      have h2 := h x (List.mem_of_mem_erase hx)
      have h3 : x ≠ n := fun z => (hn.mem_erase_iff.mp hx).1 z
      omega
    have := List.length_erase_le (a := n) (l := l)
    by_cases hm : n ∈ l
    · have := List.length_erase_of_mem hm
      have : 0 < l.length := List.length_pos_of_mem hm
      omega
    · rw [List.erase_of_not_mem hm] at h1
      omega
theorem keys_box {α : Type} {A B : Nat} {tb : List ((Nat × Nat) × α)} (hn : (tb.map (·.1)).Nodup) (h : ∀ e ∈ tb, e.1.1 < A ∧ e.1.2 < B) : tb.length ≤ A * B := by
  have h1 := nodup_lt (A * B) ((tb.map (·.1)).map fun k => k.1 * B + k.2) (by
    refine List.nodup_iff_pairwise_ne.mpr (List.pairwise_map.mpr (List.Pairwise.imp_of_mem ?_ (List.nodup_iff_pairwise_ne.mp hn)))
    · intro a b ha hb hab z
      obtain ⟨e, he, rfl⟩ := List.mem_map.mp ha
      obtain ⟨f, hf, rfl⟩ := List.mem_map.mp hb
      obtain ⟨a1, a2⟩ := h e he
      obtain ⟨b1, b2⟩ := h f hf
      have d1 : (e.1.1 * B + e.1.2) / B = e.1.1 := by rw [Nat.mul_comm, Nat.mul_add_div (by omega), Nat.div_eq_of_lt a2]; rfl
      have d2 : (f.1.1 * B + f.1.2) / B = f.1.1 := by rw [Nat.mul_comm, Nat.mul_add_div (by omega), Nat.div_eq_of_lt b2]; rfl
      have z : e.1.1 * B + e.1.2 = f.1.1 * B + f.1.2 := z
      rw [z, d2] at d1
      rw [← d1] at z
      exact hab (Prod.ext d1.symm (by omega))) fun x hx => by
    obtain ⟨k, hk, rfl⟩ := List.mem_map.mp hx
    obtain ⟨e, he, rfl⟩ := List.mem_map.mp hk
    obtain ⟨a1, a2⟩ := h e he
    have := Nat.mul_le_mul_right B (show e.1.1 + 1 ≤ A from a1)
    rw [Nat.add_mul] at this
    omega
  simpa using h1
abbrev PwT := List ((Nat × Nat) × Int)
def addT (f : PwT) (k : Nat × Nat) (z : Int) : PwT := putT f k ((getT f k).getD 0 + z)
/-- keys in a box, each once, values below s times C -/
structure PwOk (m B s C : Nat) (f : PwT) : Prop where
  nd : (f.map (·.1)).Nodup
  bx : ∀ e ∈ f, e.1.1 < m + 1 ∧ e.1.2 < B
  vl : ∀ e ∈ f, e.2.natAbs ≤ s * C
theorem PwOk.len {m B s C : Nat} {f : PwT} (h : PwOk m B s C f) : f.length ≤ (m + 1) * B := keys_box h.nd h.bx
theorem getT_le {f : PwT} {k : Nat × Nat} {n : Nat} (h : ∀ e ∈ f, e.2.natAbs ≤ n) : ((getT f k).getD 0).natAbs ≤ n := by
  cases hg : getT f k with
  | none => exact Nat.zero_le _
  | some v =>
    unfold getT at hg
    obtain ⟨e, he, rfl⟩ := Option.map_eq_some_iff.mp hg
    exact h e (List.mem_of_find?_eq_some he)
theorem PwOk.add {m B s C : Nat} {f : PwT} (h : PwOk m B s C f) {k : Nat × Nat} {z : Int} (h1 : k.1 < m + 1) (h2 : k.2 < B) (hz : z.natAbs ≤ C) : PwOk m B (s + 1) C (addT f k z) := by
  have hv : ((getT f k).getD 0 + z).natAbs ≤ (s + 1) * C := by
    have := getT_le (k := k) h.vl
    rw [Nat.add_mul]
    omega
  have key : ∀ e ∈ addT f k z, e.1 = k ∧ e.2 = (getT f k).getD 0 + z ∨ e ∈ f := by
    intro e he
    unfold addT putT at he
    split at he
    · obtain ⟨e', he', rfl⟩ := List.mem_map.mp he
      by_cases hk : e'.1 = k
      · rw [if_pos hk]
        exact .inl ⟨hk, rfl⟩
      · rw [if_neg hk]
        exact .inr he'
    · rcases List.mem_append.mp he with he | he
      · exact .inr he
      · have : e = (k, (getT f k).getD 0 + z) := by simpa using he
        rw [this]
        exact .inl ⟨rfl, rfl⟩
  refine ⟨putT_nodup h.nd _ _, fun e he => ?_, fun e he => ?_⟩
  · rcases key e he with ⟨e1, _⟩ | he
    · rw [e1]; exact ⟨h1, h2⟩
    · exact h.bx e he
  · rcases key e he with ⟨_, e2⟩ | he
    · rw [e2]; exact hv
    · have := h.vl e he
      rw [Nat.add_mul]
      omega
end
end Pg

namespace Pg
open PySem PySem.Spec PyProof.Rows L2 Sd
section
variable {P : Program} {w : World} {K : PySem.W.Frag} {mg : Str → Option Value} {base : Heap} {c : Cl}
/-! tables summed against a function -/
def addV {κ : Type} [DecidableEq κ] (tb : List (κ × Int)) (k : κ) (z : Int) : List (κ × Int) := putT tb k ((getT tb k).getD 0 + z)
def tS {κ : Type} (tb : List (κ × Int)) (f : κ → Int) : Int := (tb.map fun e => e.2 * f e.1).sum
theorem lsum_congr {α : Type} {f g : α → Int} : ∀ {l : List α}, (∀ a ∈ l, f a = g a) → (l.map f).sum = (l.map g).sum
  | [], _ => rfl
  | a :: l, h => by rw [List.map_cons, List.map_cons, List.sum_cons, List.sum_cons, h a List.mem_cons_self, lsum_congr fun b hb => h b (List.mem_cons_of_mem _ hb)]
theorem lsum_add {α : Type} (f g : α → Int) : ∀ l : List α, (l.map fun a => f a + g a).sum = (l.map f).sum + (l.map g).sum
  | [] => rfl
  | a :: l => by simp only [List.map_cons, List.sum_cons, lsum_add f g l]; omega
theorem lsum_mul {α : Type} (c : Int) (f : α → Int) : ∀ l : List α, (l.map fun a => c * f a).sum = c * (l.map f).sum
  | [] => by simp
  | a :: l => by simp only [List.map_cons, List.sum_cons, lsum_mul c f l, Int.mul_add]
theorem lsum_nonneg {α : Type} {f : α → Int} : ∀ {l : List α}, (∀ a ∈ l, 0 ≤ f a) → 0 ≤ (l.map f).sum
  | [], _ => by simp
  | a :: l, h => by
    have h1 := h a List.mem_cons_self
    have h2 := lsum_nonneg (f := f) (l := l) fun b hb => h b (List.mem_cons_of_mem _ hb)
    simp only [List.map_cons, List.sum_cons]; omega
theorem lsum_perm {α : Type} (f : α → Int) {a b : List α} (h : a.Perm b) : (a.map f).sum = (b.map f).sum := by
  induction h with
  | nil => rfl
  | cons x _ ih => simp only [List.map_cons, List.sum_cons, ih]
  | swap x y l => simp only [List.map_cons, List.sum_cons]; omega
  | trans _ _ i1 i2 => exact i1.trans i2
theorem lsum_append {α : Type} (f : α → Int) (a b : List α) : ((a ++ b).map f).sum = (a.map f).sum + (b.map f).sum := by rw [List.map_append, List.sum_append]
theorem lsum_take {α : Type} (f : α → Int) {l : List α} {i : Nat} {a : α} (h : l[i]? = some a) : ((l.take (i + 1)).map f).sum = ((l.take i).map f).sum + f a := by
  rw [List.take_add_one, h, lsum_append]
  simp
theorem tS_put {κ : Type} [DecidableEq κ] (f : κ → Int) (k : κ) (z : Int) : ∀ {tb : List (κ × Int)}, (tb.map (·.1)).Nodup → tS (addV tb k z) f = tS tb f + z * f k
  | [], _ => by simp [addV, tS, putT, getT]
  | e :: tb, h => by
    rw [List.map_cons, List.nodup_cons] at h
    have ih := tS_put f k z h.2
    by_cases he : e.1 = k
    · subst he
      have e1 : addV (e :: tb) e.1 z = (e.1, e.2 + z) :: tb := by
        unfold addV putT
        rw [if_pos (by simp)]
        have e2 : getT (e :: tb) e.1 = some e.2 := by simp [getT]
        rw [e2, List.map_cons, if_pos rfl]
        congr 1
        refine (List.map_congr_left fun a ha => ?_).trans (List.map_id _)
        rw [if_neg (fun z => h.1 (List.mem_map.mpr ⟨a, ha, z⟩))]
        rfl
      rw [e1]
      simp only [tS, List.map_cons, List.sum_cons, Int.add_mul]
      omega
    · have e1 : addV (e :: tb) k z = e :: addV tb k z := by
        have e2 : getT (e :: tb) k = getT tb k := by simp [getT, List.find?_cons, he]
        unfold addV
        rw [e2]
        unfold putT
        have e3 : ((e :: tb).any fun e => decide (e.1 = k)) = tb.any fun e => decide (e.1 = k) := by simp [he]
        rw [e3]
        split
        · rw [List.map_cons, if_neg he]
        · rfl
      rw [e1]
      simp only [tS, List.map_cons, List.sum_cons] at ih ⊢
      omega
theorem addV_nodup {κ : Type} [DecidableEq κ] {tb : List (κ × Int)} (h : (tb.map (·.1)).Nodup) (k : κ) (z : Int) : ((addV tb k z).map (·.1)).Nodup := putT_nodup h k _
theorem addV_key {κ : Type} [DecidableEq κ] {tb : List (κ × Int)} {k : κ} {z : Int} {x : κ} (h : x ∈ (addV tb k z).map (·.1)) : x = k ∨ x ∈ tb.map (·.1) := by
  unfold addV at h
  rw [putT_keys] at h
  split at h
  · exact .inr h
  · rcases List.mem_append.mp h with h | h
    · exact .inr h
    · exact .inl (by simpa using h)
theorem addV_nonneg {κ : Type} [DecidableEq κ] {tb : List (κ × Int)} {k : κ} {z : Int} (hz : 0 ≤ z) (hn : (tb.map (·.1)).Nodup) (h : ∀ e ∈ tb, 0 ≤ e.2) : ∀ e ∈ addV tb k z, 0 ≤ e.2 := by
  intro e he
  have h1 := (getT_mem (addV_nodup hn k z) (k := e.1) (v := e.2)).mp he
  unfold addV at h1
  rw [getT_put] at h1
  split at h1
  · have h2 : 0 ≤ (getT tb k).getD 0 := by
      cases hg : getT tb k with
      | none => simp
      | some v => exact h _ ((getT_mem hn).mpr hg)
    have := Option.some.inj h1
    omega
  · exact h _ ((getT_mem hn).mpr h1)
theorem le_tS {κ : Type} {tb : List (κ × Int)} (h : ∀ e ∈ tb, 0 ≤ e.2) {e : κ × Int} (he : e ∈ tb) : e.2 ≤ tS tb fun _ => 1 := by
  induction tb with
  | nil => cases he
  | cons a tb ih =>
    have h1 := lsum_nonneg (f := fun e : κ × Int => e.2 * 1) (l := tb) fun b hb => by have := h b (List.mem_cons_of_mem _ hb); omega
    have ha := h a List.mem_cons_self
    simp only [tS, List.map_cons, List.sum_cons]
    rcases List.mem_cons.mp he with rfl | he
    · omega
    · have := ih (fun b hb => h b (List.mem_cons_of_mem _ hb)) he
      simp only [tS] at this
      omega
/-- by the keys -/
theorem tS_keys {κ : Type} [DecidableEq κ] (f : κ → Int) {tb : List (κ × Int)} (hn : (tb.map (·.1)).Nodup) : ((tb.map (·.1)).map fun k => (getT tb k).getD 0 * f k).sum = tS tb f := by
  rw [List.map_map]
  refine lsum_congr fun e he => ?_
  show (getT tb e.1).getD 0 * f e.1 = _
  rw [(getT_mem hn (k := e.1) (v := e.2)).mp he]
  rfl
theorem nodup_sub {α : Type} [DecidableEq α] : ∀ {a b : List α}, a.Nodup → (∀ x ∈ a, x ∈ b) → a.length ≤ b.length
  | [], _, _, _ => Nat.zero_le _
  | x :: a, b, h, hs => by
    rw [List.nodup_cons] at h
    have hx := hs x List.mem_cons_self
    have := nodup_sub (b := b.erase x) h.2 fun y hy => (List.mem_erase_of_ne (fun z => h.1 (by rw [← z]; exact hy))).mpr (hs y (List.mem_cons_of_mem _ hy))
    rw [List.length_erase_of_mem hx] at this
    have := List.length_pos_of_mem hx
    simp only [List.length_cons]
    omega
end
end Pg

namespace Pg
open PySem PySem.Spec PyProof.Rows L2 Sd
section
variable {P : Program} {w : World} {K : PySem.W.Frag} {mg : Str → Option Value} {base : Heap} {c : Cl}
/-! all ways in which things fall -/
def inc : List Nat → Nat → List Nat
  | [], _ => []
  | a :: c, 0 => (a + 1) :: c
  | a :: c, d + 1 => a :: inc c d
theorem inc_len : ∀ (c : List Nat) (d : Nat), (inc c d).length = c.length
  | [], _ => rfl
  | _ :: _, 0 => rfl
  | a :: c, d + 1 => by simp [inc, inc_len c d]
theorem inc_sum : ∀ (c : List Nat) (d : Nat), d < c.length → (inc c d).sum = c.sum + 1
  | [], _, h => by simp at h
  | a :: c, 0, _ => by simp [inc]; omega
  | a :: c, d + 1, h => by
    have := inc_sum c d (by simpa using h)
    simp only [inc, List.sum_cons, this]
    omega
def Gf : List Int → Nat → (List Nat → Int) → Int
  | [], 0, f => f []
  | [], _ + 1, _ => 0
  | w :: ys, m, f => sumN (fun o => ((bin m o : Nat) : Int) * w ^ o * Gf ys (m - o) (fun c => f (o :: c))) (m + 1)
theorem Gf_cons (w : Int) (ys : List Int) (m : Nat) (f : List Nat → Int) : Gf (w :: ys) m f = sumN (fun o => ((bin m o : Nat) : Int) * w ^ o * Gf ys (m - o) (fun c => f (o :: c))) (m + 1) := by
  cases m <;> rfl
theorem Gf_congr : ∀ {ys : List Int} {m : Nat} {f g : List Nat → Int}, (∀ c, c.length = ys.length → c.sum = m → f c = g c) → Gf ys m f = Gf ys m g
  | [], 0, f, g, h => h [] rfl rfl
  | [], m + 1, f, g, _ => rfl
  | w :: ys, m, f, g, h => by
    rw [Gf_cons, Gf_cons]
    refine sumN_congr fun o ho => ?_
    rw [Gf_congr (ys := ys) (m := m - o) (f := fun c => f (o :: c)) (g := fun c => g (o :: c)) fun c h1 h2 => h (o :: c) (by simp [h1]) (by simp [h2]; omega)]
theorem Gf_add : ∀ (ys : List Int) (m : Nat) (f g : List Nat → Int), Gf ys m (fun c => f c + g c) = Gf ys m f + Gf ys m g
  | [], 0, f, g => rfl
  | [], m + 1, f, g => rfl
  | w :: ys, m, f, g => by
    rw [Gf_cons, Gf_cons, Gf_cons, ← sumN_add]
    refine sumN_congr fun o _ => ?_
    rw [Gf_add ys (m - o) (fun c => f (o :: c)) (fun c => g (o :: c)), Int.mul_add]
theorem Gf_mul (z : Int) : ∀ (ys : List Int) (m : Nat) (f : List Nat → Int), Gf ys m (fun c => z * f c) = z * Gf ys m f
  | [], 0, f => rfl
  | [], m + 1, f => by simp [Gf]
  | w :: ys, m, f => by
    rw [Gf_cons, Gf_cons, ← sumN_mul]
    refine sumN_congr fun o _ => ?_
    rw [Gf_mul z ys (m - o) (fun c => f (o :: c))]
    grind
/-- one thing more -/
def stF (ys : List Int) (f : List Nat → Int) (c : List Nat) (n : Nat) : Int := sumN (fun d => ys.getD d 0 * f (inc c d)) n
theorem stF_cons (w : Int) (ys : List Int) (f : List Nat → Int) (o : Nat) (c : List Nat) (n : Nat) : stF (w :: ys) f (o :: c) (n + 1) = w * f ((o + 1) :: c) + stF ys (fun c => f (o :: c)) c n := by
  unfold stF
  rw [sumN_shift]
  rfl
theorem Gf_step : ∀ (ys : List Int) (m : Nat) (f : List Nat → Int), Gf ys (m + 1) f = Gf ys m (fun c => stF ys f c ys.length)
  | [], 0, f => rfl
  | [], m + 1, f => rfl
  | w :: ys, m, f => by
    rw [Gf_cons, Gf_cons]
    -- the right side, split
    have e1 : sumN (fun o => ((bin m o : Nat) : Int) * w ^ o * Gf ys (m - o) (fun c => stF (w :: ys) f (o :: c) (ys.length + 1))) (m + 1)
        = sumN (fun o => ((bin m o : Nat) : Int) * w ^ (o + 1) * Gf ys (m - o) (fun c => f ((o + 1) :: c))) (m + 1) + sumN (fun o => ((bin m o : Nat) : Int) * w ^ o * Gf ys (m - o + 1) (fun c => f (o :: c))) (m + 1) := by
      rw [← sumN_add]
      refine sumN_congr fun o _ => ?_
      have e : Gf ys (m - o) (fun c => stF (w :: ys) f (o :: c) (ys.length + 1)) = w * Gf ys (m - o) (fun c => f ((o + 1) :: c)) + Gf ys (m - o + 1) (fun c => f (o :: c)) := by
        rw [Gf_step ys (m - o) (fun c => f (o :: c)), ← Gf_mul w ys (m - o) (fun c => f ((o + 1) :: c)), ← Gf_add]
        exact Gf_congr fun c _ _ => stF_cons w ys f o c ys.length
      rw [e, Int.pow_succ]
      grind
    show _ = sumN (fun o => ((bin m o : Nat) : Int) * w ^ o * Gf ys (m - o) (fun c => stF (w :: ys) f (o :: c) (ys.length + 1))) (m + 1)
    rw [e1]
    -- the left side by Pascal
    rw [sumN_shift (fun o => ((bin (m + 1) o : Nat) : Int) * w ^ o * Gf ys (m + 1 - o) (fun c => f (o :: c))) (m + 1)]
    have e2 : sumN (fun o => ((bin (m + 1) (o + 1) : Nat) : Int) * w ^ (o + 1) * Gf ys (m + 1 - (o + 1)) (fun c => f ((o + 1) :: c))) (m + 1)
        = sumN (fun o => ((bin m o : Nat) : Int) * w ^ (o + 1) * Gf ys (m - o) (fun c => f ((o + 1) :: c))) (m + 1) + sumN (fun o => ((bin m (o + 1) : Nat) : Int) * w ^ (o + 1) * Gf ys (m - o) (fun c => f ((o + 1) :: c))) (m + 1) := by
      rw [← sumN_add]
      refine sumN_congr fun o _ => ?_
      rw [bin_succ, show m + 1 - (o + 1) = m - o by omega]
      push_cast
      grind
    rw [e2]
    have e3 : sumN (fun o => ((bin m o : Nat) : Int) * w ^ o * Gf ys (m - o + 1) (fun c => f (o :: c))) (m + 1) = ((bin (m + 1) 0 : Nat) : Int) * w ^ 0 * Gf ys (m + 1 - 0) (fun c => f (0 :: c)) + sumN (fun o => ((bin m (o + 1) : Nat) : Int) * w ^ (o + 1) * Gf ys (m - o) (fun c => f ((o + 1) :: c))) (m + 1) := by
      rw [sumN_shift (fun o => ((bin m o : Nat) : Int) * w ^ o * Gf ys (m - o + 1) (fun c => f (o :: c))) m]
      show _ = _ + (sumN (fun o => ((bin m (o + 1) : Nat) : Int) * w ^ (o + 1) * Gf ys (m - o) (fun c => f ((o + 1) :: c))) m + ((bin m (m + 1) : Nat) : Int) * w ^ (m + 1) * Gf ys (m - m) (fun c => f ((m + 1) :: c)))
      rw [bin_out m (m + 1) (by omega), bin_zero, bin_zero]
      have e4 : sumN (fun o => ((bin m (o + 1) : Nat) : Int) * w ^ (o + 1) * Gf ys (m - (o + 1) + 1) (fun c => f ((o + 1) :: c))) m = sumN (fun o => ((bin m (o + 1) : Nat) : Int) * w ^ (o + 1) * Gf ys (m - o) (fun c => f ((o + 1) :: c))) m := sumN_congr fun o ho => by rw [show m - (o + 1) + 1 = m - o by omega]
      rw [e4]
      simp
    rw [e3]
    omega
theorem sumN_getD : ∀ (ys : List Int), sumN (fun d => ys.getD d 0) ys.length = ys.sum
  | [] => rfl
  | y :: ys => by
    have := sumN_getD ys
    rw [List.length_cons, sumN_shift, List.sum_cons]
    simp only [List.getD_cons_zero, List.getD_cons_succ]
    rw [this]
theorem Gf_one (ys : List Int) : ∀ m, Gf ys m (fun _ => 1) = ys.sum ^ m
  | 0 => by
    induction ys with
    | nil => rfl
    | cons w ys ih =>
      rw [Gf_cons]
      show 0 + ((bin 0 0 : Nat) : Int) * w ^ 0 * Gf ys 0 (fun _ => 1) = _
      rw [ih]
      simp [bin_zero]
  | m + 1 => by
    rw [Gf_step]
    have : ∀ c, stF ys (fun _ => 1) c ys.length = ys.sum * 1 := fun c => by
      unfold stF
      simp only [Int.mul_one]
      exact sumN_getD ys
    simp only [this]
    rw [Gf_mul ys.sum ys m (fun _ => 1), Gf_one ys m, Int.pow_succ, Int.mul_comm]
abbrev TabN := List (List Nat × Int)
structure Kt (ys : List Int) (m : Nat) (k : List Nat) : Prop where
  len : k.length = ys.length
  sum : k.sum = m
structure Fl (ys : List Int) (m : Nat) (kn : TabN) : Prop where
  nd : (kn.map (·.1)).Nodup
  ks : ∀ e ∈ kn, Kt ys m e.1
  nn : ∀ e ∈ kn, 0 ≤ e.2
  su : ∀ f, tS kn f = Gf ys m f
structure FiN (ys : List Int) (m : Nat) (kn : TabN) (j : Nat) (fr : TabN) : Prop where
  nd : (fr.map (·.1)).Nodup
  ks : ∀ k ∈ fr.map (·.1), Kt ys (m + 1) k
  nn : ∀ e ∈ fr, 0 ≤ e.2
  su : ∀ f, tS fr f = tS (kn.take j) (fun c => stF ys f c ys.length)
structure FjN (ys : List Int) (m : Nat) (kn : TabN) (j : Nat) (e : List Nat × Int) (n : Nat) (fr : TabN) : Prop where
  nd : (fr.map (·.1)).Nodup
  ks : ∀ k ∈ fr.map (·.1), Kt ys (m + 1) k
  nn : ∀ e ∈ fr, 0 ≤ e.2
  su : ∀ f, tS fr f = tS (kn.take j) (fun c => stF ys f c ys.length) + e.2 * stF ys f e.1 n
theorem Gf_zero : ∀ (ys : List Int) (f : List Nat → Int), Gf ys 0 f = f (List.replicate ys.length 0)
  | [], f => rfl
  | w :: ys, f => by
    rw [Gf_cons]
    show 0 + ((bin 0 0 : Nat) : Int) * w ^ 0 * Gf ys 0 (fun c => f (0 :: c)) = _
    rw [Gf_zero ys]
    simp [bin_zero, List.replicate_succ]
theorem Fl.zero (ys : List Int) : Fl ys 0 [(List.replicate ys.length 0, 1)] := ⟨by simp, fun e he => by
  have : e = (List.replicate ys.length 0, 1) := by simpa using he
  subst this
  exact ⟨by simp, by simp⟩, by simp, fun f => by rw [Gf_zero]; simp [tS]⟩
theorem FiN.zero (ys : List Int) (m : Nat) (kn : TabN) : FiN ys m kn 0 [] := ⟨by simp, by simp, by simp, fun f => by simp [tS]⟩
theorem FjN.add {ys : List Int} {m : Nat} {kn fr : TabN} {j n : Nat} {e : List Nat × Int} (hy : ∀ y ∈ ys, 0 ≤ y) (hn : n < ys.length) (he : Kt ys m e.1) (hv : 0 ≤ e.2) (h : FjN ys m kn j e n fr) : FjN ys m kn j e (n + 1) (addV fr (inc e.1 n) (e.2 * ys.getD n 0)) := by
  have hw : 0 ≤ ys.getD n 0 := by
    rw [List.getD_eq_getElem?_getD, List.getElem?_eq_getElem hn]
    exact hy _ (List.getElem_mem hn)
  refine ⟨addV_nodup h.nd _ _, fun k hk => ?_, addV_nonneg (Int.mul_nonneg hv hw) h.nd h.nn, fun f => ?_⟩
  · rcases addV_key hk with rfl | hk
    · exact ⟨by rw [inc_len]; exact he.len, by rw [inc_sum _ _ (by rw [he.len]; exact hn), he.sum]⟩
    · exact h.ks k hk
  · rw [tS_put _ _ _ h.nd, h.su f]
    show _ = _ + e.2 * (stF ys f e.1 n + ys.getD n 0 * f (inc e.1 n))
    grind
theorem Fl.total {ys : List Int} {m : Nat} {kn : TabN} (h : Fl ys m kn) : tS kn (fun _ => 1) = ys.sum ^ m := by rw [h.su, Gf_one]
end
end Pg

namespace Pg
open PySem PySem.Spec PyProof.Rows L2 Sd
section
variable {P : Program} {w : World} {K : PySem.W.Frag} {mg : Str → Option Value} {base : Heap} {c : Cl}
end
end Pg

namespace Pg
open PySem PySem.Spec PyProof.Rows L2 Sd
section
variable {P : Program} {w : World} {K : PySem.W.Frag} {mg : Str → Option Value} {base : Heap} {c : Cl}
def usedW (ys : List Int) (cs : List Nat) : Int := ((ys.zip cs).map fun p => if 0 < p.2 then p.1 else 0).sum
def pre_next_on_used : Pr := fun ss own post => ∃ (ys : List Int) (cs : List Nat), ss = [.d (li ys), .d (li (nI cs))] ∧ own = [] ∧ Yr ys ∧ Ct ys cs ∧ post = fun o => o = .ret (.d (fr ((usedW ys cs : Rat) / ys.sum))) []
theorem usedW_eq (ys : List Int) (cs : List Nat) : (((ys.zip (nI cs)).filterMap fun p => if 0 < p.2 then some p.1 else none)).sum = usedW ys cs := by
  unfold usedW nI
  rw [List.zip_map_right]
  generalize ys.zip cs = l
  induction l with
  | nil => rfl
  | cons q l ih =>
    obtain ⟨a, b⟩ := q
    rw [List.map_cons, List.map_cons, List.sum_cons, List.filterMap_cons]
    by_cases h : 0 < b
    · simp only [Prod.map, id, if_pos h, if_pos (show (0 : Int) < (b : Int) by omega)]
      rw [List.sum_cons, ih]
    · simp only [Prod.map, id, if_neg h, if_neg (show ¬ (0 : Int) < (b : Int) by omega)]
      rw [ih]
      omega
theorem fn_next_on_used (T : Tx K mg c) : Fn K mg P w base "next_on_used" ["year", "counts"] 4 pre_next_on_used := T.d_next_on_used.fn fun f fd F => okG (k := 3) F sc_next_on_used (by rintro ss own post ⟨ys, cs, rfl, _⟩; rfl) (by
  rintro ss own post ⟨ys, cs, rfl, rfl, hY, hC, rfl⟩ cdv A outer s H E B g
  have hl := hY.hi
  refine sds_cons (sd_expr (es_call (fn_check_year T) g (by decide) (ea_cons (ed_v 0) ea_nil) (ok_year hY)) ?_)
  refine sds_cons (sd_expr (es_call (fn_check_counts T) g (by decide) (ea_cons (ed_v 0) (ea_cons (ed_v 1) ea_nil)) ⟨ys, cs, rfl, rfl, hC, hY.hi, rfl⟩) ?_)
  refine sds_one (sd_retD (es_call (fn_lowest T) g (by decide) (ea_cons (ed_sum (ns := (ys.zip (nI cs)).filterMap fun p => if 0 < p.2 then some p.1 else none) g T.n_sum (EL.ed (EL.is (el_comp g (compP g (it_zip T.n_zip (ed_v 0) (ed_v 1)) [("weight", 2), ("own", 3)] (blkOk_by (N := ["year", "counts", "weight", "own"]) (sc := defScope s_next_on_used) (by decide +kernel)) (ys.zip (nI cs)) (fun p => PyData.tuple [.int p.1, .int p.2]) (zipD_ints _ _) (fun p => if 0 < p.2 then some (.int p.1) else none) (fun p => [.d (li ys), .d (li (nI cs)), .d (.int p.1), .d (.int p.2)]) [2, 3] (by simp) (by rw [List.length_zip]; omega) (fun _ _ => trivial)
        (fun p _ s H C cl fp g' => gt_tup g'.calm (gts_cons (gt_name 2 g'.nd) (gts_cons (gt_name 3 g'.nd) gts_nil)) rfl) (fun p hk s H C cl fp o g' => ets_one (ET.is (et_cmp c_gt (ed_v 3) ed_int) ?_)) (fun p hk x hx s H C cl fp o g' => ?_))) ?_)) .d) (ea_cons (ed_sum g T.n_sum (ed_v 0) .d) ea_nil)) ⟨_, _, rfl, rfl, by have := hY.sum_lo; omega, hY.szW.mono (by decide), rfl⟩) ?_)
  · by_cases h : 0 < p.2
    · rw [if_pos h, decide_eq_true h]; rfl
    · rw [if_neg h, decide_eq_false h]; rfl
  · by_cases h : 0 < p.2
    · rw [if_pos h] at hx
      cases hx
      exact ed_v 2
    · rw [if_neg h] at hx
      cases hx
  · rw [List.map_filterMap]
    refine fm_congr fun q _ => ?_
    by_cases h : 0 < q.2 <;> simp [h]
  · rw [usedW_eq])
end
end Pg

namespace Pg
open PySem PySem.Spec PyProof.Rows L2 Sd
section
variable {P : Program} {w : World} {K : PySem.W.Frag} {mg : Str → Option Value} {base : Heap} {c : Cl}
/-! sums over the falls: lists, and one day alone -/
theorem usedW_sumN : ∀ {ys : List Int} {cs : List Nat}, cs.length = ys.length → usedW ys cs = sumN (fun d => if 0 < cs.getD d 0 then ys.getD d 0 else 0) ys.length
  | [], [], _ => rfl
  | [], _ :: _, h => by simp at h
  | _ :: _, [], h => by simp at h
  | y :: ys, k :: cs, h => by
    have := usedW_sumN (ys := ys) (cs := cs) (by simpa using h)
    unfold usedW at this ⊢
    rw [List.length_cons, sumN_shift, List.zip_cons_cons, List.map_cons, List.sum_cons, this]
    rfl
end
end Pg

namespace Pg
open PySem PySem.Spec PyProof.Rows L2 Sd
section
variable {P : Program} {w : World} {K : PySem.W.Frag} {mg : Str → Option Value} {base : Heap} {c : Cl}
/-! the sets of so many days -/
def subl : List Int → Nat → List (List Int)
  | _, 0 => [[]]
  | [], _ + 1 => []
  | a :: l, t + 1 => (subl l t).map (a :: ·) ++ subl l (t + 1)
theorem subl_zero (l : List Int) : subl l 0 = [[]] := by cases l <;> rfl
theorem subl_mem : ∀ {l : List Int} {t : Nat} {k : List Int}, k ∈ subl l t → k.length = t ∧ ∀ x ∈ k, x ∈ l
  | l, 0, k, h => by
    rw [subl_zero] at h
    have : k = [] := by simpa using h
    subst this
    simp
  | [], t + 1, k, h => by simp [subl] at h
  | a :: l, t + 1, k, h => by
    rcases List.mem_append.mp (show k ∈ (subl l t).map (a :: ·) ++ subl l (t + 1) from h) with h | h
    · obtain ⟨k', hk, rfl⟩ := List.mem_map.mp h
      have := subl_mem hk
      refine ⟨by simp [this.1], fun x hx => ?_⟩
      rcases List.mem_cons.mp hx with rfl | hx
      · exact List.mem_cons_self
      · exact List.mem_cons_of_mem _ (this.2 x hx)
    · have := subl_mem h
      exact ⟨this.1, fun x hx => List.mem_cons_of_mem _ (this.2 x hx)⟩
theorem subl_lt : ∀ {l : List Int} {t : Nat} {k : List Int}, l.Pairwise (· < ·) → k ∈ subl l t → k.Pairwise (· < ·)
  | l, 0, k, _, h => by
    rw [subl_zero] at h
    have : k = [] := by simpa using h
    subst this
    exact .nil
  | [], t + 1, k, _, h => by simp [subl] at h
  | a :: l, t + 1, k, hl, h => by
    have hl' := List.pairwise_cons.mp hl
    rcases List.mem_append.mp (show k ∈ (subl l t).map (a :: ·) ++ subl l (t + 1) from h) with h | h
    · obtain ⟨k', hk, rfl⟩ := List.mem_map.mp h
      exact List.pairwise_cons.mpr ⟨fun x hx => hl'.1 x ((subl_mem hk).2 x hx), subl_lt hl'.2 hk⟩
    · exact subl_lt hl'.2 h
theorem subl_len : ∀ (l : List Int) (t : Nat), (subl l t).length ≤ 2 ^ l.length
  | l, 0 => by rw [subl_zero]; exact Nat.one_le_two_pow
  | [], t + 1 => by simp [subl]
  | a :: l, t + 1 => by
    have h1 := subl_len l t
    have h2 := subl_len l (t + 1)
    show ((subl l t).map (a :: ·) ++ subl l (t + 1)).length ≤ _
    rw [List.length_append, List.length_map, List.length_cons, Nat.pow_succ]
    omega
def insD (d : Int) : List Int → List Int
  | [] => [d]
  | a :: l => if d ≤ a then d :: a :: l else a :: insD d l
theorem insD_perm (d : Int) : ∀ l, (insD d l).Perm (d :: l)
  | [] => .refl _
  | a :: l => by
    unfold insD
    split
    · exact .refl _
    · exact (List.Perm.cons a (insD_perm d l)).trans (.swap d a l)
theorem insD_sorted (d : Int) : ∀ l : List Int, l.Pairwise (· ≤ ·) → (insD d l).Pairwise (· ≤ ·)
  | [], _ => by simp [insD]
  | a :: l, h => by
    have h' := List.pairwise_cons.mp h
    unfold insD
    split
    · rename_i hd
      refine List.pairwise_cons.mpr ⟨fun x hx => ?_, h⟩
      rcases List.mem_cons.mp hx with rfl | hx
      · exact hd
      · have := h'.1 x hx; omega
    · rename_i hd
      refine List.pairwise_cons.mpr ⟨fun x hx => ?_, insD_sorted d l h'.2⟩
      rcases List.mem_cons.mp ((insD_perm d l).mem_iff.mp hx) with rfl | hx
      · omega
      · exact h'.1 x hx
theorem insD_uniq {d : Int} {l ns : List Int} (hl : l.Pairwise (· < ·)) (hp : ns.Perm (l ++ [d])) (hs : ns.Pairwise (· ≤ ·)) : ns = insD d l :=
  List.Perm.eq_of_pairwise (le := (· ≤ ·)) (fun a b _ _ h1 h2 => by omega) hs (insD_sorted d l (hl.imp fun h => by omega)) (hp.trans (List.perm_append_singleton d l |>.trans (insD_perm d l).symm))
theorem insD_low {d : Int} {k : List Int} (h : ∀ x ∈ k, d < x) : insD d k = d :: k := by
  cases k with
  | nil => rfl
  | cons a k =>
    unfold insD
    rw [if_pos (by have := h a List.mem_cons_self; omega)]
theorem insD_mem : ∀ {l : List Int} {t : Nat} {k : List Int} {d : Int}, l.Pairwise (· < ·) → k ∈ subl l t → d ∈ l → d ∉ k → insD d k ∈ subl l (t + 1)
  | [], _, _, _, _, _, h, _ => by cases h
  | a :: l, 0, k, d, hl, hk, hd, _ => by
    have hl' := List.pairwise_cons.mp hl
    rw [subl_zero] at hk
    have : k = [] := by simpa using hk
    subst this
    show [d] ∈ (subl l 0).map (a :: ·) ++ subl l 1
    rcases List.mem_cons.mp hd with rfl | hd
    · exact List.mem_append_left _ (by rw [subl_zero]; simp)
    · exact List.mem_append_right _ (insD_mem (t := 0) (k := []) hl'.2 (by rw [subl_zero]; simp) hd (by simp))
  | a :: l, t + 1, k, d, hl, hk, hd, hn => by
    have hl' := List.pairwise_cons.mp hl
    show insD d k ∈ (subl l (t + 1)).map (a :: ·) ++ subl l (t + 2)
    rcases List.mem_append.mp (show k ∈ (subl l t).map (a :: ·) ++ subl l (t + 1) from hk) with h | h
    · obtain ⟨k', hk', rfl⟩ := List.mem_map.mp h
      have hda : d ≠ a := fun z => hn (by rw [z]; exact List.mem_cons_self)
      have hd : d ∈ l := (List.mem_cons.mp hd).resolve_left hda
      have hlt := hl'.1 d hd
      refine List.mem_append_left _ (List.mem_map.mpr ⟨insD d k', insD_mem hl'.2 hk' hd (fun z => hn (List.mem_cons_of_mem _ z)), ?_⟩)
      show _ = insD d (a :: k')
      unfold insD
      rw [if_neg (by omega)]
      cases k' <;> rfl
    · rcases List.mem_cons.mp hd with rfl | hd
      · rw [insD_low fun x hx => hl'.1 x ((subl_mem h).2 x hx)]
        exact List.mem_append_left _ (List.mem_map.mpr ⟨k, h, rfl⟩)
      · exact List.mem_append_right _ (insD_mem hl'.2 h hd hn)
/-- each set from each of its days -/
theorem subl_double : ∀ (l : List Int) (t : Nat) (F : List Int → Int), l.Pairwise (· < ·) → ((subl l t).map fun k => (l.map fun d => if d ∈ k then 0 else F (insD d k)).sum).sum = ((t : Int) + 1) * ((subl l (t + 1)).map F).sum
  | [], 0, F, _ => by simp [subl]
  | [], t + 1, F, _ => by simp [subl]
  | a :: l, 0, F, h => by
    have h' := List.pairwise_cons.mp h
    have ih := subl_double l 0 F h'.2
    rw [subl_zero] at ih
    rw [subl_zero]
    show _ = _ * ((((subl l 0).map (a :: ·)) ++ subl l 1).map F).sum
    rw [lsum_append, subl_zero]
    simp only [List.map_cons, List.map_nil, List.sum_cons, List.sum_nil, List.not_mem_nil, if_false, insD, Nat.zero_add] at ih ⊢
    simp at ih ⊢
    omega
  | a :: l, t + 1, F, h => by
    have h' := List.pairwise_cons.mp h
    have i1 := subl_double l t (fun k => F (a :: k)) h'.2
    have i2 := subl_double l (t + 1) F h'.2
    show ((((subl l t).map (a :: ·)) ++ subl l (t + 1)).map _).sum = _ * ((((subl l (t + 1)).map (a :: ·)) ++ subl l (t + 2)).map F).sum
    rw [lsum_append, lsum_append, List.map_map, List.map_map]
    have e1 : ((subl l t).map ((fun k => ((a :: l).map fun d => if d ∈ k then 0 else F (insD d k)).sum) ∘ (a :: ·))).sum = ((subl l t).map fun k => (l.map fun d => if d ∈ k then 0 else F (a :: insD d k)).sum).sum := by
      refine lsum_congr fun k _ => ?_
      show ((a :: l).map fun d => if d ∈ a :: k then 0 else F (insD d (a :: k))).sum = _
      rw [List.map_cons, List.sum_cons, if_pos List.mem_cons_self, Int.zero_add]
      refine lsum_congr fun d hd => ?_
      have hlt := h'.1 d hd
      have e : insD d (a :: k) = a :: insD d k := by
        show (if d ≤ a then d :: a :: k else a :: insD d k) = _
        rw [if_neg (by omega)]
      rw [e]
      by_cases hk : d ∈ k
      · rw [if_pos hk, if_pos (List.mem_cons_of_mem _ hk)]
      · rw [if_neg hk, if_neg (fun z => by rcases List.mem_cons.mp z with z | z; omega; exact hk z)]
    have e2 : ((subl l (t + 1)).map fun k => ((a :: l).map fun d => if d ∈ k then 0 else F (insD d k)).sum).sum = ((subl l (t + 1)).map fun k => F (a :: k)).sum + ((subl l (t + 1)).map fun k => (l.map fun d => if d ∈ k then 0 else F (insD d k)).sum).sum := by
      rw [← lsum_add]
      refine lsum_congr fun k hk => ?_
      have hlo : ∀ x ∈ k, a < x := fun x hx => h'.1 x ((subl_mem hk).2 x hx)
      rw [List.map_cons, List.sum_cons, if_neg (fun z => by have := hlo a z; omega), insD_low hlo]
    rw [e1, e2, i1, i2]
    show _ = _ * (((subl l (t + 1)).map fun k => F (a :: k)).sum + _)
    generalize ((subl l (t + 1)).map fun k => F (a :: k)).sum = X
    generalize ((subl l (t + 1 + 1)).map F).sum = Y
    push_cast
    grind
def wpr (w : Int → Int) (k : List Int) : Int := k.foldr (fun d z => w d * z) 1
theorem wpr_ins (w : Int → Int) (d : Int) : ∀ k, wpr w (insD d k) = w d * wpr w k
  | [] => rfl
  | a :: k => by
    unfold insD
    split
    · rfl
    · show w a * wpr w (insD d k) = w d * (w a * wpr w k)
      rw [wpr_ins w d k, ← Int.mul_assoc, ← Int.mul_assoc, Int.mul_comm (w a)]
theorem subl_es (w : Int → Int) : ∀ (l : List Int) (t : Nat), ((subl l t).map (wpr w)).sum = esI (l.map w) t
  | l, 0 => by rw [subl_zero, esI_zero]; rfl
  | [], t + 1 => rfl
  | a :: l, t + 1 => by
    show ((((subl l t).map (a :: ·)) ++ subl l (t + 1)).map (wpr w)).sum = esI (l.map w) (t + 1) + w a * esI (l.map w) t
    rw [lsum_append, List.map_map, subl_es w l (t + 1), ← subl_es w l t, ← lsum_mul, Int.add_comm]
    rfl
def days (n : Nat) : List Int := (List.range n).map fun (d : Nat) => (d : Int)
theorem days_lt (n : Nat) : (days n).Pairwise (· < ·) := by
  unfold days
  rw [List.pairwise_map]
  exact List.pairwise_lt_range.imp fun h => by omega
theorem days_mem {n : Nat} {d : Int} : d ∈ days n ↔ 0 ≤ d ∧ d < n := by
  unfold days
  rw [List.mem_map]
  constructor
  · rintro ⟨k, hk, rfl⟩
    have := List.mem_range.mp hk
    omega
  · intro h
    exact ⟨d.toNat, List.mem_range.mpr (by omega), by omega⟩
theorem days_len (n : Nat) : (days n).length = n := by simp [days]
def wAt (ys : List Int) (d : Int) : Int := ys.getD d.toNat 0
theorem days_w (ys : List Int) : (days ys.length).map (wAt ys) = ys := by
  refine List.ext_getElem? fun i => ?_
  unfold days
  rw [List.map_map, List.getElem?_map]
  by_cases h : i < ys.length
  · rw [List.getElem?_range h, List.getElem?_eq_getElem h]
    show some (ys.getD (((i : Nat) : Int).toNat) 0) = _
    rw [Int.toNat_natCast, List.getD_eq_getElem?_getD, List.getElem?_eq_getElem h]
    rfl
  · rw [List.getElem?_eq_none (by simpa using h), List.getElem?_eq_none (by simpa using h)]
    rfl
abbrev Tab := List (List Int × Int)
/-- the table after so many things -/
structure Kn (ys : List Int) (t : Nat) (tb : Tab) : Prop where
  nd : (tb.map (·.1)).Nodup
  ks : ∀ k ∈ tb.map (·.1), k ∈ subl (days ys.length) t
  nn : ∀ e ∈ tb, 0 ≤ e.2
  su : ∀ f : List Int → Int, tS tb f = ((fac t : Nat) : Int) * ((subl (days ys.length) t).map fun k => wpr (wAt ys) k * f k).sum
/-- while the next one is filled: some keys done, of one more key some days -/
def stp (ys : List Int) (f : List Int → Int) (k : List Int) (n : Nat) : Int := ((days n).map fun d => if d ∈ k then 0 else wAt ys d * f (insD d k)).sum
structure Fi (ys : List Int) (t : Nat) (kn : Tab) (done : List (List Int)) (tb : Tab) : Prop where
  nd : (tb.map (·.1)).Nodup
  ks : ∀ k ∈ tb.map (·.1), k ∈ subl (days ys.length) (t + 1)
  nn : ∀ e ∈ tb, 0 ≤ e.2
  su : ∀ f : List Int → Int, tS tb f = (done.map fun k => (getT kn k).getD 0 * stp ys f k ys.length).sum
structure Fj (ys : List Int) (t : Nat) (kn : Tab) (done : List (List Int)) (k : List Int) (n : Nat) (tb : Tab) : Prop where
  nd : (tb.map (·.1)).Nodup
  ks : ∀ k ∈ tb.map (·.1), k ∈ subl (days ys.length) (t + 1)
  nn : ∀ e ∈ tb, 0 ≤ e.2
  su : ∀ f : List Int → Int, tS tb f = (done.map fun k => (getT kn k).getD 0 * stp ys f k ys.length).sum + (getT kn k).getD 0 * stp ys f k n
theorem Kn.zero (ys : List Int) : Kn ys 0 [([], 1)] := ⟨by simp, by simp [subl_zero], by simp, fun f => by simp [tS, subl_zero, wpr, fac]⟩
theorem Fi.zero (ys : List Int) (t : Nat) (kn : Tab) : Fi ys t kn [] [] := ⟨by simp, by simp, by simp, fun f => by simp [tS]⟩
theorem stp_succ (ys : List Int) (f : List Int → Int) (k : List Int) (n : Nat) : stp ys f k (n + 1) = stp ys f k n + if (n : Int) ∈ k then 0 else wAt ys n * f (insD n k) := by
  unfold stp days
  rw [List.range_succ, List.map_append, lsum_append]
  simp
theorem Fj.add {ys : List Int} {t : Nat} {kn tb : Tab} {done : List (List Int)} {k : List Int} {n : Nat} (hw : ∀ y ∈ ys, 0 ≤ y) (hn : n < ys.length) (hk : (n : Int) ∉ k) (hs : k ∈ subl (days ys.length) t) (hv : 0 ≤ (getT kn k).getD 0) (h : Fj ys t kn done k n tb) : Fj ys t kn done k (n + 1) (addV tb (insD n k) ((getT kn k).getD 0 * wAt ys n)) := by
  have hd : (n : Int) ∈ days ys.length := days_mem.mpr (by omega)
  have hw0 : 0 ≤ wAt ys n := by
    unfold wAt
    rw [List.getD_eq_getElem?_getD, Int.toNat_natCast, List.getElem?_eq_getElem hn]
    exact hw _ (List.getElem_mem hn)
  refine ⟨addV_nodup h.nd _ _, fun x hx => ?_, addV_nonneg (Int.mul_nonneg hv hw0) h.nd h.nn, fun f => ?_⟩
  · rcases addV_key hx with rfl | hx
    · exact insD_mem (days_lt _) hs hd hk
    · exact h.ks x hx
  · rw [tS_put _ _ _ h.nd, h.su f, stp_succ, if_neg hk]
    generalize (getT kn k).getD 0 = v
    grind
theorem Fi.kn {ys : List Int} {t : Nat} {kn tb : Tab} {l : List (List Int)} (hk : Kn ys t kn) (hl : l.Perm (kn.map (·.1))) (h : Fi ys t kn l tb) : Kn ys (t + 1) tb := by
  refine ⟨h.nd, h.ks, h.nn, fun f => ?_⟩
  rw [h.su f, lsum_perm _ hl, tS_keys (fun k => stp ys f k ys.length) hk.nd, hk.su]
  have e : ((subl (days ys.length) t).map fun k => wpr (wAt ys) k * stp ys f k ys.length).sum = ((subl (days ys.length) t).map fun k => ((days ys.length).map fun d => if d ∈ k then 0 else wpr (wAt ys) (insD d k) * f (insD d k)).sum).sum := by
    refine lsum_congr fun k _ => ?_
    unfold stp
    rw [← lsum_mul]
    refine lsum_congr fun d _ => ?_
    by_cases hd : d ∈ k
    · rw [if_pos hd, if_pos hd, Int.mul_zero]
    · rw [if_neg hd, if_neg hd, wpr_ins]
      grind
  rw [e, subl_double _ t (fun k => wpr (wAt ys) k * f k) (days_lt _)]
  show _ = (((t + 1) * fac t : Nat) : Int) * _
  push_cast
  grind
theorem Kn.total {ys : List Int} {t : Nat} {tb : Tab} (h : Kn ys t tb) : tS tb (fun _ => 1) = ((fac t : Nat) : Int) * esI ys t := by
  rw [h.su]
  have : ((subl (days ys.length) t).map fun k => wpr (wAt ys) k * 1).sum = esI ys t := by
    simp only [Int.mul_one]
    have := subl_es (wAt ys) (days ys.length) t
    rw [days_w] at this
    exact this
  rw [this]
theorem Kn.len {ys : List Int} {t : Nat} {tb : Tab} (hl : ys.length ≤ 8) (h : Kn ys t tb) : tb.length ≤ 256 := by
  have h1 := nodup_sub h.nd h.ks
  have h2 := subl_len (days ys.length) t
  rw [List.length_map] at h1
  rw [days_len] at h2
  have : 2 ^ ys.length ≤ 2 ^ 8 := Nat.pow_le_pow_right (by decide) hl
  omega
theorem Fj.len {ys : List Int} {t : Nat} {kn tb : Tab} {done : List (List Int)} {k : List Int} {n : Nat} (hl : ys.length ≤ 8) (h : Fj ys t kn done k n tb) : tb.length ≤ 256 := by
  have h1 := nodup_sub h.nd h.ks
  have h2 := subl_len (days ys.length) (t + 1)
  rw [List.length_map] at h1
  rw [days_len] at h2
  have : 2 ^ ys.length ≤ 2 ^ 8 := Nat.pow_le_pow_right (by decide) hl
  omega
end
end Pg

namespace Pg
open PySem PySem.Spec PyProof.Rows L2 Sd
section
variable {P : Program} {w : World} {K : PySem.W.Frag} {mg : Str → Option Value} {base : Heap} {c : Cl}
theorem sum_step (g : Nat → Int) (l : List Int) (n : Nat) : ∀ m : Nat, ((List.range m).map fun i : Nat => g ((l ++ [(n : Int)]).count (i : Int))).sum = ((List.range m).map fun i : Nat => g (l.count (i : Int))).sum + (if n < m then g (l.count (n : Int) + 1) - g (l.count (n : Int)) else 0)
  | 0 => by simp
  | m + 1 => by
    rw [List.range_succ, List.map_append, List.map_append, List.sum_append, List.sum_append, sum_step g l n m]
    simp only [List.map_cons, List.map_nil, List.sum_cons, List.sum_nil, Int.add_zero]
    have ec : (l ++ [(n : Int)]).count (m : Int) = l.count (m : Int) + (if n = m then 1 else 0) := by
      rw [List.count_append, List.count_singleton]
      by_cases h : n = m
      · subst h; simp
      · have : ¬ (n : Int) = (m : Int) := by omega
        simp [h, this]
    rw [ec]
    by_cases h1 : n < m
    · have h2 : ¬ n = m := by omega
      have h3 : n < m + 1 := by omega
      simp only [h1, h2, h3, if_true, if_false, Nat.add_zero]
      omega
    · by_cases h2 : n = m
      · subst h2
        have h3 : n < n + 1 := by omega
        simp only [h1, h3, if_true, if_false]
        omega
      · have h3 : ¬ n < m + 1 := by omega
        simp only [h1, h2, h3, if_false, Nat.add_zero]
        omega
theorem rng_zero (m : Nat) : ((List.range m).map fun j : Nat => (0 : Int)).sum = 0 := by
  induction m with
  | zero => rfl
  | succ m ih => rw [List.range_succ, List.map_append, List.sum_append, ih]; rfl
def pf (ls : List Int) (i : Nat) : Int := ((List.range i).map fun k : Nat => ((ls.take k).count (ls.getD k 0) : Int)).sum
theorem cnts_sumI {ys ls : List Int} (hd : ∀ d ∈ ls, 0 ≤ d ∧ d < (ys.length : Int)) : ∀ i, i ≤ ls.length → ((List.range ys.length).map fun j : Nat => (fun c : Nat => (c : Int)) ((ls.take i).count (j : Int))).sum = i
  | 0, _ => by
    simpa using rng_zero ys.length
  | i + 1, hi => by
    have hlt : i < ls.length := by omega
    obtain ⟨h0, h1⟩ := hd ls[i] (List.getElem_mem _)
    have e : ls.take (i + 1) = ls.take i ++ [((ls[i].toNat : Nat) : Int)] := by
      rw [List.take_add_one, List.getElem?_eq_getElem hlt, Int.toNat_of_nonneg h0]
      rfl
    have st := sum_step (fun c : Nat => (c : Int)) (ls.take i) ls[i].toNat ys.length
    rw [if_pos (by omega), cnts_sumI hd i (by omega)] at st
    rw [e]
    refine st.trans ?_
    push_cast
    omega
theorem cnts_sum {ys ls : List Int} (hd : ∀ d ∈ ls, 0 ≤ d ∧ d < (ys.length : Int)) : (cnts ys ls).sum = ls.length := by
  have h := cnts_sumI hd ls.length (Nat.le_refl _)
  rw [List.take_length] at h
  have e : ((cnts ys ls).sum : Int) = ((List.range ys.length).map fun j : Nat => (fun c : Nat => (c : Int)) (ls.count (j : Int))).sum := by
    unfold cnts
    generalize List.range ys.length = r
    induction r with
    | nil => rfl
    | cons a r ih => simp only [List.map_cons, List.sum_cons]; push_cast; rw [ih]
  rw [h] at e
  exact_mod_cast e
theorem srtU_rng {ys ls : List Int} (hd : ∀ d ∈ ls, 0 ≤ d ∧ d < (ys.length : Int)) : srtU ls = ((List.range ys.length).filter fun i : Nat => decide (0 < ls.count (i : Int))).map fun i : Nat => (i : Int) := by
  refine pw_ext (srtU_pw ls) ?_ fun k => ?_
  · rw [List.pairwise_map]
    refine List.Pairwise.imp (fun {a b} h => ?_) (List.Pairwise.filter _ List.pairwise_lt_range)
    omega
  · rw [srtU_mem, List.mem_map]
    constructor
    · intro hk
      obtain ⟨h0, h1⟩ := hd k hk
      refine ⟨k.toNat, ?_, Int.toNat_of_nonneg h0⟩
      rw [List.mem_filter, List.mem_range, Int.toNat_of_nonneg h0, decide_eq_true_eq]
      exact ⟨by omega, List.count_pos_iff.mpr hk⟩
    · rintro ⟨i, hi, rfl⟩
      rw [List.mem_filter, decide_eq_true_eq] at hi
      exact List.count_pos_iff.mp hi.2
theorem zip_rng (ys : List Int) (f : Nat → Nat) : ys.zip ((List.range ys.length).map f) = (List.range ys.length).map fun i => (ys.getD i 0, f i) := by
  refine List.ext_getElem (by simp) fun i h1 h2 => ?_
  have : i < ys.length := by simpa using h2
  simp [List.getD_eq_getElem?_getD, List.getElem?_eq_getElem this]
theorem nxS_used {ys ls : List Int} (hd : ∀ d ∈ ls, 0 ≤ d ∧ d < (ys.length : Int)) : nxS ys ls = usedW ys (cnts ys ls) := by
  unfold nxS usedW cnts
  rw [srtU_rng hd, zip_rng, List.map_map, List.map_map]
  generalize List.range ys.length = r
  induction r with
  | nil => rfl
  | cons a r ih =>
    rw [List.filter_cons]
    by_cases h : 0 < ls.count (a : Int)
    · rw [if_pos (by simpa using h)]
      rw [List.map_cons, List.sum_cons, ih, List.map_cons, List.sum_cons]
      simp only [Function.comp, if_pos h, Int.toNat_natCast]
    · rw [if_neg (by simpa using h)]
      rw [ih, List.map_cons, List.sum_cons]
      simp only [Function.comp, if_neg h]
      omega
end
end Pg

namespace Pg
open PySem PySem.Spec PyProof.Rows L2 Sd
section
variable {P : Program} {w : World} {K : PySem.W.Frag} {mg : Str → Option Value} {base : Heap} {c : Cl}
/-! ways with at most c things on a day -/
end
end Pg

namespace Pg
open PySem PySem.Spec PyProof.Rows L2 Sd
section
variable {P : Program} {w : World} {K : PySem.W.Frag} {mg : Str → Option Value} {base : Heap} {c : Cl}
/-! Gf by the last day; in any order -/
end
end Pg

namespace Pg
open PySem PySem.Spec PyProof.Rows L2 Sd
section
variable {P : Program} {w : World} {K : PySem.W.Frag} {mg : Str → Option Value} {base : Heap} {c : Cl}
/-! ways that use k days -/
end
end Pg

namespace Pg
open PySem PySem.Spec PyProof.Rows L2 Sd
section
variable {P : Program} {w : World} {K : PySem.W.Frag} {mg : Str → Option Value} {base : Heap} {c : Cl}
def pre_plus : Pr := fun ss own post => ∃ (p q : Rat) (m n : Nat), ss = [.d (fr p), .d (fr q)] ∧ own = [] ∧ Sq m p ∧ Sq n q ∧ m + n ≤ 8990 ∧ post = fun o => o = .ret (.d (fr (p + q))) []
theorem fn_plus (T : Tx K mg c) : Fn K mg P w base "plus" ["one", "other"] 3 pre_plus := T.d_plus.fn fun f fd F => okG (k := 2) F sc_plus (by rintro ss own post ⟨p, q, m, n, rfl, _⟩; rfl) (by
  rintro ss own post ⟨p, q, m, n, rfl, rfl, hp, hq, hmn, rfl⟩ cdv A outer s H E B g
  refine sds_one (sd_retD (es_call (fn_lowest T) g (by decide) (ea_cons (ed_add (ed_mul (ed_ixT (ed_v 0) ed_int rfl) (ed_ixT (ed_v 1) ed_int rfl) (cmul_of hp.num hq.den (by omega))) (ed_mul (ed_ixT (ed_v 1) ed_int rfl) (ed_ixT (ed_v 0) ed_int rfl) (cmul_of hq.num hp.den (by omega))))
    (ea_cons (ed_mul (ed_ixT (ed_v 0) ed_int rfl) (ed_ixT (ed_v 1) ed_int rfl) (cmul_of hp.den hq.den (by omega))) ea_nil)) ⟨_, _, rfl, rfl, Int.mul_pos (den_pos p) (den_pos q), (hp.den.mul hq.den).mono (by omega), rfl⟩) ?_)
  rw [plus_eq])
end
end Pg

namespace Pg
open PySem PySem.Spec PyProof.Rows L2 Sd
section
variable {P : Program} {w : World} {K : PySem.W.Frag} {mg : Str → Option Value} {base : Heap} {c : Cl}
def musd (ys : List Int) (n : Nat) (l : List Int) : Rat := (l.map fun y => 1 - (((ys.sum - y) ^ n : Int) : Rat) / ((ys.sum ^ n : Int) : Rat)).sum
def pre_mean_used : Pr := fun ss own post => ∃ (ys : List Int) (n : Nat), ss = [.d (li ys), .d (.int (n : Int))] ∧ own = [] ∧ Yr ys ∧ n ≤ 12 ∧ post = fun o => o = .ret (.d (fr (musd ys n ys))) []
theorem musd_take {ys : List Int} {n i : Nat} {y : Int} (h : ys[i]? = some y) : musd ys n (ys.take (i + 1)) = musd ys n (ys.take i) + (1 - (((ys.sum - y) ^ n : Int) : Rat) / ((ys.sum ^ n : Int) : Rat)) := by
  unfold musd
  rw [List.take_add_one, h, List.map_append, List.sum_append]
  simp only [Option.toList_some, List.map_cons, List.map_nil, List.sum_cons, List.sum_nil, Rat.add_zero]
theorem fn_mean_used (T : Tx K mg c) : Fn K mg P w base "mean_used" ["year", "many"] 4 pre_mean_used := T.d_mean_used.fn fun f fd F => okG (k := 3) F sc_mean_used (by rintro ss own post ⟨ys, n, rfl, _⟩; rfl) (by
  rintro ss own post ⟨ys, n, rfl, rfl, hY, hn, rfl⟩ cdv A outer s H E B g
  have hl := hY.hi
  refine sds_cons (sd_expr (es_call (fn_check_year T) g (by decide) (ea_cons (ed_v 0) ea_nil) (ok_year hY)) ?_)
  refine sds_cons (sd_expr (es_call (fn_check_many T) g (by decide) (ea_cons (ed_v 1) ea_nil) (ok_many ⟨by omega, by omega⟩)) ?_)
  refine sds_cons (sd_par 2 3 g (ea_cons (ed_k2 (i := 0) (i' := 1)) (ea_cons (ed_sum g T.n_sum (ed_v 0) .d) ea_nil)) ?_)
  refine sds_cons (sd_for g (it_list (ed_v 0)) (fun i ρ own => own = [] ∧ Sq (200 * i + 1) (musd ys n (ys.take i)) ∧ ∃ t, ρ = [.d (li ys), .d (.int (n : Int)), .d (fr (musd ys n (ys.take i))), .d (.int ys.sum), t]) ⟨rfl, .zero, _, rfl⟩ (fun _ _ _ _ => trivial) ?_ ?_)
  · rintro i y ρ1 own1 hy ⟨rfl, hs, t, rfl⟩
    rw [List.getElem?_map] at hy
    cases ea : ys[i]? with
    | none => rw [ea] at hy; cases hy
    | some y' =>
      rw [ea] at hy
      cases hy
      have hm : y' ∈ ys := List.mem_of_getElem? ea
      have hi := (List.getElem?_eq_some_iff.mp ea).1
      have h1 : Sz 97 ((ys.sum - y') ^ n) := ((hY.szD hm).pow n).mono (by omega)
      have h2 : Sz 97 (ys.sum ^ n) := (hY.szW.pow n).mono (by omega)
      have h3 : Sq 97 ((((ys.sum - y') ^ n : Int) : Rat) / ((ys.sum ^ n : Int) : Rat)) := Sq.of_div (hY.posP n) h1 h2
      have h4 := Sq.one.sub h3
      refine ⟨_, _, gt_name 4 g.nd, sds_one (sd_set 2 g.nd (es_call (fn_plus T) g (by decide) (ea_cons (ed_v 2) (ea_cons (es_call (fn_minus T) g (by decide) (ea_cons (ed_k2 (i := 1) (i' := 1)) (ea_cons (es_call (fn_lowest T) g (by decide) (ea_cons (es_call (fn_power T) g (by decide) (ea_cons (ed_sub (ed_v 3) (ed_v 4)) (ea_cons (ed_v 1) ea_nil)) ⟨_, n, 8, rfl, rfl, hY.szD hm, by omega, by decide, rfl⟩)
        (ea_cons (es_call (fn_power T) g (by decide) (ea_cons (ed_v 3) (ea_cons (ed_v 1) ea_nil)) ⟨_, n, 8, rfl, rfl, hY.szW, by omega, by decide, rfl⟩) ea_nil)) ⟨_, _, rfl, rfl, hY.posP n, h2.mono (by decide), rfl⟩) ea_nil)) ⟨1, _, 1, 97, rfl, rfl, .one, h3, by decide, rfl⟩) ea_nil)) ⟨_, _, _, _, rfl, rfl, hs, h4, by omega, rfl⟩) ?_)⟩
      refine ⟨rfl, ?_, .d (.int y'), ?_⟩
      · rw [musd_take ea]
        exact (hs.add h4).mono (by omega)
      · rw [musd_take ea]
        rfl
  · rintro ρ1 own1 ⟨rfl, hs, t, rfl⟩
    refine sds_one (sd_retD (ed_v 2) ?_)
    rw [List.length_map, List.take_length])
end
end Pg

namespace Pg
open PySem PySem.Spec PyProof.Rows L2 Sd
section
variable {P : Program} {w : World} {K : PySem.W.Frag} {mg : Str → Option Value} {base : Heap} {c : Cl}
def ndaS (ys : List Int) (n : Nat) (l : List Int) : Rat := (l.map fun y => ((y * (ys.sum - y) ^ (n - 1) : Int) : Rat) / ((ys.sum ^ n : Int) : Rat)).sum
def nda (ys : List Int) (n : Nat) : Rat := if n = 0 then 0 else ndaS ys n ys
theorem nda_take {ys : List Int} {n i : Nat} {y : Int} (h : ys[i]? = some y) : ndaS ys n (ys.take (i + 1)) = ndaS ys n (ys.take i) + ((y * (ys.sum - y) ^ (n - 1) : Int) : Rat) / ((ys.sum ^ n : Int) : Rat) := by
  unfold ndaS
  rw [List.take_add_one, h, List.map_append, List.sum_append]
  simp only [Option.toList_some, List.map_cons, List.map_nil, List.sum_cons, List.sum_nil, Rat.add_zero]
def pre_new_day_at : Pr := fun ss own post => ∃ (ys : List Int) (n : Nat), ss = [.d (li ys), .d (.int (n : Int))] ∧ own = [] ∧ Yr ys ∧ n ≤ 12 ∧ post = fun o => o = .ret (.d (fr (nda ys n))) []
theorem nda_term {ys : List Int} (hY : Yr ys) {n : Nat} (hn : n ≤ 12) {y : Int} (hm : y ∈ ys) : Sq 110 (((y * (ys.sum - y) ^ (n - 1) : Int) : Rat) / ((ys.sum ^ n : Int) : Rat)) :=
  Sq.of_div (hY.posP n) (((hY.szy hm).mul ((hY.szD hm).pow (n - 1))).mono (by omega)) ((hY.szW.pow n).mono (by omega))
theorem nda_sqI {ys : List Int} (hY : Yr ys) {n : Nat} (hn : n ≤ 12) : ∀ i, i ≤ ys.length → Sq (200 * i + 1) (ndaS ys n (ys.take i))
  | 0, _ => .zero
  | i + 1, hi => by
    have hlt : i < ys.length := by omega
    rw [nda_take (List.getElem?_eq_getElem hlt)]
    exact ((nda_sqI hY hn i (by omega)).add (nda_term hY hn (List.getElem_mem hlt))).mono (by omega)
theorem nda_sq {ys : List Int} (hY : Yr ys) {n : Nat} (hn : n ≤ 12) : Sq 1601 (nda ys n) := by
  unfold nda
  split
  · exact Sq.zero.mono (by decide)
  · have h := nda_sqI hY hn ys.length (Nat.le_refl _)
    rw [List.take_length] at h
    have := hY.hi
    exact h.mono (by omega)
theorem fn_new_day_at (T : Tx K mg c) : Fn K mg P w base "new_day_at" ["year", "many"] 4 pre_new_day_at := T.d_new_day_at.fn fun f fd F => okG (k := 3) F sc_new_day_at (by rintro ss own post ⟨ys, n, rfl, _⟩; rfl) (by
  rintro ss own post ⟨ys, n, rfl, rfl, hY, hn, rfl⟩ cdv A outer s H E B g
  have hl := hY.hi
  refine sds_cons (sd_expr (es_call (fn_check_year T) g (by decide) (ea_cons (ed_v 0) ea_nil) (ok_year hY)) ?_)
  refine sds_cons (sd_expr (es_call (fn_check_many T) g (by decide) (ea_cons (ed_v 1) ea_nil) (ok_many ⟨by omega, by omega⟩)) ?_)
  refine sds_cons (sd_par 2 3 g (ea_cons (ed_k2 (i := 0) (i' := 1)) (ea_cons (ed_sum g T.n_sum (ed_v 0) .d) ea_nil)) ?_)
  refine sds_cons (sd_if (et_cmp c_eqI (ed_v 1) ed_int) (fun h => ?_) fun h => sds_nil ?_)
  · have h : n = 0 := by simpa using h
    refine sds_one (sd_retD (ed_v 2) ?_)
    rw [nda, if_pos h, fr_zero]
  have h0 : n ≠ 0 := by simpa using h
  refine sds_cons (sd_for g (it_list (ed_v 0)) (fun i ρ own => own = [] ∧ ∃ t, ρ = [.d (li ys), .d (.int (n : Int)), .d (fr (ndaS ys n (ys.take i))), .d (.int ys.sum), t]) ⟨rfl, _, rfl⟩ (fun _ _ _ _ => trivial) ?_ ?_)
  · rintro i y ρ1 own1 hy ⟨rfl, t, rfl⟩
    rw [List.getElem?_map] at hy
    cases ea : ys[i]? with
    | none => rw [ea] at hy; cases hy
    | some y' =>
      rw [ea] at hy
      cases hy
      have hm : y' ∈ ys := List.mem_of_getElem? ea
      have hi := (List.getElem?_eq_some_iff.mp ea).1
      have h1 : Sz 97 ((ys.sum - y') ^ (n - 1)) := ((hY.szD hm).pow (n - 1)).mono (by omega)
      have h2 : Sz 97 (ys.sum ^ n) := (hY.szW.pow n).mono (by omega)
      refine ⟨_, _, gt_name 4 g.nd, sds_one (sd_set 2 g.nd (es_call (fn_plus T) g (by decide) (ea_cons (ed_v 2) (ea_cons (es_call (fn_lowest T) g (by decide) (ea_cons (ed_mul (ed_v 4) (es_call (fn_power T) g (by decide) (ea_cons (ed_sub (ed_v 3) (ed_v 4)) (ea_cons (ES.is (y := .int ((n - 1 : Nat) : Int)) (ed_sub (ed_v 1) ed_int) (by rw [show ((n - 1 : Nat) : Int) = (n : Int) - 1 by omega])) ea_nil)) ⟨_, n - 1, 8, rfl, rfl, hY.szD hm, by omega, by decide, rfl⟩) (cmul_of (hY.szy hm) h1 (by decide)))
        (ea_cons (es_call (fn_power T) g (by decide) (ea_cons (ed_v 3) (ea_cons (ed_v 1) ea_nil)) ⟨_, n, 8, rfl, rfl, hY.szW, by omega, by decide, rfl⟩) ea_nil)) ⟨_, _, rfl, rfl, hY.posP n, h2.mono (by decide), rfl⟩) ea_nil)) ⟨_, _, _, _, rfl, rfl, nda_sqI hY hn i (by omega), nda_term hY hn hm, by omega, rfl⟩) ?_)⟩
      exact ⟨rfl, .d (.int y'), by rw [nda_take ea]; rfl⟩
  · rintro ρ1 own1 ⟨rfl, t, rfl⟩
    refine sds_one (sd_retD (ed_v 2) ?_)
    rw [List.length_map, List.take_length, nda, if_neg h0])
end
end Pg

namespace Pg
open PySem PySem.Spec PyProof.Rows L2 Sd
section
variable {P : Program} {w : World} {K : PySem.W.Frag} {mg : Str → Option Value} {base : Heap} {c : Cl}
def pre_choose : Pr := fun ss own post => ∃ n k : Nat, ss = [.d (.int (n : Int)), .d (.int (k : Int))] ∧ own = [] ∧ k ≤ n ∧ n ≤ 1000 ∧ post = fun o => o = .ret (.d (.int (bin n k : Nat))) []
theorem fn_choose (T : Tx K mg c) : Fn K mg P w base "choose" ["whole", "part"] 1 pre_choose := T.d_choose.fn fun f fd F => okG (k := 0) F sc_choose (by rintro ss own post ⟨n, k, rfl, _⟩; rfl) (by
  rintro ss own post ⟨n, k, rfl, rfl, hk, hn, rfl⟩ cdv A outer s H E B g
  refine sds_cons (sd_set 2 g.nd ed_int ?_)
  refine sds_cons (sd_for g (it_range1 T.n_range (ed_v 1) ⟨by omega, by omega⟩) (fun i ρ own => own = [] ∧ ∃ t, ρ = [.d (.int (n : Int)), .d (.int (k : Int)), .d (.int (bin n i : Nat)), t]) ⟨rfl, _, by rw [bin_zero]; rfl⟩ (fun _ _ _ _ => trivial) ?_ ?_)
  · rintro i y ρ1 own1 hy ⟨rfl, t, rfl⟩
    obtain ⟨hi, rfl⟩ := rng_get hy
    have hi : i < k := by omega
    refine ⟨_, _, gt_name 3 g.nd, sds_one (sd_set 2 g.nd (ed_fdivS (ed_mul (ed_v 2) (ed_sub (ed_v 0) (ed_v 3)) (cmul_of (a := n) (b := 64) ?_ ?_ (by omega))) (ed_add (ed_v 3) ed_int) ⟨by omega, by omega⟩) ?_)⟩
    · unfold Sz
      rw [Int.natAbs_natCast]
      exact bin_lt n i hi hk
    · unfold Sz
      omega
    · refine ⟨rfl, .d (.int (0 + (i : Int))), ?_⟩
      have e : ((bin n i : Nat) : Int) * ((n : Int) - (0 + (i : Int))) / (0 + (i : Int) + 1) = (bin n (i + 1) : Nat) := bin_step n i (by omega)
      rw [e]
      rfl
  · rintro ρ1 own1 ⟨rfl, t, rfl⟩
    rw [rng_length]
    refine sds_one (sd_retD (ed_v 2) ?_)
    show Out.ret (.d (.int (bin n (k : Int).toNat : Nat))) [] = _
    rw [Int.toNat_natCast])
end
end Pg

namespace Pg
open PySem PySem.Spec PyProof.Rows L2 Sd
section
variable {P : Program} {w : World} {K : PySem.W.Frag} {mg : Str → Option Value} {base : Heap} {c : Cl}
end
end Pg

namespace Pg
open PySem PySem.Spec PyProof.Rows L2 Sd
section
variable {P : Program} {w : World} {K : PySem.W.Frag} {mg : Str → Option Value} {base : Heap} {c : Cl}
/-! days that have some, by all falls -/
theorem nda_mus {ys : List Int} (hW : ys.sum ≠ 0) (n : Nat) : nda ys (n + 1) + musd ys n ys = musd ys (n + 1) ys := by
  have hw : (ys.sum : Rat) ≠ 0 := by exact_mod_cast hW
  have key : ∀ l : List Int, ndaS ys (n + 1) l + musd ys n l = musd ys (n + 1) l := fun l => by
    induction l with
    | nil => unfold ndaS musd; simp; grind
    | cons y l ih =>
      unfold ndaS musd at *
      simp only [List.map_cons, List.sum_cons, Nat.add_sub_cancel] at ih ⊢
      have hp : ((ys.sum ^ n : Int) : Rat) ≠ 0 := by
        rw [Rat.intCast_pow]
        exact pow_ne hw n
      have e : ((y * (ys.sum - y) ^ n : Int) : Rat) / ((ys.sum ^ (n + 1) : Int) : Rat) + (1 - (((ys.sum - y) ^ n : Int) : Rat) / ((ys.sum ^ n : Int) : Rat)) = 1 - (((ys.sum - y) ^ (n + 1) : Int) : Rat) / ((ys.sum ^ (n + 1) : Int) : Rat) := by
        rw [Int.pow_succ, Int.pow_succ]
        generalize (ys.sum - y) ^ n = A
        generalize ys.sum ^ n = B at hp ⊢
        push_cast
        grind
      grind
  unfold nda
  rw [if_neg (by omega)]
  exact key ys
end
end Pg

namespace Pg
open PySem PySem.Spec PyProof.Rows L2 Sd
section
variable {P : Program} {w : World} {K : PySem.W.Frag} {mg : Str → Option Value} {base : Heap} {c : Cl}
def pre_some_same : Pr := fun ss own post => ∃ (ys : List Int) (n : Nat), ss = [.d (li ys), .d (.int (n : Int))] ∧ own = [] ∧ Yr ys ∧ n ≤ 12 ∧ post = fun o => o = .ret (.d (fr (1 - unl ys n))) []
theorem fn_some_same (T : Tx K mg c) : Fn K mg P w base "some_same" ["year", "many"] 4 pre_some_same := T.d_some_same.fn fun f fd F => okG (k := 3) F sc_some_same (by rintro ss own post ⟨ys, n, rfl, _⟩; rfl) (by
  rintro ss own post ⟨ys, n, rfl, rfl, hY, hn, rfl⟩ cdv A outer s H E B g
  refine sds_cons (sd_expr (es_call (fn_check_year T) g (by decide) (ea_cons (ed_v 0) ea_nil) (ok_year hY)) ?_)
  refine sds_cons (sd_expr (es_call (fn_check_many T) g (by decide) (ea_cons (ed_v 1) ea_nil) (ok_many ⟨by omega, by omega⟩)) ?_)
  exact sds_one (sd_retD (es_call (fn_minus T) g (by decide) (ea_cons (ed_k2 (i := 1) (i' := 1)) (ea_cons (es_call (fn_unlike_of T) g (by decide) (ea_cons (ed_v 0) (ea_cons (ed_v 1) ea_nil)) ⟨ys, n, rfl, rfl, hY, hn, rfl⟩) ea_nil)) ⟨1, _, 1, 200, rfl, rfl, .one, unl_sq hY hn, by decide, rfl⟩) rfl))
end
end Pg

namespace Pg
open PySem PySem.Spec PyProof.Rows L2 Sd
section
variable {P : Program} {w : World} {K : PySem.W.Frag} {mg : Str → Option Value} {base : Heap} {c : Cl}
theorem fsa_sum {ys : List Int} (hY : Yr ys) : ∀ m, sumTo (fsa ys) (m + 1) = 1 - unl ys m
  | 0 => by
    show (0 : Rat) + fsa ys 0 = _
    rw [unl_zero hY]
    unfold fsa
    rw [if_pos rfl]
    grind
  | m + 1 => by
    show sumTo (fsa ys) (m + 1) + fsa ys (m + 1) = _
    rw [fsa_sum hY m]
    unfold fsa
    rw [if_neg (by omega), Nat.add_sub_cancel]
    grind
theorem Kn.step {ys : List Int} {t : Nat} {kn : Tab} (hk : Kn ys t kn) (f : List Int → Int) : tS kn (fun k => stp ys f k ys.length) = ((fac (t + 1) : Nat) : Int) * ((subl (days ys.length) (t + 1)).map fun k => wpr (wAt ys) k * f k).sum := by
  rw [hk.su]
  have e : ((subl (days ys.length) t).map fun k => wpr (wAt ys) k * stp ys f k ys.length).sum = ((subl (days ys.length) t).map fun k => ((days ys.length).map fun d => if d ∈ k then 0 else wpr (wAt ys) (insD d k) * f (insD d k)).sum).sum := by
    refine lsum_congr fun k _ => ?_
    unfold stp
    rw [← lsum_mul]
    refine lsum_congr fun d _ => ?_
    by_cases hd : d ∈ k
    · rw [if_pos hd, if_pos hd, Int.mul_zero]
    · rw [if_neg hd, if_neg hd, wpr_ins]
      grind
  rw [e, subl_double _ t (fun k => wpr (wAt ys) k * f k) (days_lt _)]
  show _ = (((t + 1) * fac t : Nat) : Int) * _
  push_cast
  grind
theorem Kn.step1 {ys : List Int} {t : Nat} {kn : Tab} (hk : Kn ys t kn) : tS kn (fun k => stp ys (fun _ => 1) k ys.length) = ((fac (t + 1) : Nat) : Int) * esI ys (t + 1) := by
  rw [hk.step, lsum_congr (g := wpr (wAt ys)) fun k _ => Int.mul_one _, subl_es, days_w]
/-- the weights of the used days -/
def uw (ys : List Int) (k : List Int) (n : Nat) : Int := sumN (fun d => if (d : Int) ∈ k then ys.getD d 0 else 0) n
theorem uw_stp (ys : List Int) (k : List Int) : ∀ n, uw ys k n + stp ys (fun _ => 1) k n = sumN (fun d => ys.getD d 0) n
  | 0 => by simp [uw, stp, sumN, days]
  | n + 1 => by
    have ih := uw_stp ys k n
    rw [stp_succ]
    unfold uw at ih ⊢
    show sumN _ n + (if (n : Int) ∈ k then ys.getD n 0 else 0) + _ = sumN _ n + ys.getD n 0
    by_cases h : (n : Int) ∈ k
    · rw [if_pos h, if_pos h]; omega
    · rw [if_neg h, if_neg h, Int.mul_one]
      unfold wAt
      rw [Int.toNat_natCast]
      omega
theorem uw_all (ys : List Int) (k : List Int) : uw ys k ys.length = ys.sum - stp ys (fun _ => 1) k ys.length := by
  have := uw_stp ys k ys.length
  rw [sumN_getD] at this
  omega
theorem getD_nn {ys : List Int} (hY : Yr ys) (d : Nat) : 0 ≤ ys.getD d 0 := by
  rw [List.getD_eq_getElem?_getD]
  cases h : ys[d]? with
  | none => exact Int.le_refl 0
  | some y =>
    have := hY.it y (List.mem_of_getElem? h)
    show 0 ≤ y
    omega
theorem uw_bd {ys : List Int} (hY : Yr ys) (k : List Int) : 0 ≤ uw ys k ys.length ∧ uw ys k ys.length ≤ ys.sum := by
  refine ⟨sumN_nonneg fun d _ => ?_, ?_⟩
  · split
    · exact getD_nn hY d
    · exact Int.le_refl 0
  · rw [← sumN_getD ys]
    refine sumN_le fun d _ => ?_
    split
    · exact Int.le_refl _
    · exact getD_nn hY d
def csK (k : List Int) (n : Nat) : List Nat := (List.range n).map fun (d : Nat) => if (d : Int) ∈ k then 1 else 0
theorem csK_len (k : List Int) (n : Nat) : (csK k n).length = n := by unfold csK; simp
theorem csK_get {k : List Int} {n d : Nat} (h : d < n) : (csK k n).getD d 0 = if (d : Int) ∈ k then 1 else 0 := by
  unfold csK
  rw [List.getD_eq_getElem?_getD, List.getElem?_map, List.getElem?_range h]
  rfl
theorem csK_sum (k : List Int) : ∀ n, (csK k n).sum ≤ n
  | 0 => Nat.le_refl 0
  | n + 1 => by
    have ih := csK_sum k n
    unfold csK at ih ⊢
    rw [List.range_succ, List.map_append, List.sum_append]
    simp only [List.map_cons, List.map_nil, List.sum_cons, List.sum_nil]
    split <;> omega
theorem csK_used (ys : List Int) (k : List Int) : usedW ys (csK k ys.length) = uw ys k ys.length := by
  rw [usedW_sumN (csK_len k ys.length)]
  refine sumN_congr fun d hd => ?_
  rw [csK_get hd]
  by_cases h : (d : Int) ∈ k
  · rw [if_pos h, if_pos h, if_pos (by decide)]
  · rw [if_neg h, if_neg h, if_neg (by decide)]
/-- fractions over a power -/
def ov (ys : List Int) (t : Nat) (z : Int) : Rat := (z : Rat) / ((ys.sum ^ t : Int) : Rat)
theorem ov_add (ys : List Int) (t : Nat) (a b : Int) : ov ys t a + ov ys t b = ov ys t (a + b) := by
  unfold ov
  rw [Rat.intCast_add]
  grind
theorem ov_mul {ys : List Int} (hW : ys.sum ≠ 0) (t : Nat) (a b : Int) : ov ys t a * ((b : Rat) / (ys.sum : Rat)) = ov ys (t + 1) (a * b) := by
  unfold ov
  have hw : (ys.sum : Rat) ≠ 0 := by exact_mod_cast hW
  have hp : ((ys.sum ^ t : Int) : Rat) ≠ 0 := by rw [Rat.intCast_pow]; exact pow_ne hw t
  rw [Int.pow_succ, Rat.intCast_mul, Rat.intCast_mul]
  generalize ((ys.sum ^ t : Int) : Rat) = X at *
  grind
theorem ov_sq {ys : List Int} (hY : Yr ys) {t : Nat} (ht : t ≤ 12) {z : Int} (hz : Sz 120 z) : Sq 120 (ov ys t z) := Sq.of_div (hY.posP t) hz ((hY.szW.pow t).mono (by omega))
theorem mulq (p q : Rat) : ((p.num * q.num : Int) : Rat) / (((p.den : Int) * (q.den : Int) : Int) : Rat) = p * q := by
  have h1 := num_eq p
  have h2 := num_eq q
  have h3 := den_ne p
  have h4 := den_ne q
  rw [Rat.intCast_mul, Rat.intCast_mul, h1, h2]
  generalize ((p.den : Int) : Rat) = a at *
  generalize ((q.den : Int) : Rat) = b at *
  grind
theorem mulI (p : Rat) (y w : Int) : ((p.num * y : Int) : Rat) / (((p.den : Int) * w : Int) : Rat) = p * ((y : Rat) / (w : Rat)) := by
  have h1 := num_eq p
  have h3 := den_ne p
  rw [Rat.intCast_mul, Rat.intCast_mul, h1]
  generalize ((p.den : Int) : Rat) = a at *
  by_cases hw : (w : Rat) = 0
  · rw [hw]; grind
  · grind
/-- what the used days tell -/
theorem hits_eq {ys : List Int} (hY : Yr ys) {t : Nat} {kn : Tab} (hk : Kn ys t kn) : ov ys (t + 1) ((kn.map fun e => e.2 * uw ys e.1 ys.length).sum) = fsa ys (t + 1) := by
  have hs := hY.sum_lo
  have e1 : (kn.map fun e => e.2 * uw ys e.1 ys.length).sum = ys.sum * (((fac t : Nat) : Int) * esI ys t) - ((fac (t + 1) : Nat) : Int) * esI ys (t + 1) := by
    rw [← hk.total, ← hk.step1]
    show _ = ys.sum * (kn.map fun e => e.2 * 1).sum - (kn.map fun e => e.2 * stp ys (fun _ => 1) e.1 ys.length).sum
    rw [← lsum_mul]
    have := lsum_add (fun e : List Int × Int => e.2 * uw ys e.1 ys.length) (fun e => e.2 * stp ys (fun _ => 1) e.1 ys.length) kn
    rw [lsum_congr (g := fun e : List Int × Int => ys.sum * (e.2 * 1)) fun e _ => by rw [uw_all]; grind] at this
    omega
  unfold fsa
  rw [if_neg (by omega), Nat.add_sub_cancel, unl_es, unl_es, e1]
  unfold ov
  have hw : (ys.sum : Rat) ≠ 0 := by exact_mod_cast (show ys.sum ≠ 0 by omega)
  have hp : ((ys.sum ^ t : Int) : Rat) ≠ 0 := by rw [Rat.intCast_pow]; exact pow_ne hw t
  rw [Int.pow_succ, Rat.intCast_sub, Rat.intCast_mul ys.sum, Rat.intCast_mul (ys.sum ^ t)]
  generalize ((ys.sum ^ t : Int) : Rat) = X at *
  generalize ((((fac t : Nat) : Int) * esI ys t : Int) : Rat) = A at *
  generalize ((((fac (t + 1) : Nat) : Int) * esI ys (t + 1) : Int) : Rat) = C at *
  grind
/-- sizes -/
theorem Kn.sz {ys : List Int} (hY : Yr ys) {t : Nat} (ht : t ≤ 8) {kn : Tab} (hk : Kn ys t kn) : 0 ≤ tS kn (fun _ => 1) ∧ tS kn (fun _ => 1) ≤ 40320 * ys.sum ^ t := by
  have hy : ∀ x ∈ ys, 0 ≤ x := fun y h => by have := hY.it y h; omega
  rw [hk.total]
  have h1 := esI_nonneg ys t hy
  have h2 := esI_le ys t hy
  have h3 : fac t ≤ 40320 := (by decide : ∀ t, t ≤ 8 → fac t ≤ 40320) t ht
  refine ⟨Int.mul_nonneg (by omega) h1, ?_⟩
  exact Int.mul_le_mul (by omega) h2 h1 (by omega)
theorem take_le {α : Type} {f : α → Int} {l : List α} (h : ∀ a ∈ l, 0 ≤ f a) (i : Nat) : 0 ≤ ((l.take i).map f).sum ∧ ((l.take i).map f).sum ≤ (l.map f).sum := by
  have h1 := lsum_nonneg (f := f) (l := l.take i) fun a ha => h a (List.mem_of_mem_take ha)
  have h2 := lsum_nonneg (f := f) (l := l.drop i) fun a ha => h a (List.mem_of_mem_drop ha)
  have h3 := lsum_append f (l.take i) (l.drop i)
  rw [List.take_append_drop] at h3
  omega
theorem lsum_le {α : Type} {f g : α → Int} : ∀ {l : List α}, (∀ a ∈ l, f a ≤ g a) → (l.map f).sum ≤ (l.map g).sum
  | [], _ => Int.le_refl _
  | a :: l, h => by
    have h1 := h a List.mem_cons_self
    have h2 := lsum_le (l := l) fun b hb => h b (List.mem_cons_of_mem _ hb)
    simp only [List.map_cons, List.sum_cons]
    omega
theorem big_sz {ys : List Int} (hY : Yr ys) {t : Nat} (ht : t ≤ 6) {z : Int} (h0 : 0 ≤ z) (h : z ≤ 40320 * ys.sum ^ t) : Sz 120 z := by
  have h1 : Sz 66 (40320 * ys.sum ^ t) := ((show Sz 16 (40320 : Int) by unfold Sz; decide).mul (hY.szW.pow t)).mono (by omega)
  unfold Sz at *
  have : 2 ^ 66 ≤ 2 ^ 120 := Nat.pow_le_pow_right (by decide) (by decide)
  omega
theorem Kn.val {ys : List Int} (hY : Yr ys) {t : Nat} (ht : t ≤ 6) {kn : Tab} (hk : Kn ys t kn) {e : List Int × Int} (he : e ∈ kn) : 0 ≤ e.2 ∧ Sz 120 e.2 := by
  have h1 := hk.nn e he
  have h2 := le_tS hk.nn he
  have h3 := hk.sz hY (by omega)
  exact ⟨h1, big_sz hY ht h1 (by omega)⟩
theorem hits_sz {ys : List Int} (hY : Yr ys) {t : Nat} (ht : t ≤ 5) {kn : Tab} (hk : Kn ys t kn) (i : Nat) : Sz 120 ((kn.take i).map fun e => e.2 * uw ys e.1 ys.length).sum := by
  have hs := hY.sum_lo
  have h1 := take_le (f := fun e : List Int × Int => e.2 * uw ys e.1 ys.length) (l := kn) (fun e he => Int.mul_nonneg (hk.nn e he) (uw_bd hY e.1).1) i
  have h2 := lsum_le (f := fun e : List Int × Int => e.2 * uw ys e.1 ys.length) (g := fun e => ys.sum * (e.2 * 1)) (l := kn) fun e he => by
    rw [Int.mul_one, Int.mul_comm ys.sum]
    exact Int.mul_le_mul_of_nonneg_left (uw_bd hY e.1).2 (hk.nn e he)
  rw [lsum_mul] at h2
  have h3 := hk.sz hY (t := t) (by omega)
  unfold tS at h3
  have h4 : ys.sum * (kn.map fun e => e.2 * 1).sum ≤ ys.sum * (40320 * ys.sum ^ t) := Int.mul_le_mul_of_nonneg_left h3.2 (by omega)
  refine big_sz hY (t := t + 1) (by omega) h1.1 ?_
  rw [Int.pow_succ]
  have : ys.sum * (40320 * ys.sum ^ t) = 40320 * (ys.sum ^ t * ys.sum) := by grind
  omega
/-- the new sets -/
abbrev Fe := (List Int × Nat) × Int
def frow (ys : List Int) (e : List Int × Int) (n : Nat) : List Fe := ((List.range n).filter fun (d : Nat) => decide ((d : Int) ∉ e.1)).map fun d => ((e.1, d), e.2 * ys.getD d 0)
theorem frow_in {ys : List Int} {e : List Int × Int} {n : Nat} (h : (n : Int) ∈ e.1) : frow ys e (n + 1) = frow ys e n := by
  unfold frow
  rw [List.range_succ, List.filter_append, List.filter_cons, if_neg (by simpa using h), List.filter_nil, List.append_nil]
theorem frow_out {ys : List Int} {e : List Int × Int} {n : Nat} (h : (n : Int) ∉ e.1) : frow ys e (n + 1) = frow ys e n ++ [((e.1, n), e.2 * ys.getD n 0)] := by
  unfold frow
  rw [List.range_succ, List.filter_append, List.filter_cons, if_pos (by simpa using h), List.filter_nil, List.map_append]
  rfl
theorem frow_len (ys : List Int) (e : List Int × Int) (n : Nat) : (frow ys e n).length ≤ n := by
  unfold frow
  rw [List.length_map]
  have := List.length_filter_le (fun d : Nat => decide ((d : Int) ∉ e.1)) (List.range n)
  rwa [List.length_range] at this
def FR (ys : List Int) (kn : Tab) : List Fe := kn.flatMap fun e => frow ys e ys.length
theorem FR_snoc (ys : List Int) {kn : Tab} {i : Nat} {e : List Int × Int} (h : kn[i]? = some e) : FR ys (kn.take (i + 1)) = FR ys (kn.take i) ++ frow ys e ys.length := by
  unfold FR
  rw [List.take_add_one, h, List.flatMap_append]
  simp
theorem FR_len (ys : List Int) : ∀ kn : Tab, (FR ys kn).length ≤ ys.length * kn.length
  | [] => by simp [FR]
  | e :: kn => by
    have h1 := FR_len ys kn
    have h2 := frow_len ys e ys.length
    unfold FR at h1 ⊢
    rw [List.flatMap_cons, List.length_append, List.length_cons, Nat.mul_succ]
    omega
theorem FR_mem {ys : List Int} {kn : Tab} {x : Fe} (h : x ∈ FR ys kn) : ∃ e ∈ kn, x.1.1 = e.1 ∧ x.1.2 < ys.length ∧ (x.1.2 : Int) ∉ x.1.1 ∧ x.2 = e.2 * ys.getD x.1.2 0 := by
  obtain ⟨e, he, hx⟩ := List.mem_flatMap.mp h
  unfold frow at hx
  obtain ⟨d, hd, rfl⟩ := List.mem_map.mp hx
  have h1 := List.mem_filter.mp hd
  exact ⟨e, he, rfl, List.mem_range.mp h1.1, by simpa using h1.2, rfl⟩
theorem frow_sum (ys : List Int) (e : List Int × Int) (f : List Int → Int) : ∀ n, ((frow ys e n).map fun x => x.2 * f (insD x.1.2 x.1.1)).sum = e.2 * stp ys f e.1 n
  | 0 => by simp [frow, stp, days]
  | n + 1 => by
    rw [stp_succ]
    by_cases h : (n : Int) ∈ e.1
    · rw [frow_in h, frow_sum ys e f n, if_pos h, Int.add_zero]
    · rw [frow_out h, lsum_append, frow_sum ys e f n, if_neg h]
      simp only [List.map_cons, List.map_nil, List.sum_cons, List.sum_nil]
      unfold wAt
      rw [Int.toNat_natCast, Int.mul_add]
      grind
theorem FR_sum (ys : List Int) (f : List Int → Int) : ∀ kn : Tab, ((FR ys kn).map fun x => x.2 * f (insD x.1.2 x.1.1)).sum = tS kn (fun k => stp ys f k ys.length)
  | [] => rfl
  | e :: kn => by
    have ih := FR_sum ys f kn
    unfold FR tS at *
    rw [List.flatMap_cons, lsum_append, frow_sum, ih, List.map_cons, List.sum_cons]
structure Kd (ys : List Int) (t : Nat) (fs : List Fe) (i : Nat) (tb : Tab) : Prop where
  nd : (tb.map (·.1)).Nodup
  ks : ∀ k ∈ tb.map (·.1), k ∈ subl (days ys.length) (t + 1)
  nn : ∀ e ∈ tb, 0 ≤ e.2
  su : ∀ f : List Int → Int, tS tb f = ((fs.take i).map fun x => x.2 * f (insD x.1.2 x.1.1)).sum
theorem Kd.zero (ys : List Int) (t : Nat) (fs : List Fe) : Kd ys t fs 0 [] := ⟨by simp, by simp, by simp, fun f => by simp [tS]⟩
theorem Kd.add {ys : List Int} {t : Nat} {fs : List Fe} {i : Nat} {tb : Tab} {x : Fe} (h : Kd ys t fs i tb) (hx : fs[i]? = some x) (hk : insD x.1.2 x.1.1 ∈ subl (days ys.length) (t + 1)) (h0 : 0 ≤ x.2) : Kd ys t fs (i + 1) (addV tb (insD x.1.2 x.1.1) x.2) := by
  refine ⟨addV_nodup h.nd _ _, fun k hk' => ?_, addV_nonneg h0 h.nd h.nn, fun f => ?_⟩
  · rcases addV_key hk' with rfl | hk'
    · exact hk
    · exact h.ks k hk'
  · rw [tS_put _ _ _ h.nd, h.su f, lsum_take _ hx]
theorem Kd.kn {ys : List Int} {t : Nat} {kn tb : Tab} (hk : Kn ys t kn) (h : Kd ys t (FR ys kn) (FR ys kn).length tb) : Kn ys (t + 1) tb := by
  refine Fi.kn hk (.refl _) ⟨h.nd, h.ks, h.nn, fun f => ?_⟩
  rw [h.su f, List.take_length, FR_sum, tS_keys (fun k => stp ys f k ys.length) hk.nd]
theorem Kn.perm {ys : List Int} {t : Nat} {tb tb' : Tab} (hp : tb'.Perm tb) (h : Kn ys t tb) : Kn ys t tb' := by
  refine ⟨(hp.map _).nodup_iff.mpr h.nd, fun k hk => h.ks k ((hp.map _).mem_iff.mp hk), fun e he => h.nn e (hp.mem_iff.mp he), fun f => ?_⟩
  rw [← h.su f]
  unfold tS
  exact lsum_perm _ hp
theorem resort {tb : Tab} (hn : (tb.map (·.1)).Nodup) {L : List (List Int)} (hL : L.Perm (tb.map (·.1))) : (L.map fun k => (k, (getT tb k).getD 0)).Perm tb := by
  refine (hL.map fun k => (k, (getT tb k).getD 0)).trans ?_
  rw [List.map_map]
  have : tb.map ((fun k => (k, (getT tb k).getD 0)) ∘ fun x => x.1) = tb.map id := List.map_congr_left fun e he => by
    show (e.1, (getT tb e.1).getD 0) = e
    rw [(getT_mem hn (k := e.1) (v := e.2)).mp he]
    rfl
  rw [this, List.map_id]
/-- dicts with other values -/
def mapV {κ α β : Type} (g : α → β) (tb : List (κ × α)) : List (κ × β) := tb.map fun e => (e.1, g e.2)
theorem mapV_get {κ α β : Type} [DecidableEq κ] (g : α → β) (k : κ) : ∀ tb : List (κ × α), getT (mapV g tb) k = (getT tb k).map g
  | [] => rfl
  | e :: tb => by
    have ih := mapV_get g k tb
    unfold mapV at ih ⊢
    by_cases h : e.1 = k
    · simp [getT, List.find?_cons, h]
    · have e1 : getT (e :: tb) k = getT tb k := by simp [getT, List.find?_cons, h]
      rw [e1, ← ih]
      simp [getT, List.find?_cons, h]
theorem mapV_put {κ α β : Type} [DecidableEq κ] (g : α → β) (k : κ) (v : α) (tb : List (κ × α)) : putT (mapV g tb) k (g v) = mapV g (putT tb k v) := by
  have ha : ((mapV g tb).any fun e => decide (e.1 = k)) = (tb.any fun e => decide (e.1 = k)) := by
    unfold mapV
    rw [List.any_map]
    rfl
  unfold putT
  rw [ha]
  split
  · unfold mapV
    rw [List.map_map, List.map_map]
    refine List.map_congr_left fun e _ => ?_
    show (if e.1 = k then (e.1, g v) else (e.1, g e.2)) = _
    show _ = ((if e.1 = k then (e.1, v) else e).1, g (if e.1 = k then (e.1, v) else e).2)
    by_cases h : e.1 = k
    · rw [if_pos h, if_pos h]
    · rw [if_neg h, if_neg h]
  · unfold mapV
    rw [List.map_append]
    rfl
theorem mapV_keys {κ α β : Type} (g : α → β) (tb : List (κ × α)) : (mapV g tb).map (·.1) = tb.map (·.1) := by
  unfold mapV
  rw [List.map_map]
  rfl
/-- new days get rarer -/
theorem nda_down {ys : List Int} (hY : Yr ys) (m : Nat) : nda ys (m + 2) ≤ nda ys (m + 1) := by
  have hs := hY.sum_lo
  unfold nda
  rw [if_neg (by omega), if_neg (by omega)]
  unfold ndaS
  have key : ∀ l : List Int, (∀ y ∈ l, 0 ≤ y ∧ y ≤ ys.sum) → (l.map fun y => ((y * (ys.sum - y) ^ (m + 2 - 1) : Int) : Rat) / ((ys.sum ^ (m + 2) : Int) : Rat)).sum ≤ (l.map fun y => ((y * (ys.sum - y) ^ (m + 1 - 1) : Int) : Rat) / ((ys.sum ^ (m + 1) : Int) : Rat)).sum := fun l => by
    induction l with
    | nil => intro _; exact Rat.le_refl
    | cons y l ih =>
      intro hl
      have h1 := ih fun z hz => hl z (List.mem_cons_of_mem _ hz)
      have hy := hl y List.mem_cons_self
      have hp := hY.posP (m + 2)
      have e : ((y * (ys.sum - y) ^ (m + 1 - 1) : Int) : Rat) / ((ys.sum ^ (m + 1) : Int) : Rat) = ((y * (ys.sum - y) ^ m * ys.sum : Int) : Rat) / ((ys.sum ^ (m + 2) : Int) : Rat) := by
        rw [Nat.add_sub_cancel]
        have hw : (ys.sum : Rat) ≠ 0 := by exact_mod_cast (show ys.sum ≠ 0 by omega)
        have hq : ((ys.sum ^ (m + 1) : Int) : Rat) ≠ 0 := by rw [Rat.intCast_pow]; exact pow_ne hw _
        rw [show ys.sum ^ (m + 2) = ys.sum ^ (m + 1) * ys.sum from Int.pow_succ _ _, Rat.intCast_mul (y * (ys.sum - y) ^ m), Rat.intCast_mul (ys.sum ^ (m + 1))]
        generalize ((ys.sum ^ (m + 1) : Int) : Rat) = X at *
        generalize ((y * (ys.sum - y) ^ m : Int) : Rat) = A at *
        grind
      have h2 : ((y * (ys.sum - y) ^ (m + 2 - 1) : Int) : Rat) / ((ys.sum ^ (m + 2) : Int) : Rat) ≤ ((y * (ys.sum - y) ^ (m + 1 - 1) : Int) : Rat) / ((ys.sum ^ (m + 1) : Int) : Rat) := by
        rw [e, show m + 2 - 1 = m + 1 by omega, Int.pow_succ, ← Int.mul_assoc]
        have h3 : y * (ys.sum - y) ^ m * (ys.sum - y) ≤ y * (ys.sum - y) ^ m * ys.sum := Int.mul_le_mul_of_nonneg_left (by omega) (Int.mul_nonneg hy.1 (Int.pow_nonneg (by omega)))
        have h4 : ((y * (ys.sum - y) ^ m * (ys.sum - y) : Int) : Rat) ≤ ((y * (ys.sum - y) ^ m * ys.sum : Int) : Rat) := by exact_mod_cast h3
        have h5 : (0 : Rat) < ((ys.sum ^ (m + 2) : Int) : Rat) := by exact_mod_cast hp
        rw [Rat.div_def, Rat.div_def]
        exact Rat.mul_le_mul_of_nonneg_right h4 (Rat.le_of_lt (Rat.inv_pos.mpr h5))
      rw [List.map_cons, List.sum_cons, List.map_cons, List.sum_cons]
      grind
  exact key ys fun y hy => ⟨by have := hY.it y hy; omega, hY.le_sum hy⟩
theorem musd_zero (ys l : List Int) : musd ys 0 l = 0 := by
  unfold musd
  induction l with
  | nil => rfl
  | cons y l ih =>
    rw [List.map_cons, List.sum_cons, ih, Int.pow_zero, Int.pow_zero]
    have : ((1 : Int) : Rat) / ((1 : Int) : Rat) = 1 := by decide +kernel
    rw [this]
    decide +kernel
theorem nda_sum {ys : List Int} (hW : ys.sum ≠ 0) : ∀ m, sumTo (nda ys) (m + 1) = musd ys m ys
  | 0 => by
    rw [musd_zero]
    show (0 : Rat) + nda ys 0 = 0
    unfold nda
    rw [if_pos rfl]
    grind
  | m + 1 => by
    show sumTo (nda ys) (m + 1) + nda ys (m + 1) = _
    rw [nda_sum hW m, ← nda_mus hW m]
    grind
end
end Pg

namespace Pg
open PySem PySem.Spec PyProof.Rows L2 Sd
section
variable {P : Program} {w : World} {K : PySem.W.Frag} {mg : Str → Option Value} {base : Heap} {c : Cl}
def pre_placed : Pr := fun ss own post => ∃ (ys : List Int) (cs : List Nat), ss = [.d (li ys), .d (li (nI cs))] ∧ own = [] ∧ Yr ys ∧ Ct ys cs ∧ post = fun o => o = .ret (.d (fr ((plcW ys cs cs.sum : Rat) / ((ys.sum ^ cs.sum : Int) : Rat)))) []
theorem fn_placed (T : Tx K mg c) : Fn K mg P w base "placed" ["year", "counts"] 4 pre_placed := T.d_placed.fn fun f fd F => okG (k := 3) F sc_placed (by rintro ss own post ⟨ys, cs, rfl, _⟩; rfl) (by
  rintro ss own post ⟨ys, cs, rfl, rfl, hY, hC, rfl⟩ cdv A outer s H E B g
  have hl := hY.hi
  have h12 := hC.sum
  have hcl := hC.len
  refine sds_cons (sd_expr (es_call (fn_check_year T) g (by decide) (ea_cons (ed_v 0) ea_nil) (ok_year hY)) ?_)
  refine sds_cons (sd_expr (es_call (fn_check_counts T) g (by decide) (ea_cons (ed_v 0) (ea_cons (ed_v 1) ea_nil)) ⟨ys, cs, rfl, rfl, hC, hY.hi, rfl⟩) ?_)
  refine sds_cons (sd_par 2 3 g (ea_cons ed_int (ea_cons (ed_sum (ns := nI cs) g T.n_sum (ed_v 1) .d) ea_nil)) ?_)
  rw [nI_sum]
  have hz : zipD ((ys).map PyData.int) ((nI cs).map PyData.int) = (ys.zip cs).map fun p => PyData.tuple [.int p.1, .int (p.2 : Nat)] := by
    rw [zipD_ints]
    unfold nI
    rw [List.zip_map_right, List.map_map]
    rfl
  refine sds_cons (sd_for g (it_zip T.n_zip (ed_v 0) (ed_v 1)) (fun i ρ own => own = [] ∧ ∃ (ways : Int) (left : Nat), Sz (120 * i + 1) ways ∧ left = (cs.drop i).sum ∧ ways * plcW (ys.drop i) (cs.drop i) left = plcW ys cs cs.sum ∧ ∃ t u, ρ = [.d (li ys), .d (li (nI cs)), .d (.int ways), .d (.int (left : Int)), t, u]) ⟨rfl, 1, cs.sum, Sz.one, rfl, by simp, _, _, rfl⟩ (fun _ _ _ _ => trivial) ?_ ?_)
  · rintro i y ρ1 own1 hy ⟨rfl, ways, left, hs, hleft, he, t, u, rfl⟩
    rw [hz, List.getElem?_map] at hy
    cases ea : (ys.zip cs)[i]? with
    | none => rw [ea] at hy; cases hy
    | some q =>
      obtain ⟨y', k⟩ := q
      rw [ea] at hy
      cases hy
      rw [List.getElem?_zip_eq_some] at ea
      have hm : y' ∈ ys := List.mem_of_getElem? ea.1
      have hi := (List.getElem?_eq_some_iff.mp ea.1).1
      have d1 : ys.drop i = y' :: ys.drop (i + 1) := by
        rw [List.drop_eq_getElem_cons hi]
        congr 1
        exact (List.getElem?_eq_some_iff.mp ea.1).2
      have hi2 := (List.getElem?_eq_some_iff.mp ea.2).1
      have d2 : cs.drop i = k :: cs.drop (i + 1) := by
        rw [List.drop_eq_getElem_cons hi2]
        congr 1
        exact (List.getElem?_eq_some_iff.mp ea.2).2
      have dsum : left = k + (cs.drop (i + 1)).sum := by rw [hleft, d2, List.sum_cons]
      have ds12 : left ≤ 12 := by
        have : (cs.take i).sum + (cs.drop i).sum = cs.sum := by rw [← List.sum_append, List.take_append_drop]
        omega
      have h1 : Sz 97 (y' ^ k) := ((hY.szy hm).pow k).mono (by omega)
      have h4 : Sz 13 (bin left k : Nat) := (bin_sz left k).mono (by omega)
      refine ⟨_, _, gt_tup g.calm (gts_cons (gt_name 4 g.nd) (gts_cons (gt_name 5 g.nd) gts_nil)) rfl, sds_cons (sd_aug 2 iop_mulW g.nd rfl (ed_mul (es_call (fn_choose T) g (by decide) (ea_cons (ed_v 3) (ea_cons (ed_v 5) ea_nil)) ⟨left, k, rfl, rfl, by omega, by omega, rfl⟩) (es_call (fn_power T) g (by decide) (ea_cons (ed_v 4) (ea_cons (ed_v 5) ea_nil)) ⟨y', k, 8, rfl, rfl, hY.szy hm, by omega, by decide, rfl⟩) (cmul_of h4 h1 (by decide))) (cmul_of hs (h4.mul h1) (by omega)) ?_)⟩
      refine sds_one (sd_aug 3 iop_subC g.nd rfl (ed_v 5) trivial ?_)
      refine ⟨rfl, ways * ((bin left k : Nat) * y' ^ k), left - k, (hs.mul (h4.mul h1)).mono (by omega), by omega, ?_, .d (.int y'), .d (.int (k : Int)), ?_⟩
      · rw [← he, d1, d2]
        show _ = ways * ((bin left k : Nat) * y' ^ k * plcW (ys.drop (i + 1)) (cs.drop (i + 1)) (left - k))
        rw [Int.mul_assoc]
      · have e : (left : Int) - (k : Int) = ((left - k : Nat) : Int) := by omega
        show [Slot.d (li ys), .d (li (nI cs)), .d (.int (ways * ((bin left k : Nat) * y' ^ k))), .d (.int ((left : Int) - (k : Int))), .d (.int y'), .d (.int (k : Int))] = _
        rw [e]
  · rintro ρ1 own1 ⟨rfl, ways, left, hs, hleft, he, t, u, rfl⟩
    have hlen : (zipD ((ys).map PyData.int) ((nI cs).map PyData.int)).length = ys.length := by
      rw [hz, List.length_map, List.length_zip, hcl]
      simp
    rw [hlen] at he
    have e1 : ys.drop ys.length = [] := List.drop_length
    rw [e1] at he
    have e2 : ways = plcW ys cs cs.sum := by
      rw [← he]
      simp [plcW]
    subst e2
    have h3 : Sz 97 (ys.sum ^ cs.sum) := (hY.szW.pow cs.sum).mono (by omega)
    refine sds_one (sd_retD (es_call (fn_lowest T) g (by decide) (ea_cons (ed_v 2) (ea_cons (es_call (fn_power T) g (by decide) (ea_cons (ed_sum g T.n_sum (ed_v 0) .d) (ea_cons (ed_sum (ns := nI cs) g T.n_sum (ed_v 1) .d) ea_nil)) ⟨_, cs.sum, 8, by rw [nI_sum], rfl, hY.szW, by omega, by decide, rfl⟩) ea_nil)) ⟨_, _, rfl, rfl, hY.posP _, h3.mono (by decide), rfl⟩) rfl))
end
end Pg

namespace Pg
open PySem PySem.Spec PyProof.Rows L2 Sd
section
variable {P : Program} {w : World} {K : PySem.W.Frag} {mg : Str → Option Value} {base : Heap} {c : Cl}
theorem mus_sq' {ys : List Int} {n : Nat} (h : Yr ys) (hn : n ≤ 12) : Sq 1700 (musd ys n ys) := by
  have key : ∀ i, i ≤ ys.length → Sq (200 * i + 1) (musd ys n (ys.take i)) := fun i => by
    induction i with
    | zero => intro _; exact .zero
    | succ i ih =>
      intro hi
      have e : ys[i]? = some ys[i] := List.getElem?_eq_getElem (by omega)
      have hm : ys[i] ∈ ys := List.getElem_mem _
      rw [musd_take e]
      have q1 : Sq 97 ((((ys.sum - ys[i]) ^ n : Int) : Rat) / ((ys.sum ^ n : Int) : Rat)) := Sq.of_div (h.posP n) (((h.szD hm).pow n).mono (by omega)) ((h.szW.pow n).mono (by omega))
      exact ((ih (by omega)).add (Sq.one.sub q1)).mono (by omega)
  have h1 := key ys.length (Nat.le_refl _)
  rw [List.take_length] at h1
  have := h.hi
  exact h1.mono (by omega)
theorem nds_sq {ys : List Int} (hY : Yr ys) {i : Nat} (hi : i ≤ 13) : Sq 1701 (sumTo (nda ys) i) := by
  have hs := hY.sum_lo
  cases i with
  | zero => exact Sq.zero.mono (by decide)
  | succ m =>
    rw [nda_sum (by omega)]
    exact (mus_sq' hY (by omega)).mono (by decide)
theorem prs_zero : ∀ cs : List Nat, prs cs = 0 ↔ ∀ c ∈ cs, c ≤ 1
  | [] => by simp [prs]
  | a :: cs => by
    have ih := prs_zero cs
    have nn : ∀ l : List Nat, 0 ≤ prs l := fun l => by
      induction l with
      | nil => exact Int.le_refl 0
      | cons b l ih =>
        show 0 ≤ (b : Int) * ((b : Int) - 1) / 2 + prs l
        have : 0 ≤ (b : Int) * ((b : Int) - 1) := by
          cases b with
          | zero => decide
          | succ b => exact Int.mul_nonneg (by omega) (by omega)
        omega
    have e : prs (a :: cs) = (a : Int) * ((a : Int) - 1) / 2 + prs cs := rfl
    have h1 := nn cs
    have h2 : (a : Int) * ((a : Int) - 1) / 2 = 0 ↔ a ≤ 1 := by
      constructor
      · intro h
        refine Nat.not_lt.mp fun h3 => ?_
        have : 2 * 1 ≤ (a : Int) * ((a : Int) - 1) := Int.mul_le_mul (by omega) (by omega) (by omega) (by omega)
        omega
      · intro h
        have : a = 0 ∨ a = 1 := by omega
        rcases this with rfl | rfl <;> rfl
    have h3 : 0 ≤ (a : Int) * ((a : Int) - 1) / 2 := by
      have : 0 ≤ (a : Int) * ((a : Int) - 1) := by
        cases a with
        | zero => decide
        | succ b => exact Int.mul_nonneg (by omega) (by omega)
      omega
    rw [e]
    constructor
    · intro h c hc
      rcases List.mem_cons.mp hc with rfl | hc
      · exact h2.mp (by omega)
      · exact ih.mp (by omega) c hc
    · intro h
      have := ih.mpr fun c hc => h c (List.mem_cons_of_mem _ hc)
      have := h2.mpr (h a List.mem_cons_self)
      omega
theorem nodup_cnt : ∀ {l : List Int}, (∀ a, l.count a ≤ 1) ↔ l.Nodup
  | [] => by simp
  | b :: l => by
    have ih := nodup_cnt (l := l)
    rw [List.nodup_cons, ← ih]
    constructor
    · intro h
      refine ⟨fun hb => ?_, fun a => ?_⟩
      · have h1 := h b
        rw [List.count_cons_self] at h1
        have := List.count_pos_iff.mpr hb
        omega
      · have h1 := h a
        rw [List.count_cons] at h1
        omega
    · rintro ⟨h1, h2⟩ a
      rw [List.count_cons]
      have := h2 a
      by_cases e : b = a
      · subst e
        have : l.count b = 0 := List.count_eq_zero.mpr h1
        simp [this]
      · simp [e]
        exact this
theorem dst_full {ns : List Int} : dst ns = ns.length ↔ ns.Nodup := by
  have hm : ∀ k, k ∈ firstMet (fun i => ns.getD i 0) ns.length ↔ k ∈ ns := fun k => by
    rw [fm_mem]
    constructor
    · rintro ⟨j, hj, rfl⟩
      rw [List.getD_eq_getElem?_getD, List.getElem?_eq_getElem hj]
      exact List.getElem_mem hj
    · intro h
      obtain ⟨j, hj, e⟩ := List.getElem_of_mem h
      exact ⟨j, hj, by rw [List.getD_eq_getElem?_getD, List.getElem?_eq_getElem hj]; exact e⟩
  have hn := fm_nodup (fun i => ns.getD i 0) ns.length
  unfold dst
  constructor
  · intro h
    rw [← nodup_cnt]
    intro a
    refine Nat.not_lt.mp fun hc => ?_
    have ha : a ∈ ns := List.count_pos_iff.mp (by omega)
    have h1 := nodup_sub (b := ns.erase a) hn fun x hx => by
      have hx := (hm x).mp hx
      by_cases e : x = a
      · subst e
        refine List.count_pos_iff.mp ?_
        rw [List.count_erase_self]
        omega
      · exact (List.mem_erase_of_ne e).mpr hx
    rw [List.length_erase_of_mem ha] at h1
    have := List.length_pos_of_mem ha
    omega
  · intro h
    have h1 := nodup_sub hn fun x hx => (hm x).mp hx
    have h2 := nodup_sub h fun x hx => (hm x).mpr hx
    omega
theorem prs_dst {ys ls : List Int} (hd : ∀ d ∈ ls, 0 ≤ d ∧ d < (ys.length : Int)) (h5 : ls.length = 5) : decide (prs (cnts ys ls) = 0) = decide (((dst ls : Nat) : Int) = 5) := by
  rw [decide_eq_decide, prs_zero]
  have e : (((dst ls : Nat) : Int) = 5) ↔ ls.Nodup := by
    rw [← dst_full, h5]
    omega
  rw [e, ← nodup_cnt]
  constructor
  · intro h a
    by_cases ha : a ∈ ls
    · have h1 := hd a ha
      have h2 := h (ls.count a) (List.mem_map.mpr ⟨a.toNat, List.mem_range.mpr (by omega), by rw [Int.toNat_of_nonneg h1.1]⟩)
      exact h2
    · rw [List.count_eq_zero.mpr ha]
      decide
  · intro h c hc
    obtain ⟨i, _, rfl⟩ := List.mem_map.mp hc
    exact h _
theorem cnts_get {ys ls : List Int} {d : Int} (hd : 0 ≤ d ∧ d < (ys.length : Int)) : (nI (cnts ys ls))[d.toNat]? = some ((ls.count d : Nat) : Int) := by
  unfold nI cnts
  rw [List.map_map, List.getElem?_map, List.getElem?_range (by omega)]
  show some (((ls.count ((d.toNat : Nat) : Int)) : Nat) : Int) = _
  rw [Int.toNat_of_nonneg hd.1]
theorem bin_pos' : ∀ {n k : Nat}, k ≤ n → 0 < bin n k
  | n, 0, _ => by rw [bin_zero]; exact Nat.one_pos
  | 0, k + 1, h => by omega
  | n + 1, k + 1, h => by
    rw [bin_succ]
    have := bin_pos' (n := n) (k := k) (by omega)
    omega
theorem plcW_pos' : ∀ {ys : List Int} {k : List Nat} {m : Nat}, (∀ y ∈ ys, 0 < y) → k.length = ys.length → k.sum ≤ m → 0 < plcW ys k m
  | [], k, m, _, h, _ => by
    have hk : k = [] := List.eq_nil_of_length_eq_zero h
    subst hk
    exact Int.one_pos
  | y :: ys, [], m, _, h, _ => by simp at h
  | y :: ys, a :: k, m, hy, h, hs => by
    rw [List.sum_cons] at hs
    have := bin_pos' (n := m) (k := a) (by omega)
    exact Int.mul_pos (Int.mul_pos (by omega) (Int.pow_pos (hy y (by simp)))) (plcW_pos' (fun z hz => hy z (by simp [hz])) (by simpa using h) (by omega))
theorem num_pos {q : Rat} (h : 0 < q) : 0 < q.num := by
  have := (lt_fr 0 q).mpr h
  simpa using this
def pre_law_fresh : Pr := fun ss own post => ∃ (d q : Addr) (cells : List Int) (cnt : Int) (ys : List Int), ss = [.raw (.ref d), .d (li ys), .d (.int (ys.length : Int))] ∧ own = drw d q cells cnt ∧ cells ≠ [] ∧ Yr ys ∧ post = fun o => ∃ own', o = .ret (.d (.bool true)) own'
theorem fn_law_fresh (T : Tx K mg c) : Fn K mg P w base "_law_fresh" ["draws", "year", "size"] 6 pre_law_fresh := T.d_law_fresh.fn fun f fd F => okG (k := 5) F sc_law_fresh (by rintro ss own post ⟨d, q, cells, cnt, ys, rfl, _⟩; rfl) (by
  rintro ss own post ⟨d, q, cells, cnt, ys, rfl, rfl, hc, hY, rfl⟩ cdv A outer s H E B g
  have hl := hY.hi
  have hlo := hY.lo
  have hsum := hY.sum_lo
  have hW : ys.sum ≠ 0 := by omega
  refine sds_cons (sd_set 3 g.nd (s := .d (fr 0)) (ed_tup (ds := [.int 0, .int 1]) (ea_cons ed_int (ea_cons ed_int ea_nil))) ?_)
  obtain ⟨ow, how⟩ : ∃ ow, ow = drw d q cells cnt := ⟨_, rfl⟩
  rw [← how]
  refine sds_cons (sd_for g (it_range1 T.n_range ed_int ⟨by decide, by decide⟩) (fun i ρ own => own = ow ∧ ∃ t4 t5, ρ = [.raw (.ref d), .d (li ys), .d (.int (ys.length : Int)), .d (fr (sumTo (nda ys) i)), t4, t5, .un, .un, .un, .un]) ⟨rfl, _, _, rfl⟩ (fun _ _ _ _ => trivial) ?_ ?_)
  · rintro m y ρ1 own1 hyy ⟨rfl, t4, t5, rfl⟩
    obtain ⟨hm, rfl⟩ := rng_get hyy
    have hm : m ≤ 12 := by
      have : m < 13 := hm
      omega
    rw [show (0 : Int) + (m : Int) = (m : Int) by omega]
    refine ⟨_, _, gt_name 4 g.nd, ?_⟩
    refine sds_cons (sd_set 5 g.nd (es_call (fn_new_day_at T) g (by decide) (ea_cons (ed_v 1) (ea_cons (ed_v 4) ea_nil)) ⟨ys, m, rfl, rfl, hY, hm, rfl⟩) ?_)
    refine sds_cons (sd_set 3 g.nd (s := .d (fr (sumTo (nda ys) (m + 1)))) (es_call (fn_law_add T) g (by decide) (ea_cons (ed_v 3) (ea_cons (ed_v 5) ea_nil)) ⟨_, _, 1701, 1601, rfl, rfl, nds_sq hY (by omega), nda_sq hY hm, by decide, rfl⟩) ?_)
    refine sds_cons (sd_ifF (ET.is (et_cmp (c_ne g .d .d (sh_fr _) (sh_fr _)) (ed_v 3) (es_call (fn_mean_used T) g (by decide) (ea_cons (ed_v 1) (ea_cons (ed_v 4) ea_nil)) ⟨ys, m, rfl, rfl, hY, hm, rfl⟩)) (by rw [eqv_fr, nda_sum hW]; simp)) ?_)
    refine sds_one (sd_ifF (ET.is (EW.et (ew_and (l := false) (et_cmp c_gt (ed_v 4) ed_int) fun h1 => ew_and1 ?_)) (by simp)) ⟨rfl, _, _, rfl⟩)
    have h1 := of_decide_eq_true h1
    obtain ⟨j, rfl⟩ : ∃ j, m = j + 2 := ⟨m - 2, by omega⟩
    exact ET.is (et_val (es_call (fn_law_less T) g (by decide) (ea_cons (es_call (fn_new_day_at T) g (by decide) (ea_cons (ed_v 1) (ea_cons (ES.is (y := .int ((j + 1 : Nat) : Int)) (ed_sub (ed_v 4) ed_int) (by congr 1; omega)) ea_nil)) ⟨ys, j + 1, rfl, rfl, hY, by omega, rfl⟩) (ea_cons (ed_v 5) ea_nil)) ⟨_, _, 1601, 1601, rfl, rfl, nda_sq hY (by omega), nda_sq hY hm, by decide, rfl⟩)) (by rw [decide_eq_false (Rat.not_lt.mpr (nda_down hY j))])
  rintro ρ1 own1 ⟨rfl, t4, t5, rfl⟩
  obtain ⟨s3, hs3⟩ : ∃ s3 : Slot, s3 = .d (fr (sumTo (nda ys) (rng 0 (13 : Int).toNat).length)) := ⟨_, rfl⟩
  rw [← hs3]
  refine sds_cons (sd_asg2R 6 7 g (R := fun ss o => ∃ x dx py pl pn, ss = [.raw (.ref x), .raw (.ref pn)] ∧ o = (pn, .lst []) :: (cal c x dx py pl ys [] ++ own1)) (eag_cons (P := fun s o => ∃ x dx py pl, s = .raw (.ref x) ∧ o = cal c x dx py pl ys [] ++ own1) (eg_make (post := fun x dx o => ∃ py pl, o = .ret (.d .none) (cal c x dx py pl ys [])) (fn_cal_init T) g (by decide) (ea_cons (ed_v 1) ea_nil) (fun x dx => ⟨x, dx, ys, rfl, rfl, hY, rfl⟩) ?_ ?_) ?_) ?_)
  · rintro x dx s o1 ⟨py, pl, e⟩
    cases e
    exact ⟨rfl, x, dx, py, pl, rfl, rfl⟩
  · rintro x dx C o1 ⟨py, pl, e⟩
    cases e
  · rintro s o ⟨x, dx, py, pl, rfl, rfl⟩ _
    refine eag_cons (P := fun s o => ∃ pn, s = .raw (.ref pn) ∧ o = (pn, .lst []) :: (cal c x dx py pl ys [] ++ own1)) (EL.toEG (el_lst (ds := []) ea_nil) fun p => ⟨p, rfl, rfl⟩) ?_
    rintro s o ⟨pn, rfl, rfl⟩ _
    exact EA.toEAG ea_nil ⟨x, dx, py, pl, pn, rfl, rfl⟩
  rintro ss o ⟨x, dx, py, pl, pn, rfl, rfl⟩
  refine ⟨_, _, rfl, ?_⟩
  subst how
  refine sds_cons (sd_for g (it_range1 T.n_range ed_int ⟨by decide, by decide⟩) (fun i ρ own => ∃ (ls cells : List Int) (cnt : Int) (t8 : Slot), ls.length = i ∧ (∀ z ∈ ls, 0 ≤ z ∧ z < (ys.length : Int)) ∧ cells ≠ [] ∧ own = (pn, .lst (ls.map PyData.int)) :: (cal c x dx py pl ys ls ++ drw d q cells cnt) ∧ ρ = [.raw (.ref d), .d (li ys), .d (.int (ys.length : Int)), s3, t4, t5, .raw (.ref x), .raw (.ref pn), t8, .un]) ⟨[], cells, cnt, _, rfl, by simp, hc, rfl, rfl⟩ (fun _ _ _ _ => trivial) ?_ ?_)
  · rintro i y ρ1 own1 hyy ⟨ls, cells, cnt, t8, hll, hd, hc, rfl, rfl⟩
    obtain ⟨hi, rfl⟩ := rng_get hyy
    have hi : i < 5 := hi
    refine ⟨_, _, gt_name 8 g.nd, ?_⟩
    refine sds_cons (sd_appendG (p := pn) (ds := ls.map PyData.int) (P := fun z oa ob => ∃ (r : Int) (cells' : List Int) (cnt' : Int), z = .int r ∧ 0 ≤ r ∧ r < (ys.length : Int) ∧ cells' ≠ [] ∧ oa = [] ∧ ob = cal c x dx py pl ys ls ++ drw d q cells' cnt') (by simp) (ev_v 7) (EG.imp (eg_draw (oa := (pn, .lst (ls.map PyData.int)) :: cal c x dx py pl ys ls) (ob := []) (d := d) (n := q) (cells := cells) (cnt := cnt) (fn_law_draw T) g (by decide) hc (ea_cons (ev_v 0) (ea_cons (ed_v 2) ea_nil)) (by omega) (by omega)) ?_) (by rw [List.length_map]; omega) ?_)
    · rintro t o ⟨r, cells', cnt', hr, hc', rfl, rfl⟩
      exact ⟨.int (r : Int), [], cal c x dx py pl ys ls ++ drw d q cells' cnt', rfl, by simp, r, cells', cnt', rfl, by omega, hr, hc', rfl, rfl⟩
    rintro z oa ob ⟨r, cells', cnt', rfl, hr0, hr1, hc', rfl, rfl⟩
    rw [List.nil_append]
    refine sds_one (sd_exprG (R := fun _ o => o = (pn, .lst (ls.map PyData.int ++ [.int r])) :: (cal c x dx py pl ys (ls ++ [r]) ++ drw d q cells' cnt')) (eg_meth (oa := [(pn, .lst (ls.map PyData.int ++ [.int r]))]) (o1 := cal c x dx py pl ys ls) (ob := drw d q cells' cnt') (fn_cal_put T) T.o_Calendar.cl g (by decide) (x := x) (dx := dx) (fs := [("year", .ref py), ("line", .ref pl)]) (ev_v 6) (by simp) rfl (ea_cons (ed_ixL (ds := ls.map PyData.int ++ [.int r]) (d := .int r) (ev_v 7) (ed_neg ed_int) (Lst.o (p := pn) (by simp)) (atI_last (by simp))) ea_nil) ⟨x, dx, py, pl, ys, ls, .int r, rfl, rfl, by omega, rfl⟩ ?_ ?_) ?_)
    · rintro s o1 (⟨_, e⟩ | ⟨n, e0, _, _, ⟨_, e⟩ | ⟨_, e⟩⟩)
      · cases e
      · cases e
      · cases e0
        cases e
        rfl
    · rintro C o1 (⟨h0, e⟩ | ⟨n, e0, _, _, ⟨h12, e⟩ | ⟨_, e⟩⟩)
      · exact absurd h0 (by simp [Sd.isInt]; omega)
      · omega
      · cases e
    · rintro s o rfl
      refine ⟨ls ++ [r], cells', cnt', _, by simp [hll], fun z hz => ?_, hc', by rw [List.map_append]; rfl, rfl⟩
      rcases List.mem_append.mp hz with hz | hz
      · exact hd z hz
      · have : z = r := by simpa using hz
        omega
  rintro ρ1 own1 ⟨ls, cells, cnt, t8, hll, hd, hc, rfl, rfl⟩
  have hl5 : ls.length = 5 := hll
  refine sds_freeze 7 (oa := []) rfl ?_
  rw [List.nil_append]
  have hcs := cnts_sum hd
  have hCt : Ct ys (cnts ys ls) := ⟨by simp [cnts], by rw [hcs]; omega⟩
  have hcnt : ∀ {Z : Sd.Ctx} {k : Nat} {ρ : List Slot} {o : Expr} {apos pos : Pos} {oa ob : Own}, True := trivial
  have esum : (nI (cnts ys ls)).sum = 5 := by rw [nI_sum, hcs, hl5]; rfl
  refine sds_cons (sd_ifF (ET.is (EW.et (ew_or (et_cmp (c_ne g .d .d (sh_fr _) (sh_fr _)) (EG.toES (eg_meth0 (oa := []) (o1 := cal c x dx py pl ys ls) (ob := drw d q cells cnt) (fn_cal_next_same T) T.o_Calendar.cl g (by decide) (x := x) (dx := dx) (fs := [("year", .ref py), ("line", .ref pl)]) (ev_v 6) (by simp) rfl ⟨x, dx, py, pl, ys, ls, rfl, rfl, hY, by omega, hd, rfl⟩ (fun s o h => by cases h; exact ⟨rfl, rfl⟩) (fun C o h => nomatch h))) (es_call (fn_next_on_used T) g (by decide) (ea_cons (ed_v 1) (ea_cons (EG.toES (s := .d (li (nI (cnts ys ls)))) (eg_meth0 (oa := []) (o1 := cal c x dx py pl ys ls) (ob := drw d q cells cnt) (fn_cal_counts T) T.o_Calendar.cl g (by decide) (x := x) (dx := dx) (fs := [("year", .ref py), ("line", .ref pl)]) (ev_v 6) (by simp) rfl ⟨x, dx, py, pl, ys, ls, rfl, rfl, hl, rfl⟩ (fun s o h => by cases h; exact ⟨rfl, rfl⟩) (fun C o h => nomatch h))) ea_nil)) ⟨ys, cnts ys ls, rfl, rfl, hY, hCt, rfl⟩)) fun _ => ew_or1 (et_cmp c_neI (ed_sum (ns := nI (cnts ys ls)) g T.n_sum (EG.toES (s := .d (li (nI (cnts ys ls)))) (eg_meth0 (oa := []) (o1 := cal c x dx py pl ys ls) (ob := drw d q cells cnt) (fn_cal_counts T) T.o_Calendar.cl g (by decide) (x := x) (dx := dx) (fs := [("year", .ref py), ("line", .ref pl)]) (ev_v 6) (by simp) rfl ⟨x, dx, py, pl, ys, ls, rfl, rfl, hl, rfl⟩ (fun s o h => by cases h; exact ⟨rfl, rfl⟩) (fun C o h => nomatch h))) .d) ed_int))) ?_) ?_)
  · rw [eqv_fr, nxS_used hd, esum]
    simp
  have hplc := plcW_pos' (ys := ys) (k := cnts ys ls) (m := (cnts ys ls).sum) (fun y h => by have := hY.it y h; omega) hCt.len (Nat.le_refl _)
  obtain ⟨pq, hpq⟩ : ∃ pq, pq = (plcW ys (cnts ys ls) (cnts ys ls).sum : Rat) / ((ys.sum ^ (cnts ys ls).sum : Int) : Rat) := ⟨_, rfl⟩
  have hpq0 : 0 < pq.num := by
    refine num_pos ?_
    rw [hpq, Rat.div_def]
    have h1 : (0 : Rat) < (plcW ys (cnts ys ls) (cnts ys ls).sum : Rat) := by exact_mod_cast hplc
    have h2 : (0 : Rat) < ((ys.sum ^ (cnts ys ls).sum : Int) : Rat) := by exact_mod_cast hY.posP _
    exact Rat.mul_pos h1 (Rat.inv_pos.mpr h2)
  have hpd := prs_dst hd hl5
  have sh0 : SeqAt.shaped (.list []) = true := sh_ints []
  have e0 : PyData.eqv (.list []) (.list []) = true := eqv_self (shp_ints [])
  refine sds_one (sd_retD (ES.is (ed_and (ed_cmp c_gt (ed_ixT (d := .int pq.num) (ES.is (y := fr pq) (es_call (fn_placed T) g (by decide) (ea_cons (ed_v 1) (ea_cons (EG.toES (s := .d (li (nI (cnts ys ls)))) (eg_meth0 (oa := []) (o1 := cal c x dx py pl ys ls) (ob := drw d q cells cnt) (fn_cal_counts T) T.o_Calendar.cl g (by decide) (x := x) (dx := dx) (fs := [("year", .ref py), ("line", .ref pl)]) (ev_v 6) (by simp) rfl ⟨x, dx, py, pl, ys, ls, rfl, rfl, hl, rfl⟩ (fun s o h => by cases h; exact ⟨rfl, rfl⟩) (fun C o h => nomatch h))) ea_nil)) ⟨ys, cnts ys ls, rfl, rfl, hY, hCt, rfl⟩) (by rw [hpq])) ed_int rfl) ed_int) fun _ => ed_and (ed_cmp (c_eq g .d .d (sh_bool _) (sh_bool _)) (ed_cmp c_eqI (EG.toES (s := .d (.int (prs (cnts ys ls)))) (eg_meth0 (oa := []) (o1 := cal c x dx py pl ys ls) (ob := drw d q cells cnt) (fn_cal_pairs T) T.o_Calendar.cl g (by decide) (x := x) (dx := dx) (fs := [("year", .ref py), ("line", .ref pl)]) (ev_v 6) (by simp) rfl ⟨x, dx, py, pl, ys, ls, rfl, rfl, hl, by omega, rfl⟩ (fun s o h => by cases h; exact ⟨rfl, rfl⟩) (fun C o h => nomatch h))) ed_int) (ed_cmp c_eqI (ed_lenset (ns := ls) g T.n_len T.n_set (ed_v 7) .d (by omega)) ed_int)) fun _ => ed_one (ed_cmp (c_eq g .d .d sh0 sh0) (EL.ed (EL.is (ys := []) (el_comp g (compO g (it_list (ed_v 7)) [("day", 9)] (blkOk_by (N := ["draws", "year", "size", "middle", "many", "part", "shown", "line", "turn", "day"]) (sc := defScope s_law_fresh) (by decide +kernel)) ls PyData.int rfl (fun z => none) (fun z => [.raw (.ref d), .d (li ys), .d (.int (ys.length : Int)), s3, t4, t5, .raw (.ref x), .d (li ls), t8, .d (.int z)]) [9] (by simp) (by omega) (fun _ _ => trivial)
      (fun z _ s H C cl fp g' => gt_name 9 g'.nd) (fun z hz s H C cl fp D acc g' => ets_one ?_) (fun z hz v hv s H C cl fp D acc g' => nomatch hv))) (by simp))) (ed_lst (ds := []) ea_nil))) ?_) ⟨_, rfl⟩)
  · have hz' := hd z hz
    have hcp := List.count_pos_iff.mpr hz
    refine ET.is (et_cmp c_eqI (ed_ixL (ES.is (y := li (nI (cnts ys ls))) (EG.toES (s := .d (li (nI (cnts ys ls)))) (eg_meth0 (oa := [(D, .lst acc)]) (o1 := cal c x dx py pl ys ls) (ob := drw d q cells cnt) (fn_cal_counts T) T.o_Calendar.cl g' (by decide) (x := x) (dx := dx) (fs := [("year", .ref py), ("line", .ref pl)]) (ev_v 6) (by simp) rfl ⟨x, dx, py, pl, ys, ls, rfl, rfl, hl, rfl⟩ (fun s o h => by cases h; exact ⟨rfl, rfl⟩) (fun C o h => nomatch h))) rfl) (ES.is (y := .int ((z.toNat : Nat) : Int)) (ed_v 9) (by rw [Int.toNat_of_nonneg hz'.1])) .d (getI (cnts_get hz'))) ed_int) ?_
    rw [decide_eq_false (by omega)]
    rfl
  · rw [decide_eq_true hpq0, eqv_bool, hpd, e0]
    simp)
end
end Pg

namespace Pg
open PySem PySem.Spec PyProof.Rows L2 Sd
section
variable {P : Program} {w : World} {K : PySem.W.Frag} {mg : Str → Option Value} {base : Heap} {c : Cl}
def pre_law_start (K : PySem.W.Frag) : Pr := fun ss own post => ∃ (a : Addr) (ns : List Int), ss = [.raw (.ref a)] ∧ ScrAt K own a ns ∧ post = fun o => ∃ d n cells, cells ≠ [] ∧ o = .ret (.raw (.ref d)) (drw d n cells 0 ++ own)
theorem fn_law_start (T : Tx K mg c) : Fn K mg P w base "_law_start" ["script"] 1 (pre_law_start K) := T.d_law_start.fn fun f fd F => okG (k := 0) F sc_law_start (by rintro ss own post ⟨a, ns, rfl, _⟩; rfl) (by
  rintro ss own post ⟨a, ns, rfl, hs, rfl⟩ cdv A outer s H E B g
  refine sds_one (sd_retG (eg_lst2 (P := fun v o => ∃ n, v = .ref n ∧ o = (n, .lst ((if ns = [] then [0] else ns).map PyData.int)) :: own) (EL.toEG (el_if (et_cmp (c_neScr g hs) (ev_v 0) (ed_lst (ds := []) ea_nil)) (fun h => EL.is (el_listScr T.n_list (ev_v 0) hs) ?_) fun h => EL.is (el_lst (ds := [.int 0]) (ea_cons ed_int ea_nil)) ?_) fun p => ⟨_, rfl, p, rfl, rfl⟩) fun v o _ => ed_int) ?_)
  · rw [if_neg (by simpa using h)]
  · rw [if_pos (by simpa using h)]
    rfl
  · rintro t o ⟨q, v, o', rfl, rfl, n, rfl, rfl⟩
    exact ⟨q, n, if ns = [] then [0] else ns, by split <;> simp_all, rfl⟩)
end
end Pg

namespace Pg
open PySem PySem.Spec PyProof.Rows L2 Sd
section
variable {P : Program} {w : World} {K : PySem.W.Frag} {mg : Str → Option Value} {base : Heap} {c : Cl}
def pre_law_year : Pr := fun ss own post => ∃ (d n : Addr) (cells : List Int) (cnt most : Int), ss = [.raw (.ref d), .d (.int most)] ∧ own = drw d n cells cnt ∧ cells ≠ [] ∧ 1 ≤ most ∧ most ≤ 8 ∧
  post = fun o => ∃ p ys cells' cnt', Yr ys ∧ (ys.length : Int) ≤ most ∧ cells' ≠ [] ∧ o = .ret (.raw (.ref p)) ((p, .lst (ys.map PyData.int)) :: drw d n cells' cnt')
theorem fn_law_year (T : Tx K mg c) : Fn K mg P w base "_law_year" ["draws", "most"] 3 pre_law_year := T.d_law_year.fn fun f fd F => okG (k := 2) F sc_law_year (by rintro ss own post ⟨d, n, cells, cnt, most, rfl, _⟩; rfl) (by
  rintro ss own post ⟨d, n, cells, cnt, most, rfl, rfl, hc, hm1, hm8, rfl⟩ cdv A outer s H E B g
  refine sds_cons (sd_setG 2 g.nd (R := fun t o => ∃ wd cells' cnt', (1 ≤ wd ∧ wd ≤ 20) ∧ cells' ≠ [] ∧ t = .d (.int wd) ∧ o = drw d n cells' cnt') (eg_call (oa := []) (o1 := drw d n cells cnt) (ob := []) (fn_law_pick T) g (by decide) (ea_cons (ev_v 0) (ea_cons (ed_lst (ds := [.int 1, .int 3, .int 20]) (ea_cons ed_int (ea_cons ed_int (ea_cons ed_int ea_nil)))) ea_nil)) ⟨d, n, cells, cnt, _, rfl, rfl, hc, by simp, by simp, rfl⟩ ?_ ?_) ?_)
  · rintro t o1 ⟨x, cells', cnt', h1, h2, e⟩
    cases e
    simp only [List.mem_cons, List.not_mem_nil, or_false] at h1
    rcases h1 with rfl | rfl | rfl
    · exact ⟨1, cells', cnt', by decide, h2, rfl, by simp⟩
    · exact ⟨3, cells', cnt', by decide, h2, rfl, by simp⟩
    · exact ⟨20, cells', cnt', by decide, h2, rfl, by simp⟩
  · rintro C o1 ⟨x, cells', cnt', h1, h2, e⟩
    cases e
  rintro t o ⟨wd, cells', cnt', hw, hc', rfl, rfl⟩
  refine sds_one (sd_retG (eg_comp g (compG g (itg_range1 (P := fun i o => (1 ≤ i ∧ i ≤ most) ∧ ∃ cells' cnt', cells' ≠ [] ∧ o = drw d n cells' cnt') T.n_range (EG.imp (eg_add (P := fun j o => (0 ≤ j ∧ j < most) ∧ ∃ cells' cnt', cells' ≠ [] ∧ o = drw d n cells' cnt') ed_int (eg_call (oa := []) (o1 := drw d n cells' cnt') (ob := []) (fn_law_draw T) g (by decide) (ea_cons (ev_v 0) (ea_cons (ed_v 1) ea_nil)) ⟨d, n, cells', cnt', _, rfl, rfl, hc', by omega, by omega, rfl⟩ ?_ ?_)) ?_)) [("k", 3)] (blkOk_by (N := ["draws", "most", "wide", "k"]) (sc := defScope s_law_year) (by decide +kernel))
    (fun ys i acc o => ∃ m : Int, (1 ≤ m ∧ m ≤ most) ∧ ys.length = m.toNat ∧ (∃ vs : List Int, acc = vs.map PyData.int ∧ vs.length = i ∧ ∀ v ∈ vs, 1 ≤ v ∧ v ≤ 20) ∧ i ≤ ys.length ∧ ∃ cells' cnt', cells' ≠ [] ∧ o = drw d n cells' cnt') ?_ ?_ ?_)) ?_)
  · rintro t o1 ⟨r, cells'', cnt'', h0, h1, h2, e⟩
    cases e
    exact ⟨r, rfl, ⟨h0, h1⟩, cells'', cnt'', h2, by simp⟩
  · rintro C o1 ⟨r, cells'', cnt'', h0, h1, h2, e⟩
    cases e
  · rintro t o ⟨j, rfl, hj, cells'', cnt'', h2, rfl⟩
    exact ⟨1 + j, rfl, by omega, by omega, cells'', cnt'', h2, rfl⟩
  · rintro ys o ⟨i, rfl, hi, cells'', cnt'', h2, rfl⟩
    exact ⟨i, hi, rng_length _ _, ⟨[], rfl, rfl, by simp⟩, Nat.zero_le _, cells'', cnt'', h2, rfl⟩
  · rintro ys i acc o ⟨m, hm, hl, ⟨vs, rfl, hv, _⟩, hi, _⟩
    rw [List.length_map]
    omega
  · rintro ys i y acc o D hy ⟨m, hm, hl, ⟨vs, rfl, hv, hvs⟩, hi, cells'', cnt'', h2, rfl⟩
    have hlt : i < ys.length := (List.getElem?_eq_some_iff.mp hy).1
    refine ⟨_, _, true, ?_, fun s H C cl fp => gt_name 3 g.nd, fun s H C cl fp => ets_nil, fun _ s H C cl fp => ?_, fun h => nomatch h⟩
    · intro i hi
      simpa using hi
    · refine EG.imp (eg_add (P := fun j o => (0 ≤ j ∧ j < wd) ∧ ∃ cells' cnt', cells' ≠ [] ∧ o = (D, .lst (vs.map PyData.int)) :: drw d n cells' cnt') ed_int (eg_call (oa := [(D, .lst (vs.map PyData.int))]) (o1 := drw d n cells'' cnt'') (ob := []) (fn_law_draw T) (g.blk ..) (by decide) (ea_cons (ev_v 0) (ea_cons (ed_v 2) ea_nil)) ⟨d, n, cells'', cnt'', _, rfl, rfl, h2, by omega, by omega, rfl⟩ ?_ ?_)) ?_
      · rintro t o1 ⟨r, cells3, cnt3, h0, h1, h2, e⟩
        cases e
        exact ⟨r, rfl, ⟨h0, h1⟩, cells3, cnt3, h2, by simp⟩
      · rintro C o1 ⟨r, cells3, cnt3, h0, h1, h2, e⟩
        cases e
      · rintro t o ⟨j, rfl, hj, cells3, cnt3, h3, rfl⟩
        refine ⟨.int (1 + j), drw d n cells3 cnt3, rfl, rfl, m, hm, hl, ⟨vs ++ [1 + j], by simp, by simp [hv], ?_⟩, hlt, cells3, cnt3, h3, rfl⟩
        intro v hv'
        rcases List.mem_append.mp hv' with h | h
        · exact hvs v h
        · have : v = 1 + j := by simpa using h
          omega
  · rintro t o ⟨p, ds, o', rfl, rfl, ys, m, hm, hl, ⟨vs, rfl, hv, hvs⟩, hi, cells3, cnt3, h3, rfl⟩
    exact ⟨p, vs, cells3, cnt3, ⟨by omega, by omega, hvs⟩, by omega, h3, rfl⟩)
end
end Pg

namespace Pg
open PySem PySem.Spec PyProof.Rows L2 Sd
section
variable {P : Program} {w : World} {K : PySem.W.Frag} {mg : Str → Option Value} {base : Heap} {c : Cl}
theorem eg_year {Z : Sd.Ctx} {k : Nat} {ρ : List Slot} {ob : Own} {e1 e2 : Expr} {p pos : Pos} {d n : Addr} {cells : List Int} {cnt most : Int} (F : Fn Z.X.K Z.X.mg Z.X.prog Z.X.w Z.X.base "_law_year" ["draws", "most"] 3 pre_law_year) (g : Gd Z k) (hk : 3 ≤ k) (hc : cells ≠ []) (ha : EA Z [e1, e2] ρ (drw d n cells cnt ++ ob) [.raw (.ref d), .d (.int most)]) (hl : 1 ≤ most) (hl2 : most ≤ 8)
    (hg : Gl Z.X "_law_year" := by rfl) (he : starEach [e1, e2] Z.X.env = (false, eval e1 Z.X.env) :: starEach [e2] Z.X.env := by rfl) (hpl : (backTo pos (starEach [e2] Z.X.env)).any (·.1) = false := by rfl) :
    EG Z (.Call (.Name "_law_year" p) [e1, e2] [] pos) ρ (drw d n cells cnt ++ ob) (fun t o => ∃ (ys cells' : List Int) (cnt' : Int), Yr ys ∧ (ys.length : Int) ≤ most ∧ cells' ≠ [] ∧ t = .d (li ys) ∧ o = drw d n cells' cnt' ++ ob) :=
  EG.frz (P := fun ds o => ∃ (ys cells' : List Int) (cnt' : Int), ds = ys.map PyData.int ∧ Yr ys ∧ (ys.length : Int) ≤ most ∧ cells' ≠ [] ∧ o = drw d n cells' cnt' ++ ob)
    (eg_call (oa := []) (o1 := drw d n cells cnt) F g hk ha ⟨d, n, cells, cnt, most, rfl, rfl, hc, hl, hl2, rfl⟩ (by
      rintro t o1 ⟨q, ys, cells', cnt', h1, h2, h3, e⟩
      cases e
      exact ⟨q, _, _, rfl, rfl, ys, cells', cnt', rfl, h1, h2, h3, rfl⟩) (by
      rintro C o1 ⟨q, ys, cells', cnt', h1, h2, h3, e⟩
      cases e) hg (by decide) he hpl) (by
    rintro ds o ⟨ys, cells', cnt', rfl, h1, h2, h3, rfl⟩
    exact ⟨ys, cells', cnt', h1, h2, h3, rfl, rfl⟩)
end
end Pg

namespace Pg
open PySem PySem.Spec PyProof.Rows L2 Sd
section
variable {P : Program} {w : World} {K : PySem.W.Frag} {mg : Str → Option Value} {base : Heap} {c : Cl}
def evN : List Str := ["script", "draws", "year", "size", "whole", "total", "many", "rows", "turn", "fresh", "hits", "used", "one", "counts", "again", "day", "known", "key"]
def encR (ys : List Int) (t : Nat) (e : List Int × Int) : PyData := .tuple [tupI e.1, fr (ov ys t e.2)]
def encE (ys : List Int) (t : Nat) (x : Fe) : PyData := .tuple [tupI (x.1.1 ++ [(x.1.2 : Int)]), fr (ov ys (t + 1) x.2)]
abbrev kvD (ys : List Int) (t : Nat) (tb : Tab) : List (List Int × PyData) := mapV (fun z => fr (ov ys (t + 1) z)) tb
theorem fss_sq {ys : List Int} (hY : Yr ys) {i : Nat} (hi : i ≤ 12) : Sq 202 (sumTo (fsa ys) i) := by
  cases i with
  | zero => exact Sq.zero.mono (by decide)
  | succ m =>
    rw [fsa_sum hY]
    exact Sq.one.sub (unl_sq hY (by omega))
theorem key_okV {ys : List Int} {t : Nat} {kn : Tab} (hl : ys.length ≤ 8) (h : Kn ys (t + 1) kn) : ∀ e ∈ kvD ys t kn, e.1.length = t + 1 ∧ TS.Bd 8 e.1 := fun e he => by
  have hk : e.1 ∈ kn.map (·.1) := by rw [← mapV_keys (fun z => fr (ov ys (t + 1) z)) kn]; exact List.mem_map.mpr ⟨e, he, rfl⟩
  have h1 := subl_mem (h.ks _ hk)
  refine ⟨h1.1, fun m hm => ?_⟩
  have := days_mem.mp (h1.2 m hm)
  omega
theorem Kd.len {ys : List Int} (hl : ys.length ≤ 8) {t : Nat} {fs : List Fe} {i : Nat} {tb : Tab} (h : Kd ys t fs i tb) : tb.length ≤ 256 := by
  have h1 := nodup_sub h.nd h.ks
  have h2 := subl_len (days ys.length) (t + 1)
  rw [days_len] at h2
  have h3 : 2 ^ ys.length ≤ 2 ^ 8 := Nat.pow_le_pow_right (by decide) hl
  rw [List.length_map] at h1
  omega
theorem Kd.sz {ys : List Int} (hY : Yr ys) {t : Nat} (ht : t ≤ 5) {kn tb : Tab} (hk : Kn ys t kn) {i : Nat} (h : Kd ys t (FR ys kn) i tb) (k : List Int) : Sz 120 ((getT tb k).getD 0) := by
  cases hg : getT tb k with
  | none => unfold Sz; decide
  | some v =>
    have hm := (getT_mem h.nd (k := k) (v := v)).mpr hg
    have h0 := h.nn _ hm
    have h1 := le_tS h.nn hm
    rw [h.su] at h1
    have hnn : ∀ x ∈ FR ys kn, 0 ≤ x.2 * 1 := fun x hx => by
      obtain ⟨e, he, _, _, _, e2⟩ := FR_mem hx
      rw [e2, Int.mul_one]
      exact Int.mul_nonneg (hk.nn e he) (getD_nn hY _)
    have h2 := (take_le hnn i).2
    have h3 := FR_sum ys (fun _ => 1) kn
    rw [hk.step1] at h3
    have h4 := esI_le ys (t + 1) fun y hy => by have := hY.it y hy; omega
    have h5 := esI_nonneg ys (t + 1) fun y hy => by have := hY.it y hy; omega
    have h6 : fac (t + 1) ≤ 40320 := (by decide : ∀ t, t ≤ 5 → fac (t + 1) ≤ 40320) t ht
    have h7 : ((fac (t + 1) : Nat) : Int) * esI ys (t + 1) ≤ 40320 * ys.sum ^ (t + 1) := Int.mul_le_mul (by omega) h4 h5 (by omega)
    show Sz 120 v
    exact big_sz hY (t := t + 1) (by omega) h0 (by omega)
theorem FR_val {ys : List Int} (hY : Yr ys) {t : Nat} (ht : t ≤ 5) {kn : Tab} (hk : Kn ys t kn) {e : List Int × Int} (he : e ∈ kn) (n : Nat) : Sz 130 (e.2 * ys.getD n 0) := by
  have h1 := (hk.val hY (by omega) he).2
  have h2 : Sz 8 (ys.getD n 0) := by
    rw [List.getD_eq_getElem?_getD]
    cases h : ys[n]? with
    | none => unfold Sz; decide
    | some y => exact hY.szy (List.mem_of_getElem? h)
  exact (h1.mul h2).mono (by decide)
theorem ov_sq' {ys : List Int} (hY : Yr ys) {t : Nat} (ht : t ≤ 12) {z : Int} (hz : Sz 130 z) : Sq 130 (ov ys t z) := Sq.of_div (hY.posP t) hz ((hY.szW.pow t).mono (by omega))
theorem ok_law (T : Tx K mg c) {f : Addr} {fd : FuncData} (F : Fun K "law" "law" s_law f fd) : FnOk P w K mg base (L2.CX P w) 7 f fd ["script"] (spG (pre_law K)) := okG (k := 6) F sc_law (by rintro ss own post ⟨a, ns, rfl, _⟩; rfl) (by
  rintro ss own0 post ⟨a, ns, rfl, hs, hns, rfl⟩ cdv A outer s H E B g
  refine sds_cons (sd_setG 1 g.nd (R := fun t o => ∃ (d q : Addr) (cells : List Int), cells ≠ [] ∧ t = .raw (.ref d) ∧ o = drw d q cells 0 ++ own0) (eg_callW (fn_law_start T) g (by decide) (ea_cons (ev_v 0) ea_nil) ⟨a, ns, rfl, hs, rfl⟩ ?_ ?_) ?_)
  · rintro t o ⟨d, n, cells, hc, e⟩
    cases e
    exact ⟨d, n, cells, hc, rfl, rfl⟩
  · rintro C o ⟨d, n, cells, hc, e⟩
    cases e
  rintro t o ⟨d, q, cells, hc, rfl, rfl⟩
  refine sds_cons (sd_setG 2 g.nd (eg_year (fn_law_year T) g (by decide) hc (ea_cons (ev_v 1) (ea_cons ed_int ea_nil)) (by decide) (by decide)) ?_)
  rintro t o ⟨ys, cells2, cnt2, hY, hl5, hc2, rfl, rfl⟩
  have hl5 : ys.length ≤ 5 := by omega
  have hlo := hY.lo
  have hsum := hY.sum_lo
  have hW : ys.sum ≠ 0 := by omega
  refine sds_cons (sd_par 3 4 g (ea_cons (ES.is (y := .int (ys.length : Int)) (ed_len T.n_len (ed_v 2) .d) (by rw [List.length_map])) (ea_cons (ed_sum g T.n_sum (ed_v 2) .d) ea_nil)) ?_)
  obtain ⟨ow, how⟩ : ∃ ow, ow = drw d q cells2 cnt2 ++ own0 := ⟨_, rfl⟩
  rw [← how]
  refine sds_cons (sd_set 5 g.nd (s := .d (fr 0)) (ed_tup (ds := [.int 0, .int 1]) (ea_cons ed_int (ea_cons ed_int ea_nil))) ?_)
  refine sds_cons (sd_for g (it_range1 T.n_range (ed_add (ed_v 3) ed_int) ⟨by omega, by omega⟩) (fun i ρ own => own = ow ∧ ∃ t6, ρ = [.raw (.ref a), .raw (.ref d), .d (li ys), .d (.int (ys.length : Int)), .d (.int ys.sum), .d (fr (sumTo (fsa ys) i)), t6, .un, .un, .un, .un, .un, .un, .un, .un, .un, .un, .un]) ⟨rfl, _, rfl⟩ (fun _ _ _ _ => trivial) ?_ ?_)
  · rintro m y ρ1 own1 hyy ⟨rfl, t6, rfl⟩
    obtain ⟨hm, rfl⟩ := rng_get hyy
    have hm : m ≤ 6 := by omega
    rw [show (0 : Int) + (m : Int) = (m : Int) by omega]
    refine ⟨_, _, gt_name 6 g.nd, ?_⟩
    refine sds_cons (sd_set 5 g.nd (s := .d (fr (sumTo (fsa ys) (m + 1)))) (es_call (fn_law_add T) g (by decide) (ea_cons (ed_v 5) (ea_cons (es_call (fn_first_same_at T) g (by decide) (ea_cons (ed_v 2) (ea_cons (ed_v 6) ea_nil)) ⟨ys, m, rfl, rfl, hY, by omega, rfl⟩) ea_nil)) ⟨_, _, 202, 401, rfl, rfl, fss_sq hY (by omega), fsa_sq hY (by omega), by decide, rfl⟩) ?_)
    exact sds_one (sd_ifF (ET.is (et_cmp (c_ne g .d .d (sh_fr _) (sh_fr _)) (ed_v 5) (es_call (fn_some_same T) g (by decide) (ea_cons (ed_v 2) (ea_cons (ed_v 6) ea_nil)) ⟨ys, m, rfl, rfl, hY, by omega, rfl⟩)) (by rw [eqv_fr, fsa_sum hY]; simp)) ⟨rfl, _, rfl⟩)
  rintro ρ1 own1 ⟨rfl, t6, rfl⟩
  rw [rng_length, show ((ys.length : Int) + 2).toNat = (ys.length + 1) + 1 by omega, fsa_sum hY, unl_out hY (by omega)]
  have e1 : (1 : Rat) - 0 = 1 := by grind
  have ef1 : fsa ys 1 = 0 := by
    unfold fsa
    rw [if_neg (by decide), unl_zero hY, unl_one hY]
    decide +kernel
  rw [e1]
  refine sds_cons (sd_ifF (ET.is (EW.et (ew_or (et_cmp (c_ne g .d .d (sh_fr 1) (sh_fr 1)) (ed_v 5) (ed_tup (ds := [.int 1, .int 1]) (ea_cons ed_int (ea_cons ed_int ea_nil)))) fun _ => ew_or1 (et_cmp (c_ne g .d .d (sh_fr _) (sh_fr 0)) (es_call (fn_first_same_at T) g (by decide) (ea_cons (ed_v 2) (ea_cons ed_int ea_nil)) ⟨ys, 1, rfl, rfl, hY, by decide, rfl⟩) (ed_tup (ds := [.int 0, .int 1]) (ea_cons ed_int (ea_cons ed_int ea_nil)))))) (by rw [eqv_fr, eqv_fr, ef1]; simp)) ?_)
  refine sds_cons (sd_setL 7 g.nd (ds := [(([] : List Int), (1 : Int))].map (encR ys 0)) (EL.is (el_lst (ds := [.tuple [.tuple [], .tuple [.int 1, .int 1]]]) (ea_cons (ed_tup (ds := [.tuple [], .tuple [.int 1, .int 1]]) (ea_cons (ed_tup (ds := []) ea_nil) (ea_cons (ed_tup (ds := [.int 1, .int 1]) (ea_cons ed_int (ea_cons ed_int ea_nil))) ea_nil))) ea_nil)) ?_) fun p70 => ?_)
  · have : ov ys 0 1 = 1 := by
      unfold ov
      rw [Int.pow_zero]
      decide +kernel
    show _ = [PyData.tuple [.tuple [], fr (ov ys 0 1)]]
    rw [this]
    rfl
  refine sds_cons (sd_for g (it_range1 T.n_range (ed_v 3) ⟨by omega, by omega⟩) (fun t ρ own => ∃ kn p7 t8 t9 t10 t11 t12 t13 t14 t15 t16 t17 jk, Kn ys t kn ∧ own = (p7, .lst (kn.map (encR ys t))) :: (jk ++ own1) ∧ ρ = [.raw (.ref a), .raw (.ref d), .d (li ys), .d (.int (ys.length : Int)), .d (.int ys.sum), .d (fr 1), t6, .raw (.ref p7), t8, t9, t10, t11, t12, t13, t14, t15, t16, t17]) ⟨_, p70, _, _, _, _, _, _, _, _, _, _, [], Kn.zero ys, rfl, rfl⟩ (fun _ _ _ _ => trivial) ?_ ?_)
  · rintro t y ρ1 own2 hyy ⟨kn, p7, t8, t9, t10, t11, t12, t13, t14, t15, t16, t17, jk, hkn, rfl, rfl⟩
    obtain ⟨ht, rfl⟩ := rng_get hyy
    have ht : t < ys.length := by omega
    rw [show (0 : Int) + (t : Int) = (t : Int) by omega]
    have hknl := hkn.len (by omega)
    obtain ⟨ob, hob⟩ : ∃ ob, ob = jk ++ own1 := ⟨_, rfl⟩
    rw [← hob]
    refine ⟨_, _, gt_name 8 g.nd, ?_⟩
    refine sds_freeze 7 (oa := []) rfl ?_
    rw [List.nil_append]
    refine sds_cons (sd_setL 9 g.nd (ds := []) (el_lst (ds := []) ea_nil) fun pf => ?_)
    refine sds_cons (sd_set 10 g.nd (s := .d (fr 0)) (ed_tup (ds := [.int 0, .int 1]) (ea_cons ed_int (ea_cons ed_int ea_nil))) ?_)
    refine sds_cons (sd_for g (it_list (ed_v 7)) (fun i ρ own => ∃ t11 t12 t13 t14 t15, own = (pf, .lst ((FR ys (kn.take i)).map (encE ys t))) :: ob ∧ ρ = [.raw (.ref a), .raw (.ref d), .d (li ys), .d (.int (ys.length : Int)), .d (.int ys.sum), .d (fr 1), t6, .d (.list (kn.map (encR ys t))), .d (.int (t : Int)), .raw (.ref pf), .d (fr (ov ys (t + 1) ((kn.take i).map fun e => e.2 * uw ys e.1 ys.length).sum)), t11, t12, t13, t14, t15, t16, t17]) ⟨t11, t12, t13, t14, t15, rfl, ?_⟩ (fun _ _ _ _ => trivial) ?_ ?_)
    · have : ov ys (t + 1) 0 = 0 := by
        unfold ov
        rw [Rat.div_def]
        simp
      show _ = [_, _, _, _, _, _, _, _, _, _, Slot.d (fr (ov ys (t + 1) 0)), _, _, _, _, _, _, _]
      rw [this]
      rfl
    · rintro i ye ρ2 own3 hye ⟨t11, t12, t13, t14, t15, rfl, rfl⟩
      rw [List.getElem?_map] at hye
      cases ek : kn[i]? with
      | none => rw [ek] at hye; cases hye
      | some e =>
        rw [ek] at hye
        cases hye
        have hem := List.mem_of_getElem? ek
        obtain ⟨p, hp⟩ : ∃ p, p = ov ys t e.2 := ⟨_, rfl⟩
        have hpq : Sq 120 p := by rw [hp]; exact ov_sq hY (by omega) (hkn.val hY (by omega) hem).2
        obtain ⟨qa, hqa⟩ : ∃ qa, qa = (usedW ys (csK e.1 ys.length) : Rat) / (ys.sum : Rat) := ⟨_, rfl⟩
        have hub := uw_bd hY e.1
        have hqq : Sq 9 qa := by
          rw [hqa, csK_used]
          have := hY.sum_hi
          exact Sq.of_div (by omega) (by unfold Sz; omega) (by unfold Sz; omega)
        have hpa : p * qa = ov ys (t + 1) (e.2 * uw ys e.1 ys.length) := by rw [hp, hqa, csK_used, ov_mul hW]
        have hps : Sq 129 (p * qa) := by
          rw [← mulq]
          exact Sq.of_div (Int.mul_pos (den_pos p) (den_pos qa)) (hpq.num.mul hqq.num) (hpq.den.mul hqq.den)
        have hhs := ov_sq hY (t := t + 1) (by omega) (hits_sz hY (by omega) hkn i)
        have hhn : ov ys (t + 1) ((kn.take i).map fun e => e.2 * uw ys e.1 ys.length).sum + p * qa = ov ys (t + 1) ((kn.take (i + 1)).map fun e => e.2 * uw ys e.1 ys.length).sum := by rw [hpa, ov_add, lsum_take _ ek]
        obtain ⟨hq0, hhq0⟩ : ∃ hq0, hq0 = ov ys (t + 1) ((kn.take i).map fun e => e.2 * uw ys e.1 ys.length).sum := ⟨_, rfl⟩
        rw [← hhq0] at hhs hhn ⊢
        refine ⟨_, _, gt_tup g.calm (gts_cons (gt_name 11 g.nd) (gts_cons (gt_name 12 g.nd) gts_nil)) rfl, ?_⟩
        rw [← hp]
        refine sds_cons (sd_setC 13 g (compP g (it_range1 T.n_range (ed_v 3) ⟨by omega, by omega⟩) [("day", 15)] (blkOk_by (N := evN) (sc := defScope s_law) (by decide +kernel)) (List.range ys.length) (fun (k : Nat) => PyData.int ((k : Nat) : Int)) (rng_nat (by omega)) (fun (k : Nat) => some (.int (((if (k : Int) ∈ e.1 then 1 else 0 : Nat)) : Int))) (fun k => [.raw (.ref a), .raw (.ref d), .d (li ys), .d (.int (ys.length : Int)), .d (.int ys.sum), .d (fr 1), t6, .d (.list (kn.map (encR ys t))), .d (.int (t : Int)), .raw (.ref pf), .d (fr hq0), .d (tupI e.1), .d (fr p), t13, t14, .d (.int ((k : Nat) : Int)), t16, t17]) [15] (by simp) (by simp; omega) (fun _ _ => trivial)
          (fun k _ s H C cl fp g' => gt_name 15 g'.nd) (fun k hk s H C cl fp o g' => ets_nil) (fun k hk x hx s H C cl fp o g' => ?_)) ?_ (sw_true rfl rfl rfl (by decide +kernel)))
        · cases hx
          refine es_if (et_cmp c_inTI (ed_v 15) (ed_v 11)) (fun h => ?_) fun h => ?_
          · rw [if_pos (of_decide_eq_true h)]
            exact ed_int
          · rw [if_neg (of_decide_eq_false h)]
            exact ed_int
        rintro pc dsc oc ⟨rfl, rfl⟩
        refine sds_freeze 13 (oa := []) rfl ?_
        rw [List.nil_append, show ((List.range ys.length).filterMap fun (k : Nat) => some (PyData.int (((if (k : Int) ∈ e.1 then 1 else 0 : Nat)) : Int))) = (nI (csK e.1 ys.length)).map PyData.int by unfold nI csK; rw [List.map_map, List.map_map]; exact congrFun List.filterMap_eq_map' _]
        refine sds_cons (sd_set 14 g.nd (s := .d (fr qa)) (ES.is (es_call (fn_next_on_used T) g (by decide) (ea_cons (ed_v 2) (ea_cons (ed_v 13) ea_nil)) ⟨ys, csK e.1 ys.length, rfl, rfl, hY, ⟨csK_len _ _, by have := csK_sum e.1 ys.length; omega⟩, rfl⟩) (by rw [hqa])) ?_)
        refine sds_cons (sd_set 10 g.nd (s := .d (fr (ov ys (t + 1) ((kn.take (i + 1)).map fun e => e.2 * uw ys e.1 ys.length).sum))) (ES.is (es_call (fn_law_add T) g (by decide) (ea_cons (ed_v 10) (ea_cons (ES.is (y := fr (p * qa)) (es_call (fn_law_low T) g (by decide) (ea_cons (ed_mul (ed_ixT (ed_v 12) ed_int rfl) (ed_ixT (ed_v 14) ed_int rfl) (cmul_of hpq.num hqq.num (by decide))) (ea_cons (ed_mul (ed_ixT (ed_v 12) ed_int rfl) (ed_ixT (ed_v 14) ed_int rfl) (cmul_of hpq.den hqq.den (by decide))) ea_nil)) ⟨_, _, rfl, rfl, Int.mul_pos (den_pos p) (den_pos qa), (hpq.den.mul hqq.den).mono (by decide), rfl⟩) (by rw [mulq])) ea_nil)) ⟨_, _, 120, 129, rfl, rfl, hhs, hps, by decide, rfl⟩) (by rw [hhn])) ?_)
        obtain ⟨s10, hs10⟩ : ∃ s10 : Slot, s10 = .d (fr (ov ys (t + 1) ((kn.take (i + 1)).map fun e => e.2 * uw ys e.1 ys.length).sum)) := ⟨_, rfl⟩
        rw [← hs10]
        refine sds_one (sd_for g (it_range1 T.n_range (ed_v 3) ⟨by omega, by omega⟩) (fun n ρ own => ∃ t15, own = (pf, .lst ((FR ys (kn.take i) ++ frow ys e n).map (encE ys t))) :: ob ∧ ρ = [.raw (.ref a), .raw (.ref d), .d (li ys), .d (.int (ys.length : Int)), .d (.int ys.sum), .d (fr 1), t6, .d (.list (kn.map (encR ys t))), .d (.int (t : Int)), .raw (.ref pf), s10, .d (tupI e.1), .d (fr p), .d (li (nI (csK e.1 ys.length))), .d (fr qa), t15, t16, t17]) ⟨_, by simp [frow], rfl⟩ (fun _ _ _ _ => trivial) ?_ ?_)
        · rintro n yn ρ3 own4 hyn ⟨t15, rfl, rfl⟩
          obtain ⟨hn, rfl⟩ := rng_get hyn
          have hn : n < ys.length := by omega
          rw [show (0 : Int) + (n : Int) = (n : Int) by omega]
          have gn : ys[n]? = some (ys.getD n 0) := by rw [List.getD_eq_getElem?_getD, List.getElem?_eq_getElem hn]; rfl
          have hyz := hY.szy (List.mem_of_getElem? gn)
          have hpy : p * ((ys.getD n 0 : Int) / (ys.sum : Rat)) = ov ys (t + 1) (e.2 * ys.getD n 0) := by rw [hp, ov_mul hW]
          have hlen : ((FR ys (kn.take i) ++ frow ys e n).map (encE ys t)).length < 100000 := by
            have h1 := FR_len ys (kn.take i)
            have h2 := frow_len ys e n
            have h3 : (kn.take i).length ≤ 256 := by rw [List.length_take]; omega
            have h4 : ys.length * (kn.take i).length ≤ 5 * 256 := Nat.mul_le_mul hl5 h3
            rw [List.length_map, List.length_append]
            omega
          have hel : e.1.length ≤ 5 := by
            have := (subl_mem (hkn.ks _ (List.mem_map.mpr ⟨e, hem, rfl⟩))).1
            omega
          refine ⟨_, _, gt_name 15 g.nd, ?_⟩
          refine sds_one (sd_if (et_cmp c_notInTI (ed_v 15) (ed_v 11)) (fun h => ?_) fun h => ?_)
          · have hk : (n : Int) ∉ e.1 := by simpa using h
            refine sds_one (sd_append (oa := []) (ob := ob) (p := pf) (x := encE ys t ((e.1, n), e.2 * ys.getD n 0)) (ev_v 9) (ed_tup (ds := [_, _]) (ea_cons (ES.is (ed_catT (xs := e.1.map PyData.int) (ys := [.int (n : Int)]) (ed_v 11) (ed_tup (ds := [.int (n : Int)]) (ea_cons (ed_v 15) ea_nil)) (by simp; omega)) (by rw [show e.1.map PyData.int ++ [PyData.int (n : Int)] = (e.1 ++ [(n : Int)]).map PyData.int by rw [List.map_append]; rfl])) (ea_cons (ES.is (es_call (fn_law_low T) g (by decide) (ea_cons (ed_mul (ed_ixT (ed_v 12) ed_int rfl) (ed_ixL (ed_v 2) (ed_v 15) .d (getI gn)) (cmul_of hpq.num hyz (by decide))) (ea_cons (ed_mul (ed_ixT (ed_v 12) ed_int rfl) (ed_v 4) (cmul_of hpq.den hY.szW (by decide))) ea_nil)) ⟨_, _, rfl, rfl, Int.mul_pos (den_pos p) (by omega), (hpq.den.mul hY.szW).mono (by decide), rfl⟩) (by rw [mulI, hpy])) ea_nil))) hlen ?_)
            refine ⟨_, ?_, rfl⟩
            have e5 : (FR ys (kn.take i) ++ frow ys e (n + 1)).map (encE ys t) = (FR ys (kn.take i) ++ frow ys e n).map (encE ys t) ++ [encE ys t ((e.1, n), e.2 * ys.getD n 0)] := by rw [frow_out hk, ← List.append_assoc, List.map_append (l₁ := FR ys (kn.take i) ++ frow ys e n)]; rfl
            rw [e5]
            rfl
          · have hk : (n : Int) ∈ e.1 := by simpa using h
            exact sds_nil ⟨_, by rw [frow_in hk], rfl⟩
        · rintro ρ3 own4 ⟨t15, rfl, rfl⟩
          rw [rng_length, show ((ys.length : Int)).toNat = ys.length by omega]
          exact ⟨_, _, _, _, _, by rw [FR_snoc ys ek], by rw [hs10]⟩
    rintro ρ2 own3 ⟨t11, t12, t13, t14, t15, rfl, rfl⟩
    rw [List.length_map, List.take_length, hits_eq hY hkn]
    refine sds_freeze 9 (oa := []) rfl ?_
    rw [List.nil_append]
    refine sds_cons (sd_ifF (ET.is (et_cmp (c_ne g .d .d (sh_fr _) (sh_fr _)) (es_call (fn_first_same_at T) g (by decide) (ea_cons (ed_v 2) (ea_cons (ES.is (y := .int ((t + 1 : Nat) : Int)) (ed_add (ed_v 8) ed_int) (by rw [Int.natCast_add]; rfl)) ea_nil)) ⟨ys, t + 1, rfl, rfl, hY, by omega, rfl⟩) (ed_v 10)) (by rw [eqv_fr]; simp)) ?_)
    refine sds_cons (sd_setG 16 g.nd (eg_dnew (R := fun s o => ∃ r, s = .raw (.ref r) ∧ o = (r, .dt (kvD ys t [])) :: ob) fun p => ⟨p, rfl, rfl⟩) ?_)
    rintro _ _ ⟨r, rfl, rfl⟩
    refine sds_cons (sd_for g (it_list (ed_v 9)) (fun i ρ own => ∃ tb t11 t12 t17, Kd ys t (FR ys kn) i tb ∧ own = (r, .dt (kvD ys t tb)) :: ob ∧ ρ = [.raw (.ref a), .raw (.ref d), .d (li ys), .d (.int (ys.length : Int)), .d (.int ys.sum), .d (fr 1), t6, .d (.list (kn.map (encR ys t))), .d (.int (t : Int)), .d (.list ((FR ys kn).map (encE ys t))), .d (fr (fsa ys (t + 1))), t11, t12, t13, t14, t15, .raw (.ref r), t17]) ⟨[], _, _, _, Kd.zero ys t _, rfl, rfl⟩ (fun _ _ _ _ => trivial) ?_ ?_)
    · rintro i ye ρ2 own3 hye ⟨tb, t11, t12, t17, hkd, rfl, rfl⟩
      rw [List.getElem?_map] at hye
      cases ek : (FR ys kn)[i]? with
      | none => rw [ek] at hye; cases hye
      | some x =>
        rw [ek] at hye
        cases hye
        obtain ⟨e, hem, e1, e2, e3, e4⟩ := FR_mem (List.mem_of_getElem? ek)
        have hks := hkn.ks _ (List.mem_map.mpr ⟨e, hem, rfl⟩)
        rw [← e1] at hks
        have hklt := subl_lt (days_lt _) hks
        have hkl := (subl_mem hks).1
        have hin : insD x.1.2 x.1.1 ∈ subl (days ys.length) (t + 1) := insD_mem (days_lt _) hks (days_mem.mpr ⟨by omega, by omega⟩) e3
        have hx0 : 0 ≤ x.2 := by rw [e4]; exact Int.mul_nonneg (hkn.nn e hem) (getD_nn hY _)
        have hxz : Sz 130 x.2 := by rw [e4]; exact FR_val hY (by omega) hkn hem _
        have hvz := hkd.sz hY (by omega) hkn (insD x.1.2 x.1.1)
        have hlen : (kvD ys t tb).length < 100000 := by
          have := hkd.len (by omega)
          unfold kvD mapV
          rw [List.length_map]
          omega
        refine ⟨_, _, gt_tup g.calm (gts_cons (gt_name 11 g.nd) (gts_cons (gt_name 12 g.nd) gts_nil)) rfl, ?_⟩
        refine sds_cons (sd_set 17 g.nd (s := .d (tupI (insD x.1.2 x.1.1))) (ed_tuple T.n_tuple (EL.ed (el_sortedTI (ns := x.1.1 ++ [(x.1.2 : Int)]) (res := insD x.1.2 x.1.1) T.n_sorted (ed_v 11) (by simp; omega) fun ns' h1 h2 => insD_uniq hklt h1 h2)) .d) ?_)
        refine sds_one (sd_dput (oa := []) (ob := ob) (k := insD x.1.2 x.1.1) (x := fr (ov ys (t + 1) ((getT tb (insD x.1.2 x.1.1)).getD 0 + x.2))) g (ES.is (es_call (fn_law_add T) g (by decide) (ea_cons (ES.is (y := fr (ov ys (t + 1) ((getT tb (insD x.1.2 x.1.1)).getD 0))) (ed_dget2 (k := insD x.1.2 x.1.1) (tb := kvD ys t tb) (q := r) (d0 := fr 0) g (by simp) (ev_v 16) (ed_v 17) (ed_tup (ds := [.int 0, .int 1]) (ea_cons ed_int (ea_cons ed_int ea_nil)))) ?_) (ea_cons (ed_v 12) ea_nil)) ⟨_, _, 120, 130, rfl, rfl, ov_sq hY (by omega) hvz, ov_sq' hY (by omega) hxz, by decide, rfl⟩) (by rw [ov_add])) (ev_v 16) (ed_v 17) hlen ?_)
        · rw [mapV_get]
          cases getT tb (insD x.1.2 x.1.1) with
          | none =>
            show fr 0 = fr (ov ys (t + 1) 0)
            have : ov ys (t + 1) 0 = 0 := by
              unfold ov
              rw [Rat.div_def]
              simp
            rw [this]
          | some v => rfl
        · rw [mapV_put (fun z => fr (ov ys (t + 1) z))]
          exact ⟨_, _, _, _, hkd.add ek hin hx0, rfl, rfl⟩
    rintro ρ2 own3 ⟨tb, t11, t12, t17, hkd, rfl, rfl⟩
    rw [List.length_map] at hkd
    have hkn' := hkd.kn hkn
    obtain ⟨L, hL⟩ : ∃ L, L = srtL 8 (tb.map (·.1)) := ⟨_, rfl⟩
    have hLp : L.Perm (tb.map (·.1)) := by rw [hL]; exact srtL_perm 8 _
    have hLk : (srtL 8 ((kvD ys t tb).map (·.1))) = L := by rw [mapV_keys, hL]
    have hLl : L.length ≤ 256 := by
      rw [hLp.length_eq, List.length_map]
      exact hkn'.len (by omega)
    refine sds_one (sd_setC 7 g (compO g (it_list (EL.ed (EL.is (ys := L.map tupI) (el_sortedDT (q := r) (tb := kvD ys t tb) (n := t + 1) (B := 8) g T.n_sorted (by simp) (ev_v 16) (key_okV (by omega) hkn') (.inl (by omega))) (by rw [hLk])))) [("key", 17)] (blkOk_by (N := evN) (sc := defScope s_law) (by decide +kernel)) L tupI rfl (fun k => some (encR ys (t + 1) (k, (getT tb k).getD 0))) (fun k => [.raw (.ref a), .raw (.ref d), .d (li ys), .d (.int (ys.length : Int)), .d (.int ys.sum), .d (fr 1), t6, .d (.list (kn.map (encR ys t))), .d (.int (t : Int)), .d (.list ((FR ys kn).map (encE ys t))), .d (fr (fsa ys (t + 1))), t11, t12, t13, t14, t15, .raw (.ref r), .d (tupI k)]) [17] (by simp) (by omega) (by simp) (fun k _ s H C cl fp g' => gt_name 17 g'.nd) (fun k _ s H C cl fp D acc g' => ets_nil) (fun k hk z hz s H C cl fp D acc g' => ?_)) ?_ (sw_true rfl rfl rfl (by decide +kernel)))
    · cases hz
      obtain ⟨e, he, rfl⟩ := List.mem_map.mp (hLp.mem_iff.mp hk)
      have hg := (getT_mem hkn'.nd (k := e.1) (v := e.2)).mp he
      refine ed_tup (ds := [_, _]) (ea_cons (ed_v 17) (ea_cons (ed_dget (k := e.1) (tb := kvD ys t tb) (q := r) g' (by simp) (ev_v 16) (ed_v 17) ?_) ea_nil))
      rw [mapV_get, hg]
      rfl
    · rintro p8 ds8 o8 ⟨rfl, rfl⟩
      refine ⟨L.map fun k => (k, (getT tb k).getD 0), p8, _, _, _, _, _, _, _, _, _, _, (r, .dt (kvD ys t tb)) :: jk, Kn.perm (resort hkn'.nd hLp) hkn', ?_, rfl⟩
      rw [hob, List.map_map, show (L.filterMap fun k => some (encR ys (t + 1) (k, (getT tb k).getD 0))) = L.map ((encR ys (t + 1)) ∘ fun k => (k, (getT tb k).getD 0)) from congrFun List.filterMap_eq_map' _]
      rfl
  rintro ρ1 own2 ⟨kn, p7, t8, t9, t10, t11, t12, t13, t14, t15, t16, t17, jk, hkn, rfl, rfl⟩
  rw [how]
  refine sds_sub (o' := drw d q cells2 cnt2 ++ own0) ((List.sublist_append_right jk _).cons _) ?_
  refine sds_one (sd_retG (eg_call (oa := []) (o1 := drw d q cells2 cnt2) (ob := own0) (R := fun t _ => t = .d (.bool true)) (fn_law_fresh T) g (by decide) (ea_cons (ev_v 1) (ea_cons (ed_v 2) (ea_cons (ed_v 3) ea_nil))) ⟨d, q, cells2, cnt2, ys, rfl, rfl, hc2, hY, rfl⟩ ?_ ?_) fun s o h => ⟨o, by rw [h]⟩)
  · rintro t o1 ⟨o', e⟩
    cases e
    rfl
  · rintro C o1 ⟨o', e⟩
    cases e)
end
end Pg

namespace Pg
open PySem PySem.Spec PyProof.Rows L2 Sd
section
variable {P : Program} {w : World} {K : PySem.W.Frag} {mg : Str → Option Value} {base : Heap} {c : Cl}
theorem int_mk {h : Heap} {z : Str} {i : Int} {t : Tok} (X : K.In h) (G : h.Ns mainGlobals mg) (a : PySem.W.nsIn K mainGlobals z = some (some (.int i t))) : ∃ t, mg z = some (.int i t) := ⟨t, PySem.W.mg_of X G a⟩
theorem law_end {fa cDayError cBadYear cBadDay cBadNumber cBadShare cBadText cNotFound cCalendar : Addr} (T : Tx K mg ⟨cDayError, cBadYear, cBadDay, cBadNumber, cBadShare, cBadText, cNotFound, cCalendar⟩) (hmg : mg "law" = some (.ref fa)) : ∃ fd : FuncData, (∀ (s : Shared) (u : Value), BindsTo s fd ⟨[u], []⟩ [("script", u)]) ∧ ∀ base : Heap, K.In base → base.Ns mainGlobals mg → FnOk P w K mg base (L2.CX P w) 7 fa fd ["script"] (spG (pre_law K)) := by
  obtain ⟨f, fd, F, hm, hb⟩ := T.d_law.ex
  rw [hmg] at hm
  cases hm
  exact ⟨fd, fun s u => .of_eq (hb [u] rfl), fun base _ _ => ok_law T F⟩
end
end Pg

open PySem PySem.W PyProof.Rows
set_option maxRecDepth 100000 in
set_option maxHeartbeats 0 in
theorem PySem.Challenge.cw_samedays_k15_whole_first_holds : PySem.Challenge.rw_samedays_k15_whole_first.Holds := by
  w_on; o_law; k_head; (case hw => w_witness2)
  k_fill
  refine L2.walk_of (l := PySem.Challenge.rw_samedays_k15_whole_first) (n := 63) (k := 7) (x := "script") (CX := fun w => L2.CX PySem.Challenge.rw_samedays_k15_whole_first.prog w) (sp := fun w => Sd.spG (Sd.pre_law _)) rfl (by decide) rfl ⟨rfl, by decide, by decide⟩ (fun w h Y => PySem.W.kIn_of Y) ?F (fun _ H a ns hl hO hS => Sd.law_in hl hO hS) (fun _ _ _ _ _ h => Sd.cx_no h)
  case F =>
    intro w mg fa h KX G hmg
    refine' Pg.law_end (cBadShare := 0) (cBadText := 0) (cNotFound := 0) ⟨Sd.df_mk2 KX G Pg.pa_wall ?a0 ?l0 ?c0 ?k0, Sd.err_mk KX G ?a1 ?x1 ?k1 ?b1 ?t1, Sd.err_mk KX G ?a2 ?x2 ?k2 ?b2 ?t2, Sd.err_mk KX G ?a3 ?x3 ?k3 ?b3 ?t3, Sd.err_mk KX G ?a4 ?x4 ?k4 ?b4 ?t4, Pg.int_mk KX G ?a5, Sd.df_mk2 KX G Pg.pa_is_int ?a6 ?l6 ?c6 ?k6, Sd.df_mk2 KX G Pg.pa_common ?a7 ?l7 ?c7 ?k7, Sd.df_mk2 KX G Pg.pa_is_year ?a8 ?l8 ?c8 ?k8, Sd.df_mk2 KX G Pg.pa_check_year ?a9 ?l9 ?c9 ?k9, Sd.df_mk2 KX G Pg.pa_check_day ?a10 ?l10 ?c10 ?k10, Sd.df_mk2 KX G Pg.pa_check_many ?a11 ?l11 ?c11 ?k11, Sd.df_mk2 KX G Pg.pa_lowest ?a12 ?l12 ?c12 ?k12, Sd.df_mk2 KX G Pg.pa_plus ?a13 ?l13 ?c13 ?k13, Sd.df_mk2 KX G Pg.pa_minus ?a14 ?l14 ?c14 ?k14, Sd.df_mk2 KX G Pg.pa_power ?a15 ?l15 ?c15 ?k15, Sd.df_mk2 KX G Pg.pa_choose ?a16 ?l16 ?c16 ?k16, Sd.df_mk2 KX G Pg.pa_ordered ?a17 ?l17 ?c17 ?k17, Sd.df_mk2 KX G Pg.pa_product_sums ?a18 ?l18 ?c18 ?k18, Sd.df_mk2 KX G Pg.pa_unlike_of ?a19 ?l19 ?c19 ?k19, Sd.df_mk2 KX G Pg.pa_some_same ?a20 ?l20 ?c20 ?k20, Sd.df_mk2 KX G Pg.pa_first_same_at ?a21 ?l21 ?c21 ?k21, Sd.df_mk2 KX G Pg.pa_mean_used ?a22 ?l22 ?c22 ?k22, Sd.df_mk2 KX G Pg.pa_new_day_at ?a23 ?l23 ?c23 ?k23, Sd.df_mk2 KX G Pg.pa_check_counts ?a24 ?l24 ?c24 ?k24, Sd.df_mk2 KX G Pg.pa_placed ?a25 ?l25 ?c25 ?k25, Sd.df_mk2 KX G Pg.pa_next_on_used ?a26 ?l26 ?c26 ?k26, Sd.cls_mk KX G ?aCC ?yp ?yh ?yo ?ys ?ym ?yk, ?yY, ?yL, Sd.dfm_mk (fun _ _ _ _ _ _ us hl => match us, hl with | [_, _], _ => rfl) ?a27 ?i27 ?l27 ?c27 ?k27, Sd.dfm_mk (fun _ _ _ _ _ _ us hl => match us, hl with | [_, _], _ => rfl) ?a28 ?i28 ?l28 ?c28 ?k28, Sd.dfm_mk (fun _ _ _ _ _ _ us hl => match us, hl with | [_], _ => rfl) ?a29 ?i29 ?l29 ?c29 ?k29, Sd.dfm_mk (fun _ _ _ _ _ _ us hl => match us, hl with | [_], _ => rfl) ?a30 ?i30 ?l30 ?c30 ?k30, Sd.dfm_mk (fun _ _ _ _ _ _ us hl => match us, hl with | [_], _ => rfl) ?a31 ?i31 ?l31 ?c31 ?k31, Sd.dfm_mk (fun _ _ _ _ _ _ us hl => match us, hl with | [_], _ => rfl) ?a32 ?i32 ?l32 ?c32 ?k32, Sd.dfm_mk (fun _ _ _ _ _ _ us hl => match us, hl with | [_], _ => rfl) ?a33 ?i33 ?l33 ?c33 ?k33, Sd.dfm_mk (fun _ _ _ _ _ _ us hl => match us, hl with | [_], _ => rfl) ?a34 ?i34 ?l34 ?c34 ?k34, Sd.df_mk2 KX G Pg.pa_law_start ?a35 ?l35 ?c35 ?k35, Sd.df_mk2 KX G Pg.pa_law_draw ?a36 ?l36 ?c36 ?k36, Sd.df_mk2 KX G Pg.pa_law_pick ?a37 ?l37 ?c37 ?k37, Sd.df_mk2 KX G Pg.pa_law_low ?a38 ?l38 ?c38 ?k38, Sd.df_mk2 KX G Pg.pa_law_add ?a39 ?l39 ?c39 ?k39, Sd.df_mk2 KX G Pg.pa_law_less ?a40 ?l40 ?c40 ?k40, Sd.df_mk2 KX G Pg.pa_law_year ?a41 ?l41 ?c41 ?k41, Sd.df_mk2 KX G Pg.pa_law_fresh ?a42 ?l42 ?c42 ?k42, Sd.df_mk2 KX G Pg.pa_law ?a43 ?l43 ?c43 ?k43, PySem.W.mg_none_of KX G ?z44, PySem.W.mg_none_of KX G ?z45, PySem.W.mg_none_of KX G ?z46, PySem.W.mg_none_of KX G ?z47, PySem.W.mg_none_of KX G ?z48, PySem.W.mg_none_of KX G ?z49, PySem.W.mg_none_of KX G ?z50, PySem.W.mg_none_of KX G ?z51, PySem.W.mg_none_of KX G ?z52, PySem.W.mg_none_of KX G ?z53, PySem.W.mg_none_of KX G ?z54, PySem.W.mg_none_of KX G ?z55, PySem.W.mg_none_of KX G ?z56⟩ hmg
    (case a0 => k_is)
    (case a1 => k_is)
    (case a2 => k_is)
    (case a3 => k_is)
    (case a4 => k_is)
    (case a5 => k_is)
    (case a6 => k_is)
    (case a7 => k_is)
    (case a8 => k_is)
    (case a9 => k_is)
    (case a10 => k_is)
    (case a11 => k_is)
    (case a12 => k_is)
    (case a13 => k_is)
    (case a14 => k_is)
    (case a15 => k_is)
    (case a16 => k_is)
    (case a17 => k_is)
    (case a18 => k_is)
    (case a19 => k_is)
    (case a20 => k_is)
    (case a21 => k_is)
    (case a22 => k_is)
    (case a23 => k_is)
    (case a24 => k_is)
    (case a25 => k_is)
    (case a26 => k_is)
    (case aCC => k_is)
    (case a27 => k_is)
    (case a28 => k_is)
    (case a29 => k_is)
    (case a30 => k_is)
    (case a31 => k_is)
    (case a32 => k_is)
    (case a33 => k_is)
    (case a34 => k_is)
    (case a35 => k_is)
    (case a36 => k_is)
    (case a37 => k_is)
    (case a38 => k_is)
    (case a39 => k_is)
    (case a40 => k_is)
    (case a41 => k_is)
    (case a42 => k_is)
    (case a43 => k_is)
    (case l0 => k_is)
    (case c0 => k_is)
    (case k0 => k_is)
    (case x1 => k_exc)
    (case k1 => k_is)
    (case b1 => k_is)
    (case t1 => k_is)
    (case x2 => k_exc)
    (case k2 => k_is)
    (case b2 => k_is)
    (case t2 => k_is)
    (case x3 => k_exc)
    (case k3 => k_is)
    (case b3 => k_is)
    (case t3 => k_is)
    (case x4 => k_exc)
    (case k4 => k_is)
    (case b4 => k_is)
    (case t4 => k_is)
    (case l6 => k_is)
    (case c6 => k_is)
    (case k6 => k_is)
    (case l7 => k_is)
    (case c7 => k_is)
    (case k7 => k_is)
    (case l8 => k_is)
    (case c8 => k_is)
    (case k8 => k_is)
    (case l9 => k_is)
    (case c9 => k_is)
    (case k9 => k_is)
    (case l10 => k_is)
    (case c10 => k_is)
    (case k10 => k_is)
    (case l11 => k_is)
    (case c11 => k_is)
    (case k11 => k_is)
    (case l12 => k_is)
    (case c12 => k_is)
    (case k12 => k_is)
    (case l13 => k_is)
    (case c13 => k_is)
    (case k13 => k_is)
    (case l14 => k_is)
    (case c14 => k_is)
    (case k14 => k_is)
    (case l15 => k_is)
    (case c15 => k_is)
    (case k15 => k_is)
    (case l16 => k_is)
    (case c16 => k_is)
    (case k16 => k_is)
    (case l17 => k_is)
    (case c17 => k_is)
    (case k17 => k_is)
    (case l18 => k_is)
    (case c18 => k_is)
    (case k18 => k_is)
    (case l19 => k_is)
    (case c19 => k_is)
    (case k19 => k_is)
    (case l20 => k_is)
    (case c20 => k_is)
    (case k20 => k_is)
    (case l21 => k_is)
    (case c21 => k_is)
    (case k21 => k_is)
    (case l22 => k_is)
    (case c22 => k_is)
    (case k22 => k_is)
    (case l23 => k_is)
    (case c23 => k_is)
    (case k23 => k_is)
    (case l24 => k_is)
    (case c24 => k_is)
    (case k24 => k_is)
    (case l25 => k_is)
    (case c25 => k_is)
    (case k25 => k_is)
    (case l26 => k_is)
    (case c26 => k_is)
    (case k26 => k_is)
    (case yp => k_is)
    (case yh => k_is)
    (case yo => k_is)
    (case ys => k_is)
    (case ym => k_is)
    (case yk => k_is)
    (case yY => (unfold L2.NoAttr; k_is))
    (case yL => (unfold L2.NoAttr; k_is))
    (case i27 => k_is)
    (case l27 => k_is)
    (case c27 => k_is)
    (case k27 => k_is)
    (case i28 => k_is)
    (case l28 => k_is)
    (case c28 => k_is)
    (case k28 => k_is)
    (case i29 => k_is)
    (case l29 => k_is)
    (case c29 => k_is)
    (case k29 => k_is)
    (case i30 => k_is)
    (case l30 => k_is)
    (case c30 => k_is)
    (case k30 => k_is)
    (case i31 => k_is)
    (case l31 => k_is)
    (case c31 => k_is)
    (case k31 => k_is)
    (case i32 => k_is)
    (case l32 => k_is)
    (case c32 => k_is)
    (case k32 => k_is)
    (case i33 => k_is)
    (case l33 => k_is)
    (case c33 => k_is)
    (case k33 => k_is)
    (case i34 => k_is)
    (case l34 => k_is)
    (case c34 => k_is)
    (case k34 => k_is)
    (case l35 => k_is)
    (case c35 => k_is)
    (case k35 => k_is)
    (case l36 => k_is)
    (case c36 => k_is)
    (case k36 => k_is)
    (case l37 => k_is)
    (case c37 => k_is)
    (case k37 => k_is)
    (case l38 => k_is)
    (case c38 => k_is)
    (case k38 => k_is)
    (case l39 => k_is)
    (case c39 => k_is)
    (case k39 => k_is)
    (case l40 => k_is)
    (case c40 => k_is)
    (case k40 => k_is)
    (case l41 => k_is)
    (case c41 => k_is)
    (case k41 => k_is)
    (case l42 => k_is)
    (case c42 => k_is)
    (case k42 => k_is)
    (case l43 => k_is)
    (case c43 => k_is)
    (case k43 => k_is)
    (case z44 => k_is)
    (case z45 => k_is)
    (case z46 => k_is)
    (case z47 => k_is)
    (case z48 => k_is)
    (case z49 => k_is)
    (case z50 => k_is)
    (case z51 => k_is)
    (case z52 => k_is)
    (case z53 => k_is)
    (case z54 => k_is)
    (case z55 => k_is)
    (case z56 => k_is)
