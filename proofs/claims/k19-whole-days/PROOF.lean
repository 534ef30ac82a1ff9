import PyProof.Rows.All
import Wide.All
import OpenK.AllK
import Wide.FinOn
import HandS.Base
import HandS.Call
import HandS.List
import HandS.Comp
import HandS.Ends
import HandS.Dict
import HandS.Iter
import HandS.Text
import HandS.Exc
import HandS.TryOnly
import HandS.ExcOwn
import HandS.ExcValue
import HandS.IsInst
import HandS.Wide
import HandS.Words
import HandS.WordsList
import HandS.WordsDict
import HandS.WordsExc
import HandS.Style
import HandS.Deep
import HandS.ExcIs
import KE.DataFind
import HandS.Strs
import HandS.More
import HandS.SortRule
import HandS.Conv
import HandS.DictTup
import KE.KDictDisplayH
import HandS.TupSets
import HandS.SortOrd
import PySem.Challenge.RW_samedays_k19_whole_days
set_option Elab.async false
set_option linter.all false
set_option maxRecDepth 100000
set_option maxHeartbeats 16000000
/-! data over the layer: what a value stands for, what is owned, judgements over data -/
namespace Sd
open PySem PySem.Spec PyProof.Rows L2

mutual
inductive Rep (H : Hp) : V → PyData → Prop
  | non : Rep H .non .none
  | bl (b : Bool) : Rep H (.bl b) (.bool b)
  | int (i : Int) : Rep H (.int i) (.int i)
  | str (x : Str) : Rep H (.str x) (.str x)
  | lst {a : Addr} {xs : List V} {ds : List PyData} : H a = some (.lst xs) → Reps H xs ds → Rep H (.ref a) (.list ds)
  | tup {a : Addr} {xs : List V} {ds : List PyData} : H a = some (.tup xs) → Reps H xs ds → Rep H (.ref a) (.tuple ds)
inductive Reps (H : Hp) : List V → List PyData → Prop
  | nil : Reps H [] []
  | cons {v : V} {vs : List V} {d : PyData} {ds : List PyData} : Rep H v d → Reps H vs ds → Reps H (v :: vs) (d :: ds)
end
section
variable {H H' : Hp} {K : PySem.W.Frag}
theorem Rep.mono (e : Same H H') {v : V} {d : PyData} (h : Rep H v d) : Rep H' v d :=
  Rep.rec (motive_1 := fun v d _ => Rep H' v d) (motive_2 := fun vs ds _ => Reps H' vs ds) .non .bl .int .str (fun h _ r => .lst (e _ _ h) r) (fun h _ r => .tup (e _ _ h) r) .nil (fun _ _ a b => .cons a b) h
theorem Reps.mono (e : Same H H') {v : List V} {d : List PyData} (h : Reps H v d) : Reps H' v d :=
  Reps.rec (motive_1 := fun v d _ => Rep H' v d) (motive_2 := fun vs ds _ => Reps H' vs ds) .non .bl .int .str (fun h _ r => .lst (e _ _ h) r) (fun h _ r => .tup (e _ _ h) r) .nil (fun _ _ a b => .cons a b) h
theorem Rep.dp {v : V} {d : PyData} (h : Rep H v d) : Dp K H v d :=
  Rep.rec (motive_1 := fun v d _ => Dp K H v d) (motive_2 := fun vs ds _ => DpAll K H vs ds) .non .bl .int .str (fun h _ r => .lst (SqL.of h) r) (fun h _ r => .tup (SqT.of h) r) .nil (fun _ _ a b => .cons a b) h
theorem Reps.length : ∀ {vs : List V} {ds : List PyData}, Reps H vs ds → vs.length = ds.length
  | _, _, .nil => rfl
  | _, _, .cons _ r => congrArg (· + 1) r.length
theorem Reps.get : ∀ {vs : List V} {ds : List PyData} {i : Nat} {d : PyData}, Reps H vs ds → ds[i]? = some d → ∃ v, vs[i]? = some v ∧ Rep H v d
  | _, _, _, _, .nil, e => by simp at e
  | _, _, 0, _, .cons a _, e => by simp at e; subst e; exact ⟨_, rfl, a⟩
  | _, _, i + 1, d, .cons _ r, e => by
    obtain ⟨v, h1, h2⟩ := Reps.get (i := i) (d := d) r (by simpa using e)
    exact ⟨v, by simpa using h1, h2⟩
theorem Reps.append : ∀ {xs ys : List V} {us ws : List PyData}, Reps H xs us → Reps H ys ws → Reps H (xs ++ ys) (us ++ ws)
  | _, _, _, _, .nil, s => s
  | _, _, _, _, .cons r t, s => .cons r (Reps.append t s)
theorem Reps.take : ∀ {xs : List V} {us : List PyData} (n : Nat), Reps H xs us → Reps H (xs.take n) (us.take n)
  | _, _, 0, _ => .nil
  | _, _, _ + 1, .nil => .nil
  | _, _, n + 1, .cons r t => .cons r (Reps.take n t)
theorem Reps.drop : ∀ {xs : List V} {us : List PyData} (n : Nat), Reps H xs us → Reps H (xs.drop n) (us.drop n)
  | _, _, 0, r => r
  | _, _, _ + 1, .nil => .nil
  | _, _, n + 1, .cons _ t => Reps.drop n t
theorem Reps.set {x : V} {u : PyData} (r : Rep H x u) : ∀ {xs : List V} {us : List PyData} (i : Nat), Reps H xs us → Reps H (xs.set i x) (us.set i u)
  | _, _, _, .nil => .nil
  | _, _, 0, .cons _ t => .cons r t
  | _, _, i + 1, .cons q t => .cons q (Reps.set r i t)
theorem Reps.ints : ∀ (ns : List Int), Reps H (ns.map V.int) (ns.map PyData.int)
  | [] => .nil
  | n :: r => .cons (.int n) (Reps.ints r)
theorem Reps.of_ints : ∀ {ns : List Int} {vs : List V}, Reps H vs (ns.map PyData.int) → vs = ns.map V.int
  | [], _, .nil => rfl
  | n :: r, _, .cons h t => by
    cases h
    rw [Reps.of_ints t]
    rfl
theorem Reps.of_bls : ∀ {ns : List Bool} {vs : List V}, Reps H vs (ns.map PyData.bool) → vs = ns.map V.bl
  | [], _, .nil => rfl
  | n :: r, _, .cons h t => by
    cases h
    rw [Reps.of_bls t]
    rfl
end

/-! ### weakest readings -/
section
variable {X : Cx}
structure wE (X : Cx) (e : Expr) (σ : L2.St) (H : Hp) (Q : VK) : Prop where
  run : ∀ (pins : List (Addr × Obj)) (s : Shared), Inv X pins σ H s → wpAny (model X.prog X.w) X.A (eval e X.env) (EP X pins σ Q) X.xe s
structure wT (X : Cx) (e : Expr) (σ : L2.St) (H : Hp) (Q : Bool → Hp → Prop) : Prop where
  run : ∀ (pins : List (Addr × Obj)) (s : Shared), Inv X pins σ H s → wpAny (model X.prog X.w) X.A (isTrue e X.env (eval e X.env)) (TP X pins σ Q) X.xe s
structure wW (X : Cx) (e : Expr) (σ : L2.St) (H : Hp) (Q : Bool → Hp → Prop) : Prop where
  run : ∀ (whole : Sem Value) (pins : List (Addr × Obj)) (s : Shared), Inv X pins σ H s → wpAny (model X.prog X.w) X.A (isTrue e X.env whole) (TP X pins σ Q) X.xe s
structure wA (X : Cx) (es : List Expr) (σ : L2.St) (H : Hp) (Q : List V → Hp → Prop) : Prop where
  run : ∀ (pos : Pos) (pins : List (Addr × Obj)) (s : Shared), Inv X pins σ H s → wpAny (model X.prog X.w) X.A (spliced (backTo pos (starEach es X.env))) (AP X pins σ Q) X.xe s
structure wS (X : Cx) (st : Stmt) (D : Ends) (σ : L2.St) (H : Hp) : Prop where
  run : ∀ (pins : List (Addr × Obj)) (s : Shared), Inv X pins σ H s → wpAny (model X.prog X.w) X.A (exec st X.env) (SP X pins D) X.xe s
structure wSs (X : Cx) (st : List Stmt) (D : Ends) (σ : L2.St) (H : Hp) : Prop where
  run : ∀ (pins : List (Addr × Obj)) (s : Shared), Inv X pins σ H s → wpAny (model X.prog X.w) X.A (execs st X.env) (SP X pins D) X.xe s
theorem peW {e : Expr} : PE X e (wE X e) := ⟨fun pins s _ _ _ I h => h.run pins s I⟩
theorem ptW {e : Expr} : PT X e (wT X e) := ⟨fun pins s _ _ _ I h => h.run pins s I⟩
theorem pwW {e : Expr} : PW X e (wW X e) := ⟨fun wh pins s _ _ _ I h => h.run wh pins s I⟩
theorem paW {es : List Expr} : PA X es (wA X es) := ⟨fun pos pins s _ _ _ I h => h.run pos pins s I⟩
theorem psW {st : Stmt} : PS X st (wS X st) := ⟨fun pins s _ _ _ I h => h.run pins s I⟩
theorem pssW {st : List Stmt} : PSs X st (wSs X st) := ⟨fun pins s _ _ _ I h => h.run pins s I⟩
theorem wE.of {e : Expr} {t : TE} (h : PE X e t) {σ : L2.St} {H : Hp} {Q : VK} (q : t σ H Q) : wE X e σ H Q := ⟨fun pins s I => h.run pins s σ H Q I q⟩
theorem wT.of {e : Expr} {t : TT} (h : PT X e t) {σ : L2.St} {H : Hp} {Q : Bool → Hp → Prop} (q : t σ H Q) : wT X e σ H Q := ⟨fun pins s I => h.run pins s σ H Q I q⟩
theorem wW.of {e : Expr} {t : TT} (h : PW X e t) {σ : L2.St} {H : Hp} {Q : Bool → Hp → Prop} (q : t σ H Q) : wW X e σ H Q := ⟨fun wh pins s I => h.run wh pins s σ H Q I q⟩
theorem wA.of {es : List Expr} {t : TA} (h : PA X es t) {σ : L2.St} {H : Hp} {Q : List V → Hp → Prop} (q : t σ H Q) : wA X es σ H Q := ⟨fun pos pins s I => h.run pos pins s σ H Q I q⟩
theorem wS.of {st : Stmt} {t : TS} (h : PS X st t) {σ : L2.St} {H : Hp} {D : Ends} (q : t D σ H) : wS X st D σ H := ⟨fun pins s I => h.run pins s σ H D I q⟩
theorem wSs.of {st : List Stmt} {t : TS} (h : PSs X st t) {σ : L2.St} {H : Hp} {D : Ends} (q : t D σ H) : wSs X st D σ H := ⟨fun pins s I => h.run pins s σ H D I q⟩
end

/-! ### what is known of the heap -/
inductive Slot where
  | un
  | d (x : PyData)
  | raw (v : V)
inductive OO where
  | lst (ds : List PyData)
  | raw (o : HO)
  | dt (tb : List (List Int × PyData))
  | dl (od : Obj) (kvs : List (List Key × V)) (tb : List (List Int × PyData))
  | dk (tb : List (Int × PyData))
abbrev Own := List (Addr × OO)
structure Bs where
  Hf : Hp
  HB : Hp
/-- a dict with tuples of ints as keys, as data -/
structure DtOk (Hf : Hp) (kvs : List (List Key × V)) (tb : List (List Int × PyData)) : Prop where
  ks : kvs.map (·.1) = tb.map fun e => e.1.map Sum.inl
  vs : Reps Hf (kvs.map (·.2)) (tb.map (·.2))
structure DkOk (Hf : Hp) (kvs : List (Key × V)) (tb : List (Int × PyData)) : Prop where
  ks : kvs.map (·.1) = tb.map fun e => Sum.inl e.1
  vs : Reps Hf (kvs.map (·.2)) (tb.map (·.2))
def OwnOk (Hf H : Hp) (p : Addr) : OO → Prop
  | .lst ds => ∃ vs, H p = some (.lst vs) ∧ Reps Hf vs ds
  | .raw o => H p = some o
  | .dt tb => ∃ kvs, H p = some (.dT kvs) ∧ DtOk Hf kvs tb
  | .dl od kvs tb => H p = some (.frz od (.dT kvs)) ∧ DtOk Hf kvs tb
  | .dk tb => ∃ kvs, H p = some (.dK kvs) ∧ DkOk Hf kvs tb
theorem OwnOk.mono {Hf Hf' H H' : Hp} {p : Addr} {o : OO} (e : Same Hf Hf') (h : ∀ u, H p = some u → H' p = some u) (x : OwnOk Hf H p o) : OwnOk Hf' H' p o := by
  cases o with
  | lst ds => obtain ⟨vs, h1, h2⟩ := x; exact ⟨vs, h _ h1, h2.mono e⟩
  | raw o => exact h _ x
  | dt tb => obtain ⟨vs, h1, h2⟩ := x; exact ⟨vs, h _ h1, h2.ks, h2.vs.mono e⟩
  | dl od kvs tb => obtain ⟨h1, h2⟩ := x; exact ⟨h _ h1, h2.ks, h2.vs.mono e⟩
  | dk tb => obtain ⟨vs, h1, h2⟩ := x; exact ⟨vs, h _ h1, h2.ks, h2.vs.mono e⟩
theorem OwnOk.there {Hf H : Hp} {p : Addr} {o : OO} (x : OwnOk Hf H p o) : ∃ u, H p = some u := by
  cases o with
  | lst ds => obtain ⟨vs, h1, h2⟩ := x; exact ⟨_, h1⟩
  | raw o => exact ⟨_, x⟩
  | dt tb => obtain ⟨vs, h1, h2⟩ := x; exact ⟨_, h1⟩
  | dl od kvs tb => obtain ⟨h1, h2⟩ := x; exact ⟨_, h1⟩
  | dk tb => obtain ⟨vs, h1, h2⟩ := x; exact ⟨_, h1⟩
structure Sat (B : Bs) (Hf H : Hp) (own : Own) : Prop where
  e0 : Same B.Hf Hf
  e1 : Same Hf H
  eb : Same B.HB H
  fr : ∀ p o, Hf p = some o → B.Hf p = none → B.HB p = none
  ow : ∀ q ∈ own, Hf q.1 = none ∧ B.HB q.1 = none ∧ OwnOk Hf H q.1 q.2
  nd : (own.map Prod.fst).Nodup
  tp : ∀ p xs, H p = some (.tup xs) → Hf p = some (.tup xs)
theorem same_upd {H H' : Hp} {p : Addr} {o : HO} (e : Same H H') (h : H p = none) : Same H (upd H' p o) := fun b x q => by
  rw [upd_ne (ne_of_none q h)]
  exact e b x q
theorem same_upd2 {H H' : Hp} {p : Addr} {o : HO} (e : Same H H') : Same (upd H p o) (upd H' p o) := fun b x q => by
  by_cases hb : b = p
  · subst hb; rw [upd_same] at q ⊢; exact q
  · rw [upd_ne hb] at q ⊢; exact e b x q
section
variable {B : Bs} {Hf H : Hp} {own : Own} {p : Addr}
theorem Sat.none_f (S : Sat B Hf H own) (n : H p = none) : Hf p = none := S.e1.free n
theorem Sat.none_b (S : Sat B Hf H own) (n : H p = none) : B.HB p = none := S.eb.free n
theorem Sat.none_0 (S : Sat B Hf H own) (n : H p = none) : B.Hf p = none := S.e0.free (S.e1.free n)
theorem Sat.ne (S : Sat B Hf H own) (n : H p = none) {q : Addr × OO} (hq : q ∈ own) : q.1 ≠ p := by
  obtain ⟨_, _, c⟩ := S.ow q hq
  obtain ⟨u, hu⟩ := c.there
  exact ne_of_none hu n
/-- a new thing that will not change -/
theorem Sat.new (S : Sat B Hf H own) (n : H p = none) (o : HO) : Sat B (upd Hf p o) (upd H p o) own where
  e0 := same_upd S.e0 (S.none_0 n)
  e1 := same_upd2 S.e1
  eb := same_upd S.eb (S.none_b n)
  fr := fun q u h hb => by
    by_cases e : q = p
    · rw [e]; exact S.none_b n
    · rw [upd_ne e] at h; exact S.fr q u h hb
  ow := fun q hq => by
    obtain ⟨a, b, c⟩ := S.ow q hq
    have ne := S.ne n hq
    exact ⟨by rw [upd_ne ne]; exact a, b, c.mono (same_upd (Same.refl _) (S.none_f n)) fun u hu => by rw [upd_ne ne]; exact hu⟩
  nd := S.nd
  tp := fun q xs h => by
    by_cases e : q = p
    · subst e; rw [upd_same] at h ⊢; exact h
    · rw [upd_ne e] at h ⊢; exact S.tp q xs h
theorem Sat.new_same (S : Sat B Hf H own) (n : H p = none) (o : HO) : Same Hf (upd Hf p o) := same_upd (Same.refl _) (S.none_f n)
/-- a new thing of one's own -/
theorem Sat.newOwn (S : Sat B Hf H own) (n : H p = none) {o : HO} {oo : OO} (ok : OwnOk Hf (upd H p o) p oo) (nt : ∀ xs, o ≠ .tup xs := by intro _ z; cases z) : Sat B Hf (upd H p o) ((p, oo) :: own) where
  e0 := S.e0
  e1 := same_upd S.e1 (S.none_f n)
  eb := same_upd S.eb (S.none_b n)
  fr := S.fr
  ow := fun q hq => by
    rcases List.mem_cons.mp hq with rfl | hq
    · exact ⟨S.none_f n, S.none_b n, ok⟩
    · obtain ⟨a, b, c⟩ := S.ow q hq
      have ne := S.ne n hq
      exact ⟨a, b, c.mono (Same.refl _) fun u hu => by rw [upd_ne ne]; exact hu⟩
  nd := by
    rw [List.map_cons, List.nodup_cons]
    refine ⟨fun hm => ?_, S.nd⟩
    obtain ⟨q, hq, e⟩ := List.mem_map.mp hm
    exact S.ne n hq e
  tp := fun q xs h => by
    by_cases e : q = p
    · subst e; rw [upd_same] at h; exact absurd (Option.some.inj h) (nt xs)
    · rw [upd_ne e] at h; exact S.tp q xs h
theorem Sat.at (S : Sat B Hf H own) {oo : OO} (h : (p, oo) ∈ own) : Hf p = none ∧ B.HB p = none ∧ OwnOk Hf H p oo := S.ow _ h
/-- a thing of one's own changes -/
theorem Sat.write {oa ob : Own} {oo oo' : OO} {o : HO} (S : Sat B Hf H (oa ++ (p, oo) :: ob)) (ok : OwnOk Hf (upd H p o) p oo') (nt : ∀ xs, o ≠ .tup xs := by intro _ z; cases z) : Sat B Hf (upd H p o) (oa ++ (p, oo') :: ob) := by
  obtain ⟨a, b, _⟩ := S.at (p := p) (oo := oo) (by simp)
  have nd := S.nd
  rw [List.map_append, List.map_cons] at nd
  refine ⟨S.e0, same_upd S.e1 a, same_upd S.eb b, S.fr, fun q hq => ?_, by rw [List.map_append, List.map_cons]; exact nd, fun q xs h => ?_⟩
  rotate_left
  · by_cases e : q = p
    · subst e; rw [upd_same] at h; exact absurd (Option.some.inj h) (nt xs)
    · rw [upd_ne e] at h; exact S.tp q xs h
  have key : q ∈ oa ∨ q ∈ ob → Hf q.1 = none ∧ B.HB q.1 = none ∧ OwnOk Hf (upd H p o) q.1 q.2 := fun hq => by
    have hm : q ∈ oa ++ (p, oo) :: ob := by
      rcases hq with h | h
      · exact List.mem_append_left _ h
      · exact List.mem_append_right _ (List.mem_cons_of_mem _ h)
    obtain ⟨a', b', c'⟩ := S.ow q hm
    have ne : q.1 ≠ p := fun e => by
      rcases hq with h | h
      · exact (List.nodup_append.mp nd).2.2 q.1 (List.mem_map.mpr ⟨q, h, rfl⟩) p (List.mem_cons_self) e
      · have := (List.nodup_cons.mp (List.nodup_append.mp nd).2.1).1
        exact this (List.mem_map.mpr ⟨q, h, e⟩)
    exact ⟨a', b', c'.mono (Same.refl _) fun u hu => by rw [upd_ne ne]; exact hu⟩
  rcases List.mem_append.mp hq with h | h
  · exact key (.inl h)
  · rcases List.mem_cons.mp h with rfl | h
    · exact ⟨a, b, ok⟩
    · exact key (.inr h)
/-- a list of one's own will not change any more -/
theorem Sat.freeze {oa ob : Own} {ds : List PyData} (S : Sat B Hf H (oa ++ (p, .lst ds) :: ob)) : ∃ Hf', Same Hf Hf' ∧ Sat B Hf' H (oa ++ ob) ∧ Rep Hf' (.ref p) (.list ds) := by
  obtain ⟨a, b, vs, hp, hr⟩ := S.at (p := p) (oo := .lst ds) (by simp)
  have nd := S.nd
  rw [List.map_append, List.map_cons] at nd
  have sm : Same Hf (upd Hf p (.lst vs)) := same_upd (Same.refl _) a
  refine ⟨upd Hf p (.lst vs), sm, ⟨S.e0.trans sm, fun q u h => ?_, S.eb, fun q u h hb => ?_, fun q hq => ?_, ?_, fun q xs h => sm _ _ (S.tp q xs h)⟩, .lst upd_same (hr.mono sm)⟩
  · by_cases e : q = p
    · subst e; rw [upd_same] at h; rw [hp]; exact h
    · rw [upd_ne e] at h; exact S.e1 q u h
  · by_cases e : q = p
    · subst e; exact b
    · rw [upd_ne e] at h; exact S.fr q u h hb
  · have hm : q ∈ oa ++ (p, .lst ds) :: ob := by
      rcases List.mem_append.mp hq with h | h
      · exact List.mem_append_left _ h
      · exact List.mem_append_right _ (List.mem_cons_of_mem _ h)
    obtain ⟨a', b', c'⟩ := S.ow q hm
    have ne : q.1 ≠ p := fun e => by
      rcases List.mem_append.mp hq with h | h
      · exact (List.nodup_append.mp nd).2.2 q.1 (List.mem_map.mpr ⟨q, h, rfl⟩) p (List.mem_cons_self) e
      · have := (List.nodup_cons.mp (List.nodup_append.mp nd).2.1).1
        exact this (List.mem_map.mpr ⟨q, h, e⟩)
    exact ⟨by rw [upd_ne ne]; exact a', b', c'.mono sm fun u hu => hu⟩
  · rw [List.map_append]
    refine List.nodup_append.mpr ⟨(List.nodup_append.mp nd).1, (List.nodup_cons.mp (List.nodup_append.mp nd).2.1).2, fun x hx y hy => (List.nodup_append.mp nd).2.2 x hx y (List.mem_cons_of_mem _ hy)⟩
/-- forget a thing of one's own -/
theorem Sat.drop {oa ob : Own} {oo : OO} (S : Sat B Hf H (oa ++ (p, oo) :: ob)) : Sat B Hf H (oa ++ ob) := by
  have nd := S.nd
  rw [List.map_append, List.map_cons] at nd
  refine ⟨S.e0, S.e1, S.eb, S.fr, fun q hq => S.ow q ?_, ?_, S.tp⟩
  · rcases List.mem_append.mp hq with h | h
    · exact List.mem_append_left _ h
    · exact List.mem_append_right _ (List.mem_cons_of_mem _ h)
  · rw [List.map_append]
    refine List.nodup_append.mpr ⟨(List.nodup_append.mp nd).1, (List.nodup_cons.mp (List.nodup_append.mp nd).2.1).2, fun x hx y hy => (List.nodup_append.mp nd).2.2 x hx y (List.mem_cons_of_mem _ hy)⟩
end

/-! ### slots -/
def SlotR (Hf : Hp) (v : V) : Slot → Prop
  | .un => True
  | .d x => Rep Hf v x
  | .raw w => v = w
theorem SlotR.mono {Hf Hf' : Hp} (e : Same Hf Hf') {v : V} {s : Slot} (h : SlotR Hf v s) : SlotR Hf' v s := by
  cases s with
  | un => trivial
  | d x => exact Rep.mono e h
  | raw w => exact h
structure EnvR (Hf : Hp) (σ : L2.St) (ρ : List Slot) : Prop where
  len : σ.length = ρ.length
  at_ : ∀ (i : Nat) (s : Slot), ρ[i]? = some s → s = .un ∨ ∃ v, σ[i]? = some (some v) ∧ SlotR Hf v s
section
variable {Hf Hf' : Hp} {σ : L2.St} {ρ : List Slot}
theorem EnvR.mono (e : Same Hf Hf') (h : EnvR Hf σ ρ) : EnvR Hf' σ ρ := ⟨h.len, fun i s q => by
  rcases h.at_ i s q with z | ⟨v, z, r⟩
  · exact .inl z
  · exact .inr ⟨v, z, r.mono e⟩⟩
theorem EnvR.set (h : EnvR Hf σ ρ) {v : V} {s : Slot} (r : SlotR Hf v s) (i : Nat) : EnvR Hf (σ.set i (some v)) (ρ.set i s) := by
  refine ⟨by rw [List.length_set, List.length_set]; exact h.len, fun j t q => ?_⟩
  by_cases e : i = j
  · subst e
    by_cases hi : i < ρ.length
    · rw [List.getElem?_set_self hi] at q
      cases q
      exact .inr ⟨v, by rw [List.getElem?_set_self (by rw [h.len]; exact hi)], r⟩
    · rw [List.getElem?_eq_none (by simpa using hi)] at q
      cases q
  · rw [List.getElem?_set_ne e] at q
    rcases h.at_ j t q with z | ⟨w, z, r'⟩
    · exact .inl z
    · exact .inr ⟨w, by rw [List.getElem?_set_ne e]; exact z, r'⟩
theorem EnvR.unset (h : EnvR Hf σ ρ) (i : Nat) (o : Option V) : EnvR Hf (σ.set i o) (ρ.set i .un) := by
  refine ⟨by rw [List.length_set, List.length_set]; exact h.len, fun j t q => ?_⟩
  by_cases e : i = j
  · subst e
    by_cases hi : i < ρ.length
    · rw [List.getElem?_set_self hi] at q
      cases q
      exact .inl rfl
    · rw [List.getElem?_eq_none (by simpa using hi)] at q
      cases q
  · rw [List.getElem?_set_ne e] at q
    rcases h.at_ j t q with z | ⟨w, z, r'⟩
    · exact .inl z
    · exact .inr ⟨w, by rw [List.getElem?_set_ne e]; exact z, r'⟩
theorem EnvR.d (h : EnvR Hf σ ρ) {i : Nat} {x : PyData} (e : ρ[i]? = some (.d x)) : ∃ v, σ[i]? = some (some v) ∧ Rep Hf v x := by
  rcases h.at_ i _ e with z | z
  · cases z
  · exact z
theorem EnvR.raw (h : EnvR Hf σ ρ) {i : Nat} {w : V} (e : ρ[i]? = some (.raw w)) : σ[i]? = some (some w) := by
  rcases h.at_ i _ e with z | ⟨v, z, r⟩
  · cases z
  · rw [z, show v = w from r]
def wipeR (ρ : List Slot) : List Nat → List Slot
  | [] => ρ
  | v :: vs => (wipeR ρ vs).set v .un
theorem EnvR.wipe (h : EnvR Hf σ ρ) : ∀ is : List Nat, EnvR Hf (wipe σ is) (wipeR ρ is)
  | [] => h
  | i :: is => (EnvR.wipe h is).unset i none
end

/-! ### judgements over data -/
structure Ctx where
  X : Cx
  B : Bs
  ex : Addr → List Slot → Own → Prop
def Wish (Z : Ctx) : WX := fun cls d σ H => ∃ C Hf ρ own, cls = .ref C ∧ d = none ∧ Sat Z.B Hf H own ∧ EnvR Hf σ ρ ∧ Z.ex C ρ own
structure Gd (Z : Ctx) (k : Nat) : Prop where
  tk : Takes Z.X (Wish Z)
  po : PassesOwn (model Z.X.prog Z.X.w) Z.X.A Z.X.env Z.X.xe
  calm : Z.X.calm = true
  nd : Z.X.N.Nodup
  hr : Room k Z.X.A
theorem Gd.mono {Z : Ctx} {j k : Nat} (g : Gd Z k) (h : j ≤ k) : Gd Z j := ⟨g.tk, g.po, g.calm, g.nd, g.hr.mono h⟩
/-- e evaluates to what s says -/
def ES (Z : Ctx) (e : Expr) (ρ : List Slot) (own : Own) (s : Slot) : Prop := ∀ Hf σ H, Sat Z.B Hf H own → EnvR Hf σ ρ → ∀ Q : VK, (∀ v Hf' H', Same Hf Hf' → Sat Z.B Hf' H' own → SlotR Hf' v s → Q v H') → wE Z.X e σ H Q
abbrev ED (Z : Ctx) (e : Expr) (ρ : List Slot) (own : Own) (x : PyData) : Prop := ES Z e ρ own (.d x)
abbrev EV (Z : Ctx) (e : Expr) (ρ : List Slot) (own : Own) (v : V) : Prop := ES Z e ρ own (.raw v)
/-- a new list of one's own -/
def EL (Z : Ctx) (e : Expr) (ρ : List Slot) (own : Own) (ds : List PyData) : Prop := ∀ Hf σ H, Sat Z.B Hf H own → EnvR Hf σ ρ → ∀ Q : VK, (∀ p Hf' H', Same Hf Hf' → Sat Z.B Hf' H' ((p, .lst ds) :: own) → Q (.ref p) H') → wE Z.X e σ H Q
def ET (Z : Ctx) (e : Expr) (ρ : List Slot) (own : Own) (b : Bool) : Prop := ∀ Hf σ H, Sat Z.B Hf H own → EnvR Hf σ ρ → ∀ Q : Bool → Hp → Prop, (∀ Hf' H', Same Hf Hf' → Sat Z.B Hf' H' own → Q b H') → wT Z.X e σ H Q
def EW (Z : Ctx) (e : Expr) (ρ : List Slot) (own : Own) (b : Bool) : Prop := ∀ Hf σ H, Sat Z.B Hf H own → EnvR Hf σ ρ → ∀ Q : Bool → Hp → Prop, (∀ Hf' H', Same Hf Hf' → Sat Z.B Hf' H' own → Q b H') → wW Z.X e σ H Q
inductive SlotsR (Hf : Hp) : List V → List Slot → Prop
  | nil : SlotsR Hf [] []
  | cons {v : V} {vs : List V} {s : Slot} {ss : List Slot} : SlotR Hf v s → SlotsR Hf vs ss → SlotsR Hf (v :: vs) (s :: ss)
theorem SlotsR.mono {Hf Hf' : Hp} (e : Same Hf Hf') : ∀ {vs : List V} {ss : List Slot}, SlotsR Hf vs ss → SlotsR Hf' vs ss
  | _, _, .nil => .nil
  | _, _, .cons a b => .cons (a.mono e) (b.mono e)
theorem SlotsR.length {Hf : Hp} : ∀ {vs : List V} {ss : List Slot}, SlotsR Hf vs ss → vs.length = ss.length
  | _, _, .nil => rfl
  | _, _, .cons _ r => congrArg (· + 1) r.length
theorem SlotsR.data {Hf : Hp} : ∀ {vs : List V} {ds : List PyData}, SlotsR Hf vs (ds.map Slot.d) → Reps Hf vs ds
  | _, [], .nil => .nil
  | _, _ :: _, .cons a b => .cons a b.data
def EA (Z : Ctx) (es : List Expr) (ρ : List Slot) (own : Own) (ss : List Slot) : Prop := ∀ Hf σ H, Sat Z.B Hf H own → EnvR Hf σ ρ → ∀ Q : List V → Hp → Prop, (∀ vs Hf' H', Same Hf Hf' → Sat Z.B Hf' H' own → SlotsR Hf' vs ss → Q vs H') → wA Z.X es σ H Q

section
variable {Z : Ctx} {e a b c : Expr} {ρ : List Slot} {own : Own} {pos : Pos} {x y : PyData} {i j : Int} {s t : Slot} {k : Nat}
theorem ES.is (h : ED Z e ρ own x) (q : x = y) : ED Z e ρ own y := q ▸ h
theorem ET.is {b b' : Bool} (h : ET Z e ρ own b) (q : b = b') : ET Z e ρ own b' := q ▸ h
theorem EL.is {xs ys : List PyData} (h : EL Z e ρ own xs) (q : xs = ys) : EL Z e ρ own ys := q ▸ h
/-- a new list is data -/
theorem EL.ed {ds : List PyData} (h : EL Z e ρ own ds) : ED Z e ρ own (.list ds) := fun Hf σ H S R Q q => h Hf σ H S R Q fun p Hf' H' m S' => by
  obtain ⟨Hf2, m2, S2, r⟩ := Sat.freeze (oa := []) S'
  exact q _ Hf2 H' (m.trans m2) S2 r
/-! names, constants -/
theorem es_v (n : Nat) {z : Str} {s : Slot} (he : ρ[n]? = some s) (hs : s ≠ .un) (hN : Z.X.N[n]? = some z := by rfl) (hv : Vis Z.X.env.scope z := by first | exact Or.inl rfl | exact Or.inr (Or.inl rfl) | exact Or.inr (Or.inr rfl)) (hd : (z == ("__debug__" : Str)) = false := by decide)
    (hcd : (z == ("__classdict__" : Str)) = false := by decide) : ES Z (.Name z pos) ρ own s := fun Hf σ H S R Q q => wE.of (pe_var hN hv hd hcd) (by
  rcases R.at_ n s he with z | ⟨v, e, r⟩
  · exact absurd z hs
  · exact ⟨v, e, q v Hf H (Same.refl _) S r⟩)
theorem ed_v (n : Nat) {z : Str} {x : PyData} (he : ρ[n]? = some (.d x) := by rfl) (hN : Z.X.N[n]? = some z := by rfl) (hv : Vis Z.X.env.scope z := by first | exact Or.inl rfl | exact Or.inr (Or.inl rfl) | exact Or.inr (Or.inr rfl)) (hd : (z == ("__debug__" : Str)) = false := by decide)
    (hcd : (z == ("__classdict__" : Str)) = false := by decide) : ED Z (.Name z pos) ρ own x := es_v n he (fun q => nomatch q) hN hv hd hcd
theorem ev_v (n : Nat) {z : Str} {x : V} (he : ρ[n]? = some (.raw x) := by rfl) (hN : Z.X.N[n]? = some z := by rfl) (hv : Vis Z.X.env.scope z := by first | exact Or.inl rfl | exact Or.inr (Or.inl rfl) | exact Or.inr (Or.inr rfl)) (hd : (z == ("__debug__" : Str)) = false := by decide)
    (hcd : (z == ("__classdict__" : Str)) = false := by decide) : EV Z (.Name z pos) ρ own x := es_v n he (fun q => nomatch q) hN hv hd hcd
theorem ed_int {j : Nat} {i : Int} : ED Z (.Constant (.int i) j pos) ρ own (.int i) := fun Hf σ H S R Q q => wE.of pe_int (q _ Hf H (Same.refl _) S (.int i))
theorem ed_bl {j : Nat} {b : Bool} : ED Z (.Constant (.bool b) j pos) ρ own (.bool b) := fun Hf σ H S R Q q => wE.of pe_bl (q _ Hf H (Same.refl _) S (.bl b))
/-- a module's own int -/
theorem ed_glob {z : Str} {n : Int} {t : Tok} (hg : Gl Z.X z) (hm : Z.X.mg z = some (.int n t)) (hd : (z == ("__debug__" : Str)) = false := by decide) : ED Z (.Name z pos) ρ own (.int n) := fun Hf σ H S R Q q => wE.of (pe_glob hg hm (v := .int n) ⟨_, rfl⟩ hd) (q _ Hf H (Same.refl _) S (.int n))
theorem ev_ty {z : Str} {T : String} (hg : Gl Z.X z) (hm : Z.X.mg z = none) (hv : bootBuiltins z = some (.type T)) (hn : z ≠ "__name__" := by decide) (hd : (z == ("__debug__" : Str)) = false := by decide) : EV Z (.Name z pos) ρ own (.ty T) := fun Hf σ H S R Q q => wE.of (pe_bltn hg hm hv (v := .ty T) rfl hn hd) (q _ Hf H (Same.refl _) S rfl)

end
end Sd


namespace Sd
open PySem PySem.Spec PyProof.Rows L2
section
variable {Z : Ctx} {e a b c : Expr} {es : List Expr} {ρ : List Slot} {own : Own} {pos : Pos} {x y : PyData} {i j : Int} {s t u : Slot} {k : Nat}
theorem es_bin {op : Operator} {r : R2} {u : Slot} (ho : OpR Z.X (binaryOp op) r) (ha : ES Z a ρ own s) (hb : ES Z b ρ own t)
    (hr : ∀ v w Hf H, Sat Z.B Hf H own → SlotR Hf v s → SlotR Hf w t → ∀ Q : VK, (∀ z Hf' H', Same Hf Hf' → Sat Z.B Hf' H' own → SlotR Hf' z u → Q z H') → r v w H Q) : ES Z (.BinOp a op b pos) ρ own u := fun Hf σ H S R Q q =>
  wE.of (pe_op ho peW peW) (ha Hf σ H S R _ fun v Hf1 H1 m1 S1 r1 => hb Hf1 σ H1 S1 (R.mono m1) _ fun w Hf2 H2 m2 S2 r2 => hr v w Hf2 H2 S2 (r1.mono m2) r2 Q fun z Hf3 H3 m3 S3 r3 => q z Hf3 H3 ((m1.trans m2).trans m3) S3 r3)
theorem el_bin {op : Operator} {r : R2} {ds : List PyData} (ho : OpR Z.X (binaryOp op) r) (ha : ES Z a ρ own s) (hb : ES Z b ρ own t)
    (hr : ∀ v w Hf H, Sat Z.B Hf H own → SlotR Hf v s → SlotR Hf w t → ∀ Q : VK, (∀ p Hf' H', Same Hf Hf' → Sat Z.B Hf' H' ((p, .lst ds) :: own) → Q (.ref p) H') → r v w H Q) : EL Z (.BinOp a op b pos) ρ own ds := fun Hf σ H S R Q q =>
  wE.of (pe_op ho peW peW) (ha Hf σ H S R _ fun v Hf1 H1 m1 S1 r1 => hb Hf1 σ H1 S1 (R.mono m1) _ fun w Hf2 H2 m2 S2 r2 => hr v w Hf2 H2 S2 (r1.mono m2) r2 Q fun z Hf3 H3 m3 S3 => q z Hf3 H3 ((m1.trans m2).trans m3) S3)
theorem ed_add (ha : ED Z a ρ own (.int i)) (hb : ED Z b ρ own (.int j)) : ED Z (.BinOp a .Add b pos) ρ own (.int (i + j)) := es_bin op_add ha hb fun v w Hf H S r1 r2 Q q => by
  cases r1; cases r2
  exact ⟨i, j, rfl, rfl, q _ Hf H (Same.refl _) S (.int _)⟩
theorem ed_sub (ha : ED Z a ρ own (.int i)) (hb : ED Z b ρ own (.int j)) : ED Z (.BinOp a .Sub b pos) ρ own (.int (i - j)) := es_bin op_sub ha hb fun v w Hf H S r1 r2 Q q => by
  cases r1; cases r2
  exact ⟨i, j, rfl, rfl, q _ Hf H (Same.refl _) S (.int _)⟩
/-- a product: small by the size of both -/
theorem ed_mul (ha : ED Z a ρ own (.int i)) (hb : ED Z b ρ own (.int j)) (h : CMulW i j) : ED Z (.BinOp a .Mult b pos) ρ own (.int (i * j)) := es_bin op_mulW ha hb fun v w Hf H S r1 r2 Q q => by
  cases r1; cases r2
  exact ⟨i, j, rfl, rfl, h, q _ Hf H (Same.refl _) S (.int _)⟩
theorem ed_mulS (ha : ED Z a ρ own (.int i)) (hb : ED Z b ρ own (.int j)) (h : CMul i j) : ED Z (.BinOp a .Mult b pos) ρ own (.int (i * j)) := es_bin op_mul ha hb fun v w Hf H S r1 r2 Q q => by
  cases r1; cases r2
  exact ⟨i, j, rfl, rfl, h, q _ Hf H (Same.refl _) S (.int _)⟩
theorem ed_fdiv (ha : ED Z a ρ own (.int i)) (hb : ED Z b ρ own (.int j)) (h : CDivW i j) : ED Z (.BinOp a .FloorDiv b pos) ρ own (.int (i / j)) := es_bin op_fdivW ha hb fun v w Hf H S r1 r2 Q q => by
  cases r1; cases r2
  exact ⟨i, j, rfl, rfl, h, q _ Hf H (Same.refl _) S (.int _)⟩
theorem ed_fdivS (ha : ED Z a ρ own (.int i)) (hb : ED Z b ρ own (.int j)) (h : 0 < j ∧ j < 1073741824) : ED Z (.BinOp a .FloorDiv b pos) ρ own (.int (i / j)) := es_bin op_fdiv ha hb fun v w Hf H S r1 r2 Q q => by
  cases r1; cases r2
  exact ⟨i, j, rfl, rfl, h, q _ Hf H (Same.refl _) S (.int _)⟩
theorem ed_mod (ha : ED Z a ρ own (.int i)) (hb : ED Z b ρ own (.int j)) (h : 0 < j) : ED Z (.BinOp a .Mod b pos) ρ own (.int (i % j)) := es_bin op_mod ha hb fun v w Hf H S r1 r2 Q q => by
  cases r1; cases r2
  exact ⟨i, j, rfl, rfl, h, q _ Hf H (Same.refl _) S (.int _)⟩
theorem ed_pow (ha : ED Z a ρ own (.int i)) (hb : ED Z b ρ own (.int j)) (h : CPow i j) : ED Z (.BinOp a .Pow b pos) ρ own (.int (i ^ j.toNat)) := es_bin op_pow ha hb fun v w Hf H S r1 r2 Q q => by
  cases r1; cases r2
  exact ⟨i, j, rfl, rfl, h, q _ Hf H (Same.refl _) S (.int _)⟩
def Lst (own : Own) (s : Slot) (ds : List PyData) : Prop := s = .d (.list ds) ∨ ∃ p, s = .raw (.ref p) ∧ (p, OO.lst ds) ∈ own
theorem Lst.d {ds : List PyData} : Lst own (.d (.list ds)) ds := .inl rfl
theorem Lst.o {p : Addr} {ds : List PyData} (h : (p, OO.lst ds) ∈ own) : Lst own (.raw (.ref p)) ds := .inr ⟨p, rfl, h⟩
theorem Lst.at {B : Bs} {Hf H : Hp} {ds : List PyData} {v : V} (L : Lst own s ds) (S : Sat B Hf H own) (r : SlotR Hf v s) : ∃ p vs, v = .ref p ∧ H p = some (.lst vs) ∧ Reps Hf vs ds := by
  rcases L with rfl | ⟨p, rfl, h⟩
  · cases r with
    | lst h1 h2 => exact ⟨_, _, rfl, S.e1 _ _ h1, h2⟩
  · obtain ⟨_, _, vs, h1, h2⟩ := S.at h
    exact ⟨p, vs, r, h1, h2⟩
theorem Reps.rep {H : Hp} {xs : List V} {us : List PyData} (h : Reps H xs us) : ∀ k : Nat, Reps H (List.replicate k xs).flatten (List.replicate k us).flatten
  | 0 => .nil
  | k + 1 => by
    rw [List.replicate_succ, List.replicate_succ, List.flatten_cons, List.flatten_cons]
    exact h.append (h.rep k)
/-- xs * n -/
theorem el_rep {xs : List PyData} (ha : ES Z a ρ own s) (hb : ED Z b ρ own (.int i)) (l1 : Lst own s xs) (h : i ≤ 1000 ∧ -1000 ≤ i) (h2 : xs.length ≤ 1000) : EL Z (.BinOp a .Mult b pos) ρ own (List.replicate i.toNat xs).flatten := el_bin op_rep ha hb fun v w Hf H S r1 r2 Q q => by
  obtain ⟨p, vs, rfl, h1, g1⟩ := l1.at S r1
  cases r2
  have e1 := g1.length
  refine ⟨p, i, vs, rfl, rfl, h1, by omega, by omega, ?_, fun l hl => q l Hf _ (Same.refl _) (S.newOwn hl ⟨_, upd_same, g1.rep _⟩)⟩
  have : vs.length * i.toNat ≤ 1000 * 1000 := Nat.mul_le_mul (by omega) (by omega)
  exact Nat.le_trans this (by decide)

/-! comparisons, tests -/
theorem es_cmp {op : CmpOp} {r : R2} {u : Slot} (ho : OpR Z.X (compareOp op) r) (hm : behindInMarks op b = false) (ha : ES Z a ρ own s) (hb : ES Z b ρ own t)
    (hr : ∀ v w Hf H, Sat Z.B Hf H own → SlotR Hf v s → SlotR Hf w t → ∀ Q : VK, (∀ z Hf' H', Same Hf Hf' → Sat Z.B Hf' H' own → SlotR Hf' z u → Q z H') → r v w H Q) : ES Z (.Compare a [op] [b] pos) ρ own u := fun Hf σ H S R Q q =>
  wE.of (pe_cmpR ho peW peW hm) (ha Hf σ H S R _ fun v Hf1 H1 m1 S1 r1 => hb Hf1 σ H1 S1 (R.mono m1) _ fun w Hf2 H2 m2 S2 r2 => hr v w Hf2 H2 S2 (r1.mono m2) r2 Q fun z Hf3 H3 m3 S3 r3 => q z Hf3 H3 ((m1.trans m2).trans m3) S3 r3)
/-- a comparison that is a bool: as a value and as a test -/
def CmpB (Z : Ctx) (op : CmpOp) (own : Own) (s t : Slot) (k : Bool) : Prop := ∃ r : R2, OpR Z.X (compareOp op) r ∧ ∀ v w Hf H, Sat Z.B Hf H own → SlotR Hf v s → SlotR Hf w t → ∀ Q : VK, Q (.bl k) H → r v w H Q
theorem ed_cmp {op : CmpOp} {k : Bool} (hc : CmpB Z op own s t k) (ha : ES Z a ρ own s) (hb : ES Z b ρ own t) (hm : behindInMarks op b = false := by first | exact nomark _ | rfl) : ED Z (.Compare a [op] [b] pos) ρ own (.bool k) := by
  obtain ⟨r, ho, hr⟩ := hc
  exact es_cmp ho hm ha hb fun v w Hf H S r1 r2 Q q => hr v w Hf H S r1 r2 Q (q _ Hf H (Same.refl _) S (.bl k))
theorem et_cmp {op : CmpOp} {k : Bool} (hc : CmpB Z op own s t k) (ha : ES Z a ρ own s) (hb : ES Z b ρ own t) (hm : behindInMarks op b = false := by first | exact nomark _ | rfl) : ET Z (.Compare a [op] [b] pos) ρ own k := by
  obtain ⟨r, ho, hr⟩ := hc
  exact fun Hf σ H S R Q q => wT.of (pt_cmpR ho peW peW hm) (ha Hf σ H S R _ fun v Hf1 H1 m1 S1 r1 => hb Hf1 σ H1 S1 (R.mono m1) _ fun w Hf2 H2 m2 S2 r2 => hr v w Hf2 H2 S2 (r1.mono m2) r2 _ ⟨k, rfl, q Hf2 H2 (m1.trans m2) S2⟩)
theorem c_lt : CmpB Z .Lt own (.d (.int i)) (.d (.int j)) (decide (i < j)) := ⟨_, op_lt, fun v w Hf H S r1 r2 Q q => by cases r1; cases r2; exact ⟨i, j, rfl, rfl, q⟩⟩
theorem c_le : CmpB Z .LtE own (.d (.int i)) (.d (.int j)) (decide (i ≤ j)) := ⟨_, op_le, fun v w Hf H S r1 r2 Q q => by cases r1; cases r2; exact ⟨i, j, rfl, rfl, q⟩⟩
theorem c_gt : CmpB Z .Gt own (.d (.int i)) (.d (.int j)) (decide (j < i)) := ⟨_, op_gt, fun v w Hf H S r1 r2 Q q => by cases r1; cases r2; exact ⟨i, j, rfl, rfl, q⟩⟩
theorem c_ge : CmpB Z .GtE own (.d (.int i)) (.d (.int j)) (decide (j ≤ i)) := ⟨_, op_ge, fun v w Hf H S r1 r2 Q q => by cases r1; cases r2; exact ⟨i, j, rfl, rfl, q⟩⟩
theorem c_eqI : CmpB Z .Eq own (.d (.int i)) (.d (.int j)) (decide (i = j)) := ⟨_, op_eq, fun v w Hf H S r1 r2 Q q => by
  cases r1; cases r2
  refine ⟨rfl, ?_⟩
  rw [dec_int, Bool.beq_eq_decide_eq]
  exact q⟩
theorem c_neI : CmpB Z .NotEq own (.d (.int i)) (.d (.int j)) (!decide (i = j)) := ⟨_, op_ne, fun v w Hf H S r1 r2 Q q => by
  cases r1; cases r2
  refine ⟨rfl, ?_⟩
  rw [dec_int, Bool.beq_eq_decide_eq]
  exact q⟩
/-- data, or a list of one's own, as data -/
def Dat (own : Own) (s : Slot) (x : PyData) : Prop := s = .d x ∨ ∃ ds, x = .list ds ∧ Lst own s ds
theorem Dat.at {B : Bs} {Hf H : Hp} {v : V} (L : Dat own s x) (S : Sat B Hf H own) (r : SlotR Hf v s) : Rep H v x := by
  rcases L with rfl | ⟨ds, rfl, L⟩
  · exact Rep.mono S.e1 r
  · obtain ⟨p, vs, rfl, h1, h2⟩ := L.at S r
    exact .lst h1 (h2.mono S.e1)
theorem Dat.d : Dat own (.d x) x := .inl rfl
theorem Dat.o {p : Addr} {ds : List PyData} (h : (p, OO.lst ds) ∈ own) : Dat own (.raw (.ref p)) (.list ds) := .inr ⟨ds, rfl, .o h⟩
theorem c_eq (g : Gd Z k) (d1 : Dat own s x) (d2 : Dat own t y) (h1 : SeqAt.shaped x = true) (h2 : SeqAt.shaped y = true) : CmpB Z .Eq own s t (PyData.eqv x y) := ⟨_, op_eqD g.hr.units, fun v w Hf H S r1 r2 Q q => ⟨x, y, (d1.at S r1).dp, (d2.at S r2).dp, h1, h2, q⟩⟩
theorem c_ne (g : Gd Z k) (d1 : Dat own s x) (d2 : Dat own t y) (h1 : SeqAt.shaped x = true) (h2 : SeqAt.shaped y = true) : CmpB Z .NotEq own s t (!PyData.eqv x y) := ⟨_, op_neD g.hr.units, fun v w Hf H S r1 r2 Q q => ⟨x, y, (d1.at S r1).dp, (d2.at S r2).dp, h1, h2, q⟩⟩
/-- is None -/
def isNone : Slot → Bool
  | .d .none => true
  | .raw .non => true
  | _ => false
/-- a bool as a test -/
theorem et_val {k : Bool} (h : ED Z e ρ own (.bool k)) (he : ∀ whole, isTrue e Z.X.env whole = (do let v ← whole; standAt e.pos; holding [v] (truthy v)) := by intro _; rfl) : ET Z e ρ own k := fun Hf σ H S R Q q =>
  wT.of (pt_val peW he) (h Hf σ H S R _ fun v Hf1 H1 m1 S1 r1 => by cases r1; exact ⟨k, rfl, q Hf1 H1 m1 S1⟩)
theorem EW.et {k : Bool} (h : EW Z e ρ own k) : ET Z e ρ own k := fun Hf σ H S R Q q => wT.of pwW.pt (h Hf σ H S R Q q)
theorem et_not {k : Bool} (h : ET Z e ρ own k) : ET Z (.UnaryOp .Not e pos) ρ own (!k) := fun Hf σ H S R Q q => wT.of (pt_not ptW) (h Hf σ H S R _ fun Hf1 H1 m1 S1 => q Hf1 H1 m1 S1)
variable {rest : List Expr}
theorem ew_and1 {k : Bool} (h : ET Z a ρ own k) : EW Z (.BoolOp .And [a] pos) ρ own k := fun Hf σ H S R Q q => wW.of (pw_and1 ptW) (h Hf σ H S R Q q)
theorem ew_or1 {k : Bool} (h : ET Z a ρ own k) : EW Z (.BoolOp .Or [a] pos) ρ own k := fun Hf σ H S R Q q => wW.of (pw_or1 ptW) (h Hf σ H S R Q q)
theorem ew_and {k l : Bool} (h1 : ET Z a ρ own k) (h2 : k = true → EW Z (.BoolOp .And (b :: rest) pos) ρ own l) : EW Z (.BoolOp .And (a :: b :: rest) pos) ρ own (k && l) := fun Hf σ H S R Q q => wW.of (pw_and ptW pwW) (h1 Hf σ H S R _ fun Hf1 H1 m1 S1 => by
  cases k with
  | true =>
    refine iteT (h2 rfl Hf1 σ H1 S1 (R.mono m1) Q fun Hf2 H2 m2 S2 => q Hf2 H2 (m1.trans m2) S2)
  | false => exact iteF (q Hf1 H1 m1 S1))
theorem ew_or {k l : Bool} (h1 : ET Z a ρ own k) (h2 : k = false → EW Z (.BoolOp .Or (b :: rest) pos) ρ own l) : EW Z (.BoolOp .Or (a :: b :: rest) pos) ρ own (k || l) := fun Hf σ H S R Q q => wW.of (pw_or ptW pwW) (h1 Hf σ H S R _ fun Hf1 H1 m1 S1 => by
  cases k with
  | true => exact iteT (q Hf1 H1 m1 S1)
  | false =>
    refine iteF (h2 rfl Hf1 σ H1 S1 (R.mono m1) Q fun Hf2 H2 m2 S2 => q Hf2 H2 (m1.trans m2) S2))
theorem ed_one {op : BoolOp} (h : ES Z a ρ own s) : ES Z (.BoolOp op [a] pos) ρ own s := fun Hf σ H S R Q q => wE.of (pe_one peW) (h Hf σ H S R Q q)
theorem ed_and {k l : Bool} (h1 : ED Z a ρ own (.bool k)) (h2 : k = true → ED Z (.BoolOp .And (b :: rest) pos) ρ own (.bool l)) : ED Z (.BoolOp .And (a :: b :: rest) pos) ρ own (.bool (k && l)) := fun Hf σ H S R Q q => wE.of (pe_and peW peW) (h1 Hf σ H S R _ fun v Hf1 H1 m1 S1 r1 => by
  cases r1
  refine ⟨k, rfl, ?_⟩
  cases k with
  | true => exact iteT (h2 rfl Hf1 σ H1 S1 (R.mono m1) Q fun v Hf2 H2 m2 S2 r2 => q v Hf2 H2 (m1.trans m2) S2 r2)
  | false => exact iteF (q _ Hf1 H1 m1 S1 (.bl false)))
theorem ed_not {k : Bool} (h : ED Z a ρ own (.bool k)) : ED Z (.UnaryOp .Not a pos) ρ own (.bool (!k)) := fun Hf σ H S R Q q => wE.of (pe_not peW) (h Hf σ H S R _ fun v Hf1 H1 m1 S1 r1 => by
  cases r1
  exact ⟨k, rfl, q _ Hf1 H1 m1 S1 (.bl _)⟩)
theorem es_if {k : Bool} (h : ET Z c ρ own k) (h1 : k = true → ES Z a ρ own s) (h2 : k = false → ES Z b ρ own s) : ES Z (.IfExp c a b pos) ρ own s := fun Hf σ H S R Q q => wE.of (pe_ifExp ptW peW peW) (h Hf σ H S R _ fun Hf1 H1 m1 S1 => by
  cases k with
  | true => exact iteT (h1 rfl Hf1 σ H1 S1 (R.mono m1) Q fun v Hf2 H2 m2 S2 r2 => q v Hf2 H2 (m1.trans m2) S2 r2)
  | false => exact iteF (h2 rfl Hf1 σ H1 S1 (R.mono m1) Q fun v Hf2 H2 m2 S2 r2 => q v Hf2 H2 (m1.trans m2) S2 r2))
theorem el_if {k : Bool} {ds : List PyData} (h : ET Z c ρ own k) (h1 : k = true → EL Z a ρ own ds) (h2 : k = false → EL Z b ρ own ds) : EL Z (.IfExp c a b pos) ρ own ds := fun Hf σ H S R Q q => wE.of (pe_ifExp ptW peW peW) (h Hf σ H S R _ fun Hf1 H1 m1 S1 => by
  cases k with
  | true => exact iteT (h1 rfl Hf1 σ H1 S1 (R.mono m1) Q fun v Hf2 H2 m2 S2 => q v Hf2 H2 (m1.trans m2) S2)
  | false => exact iteF (h2 rfl Hf1 σ H1 S1 (R.mono m1) Q fun v Hf2 H2 m2 S2 => q v Hf2 H2 (m1.trans m2) S2))
theorem et_chain {op op' : CmpOp} {k l : Bool} (hc1 : CmpB Z op own s t k) (hc2 : CmpB Z op' own t u l) (ha : ES Z a ρ own s) (hb : ES Z b ρ own t) (hd : ES Z c ρ own u) (hm : lastMarks [op, op'] [b, c] = false := by with_unfolding_all rfl) :
    ET Z (.Compare a [op, op'] [b, c] pos) ρ own (k && l) := by
  obtain ⟨r, ho, hr⟩ := hc1
  obtain ⟨r', ho', hr'⟩ := hc2
  refine fun Hf σ H S R Q q => wT.of (pt_chain ho ho' peW peW peW hm) (ha Hf σ H S R _ fun v Hf1 H1 m1 S1 r1 => hb Hf1 σ H1 S1 (R.mono m1) _ fun w Hf2 H2 m2 S2 r2 => hr v w Hf2 H2 S2 (r1.mono m2) r2 _ ⟨k, rfl, ?_⟩)
  cases k with
  | false => exact iteF ⟨_, rfl, q Hf2 H2 (m1.trans m2) S2⟩
  | true => exact iteT (hd Hf2 σ H2 S2 (R.mono (m1.trans m2)) _ fun z Hf3 H3 m3 S3 r3 => hr' w z Hf3 H3 S3 (r2.mono m3) r3 _ ⟨l, rfl, q Hf3 H3 ((m1.trans m2).trans m3) S3⟩)
theorem ed_chain {op op' : CmpOp} {k l : Bool} (hc1 : CmpB Z op own s t k) (hc2 : CmpB Z op' own t u l) (ha : ES Z a ρ own s) (hb : ES Z b ρ own t) (hd : ES Z c ρ own u) (hm : lastMarks [op, op'] [b, c] = false := by with_unfolding_all rfl) :
    ED Z (.Compare a [op, op'] [b, c] pos) ρ own (.bool (k && l)) := by
  obtain ⟨r, ho, hr⟩ := hc1
  obtain ⟨r', ho', hr'⟩ := hc2
  refine fun Hf σ H S R Q q => wE.of (pe_chain ho ho' peW peW peW hm) (ha Hf σ H S R _ fun v Hf1 H1 m1 S1 r1 => hb Hf1 σ H1 S1 (R.mono m1) _ fun w Hf2 H2 m2 S2 r2 => hr v w Hf2 H2 S2 (r1.mono m2) r2 _ ⟨k, rfl, ?_⟩)
  cases k with
  | false => exact iteF (q _ Hf2 H2 (m1.trans m2) S2 (.bl false))
  | true => exact iteT (hd Hf2 σ H2 S2 (R.mono (m1.trans m2)) _ fun z Hf3 H3 m3 S3 r3 => hr' w z Hf3 H3 S3 (r2.mono m3) r3 _ (q _ Hf3 H3 ((m1.trans m2).trans m3) S3 (.bl l)))

/-! arguments, displays -/
theorem ea_nil : EA Z [] ρ own [] := fun Hf σ H S R Q q => wA.of pa_nil (q [] Hf H (Same.refl _) S .nil)
theorem ea_cons {ss : List Slot} (h : ES Z e ρ own s) (hr : EA Z es ρ own ss) (hs : starEach (e :: es) Z.X.env = (false, eval e Z.X.env) :: starEach es Z.X.env := by rfl) : EA Z (e :: es) ρ own (s :: ss) := fun Hf σ H S R Q q => wA.of (pa_cons peW paW hs) (h Hf σ H S R _ fun v Hf1 H1 m1 S1 r1 =>
  hr Hf1 σ H1 S1 (R.mono m1) _ fun vs Hf2 H2 m2 S2 r2 => q (v :: vs) Hf2 H2 (m1.trans m2) S2 (.cons (r1.mono m2) r2))
theorem ed_tup {x1 : Nat} {ds : List PyData} (h : EA Z es ρ own (ds.map Slot.d)) (hl : ds.length ≤ 1000 := by exact Nat.le_of_ble_eq_true rfl) : ED Z (.Tuple es x1 pos) ρ own (.tuple ds) := fun Hf σ H S R Q q => wE.of (pe_tup paW) (h Hf σ H S R _ fun vs Hf1 H1 m1 S1 r1 => by
  have r := r1.data
  refine ⟨Nat.le_trans (by rw [r.length]; exact hl) (by decide), fun p hp => q (.ref p) _ _ (m1.trans (S1.new_same hp _)) (S1.new hp _) (.tup upd_same (r.mono (S1.new_same hp _)))⟩)
theorem el_lst {ds : List PyData} (h : EA Z es ρ own (ds.map Slot.d)) (hl : ds.length ≤ 1000 := by exact Nat.le_of_ble_eq_true rfl) : EL Z (.List es pos) ρ own ds := fun Hf σ H S R Q q => wE.of (pe_lst paW) (h Hf σ H S R _ fun vs Hf1 H1 m1 S1 r1 => by
  have r := r1.data
  refine ⟨Nat.le_trans (by rw [r.length]; exact hl) (by decide), fun p hp => q p _ _ m1 (S1.newOwn hp ⟨_, upd_same, r⟩)⟩)
theorem ed_lst {ds : List PyData} (h : EA Z es ρ own (ds.map Slot.d)) (hl : ds.length ≤ 1000 := by exact Nat.le_of_ble_eq_true rfl) : ED Z (.List es pos) ρ own (.list ds) := (el_lst h hl).ed

/-! items, slices -/
theorem atI_rep {H : Hp} {vs : List V} {ds : List PyData} {i : Int} {d : PyData} (r : Reps H vs ds) (h : atI ds i = some d) : ∃ v, atI vs i = some v ∧ Rep H v d := by
  unfold atI at h ⊢
  rw [r.length]
  cases e : ixN ds.length i with
  | none => rw [e] at h; cases h
  | some j =>
    rw [e] at h
    obtain ⟨v, h1, h2⟩ := r.get (show ds[j]? = some d from h)
    exact ⟨v, h1, h2⟩
theorem ed_ixL {ds : List PyData} {d : PyData} (ha : ES Z a ρ own s) (hb : ED Z b ρ own (.int i)) (l : Lst own s ds) (h : atI ds i = some d) (hs : PlainIx b := by exact fun _ _ => rfl) : ED Z (.Subscript a b pos) ρ own d := fun Hf σ H S R Q q =>
  wE.of (pe_ix ix_list peW peW hs) (ha Hf σ H S R _ fun v Hf1 H1 m1 S1 r1 => hb Hf1 σ H1 S1 (R.mono m1) _ fun w Hf2 H2 m2 S2 r2 => by
    obtain ⟨p, vs, rfl, h1, g1⟩ := l.at S2 (r1.mono m2)
    cases r2
    obtain ⟨z, h2, g2⟩ := atI_rep g1 h
    exact ⟨p, vs, i, z, rfl, rfl, SqL.of h1, h2, q z Hf2 H2 (m1.trans m2) S2 g2⟩)
theorem ed_ixT {ds : List PyData} {d : PyData} (ha : ED Z a ρ own (.tuple ds)) (hb : ED Z b ρ own (.int i)) (h : atI ds i = some d) (hs : PlainIx b := by exact fun _ _ => rfl) : ED Z (.Subscript a b pos) ρ own d := fun Hf σ H S R Q q =>
  wE.of (pe_ix ix_tup peW peW hs) (ha Hf σ H S R _ fun v Hf1 H1 m1 S1 r1 => hb Hf1 σ H1 S1 (R.mono m1) _ fun w Hf2 H2 m2 S2 r2 => by
    cases (show Rep Hf2 v (.tuple ds) from r1.mono m2) with
    | tup h1 g1 =>
      cases r2
      obtain ⟨z, h2, g2⟩ := atI_rep g1 h
      exact ⟨_, _, i, z, rfl, rfl, SqT.of (S2.e1 _ _ h1), h2, q z Hf2 H2 (m1.trans m2) S2 g2⟩)
end

/-! ### statements -/
structure DE where
  nx : List Slot → Own → Prop
  rt : Slot → Own → Prop
  bk : List Slot → Own → Prop := fun _ _ => False
  ct : List Slot → Own → Prop := fun _ _ => False
def lift (B : Bs) (H0 : Hp) (D : DE) : Ends where
  nx := fun σ H => ∃ Hf ρ own, Same H0 Hf ∧ Sat B Hf H own ∧ EnvR Hf σ ρ ∧ D.nx ρ own
  rt := fun v H => ∃ Hf s own, Same H0 Hf ∧ Sat B Hf H own ∧ SlotR Hf v s ∧ s ≠ .un ∧ D.rt s own
  bk := fun σ H => ∃ Hf ρ own, Same H0 Hf ∧ Sat B Hf H own ∧ EnvR Hf σ ρ ∧ D.bk ρ own
  ct := fun σ H => ∃ Hf ρ own, Same H0 Hf ∧ Sat B Hf H own ∧ EnvR Hf σ ρ ∧ D.ct ρ own
def SD (Z : Ctx) (st : Stmt) (D : DE) (ρ : List Slot) (own : Own) : Prop := ∀ H0 Hf σ H, Same H0 Hf → Sat Z.B Hf H own → EnvR Hf σ ρ → wS Z.X st (lift Z.B H0 D) σ H
def SDs (Z : Ctx) (st : List Stmt) (D : DE) (ρ : List Slot) (own : Own) : Prop := ∀ H0 Hf σ H, Same H0 Hf → Sat Z.B Hf H own → EnvR Hf σ ρ → wSs Z.X st (lift Z.B H0 D) σ H
section
variable {Z : Ctx} {D : DE} {ρ : List Slot} {own : Own} {pos : Pos} {st : Stmt} {sts A B : List Stmt} {e a b c : Expr} {x : PyData} {s t : Slot} {k : Nat}
theorem SP.imp {X : Cx} {pins : List (Addr × Obj)} {D D' : Ends} {f : Flow} {s' : Shared} (h : SP X pins D f s') (h1 : ∀ σ H, D.nx σ H → D'.nx σ H) (h2 : ∀ v H, D.rt v H → D'.rt v H) (h3 : ∀ σ H, D.bk σ H → D'.bk σ H) (h4 : ∀ σ H, D.ct σ H → D'.ct σ H) : SP X pins D' f s' := by
  cases f with
  | next => obtain ⟨σ, H, I, q⟩ := h; exact ⟨σ, H, I, h1 _ _ q⟩
  | brk => obtain ⟨σ, H, I, q⟩ := h; exact ⟨σ, H, I, h3 _ _ q⟩
  | cont => obtain ⟨σ, H, I, q⟩ := h; exact ⟨σ, H, I, h4 _ _ q⟩
  | ret u => obtain ⟨v, σ, H, I, r, q⟩ := h; exact ⟨v, σ, H, I, r, h2 _ _ q⟩
theorem wS.imp {X : Cx} {D D' : Ends} {σ : L2.St} {H : Hp} (h : wS X st D σ H) (h1 : ∀ σ H, D.nx σ H → D'.nx σ H) (h2 : ∀ v H, D.rt v H → D'.rt v H) (h3 : ∀ σ H, D.bk σ H → D'.bk σ H) (h4 : ∀ σ H, D.ct σ H → D'.ct σ H) : wS X st D' σ H :=
  ⟨fun pins s I => thn (h.run pins s I) fun f s' q => SP.imp q h1 h2 h3 h4⟩
theorem wSs.imp {X : Cx} {D D' : Ends} {σ : L2.St} {H : Hp} (h : wSs X sts D σ H) (h1 : ∀ σ H, D.nx σ H → D'.nx σ H) (h2 : ∀ v H, D.rt v H → D'.rt v H) (h3 : ∀ σ H, D.bk σ H → D'.bk σ H) (h4 : ∀ σ H, D.ct σ H → D'.ct σ H) : wSs X sts D' σ H :=
  ⟨fun pins s I => thn (h.run pins s I) fun f s' q => SP.imp q h1 h2 h3 h4⟩
theorem sds_nil (h : D.nx ρ own) : SDs Z [] D ρ own := fun H0 Hf σ H m0 S R => wSs.of pss_nil ⟨Hf, ρ, own, m0, S, R, h⟩
theorem sds_cons (h : SD Z st { D with nx := fun ρ own => SDs Z sts D ρ own } ρ own) : SDs Z (st :: sts) D ρ own := fun H0 Hf σ H m0 S R => wSs.of (pss_cons psW pssW) (wS.imp (h H0 Hf σ H m0 S R) (fun σ' H' ⟨Hf', ρ', own', m', S', R', q⟩ => q H0 Hf' σ' H' m' S' R') (fun _ _ q => q) (fun _ _ q => q) (fun _ _ q => q))
theorem sds_one (h : SD Z st D ρ own) : SDs Z [st] D ρ own := fun H0 Hf σ H m0 S R => wSs.of (pss_one psW) (h H0 Hf σ H m0 S R)
/-- name = e -/
theorem sd_set (i : Nat) {z : Str} {pos' : Pos} (hN : Z.X.N.Nodup) (he : ES Z e ρ own s) (h : D.nx (ρ.set i s) own) (hi : Z.X.N[i]? = some z := by rfl) (hx : Loc Z.X.env.scope z := by first | exact Or.inl rfl | exact Or.inr rfl) (hs : swapsWith e (some (.Name z pos')) pos.line Z.X.env = pure false := by rfl)
    (hf : Z.X.fn z = true ∨ Z.X.env.scope.names.lookup z = some .local := by first | exact .inl rfl | exact .inr rfl | assumption) : SD Z (.Assign [.Name z pos'] e pos) D ρ own := fun H0 Hf σ H m0 S R => wS.of (ps_set hN hi hx peW hs hf) (he Hf σ H S R _ fun v Hf1 H1 m1 S1 r1 => ⟨Hf1, _, own, m0.trans m1, S1, (R.mono m1).set r1 i, h⟩)
/-- name = a new list of one's own -/
theorem sd_setL (i : Nat) {z : Str} {pos' : Pos} {ds : List PyData} (hN : Z.X.N.Nodup) (he : EL Z e ρ own ds) (h : ∀ p, D.nx (ρ.set i (.raw (.ref p))) ((p, .lst ds) :: own)) (hi : Z.X.N[i]? = some z := by rfl) (hx : Loc Z.X.env.scope z := by first | exact Or.inl rfl | exact Or.inr rfl) (hs : swapsWith e (some (.Name z pos')) pos.line Z.X.env = pure false := by rfl)
    (hf : Z.X.fn z = true ∨ Z.X.env.scope.names.lookup z = some .local := by first | exact .inl rfl | exact .inr rfl | assumption) : SD Z (.Assign [.Name z pos'] e pos) D ρ own := fun H0 Hf σ H m0 S R => wS.of (ps_set hN hi hx peW hs hf) (he Hf σ H S R _ fun p Hf1 H1 m1 S1 => ⟨Hf1, _, _, m0.trans m1, S1, (R.mono m1).set (s := .raw (.ref p)) rfl i, h p⟩)
theorem sd_ret (he : ES Z e ρ own s) (hs : s ≠ .un) (h : D.rt s own) : SD Z (.Return (some e) pos) D ρ own := fun H0 Hf σ H m0 S R => wS.of (ps_ret peW) (he Hf σ H S R _ fun v Hf1 H1 m1 S1 r1 => ⟨Hf1, s, own, m0.trans m1, S1, r1, hs, h⟩)
theorem sd_retD (he : ED Z e ρ own x) (h : D.rt (.d x) own) : SD Z (.Return (some e) pos) D ρ own := sd_ret he (fun q => nomatch q) h
theorem sd_retL {ds : List PyData} (he : EL Z e ρ own ds) (h : ∀ p, D.rt (.raw (.ref p)) ((p, .lst ds) :: own)) : SD Z (.Return (some e) pos) D ρ own := fun H0 Hf σ H m0 S R => wS.of (ps_ret peW) (he Hf σ H S R _ fun p Hf1 H1 m1 S1 => ⟨Hf1, .raw (.ref p), _, m0.trans m1, S1, rfl, (fun q => nomatch q), h p⟩)
theorem sd_expr (he : ES Z e ρ own s) (h : D.nx ρ own) (hs : swapsWith e none pos.line Z.X.env = pure false := by rfl) : SD Z (.Expr e pos) D ρ own := fun H0 Hf σ H m0 S R => wS.of (ps_expr peW hs) (he Hf σ H S R _ fun v Hf1 H1 m1 S1 r1 => ⟨Hf1, ρ, own, m0.trans m1, S1, R.mono m1, h⟩)
theorem sd_if {l : Bool} (hc : ET Z c ρ own l) (h1 : l = true → SDs Z A D ρ own) (h2 : l = false → SDs Z B D ρ own) : SD Z (.If c A B pos) D ρ own := fun H0 Hf σ H m0 S R => wS.of (ps_if ptW pssW pssW) (hc Hf σ H S R _ fun Hf1 H1 m1 S1 => by
  cases l with
  | true => exact iteT (h1 rfl H0 Hf1 σ H1 (m0.trans m1) S1 (R.mono m1))
  | false => exact iteF (h2 rfl H0 Hf1 σ H1 (m0.trans m1) S1 (R.mono m1)))
/-- weaker ends -/
theorem SDs.imp {D' : DE} (h : SDs Z sts D ρ own) (h1 : ∀ ρ own, D.nx ρ own → D'.nx ρ own) (h2 : ∀ s own, D.rt s own → D'.rt s own) (h3 : ∀ ρ own, D.bk ρ own → D'.bk ρ own) (h4 : ∀ ρ own, D.ct ρ own → D'.ct ρ own) : SDs Z sts D' ρ own := fun H0 Hf σ H m0 S R => wSs.imp (h H0 Hf σ H m0 S R)
  (fun _ _ ⟨a, b, c, m, d, e, f⟩ => ⟨a, b, c, m, d, e, h1 _ _ f⟩) (fun _ _ ⟨a, b, c, m, d, e, g, f⟩ => ⟨a, b, c, m, d, e, g, h2 _ _ f⟩) (fun _ _ ⟨a, b, c, m, d, e, f⟩ => ⟨a, b, c, m, d, e, h3 _ _ f⟩) (fun _ _ ⟨a, b, c, m, d, e, f⟩ => ⟨a, b, c, m, d, e, h4 _ _ f⟩)
/-- a list of one's own is data from here on (its name: slot i) -/
theorem sds_freeze (i : Nat) {oa ob : Own} {p : Addr} {ds : List PyData} (hi : ρ[i]? = some (.raw (.ref p))) (h : SDs Z sts D (ρ.set i (.d (.list ds))) (oa ++ ob)) : SDs Z sts D ρ (oa ++ (p, .lst ds) :: ob) := fun H0 Hf σ H m0 S R => by
  obtain ⟨Hf', m, S', r⟩ := S.freeze
  refine h H0 Hf' σ H (m0.trans m) S' ?_
  have hv := (R.mono m).raw hi
  have R' := (R.mono m).set (v := .ref p) (s := .d (.list ds)) r i
  have e : σ.set i (some (.ref p)) = σ := by
    refine List.ext_getElem? fun j => ?_
    by_cases hj : i = j
    · subst hj
      have hl : i < σ.length := by
        obtain ⟨h, _⟩ := List.getElem?_eq_some_iff.mp hv
        exact h
      rw [List.getElem?_set_self hl, hv]
    · rw [List.getElem?_set_ne hj]
  rw [e] at R'
  exact R'
end
end Sd


namespace Sd
open PySem PySem.Spec PyProof.Rows L2
/-! ### values with a change of what is owned -/
def EG (Z : Ctx) (e : Expr) (ρ : List Slot) (own : Own) (R : Slot → Own → Prop) : Prop := ∀ Hf σ H, Sat Z.B Hf H own → EnvR Hf σ ρ → ∀ Q : VK, (∀ v Hf' H' s own', Same Hf Hf' → Sat Z.B Hf' H' own' → SlotR Hf' v s → s ≠ .un → R s own' → Q v H') → wE Z.X e σ H Q
section
variable {Z : Ctx} {e a b c : Expr} {es : List Expr} {ρ : List Slot} {own : Own} {pos : Pos} {x y : PyData} {i j : Int} {s t u : Slot} {k : Nat} {R : Slot → Own → Prop}
theorem ES.toEG (h : ES Z e ρ own s) (hs : s ≠ .un) (q : R s own) : EG Z e ρ own R := fun Hf σ H S E Q k => h Hf σ H S E Q fun v Hf' H' m S' r => k v Hf' H' s own m S' r hs q
theorem EG.toES (h : EG Z e ρ own fun t o => t = s ∧ o = own) : ES Z e ρ own s := fun Hf σ H S E Q k => h Hf σ H S E Q fun v Hf' H' t o m S' r _ q => by
  obtain ⟨rfl, rfl⟩ := q
  exact k v Hf' H' m S' r
theorem EG.toEL {ds : List PyData} (h : EG Z e ρ own fun t o => ∃ p, t = .raw (.ref p) ∧ o = (p, .lst ds) :: own) : EL Z e ρ own ds := fun Hf σ H S E Q k => h Hf σ H S E Q fun v Hf' H' t o m S' r _ q => by
  obtain ⟨p, rfl, rfl⟩ := q
  cases (show v = .ref p from r)
  exact k p Hf' H' m S'
theorem EL.toEG {ds : List PyData} (h : EL Z e ρ own ds) (q : ∀ p, R (.raw (.ref p)) ((p, .lst ds) :: own)) : EG Z e ρ own R := fun Hf σ H S E Q k => h Hf σ H S E Q fun p Hf' H' m S' => k _ Hf' H' (.raw (.ref p)) _ m S' rfl (fun z => nomatch z) (q p)
theorem EG.imp {R' : Slot → Own → Prop} (h : EG Z e ρ own R) (q : ∀ s o, R s o → R' s o) : EG Z e ρ own R' := fun Hf σ H S E Q k => h Hf σ H S E Q fun v Hf' H' s o m S' r hs z => k v Hf' H' s o m S' r hs (q s o z)
/-- a op b, the right one with a change -/
theorem eg_bin {op : Operator} {r : R2} {R1 : Slot → Own → Prop} (ho : OpR Z.X (binaryOp op) r) (ha : ES Z a ρ own s) (hb : EG Z b ρ own R1)
    (hr : ∀ v w Hf H t own', Sat Z.B Hf H own' → SlotR Hf v s → SlotR Hf w t → R1 t own' → ∀ Q : VK, (∀ z Hf' H' u, Same Hf Hf' → Sat Z.B Hf' H' own' → SlotR Hf' z u → u ≠ .un → R u own' → Q z H') → r v w H Q) : EG Z (.BinOp a op b pos) ρ own R := fun Hf σ H S E Q q =>
  wE.of (pe_op ho peW peW) (ha Hf σ H S E _ fun v Hf1 H1 m1 S1 r1 => hb Hf1 σ H1 S1 (E.mono m1) _ fun w Hf2 H2 t own' m2 S2 r2 _ q2 => hr v w Hf2 H2 t own' S2 (r1.mono m2) r2 q2 Q fun z Hf3 H3 u m3 S3 r3 hu q3 => q z Hf3 H3 u own' ((m1.trans m2).trans m3) S3 r3 hu q3)
theorem eg_add {P : Int → Own → Prop} (ha : ED Z a ρ own (.int i)) (hb : EG Z b ρ own fun t o => ∃ j, t = .d (.int j) ∧ P j o) : EG Z (.BinOp a .Add b pos) ρ own (fun t o => ∃ j, t = .d (.int (i + j)) ∧ P j o) := eg_bin op_add ha hb fun v w Hf H t own' S r1 r2 q2 Q q => by
  obtain ⟨j, rfl, hp⟩ := q2
  cases r1; cases r2
  exact ⟨i, j, rfl, rfl, q _ Hf H (.d (.int (i + j))) (Same.refl _) S (Rep.int (i + j)) (fun z => nomatch z) ⟨j, rfl, hp⟩⟩
end

/-! ### built-ins called by name -/
section
variable {Z : Ctx} {e a b c : Expr} {es : List Expr} {ρ : List Slot} {own : Own} {pos p : Pos} {x y : PyData} {i j : Int} {s t u : Slot} {k : Nat} {ss : List Slot}
theorem es_callB {id : String} {z : Str} {r : List V → Hp → VK → Prop} (hc : CallR Z.X (.builtin id) r) (hg : Gl Z.X z) (hm : Z.X.mg z = none) (hv : bootBuiltins z = some (.builtin id)) (ha : EA Z (e :: es) ρ own ss)
    (hr : ∀ vs Hf H, Sat Z.B Hf H own → SlotsR Hf vs ss → ∀ Q : VK, (∀ v Hf' H', Same Hf Hf' → Sat Z.B Hf' H' own → SlotR Hf' v s → Q v H') → r vs H Q)
    (hn : z ≠ "__name__" := by decide) (hdb : (z == ("__debug__" : Str)) = false := by decide) (hs : starEach (e :: es) Z.X.env = (false, eval e Z.X.env) :: starEach es Z.X.env := by first | assumption | rfl) (hpl : (backTo pos (starEach es Z.X.env)).any (·.1) = false := by first | assumption | rfl) : ES Z (.Call (.Name z p) (e :: es) [] pos) ρ own s := fun Hf σ H S E Q q =>
  wE.of (pe_callB hc hg hm hv paW hn hdb hs hpl) (ha Hf σ H S E _ fun vs Hf1 H1 m1 S1 r1 => hr vs Hf1 H1 S1 r1 Q fun v Hf2 H2 m2 S2 r2 => q v Hf2 H2 (m1.trans m2) S2 r2)
theorem el_callB {id : String} {z : Str} {ds : List PyData} {r : List V → Hp → VK → Prop} (hc : CallR Z.X (.builtin id) r) (hg : Gl Z.X z) (hm : Z.X.mg z = none) (hv : bootBuiltins z = some (.builtin id)) (ha : EA Z (e :: es) ρ own ss)
    (hr : ∀ vs Hf H, Sat Z.B Hf H own → SlotsR Hf vs ss → ∀ Q : VK, (∀ p Hf' H', Same Hf Hf' → Sat Z.B Hf' H' ((p, .lst ds) :: own) → Q (.ref p) H') → r vs H Q)
    (hn : z ≠ "__name__" := by decide) (hdb : (z == ("__debug__" : Str)) = false := by decide) (hs : starEach (e :: es) Z.X.env = (false, eval e Z.X.env) :: starEach es Z.X.env := by first | assumption | rfl) (hpl : (backTo pos (starEach es Z.X.env)).any (·.1) = false := by first | assumption | rfl) : EL Z (.Call (.Name z p) (e :: es) [] pos) ρ own ds := fun Hf σ H S E Q q =>
  wE.of (pe_callB hc hg hm hv paW hn hdb hs hpl) (ha Hf σ H S E _ fun vs Hf1 H1 m1 S1 r1 => hr vs Hf1 H1 S1 r1 Q fun v Hf2 H2 m2 S2 => q v Hf2 H2 (m1.trans m2) S2)
theorem el_callTy {T : String} {z : Str} {ds : List PyData} {r : List V → Hp → VK → Prop} (hc : CallR Z.X (.type T) r) (hg : Gl Z.X z) (hm : Z.X.mg z = none) (hv : bootBuiltins z = some (.type T)) (ha : EA Z (e :: es) ρ own ss)
    (hr : ∀ vs Hf H, Sat Z.B Hf H own → SlotsR Hf vs ss → ∀ Q : VK, (∀ p Hf' H', Same Hf Hf' → Sat Z.B Hf' H' ((p, .lst ds) :: own) → Q (.ref p) H') → r vs H Q)
    (hn : z ≠ "__name__" := by decide) (hdb : (z == ("__debug__" : Str)) = false := by decide) (hs : starEach (e :: es) Z.X.env = (false, eval e Z.X.env) :: starEach es Z.X.env := by first | assumption | rfl) (hpl : (backTo pos (starEach es Z.X.env)).any (·.1) = false := by first | assumption | rfl) : EL Z (.Call (.Name z p) (e :: es) [] pos) ρ own ds := fun Hf σ H S E Q q =>
  wE.of (pe_callTy hc hg hm hv paW hn hdb hs hpl) (ha Hf σ H S E _ fun vs Hf1 H1 m1 S1 r1 => hr vs Hf1 H1 S1 r1 Q fun v Hf2 H2 m2 S2 => q v Hf2 H2 (m1.trans m2) S2)
theorem SlotsR.one {Hf : Hp} {vs : List V} (h : SlotsR Hf vs [s]) : ∃ v, vs = [v] ∧ SlotR Hf v s := by
  cases h with
  | cons a b => cases b; exact ⟨_, rfl, a⟩
theorem SlotsR.two {Hf : Hp} {vs : List V} (h : SlotsR Hf vs [s, t]) : ∃ v w, vs = [v, w] ∧ SlotR Hf v s ∧ SlotR Hf w t := by
  cases h with
  | cons a b =>
    obtain ⟨w, rfl, c⟩ := b.one
    exact ⟨_, w, rfl, a, c⟩
/-- len of a list -/
theorem ed_len {ds : List PyData} (hm : Z.X.mg "len" = none) (h : ES Z e ρ own s) (L : Lst own s ds) (hg : Gl Z.X "len" := by rfl) (hs : starEach [e] Z.X.env = (false, eval e Z.X.env) :: starEach [] Z.X.env := by rfl) : ED Z (.Call (.Name "len" p) [e] [] pos) ρ own (.int ds.length) :=
  es_callB call_len_seq hg hm PySem.boot_len (ea_cons h ea_nil hs) fun vs Hf H S r0 Q q => by
    obtain ⟨v, rfl, r⟩ := r0.one
    obtain ⟨p, vs, rfl, h1, h2⟩ := L.at S r
    exact ⟨p, vs, rfl, .inl (SqL.of h1), by rw [h2.length]; exact q _ Hf H (Same.refl _) S (.int _)⟩
/-- sum of a list of ints -/
theorem ed_sum {ns : List Int} (g : Gd Z k) (hm : Z.X.mg "sum" = none) (h : ES Z e ρ own s) (L : Lst own s (ns.map PyData.int)) (hg : Gl Z.X "sum" := by rfl) (hs : starEach [e] Z.X.env = (false, eval e Z.X.env) :: starEach [] Z.X.env := by rfl) : ED Z (.Call (.Name "sum" p) [e] [] pos) ρ own (.int ns.sum) :=
  es_callB (cr_sum g.calm) hg hm (by decide +kernel) (ea_cons h ea_nil hs) fun vs Hf H S r0 Q q => by
    obtain ⟨v, rfl, r⟩ := r0.one
    obtain ⟨p, vs, rfl, h1, h2⟩ := L.at S r
    cases h2.of_ints
    exact ⟨p, ns, rfl, SqL.of h1, q _ Hf H (Same.refl _) S (.int _)⟩
theorem ed_abs (hm : Z.X.mg "abs" = none) (h : ED Z e ρ own (.int i)) (hg : Gl Z.X "abs" := by rfl) (hs : starEach [e] Z.X.env = (false, eval e Z.X.env) :: starEach [] Z.X.env := by rfl) : ED Z (.Call (.Name "abs" p) [e] [] pos) ρ own (.int (if i < 0 then -i else i)) :=
  es_callB call_abs hg hm (by decide +kernel) (ea_cons h ea_nil hs) fun vs Hf H S r0 Q q => by
    obtain ⟨v, rfl, r⟩ := r0.one
    cases r
    exact ⟨i, rfl, q _ Hf H (Same.refl _) S (.int _)⟩
theorem ed_min2 (g : Gd Z k) (hm : Z.X.mg "min" = none) (h1 : ED Z a ρ own (.int i)) (h2 : ED Z b ρ own (.int j)) (hg : Gl Z.X "min" := by rfl) (hs : starEach [a, b] Z.X.env = (false, eval a Z.X.env) :: starEach [b] Z.X.env := by rfl) (hs2 : starEach [b] Z.X.env = (false, eval b Z.X.env) :: starEach [] Z.X.env := by rfl) (hpl : (backTo pos (starEach [b] Z.X.env)).any (·.1) = false := by rfl) : ED Z (.Call (.Name "min" p) [a, b] [] pos) ρ own (.int (if j < i then j else i)) :=
  es_callB (call_min2 g.calm) hg hm (by decide +kernel) (ea_cons h1 (ea_cons h2 ea_nil hs2) hs) (fun vs Hf H S r0 Q q => by
    obtain ⟨v, w, rfl, r1, r2⟩ := r0.two
    cases r1; cases r2
    exact ⟨i, j, rfl, q _ Hf H (Same.refl _) S (.int _)⟩) (by decide) (by decide) hs hpl
/-- max, min of a list of ints -/
theorem ed_max {ns : List Int} {m : Int} (g : Gd Z k) (hm : Z.X.mg "max" = none) (h : ES Z e ρ own s) (L : Lst own s (ns.map PyData.int)) (h1 : m ∈ ns) (h2 : ∀ y ∈ ns, y ≤ m) (hg : Gl Z.X "max" := by rfl) (hs : starEach [e] Z.X.env = (false, eval e Z.X.env) :: starEach [] Z.X.env := by rfl) : ED Z (.Call (.Name "max" p) [e] [] pos) ρ own (.int m) :=
  es_callB (cr_max g.calm) hg hm (by decide +kernel) (ea_cons h ea_nil hs) fun vs Hf H S r0 Q q => by
    obtain ⟨v, rfl, r⟩ := r0.one
    obtain ⟨p, vs, rfl, e1, e2⟩ := L.at S r
    cases e2.of_ints
    refine ⟨p, ns, rfl, SqL.of e1, List.length_pos_of_mem h1, fun n hn hle => ?_⟩
    have : n = m := Int.le_antisymm (h2 n hn) (hle m h1)
    subst this
    exact q _ Hf H (Same.refl _) S (.int _)
theorem ed_all {ns : List Bool} (g : Gd Z k) (hm : Z.X.mg "all" = none) (h : ES Z e ρ own s) (L : Lst own s (ns.map PyData.bool)) (hg : Gl Z.X "all" := by rfl) (hs : starEach [e] Z.X.env = (false, eval e Z.X.env) :: starEach [] Z.X.env := by rfl) : ED Z (.Call (.Name "all" p) [e] [] pos) ρ own (.bool (ns.all id)) :=
  es_callB (cr_all g.calm) hg hm (by decide +kernel) (ea_cons h ea_nil hs) fun vs Hf H S r0 Q q => by
    obtain ⟨v, rfl, r⟩ := r0.one
    obtain ⟨p, vs, rfl, e1, e2⟩ := L.at S r
    cases e2.of_bls
    exact ⟨p, ns, rfl, SqL.of e1, q _ Hf H (Same.refl _) S (.bl _)⟩
/-- isinstance of data -/
def tyD : PyData → String
  | .none => "NoneType"
  | .bool _ => "bool"
  | .int _ => "int"
  | .str _ => "str"
  | .list _ => "list"
  | .tuple _ => "tuple"
  | .dict _ => "dict"
theorem tyX_rep {K : PySem.W.Frag} {H : Hp} {v : V} {d : PyData} (r : Rep H v d) : TyX K H v (.type (tyD d)) := by
  cases r with
  | non => exact .base .non
  | bl b => exact .base (.bl b)
  | int i => exact .base (.int i)
  | str z => exact .base (.str z)
  | lst h _ => exact .base (.lst h)
  | tup h _ => exact .base (.tup h)
theorem ed_isi {T : String} {l : Bool} (hm : Z.X.mg "isinstance" = none) (h : ES Z a ρ own s) (d : Dat own s x) (hc : EV Z b ρ own (.ty T)) (hk : kitB (tyD x) T = some l) (hg : Gl Z.X "isinstance" := by rfl) (hs : starEach [a, b] Z.X.env = (false, eval a Z.X.env) :: starEach [b] Z.X.env := by rfl) (hs2 : starEach [b] Z.X.env = (false, eval b Z.X.env) :: starEach [] Z.X.env := by rfl) (hpl : (backTo pos (starEach [b] Z.X.env)).any (·.1) = false := by rfl) :
    ED Z (.Call (.Name "isinstance" p) [a, b] [] pos) ρ own (.bool l) :=
  es_callB call_isi hg hm (by decide +kernel) (ea_cons h (ea_cons hc ea_nil hs2) hs) (fun vs Hf H S r0 Q q => by
    obtain ⟨v, w, rfl, r1, r2⟩ := r0.two
    cases (show w = .ty T from r2)
    exact ⟨v, .ty T, .type (tyD x), .type T, l, rfl, .ty T, tyX_rep (d.at S r1), kit_ty hk, q _ Hf H (Same.refl _) S (.bl l)⟩) (by decide) (by decide) hs hpl
end

/-! ### targets -/
structure wG (X : Cx) (tg : Expr) (v : V) (σ : L2.St) (H : Hp) (Q : L2.St → Hp → Prop) : Prop where
  run : ∀ (pins : List (Addr × Obj)) (s : Shared) (u : Value), Inv X pins σ H s → RelV v u → wpAny (model X.prog X.w) X.A (assign tg X.env u) (fun _ s' => ∃ σ' H', Inv X pins σ' H' s' ∧ Q σ' H') X.xe s
structure wGs (X : Cx) (ts : List Expr) (vs : List V) (σ : L2.St) (H : Hp) (Q : L2.St → Hp → Prop) : Prop where
  run : ∀ (pins : List (Addr × Obj)) (s : Shared) (us : List Value), Inv X pins σ H s → Vals vs us → wpAny (model X.prog X.w) X.A (assignInOrder ((assignEach ts X.env).map (·.2)) us) (fun _ s' => ∃ σ' H', Inv X pins σ' H' s' ∧ Q σ' H') X.xe s
theorem pgW {X : Cx} {tg : Expr} : PG X tg (wG X tg) := ⟨fun pins s _ _ _ u _ I r h => h.run pins s u I r⟩
theorem pgsW {X : Cx} {ts : List Expr} : PGs X ts (wGs X ts) := ⟨fun pins s _ _ _ us _ I r h => h.run pins s us I r⟩
theorem wG.of {X : Cx} {tg : Expr} {g : TG} (h : PG X tg g) {v : V} {σ : L2.St} {H : Hp} {Q : L2.St → Hp → Prop} (q : g v σ H Q) : wG X tg v σ H Q := ⟨fun pins s u I r => h.run pins s σ H v u Q I r q⟩
theorem wGs.of {X : Cx} {ts : List Expr} {g : TGs} (h : PGs X ts g) {v : List V} {σ : L2.St} {H : Hp} {Q : L2.St → Hp → Prop} (q : g v σ H Q) : wGs X ts v σ H Q := ⟨fun pins s u I r => h.run pins s σ H v u Q I r q⟩
/-- σ' is σ but for the slots is -/
def But (is : List Nat) (σ σ' : L2.St) : Prop := σ'.length = σ.length ∧ ∀ i : Nat, i ∉ is → σ'[i]? = σ[i]?
def GT (Z : Ctx) (tg : Expr) (x : PyData) (ρ ρ' : List Slot) (is : List Nat) : Prop := ∀ own Hf σ H v, Sat Z.B Hf H own → EnvR Hf σ ρ → Rep Hf v x → ∀ Q : L2.St → Hp → Prop, (∀ σ', EnvR Hf σ' ρ' → But is σ σ' → Q σ' H) → wG Z.X tg v σ H Q
def GTs (Z : Ctx) (ts : List Expr) (xs : List PyData) (ρ ρ' : List Slot) (is : List Nat) : Prop := ∀ own Hf σ H vs, Sat Z.B Hf H own → EnvR Hf σ ρ → Reps Hf vs xs → ∀ Q : L2.St → Hp → Prop, (∀ σ', EnvR Hf σ' ρ' → But is σ σ' → Q σ' H) → wGs Z.X ts vs σ H Q
section
variable {Z : Ctx} {e : Expr} {es : List Expr} {ρ ρ' ρ'' : List Slot} {x : PyData} {xs : List PyData} {is js : List Nat} {pos : Pos}
theorem gt_name (i : Nat) {z : Str} (nd : Z.X.N.Nodup) (hi : Z.X.N[i]? = some z := by rfl) (hx : Loc Z.X.env.scope z := by first | exact Or.inl rfl | exact Or.inr rfl) (hf : Z.X.fn z = true ∨ Z.X.env.scope.names.lookup z = some .local := by first | exact .inl rfl | exact .inr rfl | assumption) : GT Z (.Name z pos) x ρ (ρ.set i (.d x)) [i] := fun own Hf σ H v S R r Q q =>
  wG.of (pg_name nd hi hx hf) (q _ (R.set (s := .d x) r i) ⟨by rw [List.length_set], fun j hj => by rw [List.getElem?_set_ne (fun z => hj (by simp [z]))]⟩)
theorem gts_nil : GTs Z [] [] ρ ρ [] := fun own Hf σ H v S R r Q q => wGs.of pgs_nil (by
  cases r
  exact ⟨rfl, q σ R ⟨rfl, fun _ _ => rfl⟩⟩)
theorem gts_cons (h1 : GT Z e x ρ ρ' is) (h2 : GTs Z es xs ρ' ρ'' js) (hs : (assignEach (e :: es) Z.X.env).map (·.2) = assign e Z.X.env :: (assignEach es Z.X.env).map (·.2) := by rfl) : GTs Z (e :: es) (x :: xs) ρ ρ'' (is ++ js) := fun own Hf σ H vs S R r Q q => wGs.of (pgs_cons pgW pgsW hs) (by
  cases r with
  | cons a b =>
    refine ⟨_, _, rfl, h1 own Hf σ H _ S R a _ fun σ1 R1 b1 => h2 own Hf σ1 H _ S R1 b Q fun σ2 R2 b2 => q σ2 R2 ⟨b2.1.trans b1.1, fun i hi => ?_⟩⟩
    rw [b2.2 i (fun z => hi (List.mem_append_right _ z)), b1.2 i (fun z => hi (List.mem_append_left _ z))])
theorem gt_tup {n : Nat} {kk : Nat} (hc : Z.X.calm = true) (h : GTs Z es xs ρ ρ' is) (hl : xs.length = n) (hn : (assignEach es Z.X.env).length = n := by rfl) (hst : (assignEach es Z.X.env).findIdx? (·.1) = none := by rfl) : GT Z (.Tuple es kk pos) (.tuple xs) ρ ρ' is := fun own Hf σ H v S R r Q q => wG.of (pg_tup hc pgsW hn hst) (by
  cases r with
  | tup h1 h2 => exact ⟨_, _, rfl, SqT.of (S.e1 _ _ h1), by rw [h2.length, hl], h own Hf σ H _ S R h2 Q q⟩)
end

/-! ### what is walked -/
structure Walk (B : Bs) (J : It) (Hf : Hp) (ys : List PyData) (Po : Own → Prop) : Prop where
  go : ∀ i Hf' H' own', Same Hf Hf' → Sat B Hf' H' own' → Po own' → i < ys.length → J.go i H'
  yld : ∀ i y Hf' H' own' x H2, Same Hf Hf' → Sat B Hf' H' own' → Po own' → ys[i]? = some y → J.yld i H' x H2 → ∃ Hf2, Same Hf' Hf2 ∧ Sat B Hf2 H2 own' ∧ Rep Hf2 x y
  stop : ∀ i Hf' H' own', Same Hf Hf' → Sat B Hf' H' own' → Po own' → ys.length ≤ i → J.stop i H'
def IT (Z : Ctx) (tg iter : Expr) (ρ : List Slot) (own : Own) (Po : Own → Prop) (ys : List PyData) : Prop := ∃ wi : TI, PI Z.X tg iter wi ∧ ∀ Hf σ H, Sat Z.B Hf H own → EnvR Hf σ ρ → ∀ R : It → Hp → Prop, (∀ J Hf' H', Same Hf Hf' → Sat Z.B Hf' H' own → Walk Z.B J Hf' ys Po → R J H') → wi σ H R
section
variable {Z : Ctx} {e tg a b c : Expr} {ρ : List Slot} {own : Own} {pos p : Pos} {i j : Int} {k : Nat} {s : Slot} {ds : List PyData}
theorem it_list (h : ED Z e ρ own (.list ds)) : IT Z tg e ρ own (fun _ => True) ds := ⟨_, pi_list peW, fun Hf σ H S E R q => h Hf σ H S E _ fun v Hf1 H1 m1 S1 r1 => by
  cases r1 with
  | @lst a xs _ h1 h2 =>
    refine ⟨a, rfl, ⟨xs, SqL.of (S1.e1 _ _ h1)⟩, q _ Hf1 H1 m1 S1 ⟨fun i Hf' H' own' m S' _ hi => ?_, fun i y Hf' H' own' x H2 m S' _ hy hx => ?_, fun i Hf' H' own' m S' _ hi => ?_⟩⟩
    · have hl : i < xs.length := by rw [h2.length]; exact hi
      exact ⟨xs, xs[i], SqL.of (S'.e1 _ _ (m _ _ h1)), List.getElem?_eq_getElem hl⟩
    · obtain ⟨rfl, hx⟩ := hx
      obtain ⟨v, h3, h4⟩ := h2.get hy
      have e1 := hx xs (SqL.of (S'.e1 _ _ (m _ _ h1)))
      rw [h3] at e1
      cases e1
      exact ⟨Hf', Same.refl _, S', h4.mono m⟩
    · exact ⟨xs, SqL.of (S'.e1 _ _ (m _ _ h1)), by rw [h2.length]; exact hi⟩⟩
/-- lo, lo + 1, .. as data -/
def rng (lo : Int) (n : Nat) : List PyData := (List.range n).map fun (k : Nat) => PyData.int (lo + (k : Int))
theorem rng_length (lo : Int) (n : Nat) : (rng lo n).length = n := by simp [rng]
theorem rng_get {lo : Int} {n k : Nat} {y : PyData} (h : (rng lo n)[k]? = some y) : k < n ∧ y = .int (lo + (k : Int)) := by
  unfold rng at h
  rw [List.getElem?_map] at h
  cases e : (List.range n)[k]? with
  | none => rw [e] at h; cases h
  | some m =>
    rw [e] at h
    obtain ⟨h1, h2⟩ := List.getElem?_eq_some_iff.mp e
    rw [List.getElem_range] at h2
    subst h2
    cases h
    exact ⟨by simpa using h1, rfl⟩
theorem walk_rng {B : Bs} {Hf : Hp} (lo : Int) (n : Nat) : Walk B (Itr lo n) Hf (rng lo n) (fun _ => True) where
  go := fun i _ _ _ _ _ _ hi => by rw [rng_length] at hi; exact hi
  yld := fun i y Hf' H' own' x H2 m S _ hy hx => by
    obtain ⟨rfl, rfl⟩ := hx
    obtain ⟨_, rfl⟩ := rng_get hy
    exact ⟨Hf', Same.refl _, S, .int _⟩
  stop := fun i _ _ _ _ _ _ hi => by rw [rng_length] at hi; exact hi
theorem it_range1 (hm : Z.X.mg "range" = none) (h : ED Z a ρ own (.int i)) (hi : -1000000 ≤ i ∧ i ≤ 1000000) (hg : Gl Z.X "range" := by rfl) (hs : starEach [a] Z.X.env = [(false, eval a Z.X.env)] := by rfl) : IT Z tg (.Call (.Name "range" p) [a] [] pos) ρ own (fun _ => True) (rng 0 i.toNat) :=
  ⟨_, pi_range1 hg hm paW hs, fun Hf σ H S E R q => (ea_cons h ea_nil hs) Hf σ H S E _ fun vs Hf1 H1 m1 S1 r1 => by
    obtain ⟨v, rfl, r⟩ := r1.one
    cases r
    exact ⟨i, rfl, by omega, by omega, q _ Hf1 H1 m1 S1 (walk_rng 0 _)⟩⟩
/-- enumerate of a list -/
def enumD (ds : List PyData) : List PyData := (List.range ds.length).map fun (k : Nat) => PyData.tuple [.int (k : Int), ds.getD k .none]
theorem enumD_get {ds : List PyData} {k : Nat} {y : PyData} (h : (enumD ds)[k]? = some y) : ∃ d, ds[k]? = some d ∧ y = .tuple [.int (k : Int), d] := by
  unfold enumD at h
  rw [List.getElem?_map] at h
  cases e : (List.range ds.length)[k]? with
  | none => rw [e] at h; cases h
  | some m =>
    rw [e] at h
    obtain ⟨h1, h2⟩ := List.getElem?_eq_some_iff.mp e
    rw [List.getElem_range] at h2
    subst h2
    cases h
    have h1' : k < ds.length := by simpa using h1
    exact ⟨ds[k], List.getElem?_eq_getElem h1', by dsimp only; rw [List.getD_eq_getElem?_getD, List.getElem?_eq_getElem h1']; rfl⟩
theorem it_enum {elts : List Expr} {kk : Nat} {tpos : Pos} (hm : Z.X.mg "enumerate" = none) (h : ED Z e ρ own (.list ds)) (hg : Gl Z.X "enumerate" := by rfl) (hs : starEach [e] Z.X.env = [(false, eval e Z.X.env)] := by rfl) : IT Z (.Tuple elts kk tpos) (.Call (.Name "enumerate" p) [e] [] pos) ρ own (fun _ => True) (enumD ds) :=
  ⟨_, pi_enum hg hm paW hs, fun Hf σ H S E R q => (ea_cons h ea_nil hs) Hf σ H S E _ fun vs Hf1 H1 m1 S1 r1 => by
    obtain ⟨v, rfl, r⟩ := r1.one
    cases (show Rep Hf1 v (.list ds) from r) with
    | @lst a xs _ h1 h2 =>
      refine ⟨a, xs, rfl, SqL.of (S1.e1 _ _ h1), q _ Hf1 H1 m1 S1 ⟨fun i Hf' H' own' m S' _ hi => ?_, fun i y Hf' H' own' x H2 m S' _ hy hx => ?_, fun i Hf' H' own' m S' _ hi => ?_⟩⟩
      · have hl : i < xs.length := by rw [h2.length]; simpa [enumD] using hi
        exact ⟨xs, xs[i], SqL.of (S'.e1 _ _ (m _ _ h1)), List.getElem?_eq_getElem hl⟩
      · obtain ⟨T, z, rfl, nT, rfl, hx⟩ := hx
        obtain ⟨d, hd, rfl⟩ := enumD_get hy
        obtain ⟨v, h3, h4⟩ := h2.get hd
        have e1 := hx xs (SqL.of (S'.e1 _ _ (m _ _ h1)))
        rw [h3] at e1
        cases e1
        exact ⟨_, S'.new_same nT _, S'.new nT _, .tup upd_same (.cons (.int _) (.cons (h4.mono (m.trans (S'.new_same nT _))) .nil))⟩
      · exact ⟨xs, SqL.of (S'.e1 _ _ (m _ _ h1)), by rw [h2.length]; simpa [enumD] using hi⟩⟩
/-- zip of two lists -/
def zipD (xs ys : List PyData) : List PyData := (xs.zip ys).map fun p => PyData.tuple [p.1, p.2]
theorem it_zip {e2 : Expr} {ys : List PyData} {elts : List Expr} {kk : Nat} {tpos : Pos} (hm : Z.X.mg "zip" = none) (h : ED Z e ρ own (.list ds)) (h' : ED Z e2 ρ own (.list ys)) (hg : Gl Z.X "zip" := by rfl) (hs : starEach [e, e2] Z.X.env = (false, eval e Z.X.env) :: starEach [e2] Z.X.env := by rfl) (hs2 : starEach [e2] Z.X.env = (false, eval e2 Z.X.env) :: starEach [] Z.X.env := by rfl) (hpl : (backTo pos (starEach [e2] Z.X.env)).any (·.1) = false := by rfl) : IT Z (.Tuple elts kk tpos) (.Call (.Name "zip" p) [e, e2] [] pos) ρ own (fun _ => True) (zipD ds ys) :=
  ⟨_, pi_zip hg hm paW hs hpl, fun Hf σ H S E R q => (ea_cons h (ea_cons h' ea_nil hs2) hs) Hf σ H S E _ fun vs Hf1 H1 m1 S1 r0 => by
    obtain ⟨v, w, rfl, r1, r2⟩ := r0.two
    cases (show Rep Hf1 v (.list ds) from r1) with
    | @lst a xs _ h1 h2 =>
      cases (show Rep Hf1 w (.list ys) from r2) with
      | @lst b zs _ g1 g2 =>
        have ln : (zipD ds ys).length = min xs.length zs.length := by rw [h2.length, g2.length]; simp [zipD]
        refine ⟨a, b, xs, zs, rfl, SqL.of (S1.e1 _ _ h1), SqL.of (S1.e1 _ _ g1), q _ Hf1 H1 m1 S1 ⟨fun i Hf' H' own' m S' _ hi => ?_, fun i y Hf' H' own' x H2 m S' _ hy hx => ?_, fun i Hf' H' own' m S' _ hi => ?_⟩⟩
        · rw [ln] at hi
          have hl : i < xs.length := by omega
          have hl2 : i < zs.length := by omega
          exact ⟨xs, zs, xs[i], zs[i], SqL.of (S'.e1 _ _ (m _ _ h1)), SqL.of (S'.e1 _ _ (m _ _ g1)), List.getElem?_eq_getElem hl, List.getElem?_eq_getElem hl2⟩
        · obtain ⟨T, z1, z2, rfl, nT, rfl, hx1, hx2⟩ := hx
          unfold zipD at hy
          rw [List.getElem?_map] at hy
          cases ez : (ds.zip ys)[i]? with
          | none => rw [ez] at hy; cases hy
          | some pr =>
            rw [ez] at hy
            cases hy
            obtain ⟨d1, d2⟩ := pr
            rw [List.getElem?_zip_eq_some] at ez
            obtain ⟨v1, h3, h4⟩ := h2.get ez.1
            obtain ⟨v2, h5, h6⟩ := g2.get ez.2
            have e1 := hx1 xs (SqL.of (S'.e1 _ _ (m _ _ h1)))
            rw [h3] at e1
            cases e1
            have e2 := hx2 zs (SqL.of (S'.e1 _ _ (m _ _ g1)))
            rw [h5] at e2
            cases e2
            exact ⟨_, S'.new_same nT _, S'.new nT _, .tup upd_same (.cons (h4.mono (m.trans (S'.new_same nT _))) (.cons (h6.mono (m.trans (S'.new_same nT _))) .nil))⟩
        · rw [ln] at hi
          exact ⟨xs, zs, SqL.of (S'.e1 _ _ (m _ _ h1)), SqL.of (S'.e1 _ _ (m _ _ g1)), by omega⟩⟩
end

/-! ### loops -/
section
variable {Z : Ctx} {D : DE} {ρ : List Slot} {own : Own} {pos : Pos} {body : List Stmt} {tg iter c : Expr} {ys : List PyData} {Po : Own → Prop} {k : Nat}
theorem sd_for (g : Gd Z k) (it : IT Z tg iter ρ own Po ys) (I : Nat → List Slot → Own → Prop) (h0 : I 0 ρ own) (hp : ∀ i ρ own, I i ρ own → Po own)
    (step : ∀ i y ρ1 own1, ys[i]? = some y → I i ρ1 own1 → ∃ ρ2 is, GT Z tg y ρ1 ρ2 is ∧ SDs Z body { D with nx := I (i + 1), ct := I (i + 1), bk := D.nx } ρ2 own1) (hd : ∀ ρ1 own1, I ys.length ρ1 own1 → D.nx ρ1 own1)
    (hs : ∀ x, foldedSetIterable iter Z.X.env x = pure x := by intro _; rfl) : SD Z (.For tg iter body [] pos) D ρ own := by
  obtain ⟨wi, hi, hw⟩ := it
  refine fun H0 Hf σ H m0 S E => wS.of (ps_for g.po g.calm hi pgW pssW hs) (hw Hf σ H S E _ fun J Hf1 H1 m1 S1 W => ?_)
  refine ⟨fun i m σ' H' => m = ys.length - i ∧ i ≤ ys.length ∧ ∃ Hf' ρ' own', Same Hf1 Hf' ∧ Sat Z.B Hf' H' own' ∧ EnvR Hf' σ' ρ' ∧ I i ρ' own', ⟨ys.length, by omega, by omega, Hf1, ρ, own, Same.refl _, S1, E.mono m1, h0⟩, ?_⟩
  rintro i m σ' H' ⟨rfl, hi, Hf', ρ', own', m', S', E', q⟩
  by_cases hlt : i < ys.length
  · refine .inr ⟨W.go i Hf' H' own' m' S' (hp _ _ _ q) hlt, fun σ2 H2 => ∃ Hf2 ρ2 own2, Same Hf1 Hf2 ∧ Sat Z.B Hf2 H2 own2 ∧ EnvR Hf2 σ2 ρ2 ∧ I (i + 1) ρ2 own2, fun σ2 H2 ⟨Hf2, ρ2, own2, m2, S2, E2, q2⟩ => ⟨ys.length - (i + 1), by omega, rfl, hlt, Hf2, ρ2, own2, m2, S2, E2, q2⟩, fun x H2 hx => ?_⟩
    obtain ⟨Hf2, m2, S2, r2⟩ := W.yld i _ Hf' H' own' x H2 m' S' (hp _ _ _ q) (List.getElem?_eq_getElem hlt) hx
    obtain ⟨ρ2, is, gt, sb⟩ := step i _ ρ' own' (List.getElem?_eq_getElem hlt) q
    refine gt own' Hf2 σ' H2 x S2 (E'.mono m2) r2 _ fun σ3 E3 _ => ?_
    refine wSs.imp (sb Hf1 Hf2 σ3 H2 (m'.trans m2) S2 E3) (fun _ _ q => q) (fun v H3 ⟨a1, a2, a3, a4, a5⟩ => ⟨a1, a2, a3, (m0.trans m1).trans a4, a5⟩) (fun v H3 ⟨a1, a2, a3, a4, a5⟩ => ⟨a1, a2, a3, (m0.trans m1).trans a4, a5⟩) (fun _ _ q => q)
  · have e : i = ys.length := by omega
    subst e
    exact .inl ⟨W.stop _ Hf' H' own' m' S' (hp _ _ _ q) (Nat.le_refl _), Hf', ρ', own', (m0.trans m1).trans m', S', E', hd _ _ q⟩
end
end Sd


namespace Sd
open PySem PySem.Spec PyProof.Rows L2
/-! ### promises of defs, over data -/
inductive Out where
  | ret (s : Slot) (own : Own)
  | exc (C : Addr) (own : Own)
abbrev Pr := List Slot → Own → (Out → Prop) → Prop
def spG (Pre : Pr) : Sp := fun vs H Q E => ∃ Hf HB ss own post, Sat ⟨Hf, HB⟩ Hf H own ∧ SlotsR Hf vs ss ∧ Pre ss own post ∧ (∀ s own' v Hf' H', post (.ret s own') → Sat ⟨Hf, HB⟩ Hf' H' own' → SlotR Hf' v s → s ≠ .un → Q v H') ∧
  (∀ C own' Hf' H', post (.exc C own') → Sat ⟨Hf, HB⟩ Hf' H' own' → E (.ref C) none H')
/-- the heap without some addresses -/
def less (H : Hp) (l : List Addr) : Hp := fun p => if p ∈ l then none else H p
theorem less_out {H : Hp} {l : List Addr} {p : Addr} (h : p ∉ l) : less H l p = H p := by unfold less; rw [if_neg h]
theorem less_in {H : Hp} {l : List Addr} {p : Addr} (h : p ∈ l) : less H l p = none := by unfold less; rw [if_pos h]
theorem less_none {H : Hp} {l : List Addr} {p : Addr} (h : less H l p = none) : p ∈ l ∨ H p = none := by
  by_cases hp : p ∈ l
  · exact .inl hp
  · rw [less_out hp] at h; exact .inr h
/-- into a callee with part of what is owned, and back -/
theorem Sat.into {B : Bs} {Hf H : Hp} {oa o1 ob : Own} (S : Sat B Hf H (oa ++ o1 ++ ob)) : Sat ⟨Hf, less H (o1.map (·.1))⟩ Hf H o1 := by
  have nd := S.nd
  rw [List.map_append, List.map_append] at nd
  refine ⟨Same.refl _, S.e1, fun p o h => ?_, fun p o h hb => ?_, fun q hq => ?_, (List.nodup_append.mp (List.nodup_append.mp nd).1).2.1, S.tp⟩
  · have h : less H (o1.map (·.1)) p = some o := h
    by_cases hp : p ∈ o1.map (·.1)
    · rw [show less H (o1.map (·.1)) p = none from less_in hp] at h; cases h
    · rw [← less_out (H := H) hp]; exact h
  · rw [show Hf p = none from hb] at h; cases h
  · obtain ⟨a, b, c⟩ := S.ow q (by simp [hq])
    exact ⟨a, less_in (List.mem_map.mpr ⟨q, hq, rfl⟩), c⟩
theorem Sat.back {B : Bs} {Hf H Hf' H' : Hp} {oa o1 o1' ob : Own} (S : Sat B Hf H (oa ++ o1 ++ ob)) (S' : Sat ⟨Hf, less H (o1.map (·.1))⟩ Hf' H' o1') : Sat B Hf' H' (oa ++ o1' ++ ob) := by
  have nd := S.nd
  rw [List.map_append, List.map_append] at nd
  obtain ⟨nd12, nd3, d3⟩ := List.nodup_append.mp nd
  obtain ⟨nd1, nd2, d1⟩ := List.nodup_append.mp nd12
  have b1 : ∀ p, p ∈ o1.map (·.1) → B.HB p = none := fun p hp => by
    obtain ⟨q, hq, rfl⟩ := List.mem_map.mp hp
    exact (S.ow q (by simp [hq])).2.1
  have other : ∀ q, q ∈ oa ∨ q ∈ ob → q ∈ oa ++ o1 ++ ob ∧ q.1 ∉ o1.map (·.1) := fun q hq => by
    rcases hq with h | h
    · exact ⟨by simp [h], fun z => d1 _ (List.mem_map.mpr ⟨q, h, rfl⟩) _ z rfl⟩
    · exact ⟨by simp [h], fun z => d3 _ (List.mem_append_right _ z) _ (List.mem_map.mpr ⟨q, h, rfl⟩) rfl⟩
  have there : ∀ q, q ∈ oa ∨ q ∈ ob → ∃ u, less H (o1.map (·.1)) q.1 = some u ∧ H q.1 = some u := fun q hq => by
    obtain ⟨hm, hn⟩ := other q hq
    obtain ⟨u, hu⟩ := (S.ow q hm).2.2.there
    exact ⟨u, by rw [less_out hn]; exact hu, hu⟩
  have keyO : ∀ q, q ∈ oa ∨ q ∈ ob → Hf' q.1 = none ∧ B.HB q.1 = none ∧ OwnOk Hf' H' q.1 q.2 := fun q hq => by
    obtain ⟨hm, hn⟩ := other q hq
    obtain ⟨a, b, c⟩ := S.ow q hm
    obtain ⟨u, h1, h2⟩ := there q hq
    refine ⟨?_, b, c.mono S'.e0 fun u' hu' => S'.eb _ _ (by show less H _ q.1 = _; rw [less_out hn]; exact hu')⟩
    cases e : Hf' q.1 with
    | none => rfl
    | some o =>
      have z := S'.fr q.1 o e a
      have z' : less H (o1.map (·.1)) q.1 = none := z
      rw [h1] at z'; cases z'
  refine ⟨S.e0.trans S'.e0, S'.e1, fun p o h => ?_, fun p o h hb => ?_, fun q hq => ?_, ?_, S'.tp⟩
  · refine S'.eb p o ?_
    show less H _ p = some o
    rw [less_out (fun z => by rw [b1 p z] at h; cases h)]
    exact S.eb p o h
  · cases e : Hf p with
    | some u => exact S.fr p u e hb
    | none =>
      have z : less H (o1.map (·.1)) p = none := S'.fr p o h e
      rcases less_none z with z | z
      · exact b1 p z
      · exact S.eb.free z
  · rcases List.mem_append.mp hq with h | h
    · rcases List.mem_append.mp h with h | h
      · exact keyO q (.inl h)
      · obtain ⟨a, b, c⟩ := S'.ow q h
        refine ⟨a, ?_, c⟩
        rcases less_none (show less H (o1.map (·.1)) q.1 = none from b) with z | z
        · exact b1 _ z
        · exact S.eb.free z
    · exact keyO q (.inr h)
  · have dj : ∀ q q', (q ∈ oa ∨ q ∈ ob) → q' ∈ o1' → q.1 ≠ q'.1 := fun q q' hq hq' e => by
      obtain ⟨u, h1, _⟩ := there q hq
      have z : less H (o1.map (·.1)) q'.1 = none := (S'.ow q' hq').2.1
      rw [← e, h1] at z; cases z
    rw [List.map_append, List.map_append]
    refine List.nodup_append.mpr ⟨List.nodup_append.mpr ⟨nd1, S'.nd, fun x hx y hy => ?_⟩, nd3, fun x hx y hy => ?_⟩
    · obtain ⟨q, hq, rfl⟩ := List.mem_map.mp hx
      obtain ⟨q', hq', rfl⟩ := List.mem_map.mp hy
      exact dj q q' (.inl hq) hq'
    · obtain ⟨q', hq', rfl⟩ := List.mem_map.mp hy
      rcases List.mem_append.mp hx with hx | hx
      · exact d3 _ (List.mem_append_left _ hx) _ (List.mem_map.mpr ⟨q', hq', rfl⟩)
      · obtain ⟨q, hq, rfl⟩ := List.mem_map.mp hx
        exact fun e => dj q' q (.inr hq') hq e.symm

/-! ### a def keeps its promise -/
section
variable {P : Program} {w : World} {K : PySem.W.Frag} {mg : Str → Option Value} {base : Heap}
theorem SlotsR.env {Hf : Hp} : ∀ {vs : List V} {ss : List Slot}, SlotsR Hf vs ss → ∀ n : Nat, EnvR Hf (vs.map some ++ List.replicate n none) (ss ++ List.replicate n .un)
  | _, _, .nil, n => ⟨by simp, fun i s h => .inl (by
      have h' : (List.replicate n Slot.un)[i]? = some s := h
      rw [List.getElem?_replicate] at h'
      split at h'
      · cases h'; rfl
      · cases h')⟩
  | _, _, .cons (s := s₀) a b, n => by
    have ih := SlotsR.env b n
    refine ⟨by simpa using ih.len, fun i s h => ?_⟩
    cases i with
    | zero =>
      have e : s₀ = s := by simpa using h
      subst e
      exact .inr ⟨_, rfl, a⟩
    | succ i => exact ih.at_ i s (by simpa using h)
/-- the context of a def's body -/
abbrev ctxOf (P : Program) (w : World) (K : PySem.W.Frag) (mg : Str → Option Value) (base : Heap) (N : List Str) (qual : Str) (st : Stmt) (f : Addr) (cdv : Value) (A : Around) (outer : List Env) (s : Shared) (H : Hp) (E : XK) (B : Bs) (ex : Addr → List Slot → Own → Prop) : Ctx :=
  ⟨cxOf (L2.CX P w) P w K mg base N qual (defScope st) f cdv A outer s H E, B, ex⟩
/-- what a body may lean on: the module's facts, the def's names -/
structure Bd (Z : Ctx) (P : Program) (w : World) (K : PySem.W.Frag) (mg : Str → Option Value) (base : Heap) : Prop where
  p : Z.X.prog = P
  w_ : Z.X.w = w
  k : Z.X.K = K
  mg : Z.X.mg = mg
  b : Z.X.base = base
theorem okG {x qual : Str} {st : Stmt} {f : Addr} {fd : FuncData} {N ps : List Str} {k : Nat} {Pre : Pr} (F : Fun K x qual st f fd) (S : FnScope N ps (defScope st)) (len : ∀ ss own post, Pre ss own post → ss.length = ps.length)
    (hbody : ∀ (ss : List Slot) (own : Own) (post : Out → Prop), Pre ss own post → ∀ (cdv : Value) (A : Around) (outer : List Env) (s : Shared) (H : Hp) (E : XK) (B : Bs), Gd (ctxOf P w K mg base N qual st f cdv A outer s H E B (fun C _ own => post (.exc C own))) k →
      SDs (ctxOf P w K mg base N qual st f cdv A outer s H E B (fun C _ own => post (.exc C own))) (defBody st) { nx := fun _ own => post (.ret (.d .none) own), rt := fun s own => post (.ret s own) } (ss ++ List.replicate (N.length - ss.length) .un) own) :
    FnOk P w K mg base (L2.CX P w) (k + 1) f fd ps (spG Pre) := by
  refine F.okX S (fun vs H Q E h => ?_) (fun cdv A outer s H vs Q E hr h => ?_)
  · obtain ⟨Hf, HB, ss, own, post, _, r, h, _⟩ := h
    rw [r.length]
    exact len _ _ _ h
  · obtain ⟨Hf, HB, ss, own, post, S0, r, h, q1, q2⟩ := h
    refine ⟨_, pssW, ?_⟩
    have g : Gd (ctxOf P w K mg base N qual st f cdv A outer s H E ⟨Hf, HB⟩ (fun C _ own => post (.exc C own))) k := by
      refine ⟨?_, passes_of rfl, rfl, S.nd, hr⟩
      refine Takes.imp (takes_of (E := E) rfl rfl rfl rfl) fun c d σ H' hw => ?_
      obtain ⟨C, Hf', ρ, own', rfl, rfl, S', _, hx⟩ := hw
      exact q2 C own' Hf' H' hx S'
    have z := hbody ss own post h cdv A outer s H E ⟨Hf, HB⟩ g Hf Hf (L2.start N vs) H (Same.refl _) S0 (by unfold L2.start; rw [r.length]; exact r.env _)
    refine wSs.imp z (fun σ H' hz => ?_) (fun v H' hz => ?_) (fun _ _ hz => ?_) (fun _ _ hz => ?_)
    · obtain ⟨Hf', ρ, own', _, S', _, hp⟩ := hz
      exact q1 _ own' _ Hf' H' hp S' (Rep.non) (fun z => nomatch z)
    · obtain ⟨Hf', t, own', _, S', r', hu, hp⟩ := hz
      exact q1 t own' v Hf' H' hp S' r' hu
    · obtain ⟨_, _, _, _, _, _, hp⟩ := hz
      exact hp.elim
    · obtain ⟨_, _, _, _, _, _, hp⟩ := hz
      exact hp.elim
end

/-! ### calls of defs -/
/-- all that a call of the def named z wants -/
structure Fn (K : PySem.W.Frag) (mg : Str → Option Value) (P : Program) (w : World) (base : Heap) (z : Str) (ps : List Str) (k : Nat) (Pre : Pr) : Prop where
  ex : ∃ f fd, FnOk P w K mg base (L2.CX P w) k f fd ps (spG Pre) ∧ mg z = some (.ref f) ∧ PySem.W.keepIn K (.ref f) = true ∧ Binds K fd ps []
section
variable {Z : Ctx} {e a b c : Expr} {es : List Expr} {ρ : List Slot} {own oa o1 ob : Own} {pos p : Pos} {x y : PyData} {s t u : Slot} {k j : Nat} {ss : List Slot} {z : Str} {ps : List Str} {Pre : Pr} {post : Out → Prop} {R : Slot → Own → Prop}
theorem eg_call (F : Fn Z.X.K Z.X.mg Z.X.prog Z.X.w Z.X.base z ps j Pre) (g : Gd Z k) (hj : j ≤ k) (ha : EA Z (e :: es) ρ (oa ++ o1 ++ ob) ss) (hp : Pre ss o1 post) (h1 : ∀ s o1', post (.ret s o1') → R s (oa ++ o1' ++ ob)) (h2 : ∀ C o1', post (.exc C o1') → Z.ex C ρ (oa ++ o1' ++ ob))
    (hg : Gl Z.X z := by rfl) (hdb : (z == ("__debug__" : Str)) = false := by decide) (he : starEach (e :: es) Z.X.env = (false, eval e Z.X.env) :: starEach es Z.X.env := by rfl) (hpl : (backTo pos (starEach es Z.X.env)).any (·.1) = false := by rfl) :
    EG Z (.Call (.Name z p) (e :: es) [] pos) ρ (oa ++ o1 ++ ob) R := by
  obtain ⟨f, fd, ok, hm, hk, hb⟩ := F.ex
  refine fun Hf σ H S E Q q => wE.of (pe_callS (E := WE (Wish Z)) ok (g.hr.mono hj) hg hm hk hb (fun σ => passAt g.tk σ) paW hdb he hpl) (ha Hf σ H S E _ fun vs Hf1 H1 m1 S1 r1 => ?_)
  refine ⟨Hf1, less H1 (o1.map (·.1)), ss, o1, post, S1.into, r1, hp, fun s own' v Hf' H' hq S' r' hs => ?_, fun C own' Hf' H' hq S' => ?_⟩
  · exact q v Hf' H' s _ (m1.trans S'.e0) (S1.back S') r' hs (h1 s own' hq)
  · exact ⟨C, Hf', ρ, _, rfl, rfl, S1.back S', E.mono (m1.trans S'.e0), h2 C own' hq⟩
/-- a def called upon data, that gives data -/
theorem es_call (F : Fn Z.X.K Z.X.mg Z.X.prog Z.X.w Z.X.base z ps j Pre) (g : Gd Z k) (hj : j ≤ k) (ha : EA Z (e :: es) ρ own ss) (hp : Pre ss [] (fun o => o = .ret (.d x) []))
    (hg : Gl Z.X z := by rfl) (hdb : (z == ("__debug__" : Str)) = false := by decide) (he : starEach (e :: es) Z.X.env = (false, eval e Z.X.env) :: starEach es Z.X.env := by rfl) (hpl : (backTo pos (starEach es Z.X.env)).any (·.1) = false := by rfl) : ED Z (.Call (.Name z p) (e :: es) [] pos) ρ own x := by
  have := eg_call (p := p) (oa := []) (o1 := []) (ob := own) (R := fun t o => t = .d x ∧ o = own) F g hj ha hp (fun s o1' h => by cases h; exact ⟨rfl, rfl⟩) (fun C o1' h => nomatch h) hg hdb he hpl
  exact EG.toES this
/-- .. that gives a new list -/
theorem el_call {ds : List PyData} (F : Fn Z.X.K Z.X.mg Z.X.prog Z.X.w Z.X.base z ps j Pre) (g : Gd Z k) (hj : j ≤ k) (ha : EA Z (e :: es) ρ own ss) (hp : Pre ss [] (fun o => ∃ p, o = .ret (.raw (.ref p)) [(p, .lst ds)]))
    (hg : Gl Z.X z := by rfl) (hdb : (z == ("__debug__" : Str)) = false := by decide) (he : starEach (e :: es) Z.X.env = (false, eval e Z.X.env) :: starEach es Z.X.env := by rfl) (hpl : (backTo pos (starEach es Z.X.env)).any (·.1) = false := by rfl) : EL Z (.Call (.Name z p) (e :: es) [] pos) ρ own ds := by
  have := eg_call (p := p) (oa := []) (o1 := []) (ob := own) (R := fun t o => ∃ p, t = .raw (.ref p) ∧ o = (p, .lst ds) :: own) F g hj ha hp (fun s o1' h => by obtain ⟨p, h⟩ := h; cases h; exact ⟨p, rfl, rfl⟩) (fun C o1' h => by obtain ⟨p, h⟩ := h; cases h) hg hdb he hpl
  exact EG.toEL this
end

/-! ### statements with a change of what is owned -/
section
variable {Z : Ctx} {D : DE} {ρ : List Slot} {own : Own} {pos : Pos} {e : Expr} {R : Slot → Own → Prop}
theorem sd_setG (i : Nat) {z : Str} {pos' : Pos} (hN : Z.X.N.Nodup) (he : EG Z e ρ own R) (h : ∀ s own', R s own' → D.nx (ρ.set i s) own') (hi : Z.X.N[i]? = some z := by rfl) (hx : Loc Z.X.env.scope z := by first | exact Or.inl rfl | exact Or.inr rfl) (hs : swapsWith e (some (.Name z pos')) pos.line Z.X.env = pure false := by rfl)
    (hf : Z.X.fn z = true ∨ Z.X.env.scope.names.lookup z = some .local := by first | exact .inl rfl | exact .inr rfl | assumption) : SD Z (.Assign [.Name z pos'] e pos) D ρ own := fun H0 Hf σ H m0 S E => wS.of (ps_set hN hi hx peW hs hf) (he Hf σ H S E _ fun v Hf1 H1 s own' m1 S1 r1 _ q => ⟨Hf1, _, own', m0.trans m1, S1, (E.mono m1).set r1 i, h s own' q⟩)
theorem sd_retG (he : EG Z e ρ own R) (h : ∀ s own', R s own' → D.rt s own') : SD Z (.Return (some e) pos) D ρ own := fun H0 Hf σ H m0 S E => wS.of (ps_ret peW) (he Hf σ H S E _ fun v Hf1 H1 s own' m1 S1 r1 hs q => ⟨Hf1, s, own', m0.trans m1, S1, r1, hs, h s own' q⟩)
end

/-! ### raise -/
section
variable {Z : Ctx} {D : DE} {ρ : List Slot} {own : Own} {pos p p2 pos' : Pos} {k : Nat}
/-- a class of errors of the program -/
structure ErrC (K : PySem.W.Frag) (mg : Str → Option Value) (z : Str) (C : Addr) : Prop where
  g : mg z = some (.ref C)
  x : PySem.W.excIn K C [.type "ValueError", .type "Exception", .type "BaseException", .type "object"] "ValueError.__new__" = true
  k : PySem.W.keepIn K (.ref C) = true
  b : PySem.W.subIn K (.ref C) (.type "BaseException") = some true
  t : PySem.W.typeIn K (.ref C) = some (.type "type")
theorem sd_raise {z m : Str} {C : Addr} {j : Nat} (g : Gd Z k) (T : ErrC Z.X.K Z.X.mg z C) (h : Z.ex C ρ own) (hg : Gl Z.X z := by rfl) (hdb : (z == ("__debug__" : Str)) = false := by decide) : SD Z (.Raise (some (.Call (.Name z p) [.Constant (.str m) j p2] [] pos')) none pos) D ρ own := fun H0 Hf σ H m0 S E =>
  wS.of (ps_raise g.calm g.tk (pmk_own PySem.F.excBase_ValueError T.x T.g T.k (raises_own T.b T.t) hg hdb)) ⟨C, Hf, ρ, own, rfl, rfl, S, E, h⟩
end

/-! ### while, augmented assignments, items stored, append -/
section
variable {Z : Ctx} {D : DE} {ρ : List Slot} {own oa ob : Own} {pos tpos : Pos} {body : List Stmt} {c e a b : Expr} {k : Nat} {i j : Int} {s t : Slot} {ds : List PyData} {x : PyData}
theorem sd_while (g : Gd Z k) (I : Nat → List Slot → Own → Prop) (m : Nat) (h0 : I m ρ own)
    (step : ∀ m ρ1 own1, I m ρ1 own1 → ∃ l, ET Z c ρ1 own1 l ∧ (l = true → SDs Z body { D with nx := fun ρ2 own2 => ∃ m', m' < m ∧ I m' ρ2 own2, ct := fun ρ2 own2 => ∃ m', m' < m ∧ I m' ρ2 own2, bk := D.nx } ρ1 own1) ∧ (l = false → D.nx ρ1 own1)) : SD Z (.While c body [] pos) D ρ own := by
  refine fun H0 Hf σ H m0 S E => wS.of (ps_while g.po ptW pssW) ?_
  refine ⟨fun m σ' H' => ∃ Hf' ρ' own', Same H0 Hf' ∧ Sat Z.B Hf' H' own' ∧ EnvR Hf' σ' ρ' ∧ I m ρ' own', ⟨m, Hf, ρ, own, m0, S, E, h0⟩, ?_⟩
  rintro m σ' H' ⟨Hf', ρ', own', m', S', E', q⟩
  obtain ⟨l, ht, h1, h2⟩ := step m ρ' own' q
  refine ht Hf' σ' H' S' E' _ fun Hf2 H2 m2 S2 => ?_
  cases l with
  | true =>
    refine iteT ⟨fun σ3 H3 => ∃ Hf3 ρ3 own3, Same H0 Hf3 ∧ Sat Z.B Hf3 H3 own3 ∧ EnvR Hf3 σ3 ρ3 ∧ ∃ m', m' < m ∧ I m' ρ3 own3, fun σ3 H3 ⟨Hf3, ρ3, own3, m3, S3, E3, m', hm, q3⟩ => ⟨m', hm, Hf3, ρ3, own3, m3, S3, E3, q3⟩, ?_⟩
    exact wSs.imp (h1 rfl H0 Hf2 σ' H2 (m'.trans m2) S2 (E'.mono m2)) (fun _ _ q => q) (fun _ _ q => q) (fun _ _ q => q) (fun _ _ q => q)
  | false => exact iteF ⟨Hf2, ρ', own', m'.trans m2, S2, E'.mono m2, h2 rfl⟩
/-- x op= e for ints -/
theorem sd_aug (n : Nat) {z : Str} {op : Operator} {C : Int → Int → Prop} {f : Int → Int → Int} {pos' : Pos} (ho : OpR Z.X (inplaceOp op) (rI C fun i j => .int (f i j))) (hN : Z.X.N.Nodup) (hv : ρ[n]? = some (.d (.int i))) (he : ED Z e ρ own (.int j)) (hc : C i j) (h : D.nx (ρ.set n (.d (.int (f i j)))) own)
    (hi : Z.X.N[n]? = some z := by rfl) (hx : Loc Z.X.env.scope z := by first | exact Or.inl rfl | exact Or.inr rfl) (hf : Z.X.fn z = true ∨ Z.X.env.scope.names.lookup z = some .local := by first | exact .inl rfl | exact .inr rfl | assumption) : SD Z (.AugAssign (.Name z pos') op e pos) D ρ own := fun H0 Hf σ H m0 S E => wS.of (ps_aug hN hi hx peW ho hf) (by
  obtain ⟨v, hv1, hv2⟩ := E.d hv
  cases hv2
  refine ⟨.int i, hv1, he Hf σ H S E _ fun w Hf1 H1 m1 S1 r1 => ?_⟩
  cases r1
  exact ⟨i, j, rfl, rfl, hc, Hf1, _, own, m0.trans m1, S1, (E.mono m1).set (s := .d (.int (f i j))) (Rep.int _) n, h⟩)
theorem iop_subC {X : Cx} : OpR X (inplaceOp .Sub) (rI (fun _ _ => True) fun i j => .int (i - j)) := opI fun _ _ _ _ _ _ _ _ q => isub_int q
theorem iop_mulW {X : Cx} : OpR X (inplaceOp .Mult) (rI CMulW fun i j => .int (i * j)) := opI fun _ _ _ _ _ _ _ hc q => imul_int q hc.ok
/-- xs[i] = e, xs one's own -/
theorem sd_setitem {p : Addr} {n : Nat} (he : ED Z e ρ (oa ++ (p, .lst ds) :: ob) x) (ha : EV Z a ρ (oa ++ (p, .lst ds) :: ob) (.ref p)) (hb : ED Z b ρ (oa ++ (p, .lst ds) :: ob) (.int i)) (hi : ixN ds.length i = some n) (h : D.nx ρ (oa ++ (p, .lst (ds.set n x)) :: ob))
    (hs : swapsWithSole [.Subscript a b tpos] e pos.line Z.X.env = pure false := by rfl) (hw : swappedStores [.Subscript a b tpos] e Z.X.env = pure none := by rfl) (h1 : (assignEach [.Subscript a b tpos] Z.X.env).map (·.2) = [assign (.Subscript a b tpos) Z.X.env] := by rfl)
    (hq : ∀ v, assign (.Subscript a b tpos) Z.X.env v = (do
      let ov ← holding [v] (eval a Z.X.env)
      let iv ← holding [v, ov] (eval b Z.X.env)
      standAt tpos
      holding [v, ov, iv] (setItem ov iv v)
      release [v, ov, iv] []) := by intro _; rfl) : SD Z (.Assign [.Subscript a b tpos] e pos) D ρ (oa ++ (p, .lst ds) :: ob) := fun H0 Hf σ H m0 S E => wS.of (ps_asg peW (pg_sub peW peW set_list hq) hs hw h1) (he Hf σ H S E _ fun v Hf1 H1 m1 S1 r1 => ha Hf1 σ H1 S1 (E.mono m1) _ fun w Hf2 H2 m2 S2 r2 =>
  hb Hf2 σ H2 S2 (E.mono (m1.trans m2)) _ fun z Hf3 H3 m3 S3 r3 => by
    cases r3
    cases (show w = .ref p from r2)
    obtain ⟨_, _, vs, g1, g2⟩ := S3.at (p := p) (oo := .lst ds) (by simp)
    refine ⟨p, vs, i, n, rfl, rfl, g1, by rw [g2.length]; exact hi, Hf3, ρ, _, ((m0.trans m1).trans m2).trans m3, S3.write (oo' := .lst (ds.set n x)) ⟨_, upd_same, g2.set ((show Rep Hf1 v x from r1).mono (m2.trans m3)) n⟩, E.mono ((m1.trans m2).trans m3), h⟩)
theorem atI_ixN {α : Type} {xs : List α} {i : Int} {n : Nat} {v : α} (h : ixN xs.length i = some n) (hv : xs[n]? = some v) : atI xs i = some v := by
  unfold atI
  rw [h]
  exact hv
/-- a, b = x, y with plain local names -/
theorem sd_par (n m : Nat) {x y : Str} {px py pt pt2 : Pos} {kt k2 : Nat} {s t : Slot} (g : Gd Z k) (ha : EA Z [a, b] ρ own [s, t]) (h : D.nx ((ρ.set n s).set m t) own) (hi : Z.X.N[n]? = some x := by rfl) (hj : Z.X.N[m]? = some y := by rfl) (hij : n ≠ m := by decide)
    (hx : Z.X.env.scope.names.lookup x = some .local := by rfl) (hy : Z.X.env.scope.names.lookup y = some .local := by rfl)
    (hw : swappedStores [.Tuple [.Name x px, .Name y py] kt pt] (.Tuple [a, b] k2 pt2) Z.X.env = pure (some [x, y]) := by rfl)
    (hs : swapsWithSole [.Tuple [.Name x px, .Name y py] kt pt] (.Tuple [a, b] k2 pt2) pos.line Z.X.env = pure false := by rfl) : SD Z (.Assign [.Tuple [.Name x px, .Name y py] kt pt] (.Tuple [a, b] k2 pt2) pos) D ρ own := fun H0 Hf σ H m0 S E => wS.of (ps_par g.calm g.nd hi hj hij hx hy paW hw hs)
  (ha Hf σ H S E _ fun vs Hf1 H1 m1 S1 r1 => by
    obtain ⟨v, w, rfl, r1, r2⟩ := r1.two
    exact ⟨v, w, rfl, Hf1, _, own, m0.trans m1, S1, ((E.mono m1).set r1 n).set r2 m, h⟩)
/-- target = data -/
theorem sd_asg {tg : Expr} {x : PyData} {ρ' : List Slot} {is : List Nat} (he : ED Z e ρ own x) (hg : GT Z tg x ρ ρ' is) (h : D.nx ρ' own) (hs : swapsWithSole [tg] e pos.line Z.X.env = pure false := by rfl) (hw : swappedStores [tg] e Z.X.env = pure none := by rfl)
    (h1 : (assignEach [tg] Z.X.env).map (·.2) = [assign tg Z.X.env] := by rfl) : SD Z (.Assign [tg] e pos) D ρ own := fun H0 Hf σ H m0 S E => wS.of (ps_asg peW pgW hs hw h1)
  (he Hf σ H S E _ fun v Hf1 H1 m1 S1 r1 => hg own Hf1 σ H1 v S1 (E.mono m1) r1 _ fun σ' E' _ => ⟨Hf1, ρ', own, m0.trans m1, S1, E', h⟩)
end
end Sd


namespace Sd
open PySem PySem.Spec PyProof.Rows L2
/-! ### comprehensions -/
abbrev blkZ (Z : Ctx) (scope : Scope) (s : Shared) (H : Hp) (C : Addr) (cl : List (Str × Addr)) (fp : List Addr) : Ctx := ⟨Z.X.blk s H scope (compEnvC scope cl C Z.X.env) fp, Z.B, fun _ _ _ => False⟩
structure wTs (X : Cx) (ifs : List Expr) (σ : L2.St) (H : Hp) (Q : Bool → Hp → Prop) : Prop where
  run : ∀ (pins : List (Addr × Obj)) (s : Shared), Inv X pins σ H s → wpAny (model X.prog X.w) X.A (forIn ifs true fun c r => if r = true then do let ok ← isTrue c X.env (eval c X.env); pure (ForInStep.yield ok) else pure (ForInStep.yield r)) (TP X pins σ Q) X.xe s
theorem wTs.of {X : Cx} {ifs : List Expr} {t : TT} (h : PTs X ifs t) {σ : L2.St} {H : Hp} {Q : Bool → Hp → Prop} (q : t σ H Q) : wTs X ifs σ H Q := ⟨fun pins s I => h.run pins s σ H Q I q⟩
def ETs (Z : Ctx) (ifs : List Expr) (ρ : List Slot) (own : Own) (b : Bool) : Prop := ∀ Hf σ H, Sat Z.B Hf H own → EnvR Hf σ ρ → ∀ Q : Bool → Hp → Prop, (∀ Hf' H', Same Hf Hf' → Sat Z.B Hf' H' own → Q b H') → wTs Z.X ifs σ H Q
theorem ets_nil {Z : Ctx} {ρ : List Slot} {own : Own} : ETs Z [] ρ own true := fun Hf σ H S R Q q => wTs.of pts_nil (q Hf H (Same.refl _) S)
theorem ets_one {Z : Ctx} {c : Expr} {ρ : List Slot} {own : Own} {l : Bool} (h : ET Z c ρ own l) : ETs Z [c] ρ own l := fun Hf σ H S R Q q => wTs.of (pts_one ptW) (h Hf σ H S R Q q)
theorem Gd.blk {Z : Ctx} {k : Nat} (g : Gd Z k) (scope : Scope) (s : Shared) (H : Hp) (C : Addr) (cl : List (Str × Addr)) (fp : List Addr) : Gd (blkZ Z scope s H C cl fp) k :=
  ⟨Takes.imp takes0 fun _ _ _ _ ⟨_, _, _, _, _, _, _, _, h⟩ => h, PassesOwn.never, g.calm, g.nd, g.hr⟩
theorem wipe_get {σ : L2.St} {i : Nat} : ∀ {vs : List Nat}, (wipe σ vs)[i]? = if i ∈ vs then (σ[i]?).map (fun _ => none) else σ[i]?
  | [] => by simp [wipe]
  | v :: vs => by
    unfold wipe
    by_cases hi : v = i
    · subst hi
      rw [if_pos (by simp)]
      by_cases hl : v < σ.length
      · rw [List.getElem?_set_self (by rw [wipe_length]; exact hl), List.getElem?_eq_getElem hl]
        rfl
      · rw [List.getElem?_eq_none (by rw [List.length_set, wipe_length]; omega), List.getElem?_eq_none (by omega)]
        rfl
    · rw [List.getElem?_set_ne hi, wipe_get]
      by_cases h2 : i ∈ vs
      · rw [if_pos h2, if_pos (List.mem_cons_of_mem _ h2)]
      · rw [if_neg h2, if_neg (by simp only [List.mem_cons, not_or]; exact ⟨fun e => hi e.symm, h2⟩)]
theorem wipe_but {σ σ2 : L2.St} {is vs : List Nat} (hb : But is (wipe σ vs) σ2) (hi : ∀ i ∈ is, i ∈ vs) : wipe σ2 vs = wipe σ vs := by
  refine List.ext_getElem? fun i => ?_
  rw [wipe_get, wipe_get]
  by_cases h : i ∈ vs
  · rw [if_pos h, if_pos h]
    have hl : σ2.length = σ.length := by rw [hb.1, wipe_length]
    by_cases hn : i < σ.length
    · rw [List.getElem?_eq_getElem hn, List.getElem?_eq_getElem (by omega)]
      rfl
    · rw [List.getElem?_eq_none (by omega), List.getElem?_eq_none (by omega)]
  · rw [if_neg h, if_neg h, hb.2 i (fun z => h (hi i z)), wipe_get, if_neg h]
/-- a comprehension: what it needs, and what its list may be at the end -/
def CP (Z : Ctx) (elt tg iter : Expr) (ifs : List Expr) (scope : Scope) (ρ : List Slot) (own : Own) (Fin : List PyData → Own → Prop) : Prop :=
  ∃ (wi : TI) (g : TG) (tt : TT) (te : TE) (on : List (Str × Nat)), PI Z.X tg iter wi ∧ BlkOk Z.X.N Z.X.env.scope scope on ∧ (∀ (s : Shared) (H : Hp) (C : Addr) (cl : List (Str × Addr)) (fp : List Addr), PG (Z.X.blk s H scope (compEnvC scope cl C Z.X.env) fp) tg g) ∧
    (∀ (s : Shared) (H : Hp) (C : Addr) (cl : List (Str × Addr)) (fp : List Addr), PTs (Z.X.blk s H scope (compEnvC scope cl C Z.X.env) fp) ifs tt) ∧ (∀ (s : Shared) (H : Hp) (C : Addr) (cl : List (Str × Addr)) (fp : List Addr), PE (Z.X.blk s H scope (compEnvC scope cl C Z.X.env) fp) elt te) ∧
    ∀ Hf σ H, Sat Z.B Hf H own → EnvR Hf σ ρ → ∀ Q : VK, (∀ p Hf' H' ds own', Same Hf Hf' → Sat Z.B Hf' H' ((p, .lst ds) :: own') → Fin ds own' → Q (.ref p) H') → tLc wi g tt te (on.map (·.2)) σ H Q
section
variable {Z : Ctx} {elt tg iter : Expr} {ifs : List Expr} {scope : Scope} {ρ : List Slot} {own : Own} {Fin : List PyData → Own → Prop} {k : Nat} {Po : Own → Prop} {ys : List PyData} {pos : Pos} {D : DE}
theorem comp (g : Gd Z k) (it : IT Z tg iter ρ own Po ys) (on : List (Str × Nat)) (ok : BlkOk Z.X.N Z.X.env.scope scope on) (I : Nat → List PyData → Own → Prop) (h0 : I 0 [] own) (hpo : ∀ i acc o D, I i acc o → Po ((D, .lst acc) :: o)) (hlen : ∀ i acc o, I i acc o → acc.length < 100000)
    (step : ∀ i y acc o D, ys[i]? = some y → I i acc o → ∃ ρ2 is l, (∀ i ∈ is, i ∈ on.map (·.2)) ∧ (∀ s H C cl fp, GT (blkZ Z scope s H C cl fp) tg y (wipeR ρ (on.map (·.2))) ρ2 is) ∧ (∀ s H C cl fp, ETs (blkZ Z scope s H C cl fp) ifs ρ2 ((D, .lst acc) :: o) l) ∧
      (l = true → ∀ s H C cl fp, EG (blkZ Z scope s H C cl fp) elt ρ2 ((D, .lst acc) :: o) (fun t o2 => ∃ d o', t = .d d ∧ o2 = (D, .lst acc) :: o' ∧ I (i + 1) (acc ++ [d]) o')) ∧ (l = false → I (i + 1) acc o)) :
    CP Z elt tg iter ifs scope ρ own (fun ds o => I ys.length ds o) := by
  obtain ⟨wi, hi, hw⟩ := it
  refine ⟨wi, fun v σ H Q => ∀ s' H' C cl fp, wG (Z.X.blk s' H' scope (compEnvC scope cl C Z.X.env) fp) tg v σ H Q, fun σ H Q => ∀ s' H' C cl fp, wTs (Z.X.blk s' H' scope (compEnvC scope cl C Z.X.env) fp) ifs σ H Q, fun σ H Q => ∀ s' H' C cl fp, wE (Z.X.blk s' H' scope (compEnvC scope cl C Z.X.env) fp) elt σ H Q, on, hi, ok,
    fun s' H' C cl fp => ⟨fun pins s σ H v u Q I r h => (h s' H' C cl fp).run pins s u I r⟩, fun s' H' C cl fp => ⟨fun pins s σ H Q I h => (h s' H' C cl fp).run pins s I⟩, fun s' H' C cl fp => ⟨fun pins s σ H Q I h => (h s' H' C cl fp).run pins s I⟩, fun Hf σ H S E Q q => ?_⟩
  refine hw Hf σ H S E _ fun J Hf1 H1 m1 S1 W D hD => ?_
  refine ⟨fun i m H' => m = ys.length - i ∧ i ≤ ys.length ∧ ∃ Hf' acc o, Same Hf1 Hf' ∧ Sat Z.B Hf' H' ((D, .lst acc) :: o) ∧ I i acc o, ⟨ys.length, by omega, by omega, Hf1, [], own, Same.refl _, S1.newOwn hD ⟨[], upd_same, .nil⟩, h0⟩, ?_⟩
  rintro i m H' ⟨rfl, hil, Hf', acc, o, m', S', q'⟩
  by_cases hlt : i < ys.length
  · refine .inr ⟨W.go i Hf' H' _ m' S' (hpo i acc o D q') hlt, fun H2 => ∃ Hf2 acc2 o2, Same Hf1 Hf2 ∧ Sat Z.B Hf2 H2 ((D, .lst acc2) :: o2) ∧ I (i + 1) acc2 o2, fun H2 ⟨Hf2, acc2, o2, m2, S2, q2⟩ => ⟨ys.length - (i + 1), by omega, rfl, hlt, Hf2, acc2, o2, m2, S2, q2⟩, fun x H2 hx => ?_⟩
    obtain ⟨Hf2, m2, S2, r2⟩ := W.yld i _ Hf' H' _ x H2 m' S' (hpo i acc o D q') (List.getElem?_eq_getElem hlt) hx
    obtain ⟨ρ2, is, l, hin, gt, et, h1, h2⟩ := step i _ acc o D (List.getElem?_eq_getElem hlt) q'
    have E2 : EnvR Hf2 (wipe σ (on.map (·.2))) (wipeR ρ (on.map (·.2))) := (E.mono ((m1.trans m').trans m2)).wipe _
    intro s' H'' C cl fp
    refine gt s' H'' C cl fp _ Hf2 _ H2 x S2 E2 r2 _ fun σ3 E3 b3 => ⟨wipe_but b3 hin, ?_⟩
    intro s' H'' C cl fp
    refine et s' H'' C cl fp Hf2 σ3 H2 S2 E3 _ fun Hf3 H3 m3 S3 => ?_
    cases l with
    | false => exact iteF ⟨Hf3, acc, o, (m'.trans m2).trans m3, S3, h2 rfl⟩
    | true =>
      refine iteT ?_
      intro s' H'' C cl fp
      refine h1 rfl s' H'' C cl fp Hf3 σ3 H3 S3 (E3.mono m3) _ fun v Hf4 H4 t o2 m4 S4 r4 _ hq => ?_
      obtain ⟨d, o', rfl, rfl, hI⟩ := hq
      obtain ⟨_, _, vs, g1, g2⟩ := S4.at (p := D) (oo := .lst acc) (by simp)
      exact ⟨vs, g1, by rw [g2.length]; exact Nat.lt_of_lt_of_le (hlen _ _ _ q') (by decide), Hf4, acc ++ [d], o', ((m'.trans m2).trans m3).trans m4, S4.write (oa := []) (oo' := .lst (acc ++ [d])) ⟨_, upd_same, g2.append (.cons r4 .nil)⟩, hI⟩
  · have e : i = ys.length := by omega
    subst e
    exact .inl ⟨W.stop _ Hf' H' _ m' S' (hpo _ _ _ _ q') (Nat.le_refl _), q D Hf' H' acc o (m1.trans m') S' q'⟩
theorem eg_comp (g : Gd Z k) (h : CP Z elt tg iter ifs scope ρ own Fin) (hs : ∀ x, foldedSetIterable iter Z.X.env x = pure x := by intro _; rfl) : EG Z (.ListComp elt [⟨tg, iter, ifs, 0⟩] scope pos) ρ own (fun s o => ∃ p ds o', s = .raw (.ref p) ∧ o = (p, .lst ds) :: o' ∧ Fin ds o') := by
  obtain ⟨wi, gg, tt, te, on, hi, ok, hg, ht, he, hq⟩ := h
  exact fun Hf σ H S E Q q => wE.of (pe_lc g.calm g.nd hi ok hg ht he hs) (hq Hf σ H S E Q fun p Hf' H' ds own' m S' hf => q _ Hf' H' (.raw (.ref p)) _ m S' rfl (fun z => nomatch z) ⟨p, ds, own', rfl, rfl, hf⟩)
theorem el_comp {ds : List PyData} (g : Gd Z k) (h : CP Z elt tg iter ifs scope ρ own (fun xs o => xs = ds ∧ o = own)) (hs : ∀ x, foldedSetIterable iter Z.X.env x = pure x := by intro _; rfl) : EL Z (.ListComp elt [⟨tg, iter, ifs, 0⟩] scope pos) ρ own ds :=
  EG.toEL ((eg_comp g h hs).imp fun s o ⟨p, xs, o', e1, e2, e3, e4⟩ => ⟨p, e1, by rw [e2, e3, e4]⟩)
/-- name = [..] on one line -/
theorem sd_setC (n : Nat) {y : Str} {py spos : Pos} (g : Gd Z k) (h : CP Z elt tg iter ifs scope ρ own Fin) (hn : ∀ p ds o', Fin ds o' → D.nx (ρ.set n (.raw (.ref p))) ((p, .lst ds) :: o'))
    (hsw : swapsWith (.ListComp elt [⟨tg, iter, ifs, 0⟩] scope pos) (some (.Name y py)) spos.line Z.X.env = pure true) (hy : Z.X.N[n]? = some y := by rfl) (hyl : Z.X.env.scope.names.lookup y = some .local := by rfl) (hs : ∀ x, foldedSetIterable iter Z.X.env x = pure x := by intro _; rfl) :
    SD Z (.Assign [.Name y py] (.ListComp elt [⟨tg, iter, ifs, 0⟩] scope pos) spos) D ρ own := by
  obtain ⟨wi, gg, tt, te, on, hi, ok, hg, ht, he, hq⟩ := h
  exact fun H0 Hf σ H m0 S E => wS.of (ps_setLc g.calm g.nd hy hyl hsw hi ok hg ht he hs) (hq Hf σ H S E _ fun p Hf' H' ds own' m S' hf => ⟨Hf', _, _, m0.trans m, S', (E.mono m).set (s := .raw (.ref p)) rfl n, hn p ds own' hf⟩)
/-- .. whose elements change nothing -/
theorem compP {α : Type} (g : Gd Z k) (it : IT Z tg iter ρ own Po ys) (on : List (Str × Nat)) (ok : BlkOk Z.X.N Z.X.env.scope scope on) (xs : List α) (enc : α → PyData) (hy : ys = xs.map enc) (F : α → Option PyData) (ρ2 : α → List Slot) (is : List Nat)
    (his : ∀ i ∈ is, i ∈ on.map (·.2)) (hl : xs.length < 100000) (hpo : ∀ acc D, Po ((D, .lst acc) :: own)) (gt : ∀ a ∈ xs, ∀ s H C cl fp, Gd (blkZ Z scope s H C cl fp) k → GT (blkZ Z scope s H C cl fp) tg (enc a) (wipeR ρ (on.map (·.2))) (ρ2 a) is)
    (et : ∀ a ∈ xs, ∀ s H C cl fp o, Gd (blkZ Z scope s H C cl fp) k → ETs (blkZ Z scope s H C cl fp) ifs (ρ2 a) o (F a).isSome) (ed : ∀ a ∈ xs, ∀ d, F a = some d → ∀ s H C cl fp o, Gd (blkZ Z scope s H C cl fp) k → ED (blkZ Z scope s H C cl fp) elt (ρ2 a) o d) :
    CP Z elt tg iter ifs scope ρ own (fun ds o => ds = xs.filterMap F ∧ o = own) := by
  subst hy
  have := comp (Po := Po) (ys := xs.map enc) (elt := elt) (ifs := ifs) (scope := scope) g it on ok (fun i acc o => acc = (xs.take i).filterMap F ∧ o = own ∧ i ≤ xs.length) ⟨rfl, rfl, Nat.zero_le _⟩ (fun i acc o D h => by rw [h.2.1]; exact hpo acc D) (fun i acc o h => by
    rw [h.1]
    have h1 := List.length_filterMap_le F (xs.take i)
    rw [List.length_take] at h1
    omega) (fun i y acc o D hy h => by
      obtain ⟨rfl, rfl, hi⟩ := h
      rw [List.getElem?_map] at hy
      cases ea : xs[i]? with
      | none => rw [ea] at hy; cases hy
      | some a =>
        rw [ea] at hy
        cases hy
        have hm : a ∈ xs := List.mem_of_getElem? ea
        have hlt : i < xs.length := (List.getElem?_eq_some_iff.mp ea).1
        have tk : (xs.take (i + 1)).filterMap F = (xs.take i).filterMap F ++ (F a).toList := by
          rw [List.take_add_one, ea, List.filterMap_append]
          cases hF : F a <;> simp [hF]
        refine ⟨ρ2 a, is, (F a).isSome, his, fun s H C cl fp => gt a hm s H C cl fp (g.blk ..), fun s H C cl fp => et a hm s H C cl fp _ (g.blk ..), fun hs s H C cl fp => ?_, fun hs => ?_⟩
        · obtain ⟨d, hd⟩ := Option.isSome_iff_exists.mp hs
          exact ES.toEG (ed a hm d hd s H C cl fp _ (g.blk ..)) (fun z => nomatch z) ⟨d, o, rfl, rfl, by rw [tk, hd]; rfl, rfl, hlt⟩
        · refine ⟨?_, rfl, hlt⟩
          rw [tk]
          cases hF : F a with
          | none => simp
          | some d => rw [hF] at hs; cases hs)
  obtain ⟨a1, a2, a3, a4, a5, b1, b2, b3, b4, b5, b6⟩ := this
  refine ⟨a1, a2, a3, a4, a5, b1, b2, b3, b4, b5, fun Hf σ H S E Q q => b6 Hf σ H S E Q fun p Hf' H' ds own' m S' hf => q p Hf' H' ds own' m S' ⟨?_, hf.2.1⟩⟩
  rw [hf.1, List.length_map, List.take_length]
end

/-! ### more values -/
section
variable {Z : Ctx} {D : DE} {e a b : Expr} {ρ : List Slot} {own oa ob : Own} {pos p1 p2 p3 : Pos} {s t : Slot} {k j : Nat} {ds ys : List PyData}
end
end Sd


namespace Sd
open PySem PySem.Spec PyProof.Rows L2
/-! ### lists of values, one's own (raw); items with a change of what is owned -/
section
variable {Z : Ctx} {D : DE} {e a b c : Expr} {es : List Expr} {ρ : List Slot} {own oa ob : Own} {pos tpos p : Pos} {i j : Int} {s t : Slot} {k : Nat} {ds : List PyData} {x : PyData} {q : Addr} {vs : List V} {R : Slot → Own → Prop}
theorem es_ixR {v : V} (hq : (q, OO.raw (.lst vs)) ∈ own) (ha : EV Z a ρ own (.ref q)) (hb : ED Z b ρ own (.int i)) (h : atI vs i = some v) (hs : ∀ H, SlotR H v s) (hp : PlainIx b := by exact fun _ _ => rfl) : ES Z (.Subscript a b pos) ρ own s := fun Hf σ H S E Q k =>
  wE.of (pe_ix ix_list peW peW hp) (ha Hf σ H S E _ fun w Hf1 H1 m1 S1 r1 => hb Hf1 σ H1 S1 (E.mono m1) _ fun w2 Hf2 H2 m2 S2 r2 => by
    cases r2
    cases (show w = .ref q from r1)
    obtain ⟨_, _, g⟩ := S2.at hq
    exact ⟨q, vs, i, v, rfl, rfl, SqL.of g, h, k v Hf2 H2 (m1.trans m2) S2 (hs _)⟩)
theorem sd_setitemR {v : V} {n : Nat} (he : ES Z e ρ (oa ++ (q, .raw (.lst vs)) :: ob) s) (hv : ∀ H w, SlotR H w s → w = v) (ha : EV Z a ρ (oa ++ (q, .raw (.lst vs)) :: ob) (.ref q)) (hb : ED Z b ρ (oa ++ (q, .raw (.lst vs)) :: ob) (.int i)) (hi : ixN vs.length i = some n) (h : D.nx ρ (oa ++ (q, .raw (.lst (vs.set n v))) :: ob))
    (hs : swapsWithSole [.Subscript a b tpos] e pos.line Z.X.env = pure false := by rfl) (hw : swappedStores [.Subscript a b tpos] e Z.X.env = pure none := by rfl) (h1 : (assignEach [.Subscript a b tpos] Z.X.env).map (·.2) = [assign (.Subscript a b tpos) Z.X.env] := by rfl)
    (hq : ∀ v, assign (.Subscript a b tpos) Z.X.env v = (do
      let ov ← holding [v] (eval a Z.X.env)
      let iv ← holding [v, ov] (eval b Z.X.env)
      standAt tpos
      holding [v, ov, iv] (setItem ov iv v)
      release [v, ov, iv] []) := by intro _; rfl) : SD Z (.Assign [.Subscript a b tpos] e pos) D ρ (oa ++ (q, .raw (.lst vs)) :: ob) := fun H0 Hf σ H m0 S E => wS.of (ps_asg peW (pg_sub peW peW set_list hq) hs hw h1) (he Hf σ H S E _ fun v1 Hf1 H1 m1 S1 r1 => ha Hf1 σ H1 S1 (E.mono m1) _ fun w Hf2 H2 m2 S2 r2 =>
  hb Hf2 σ H2 S2 (E.mono (m1.trans m2)) _ fun z Hf3 H3 m3 S3 r3 => by
    cases r3
    cases (show w = .ref q from r2)
    cases hv _ _ r1
    obtain ⟨_, _, g⟩ := S3.at (p := q) (oo := .raw (.lst vs)) (by simp)
    exact ⟨q, vs, i, n, rfl, rfl, g, hi, Hf3, ρ, _, ((m0.trans m1).trans m2).trans m3, S3.write (oo' := .raw (.lst (vs.set n v))) upd_same, E.mono ((m1.trans m2).trans m3), h⟩)
/-- xs[..], the place with a change -/
theorem eg_ixL {P : Int → Own → Prop} (ha : ED Z a ρ own (.list ds)) (hb : EG Z b ρ own fun t o => ∃ i, t = .d (.int i) ∧ P i o) (h : ∀ i o, P i o → ∃ d, atI ds i = some d ∧ R (.d d) o) (hp : PlainIx b := by exact fun _ _ => rfl) : EG Z (.Subscript a b pos) ρ own R := fun Hf σ H S E Q k =>
  wE.of (pe_ix ix_list peW peW hp) (ha Hf σ H S E _ fun v Hf1 H1 m1 S1 r1 => hb Hf1 σ H1 S1 (E.mono m1) _ fun w Hf2 H2 t o m2 S2 r2 _ hq => by
    obtain ⟨i, rfl, hq⟩ := hq
    obtain ⟨d, h1, h2⟩ := h i o hq
    obtain ⟨p, vs, rfl, g1, g2⟩ := (Lst.d (own := o)).at S2 (r1.mono m2)
    cases r2
    obtain ⟨z, h3, h4⟩ := atI_rep g2 h1
    exact ⟨p, vs, i, z, rfl, rfl, SqL.of g1, h3, k z Hf2 H2 (.d d) o (m1.trans m2) S2 h4 (fun z => nomatch z) h2⟩)
/-- a new list turned into data -/
theorem EG.frz {P : List PyData → Own → Prop} (h : EG Z e ρ own fun s o => ∃ p ds o', s = .raw (.ref p) ∧ o = (p, .lst ds) :: o' ∧ P ds o') (hR : ∀ ds o, P ds o → R (.d (.list ds)) o) : EG Z e ρ own R := fun Hf σ H S E Q k => h Hf σ H S E Q fun v Hf1 H1 s o m1 S1 r1 hs hq => by
  obtain ⟨p, ds, o', rfl, rfl, hq⟩ := hq
  obtain ⟨Hf2, m2, S2, r2⟩ := Sat.freeze (oa := []) S1
  cases (show v = .ref p from r1)
  exact k _ Hf2 H1 (.d (.list ds)) o' (m1.trans m2) S2 r2 (fun z => nomatch z) (hR ds o' hq)
/-- arguments, the first with a change -/
def EAG (Z : Ctx) (es : List Expr) (ρ : List Slot) (own : Own) (R : List Slot → Own → Prop) : Prop := ∀ Hf σ H, Sat Z.B Hf H own → EnvR Hf σ ρ → ∀ Q : List V → Hp → Prop, (∀ vs Hf' H' ss own', Same Hf Hf' → Sat Z.B Hf' H' own' → SlotsR Hf' vs ss → R ss own' → Q vs H') → wA Z.X es σ H Q
theorem EA.toEAG {ss : List Slot} {R : List Slot → Own → Prop} (h : EA Z es ρ own ss) (q : R ss own) : EAG Z es ρ own R := fun Hf σ H S E Q k => h Hf σ H S E Q fun vs Hf' H' m S' r => k vs Hf' H' ss own m S' r q
theorem eag_cons {R : List Slot → Own → Prop} {P : Slot → Own → Prop} (h : EG Z e ρ own P) (hr : ∀ s o, P s o → s ≠ .un → EAG Z es ρ o (fun ss o' => R (s :: ss) o')) (hs : starEach (e :: es) Z.X.env = (false, eval e Z.X.env) :: starEach es Z.X.env := by rfl) : EAG Z (e :: es) ρ own R := fun Hf σ H S E Q k => wA.of (pa_cons peW paW hs) (h Hf σ H S E _ fun v Hf1 H1 s o m1 S1 r1 hu q1 =>
  hr s o q1 hu Hf1 σ H1 S1 (E.mono m1) _ fun vs Hf2 H2 ss o2 m2 S2 r2 q2 => k (v :: vs) Hf2 H2 (s :: ss) o2 (m1.trans m2) S2 (.cons (r1.mono m2) r2) q2)
end
/-! ### a range whose end changes what is owned, walked by a comprehension -/
section
variable {Z : Ctx} {elt tg iter a : Expr} {ifs : List Expr} {scope : Scope} {ρ : List Slot} {own : Own} {k : Nat} {pos p : Pos}
def ITG (Z : Ctx) (tg iter : Expr) (ρ : List Slot) (own : Own) (P : List PyData → Own → Prop) : Prop := ∃ wi : TI, PI Z.X tg iter wi ∧ ∀ Hf σ H, Sat Z.B Hf H own → EnvR Hf σ ρ → ∀ R : It → Hp → Prop, (∀ J Hf' H' ys own', Same Hf Hf' → Sat Z.B Hf' H' own' → P ys own' → Walk Z.B J Hf' ys (fun _ => True) → R J H') → wi σ H R
theorem itg_range1 {P : Int → Own → Prop} (hm : Z.X.mg "range" = none) (h : EG Z a ρ own fun t o => ∃ i, t = .d (.int i) ∧ (-1000000 ≤ i ∧ i ≤ 1000000) ∧ P i o) (hg : Gl Z.X "range" := by rfl) (hs : starEach [a] Z.X.env = [(false, eval a Z.X.env)] := by rfl) : ITG Z tg (.Call (.Name "range" p) [a] [] pos) ρ own (fun ys o => ∃ i, ys = rng 0 i.toNat ∧ P i o) :=
  ⟨_, pi_range1 hg hm paW hs, fun Hf σ H S E R q => (eag_cons (R := fun ss o => ∃ i, ss = [.d (.int i)] ∧ (-1000000 ≤ i ∧ i ≤ 1000000) ∧ P i o) h (fun s o hq _ => by
      obtain ⟨i, rfl, hi, hp⟩ := hq
      exact EA.toEAG ea_nil ⟨i, rfl, hi, hp⟩) hs) Hf σ H S E _ fun vs Hf1 H1 ss o m1 S1 r1 hq => by
    obtain ⟨i, rfl, hi, hp⟩ := hq
    obtain ⟨v, rfl, r⟩ := r1.one
    cases r
    exact ⟨i, rfl, by omega, by omega, q _ Hf1 H1 _ _ m1 S1 ⟨i, rfl, hp⟩ (walk_rng 0 _)⟩⟩
theorem compG {P : List PyData → Own → Prop} (g : Gd Z k) (it : ITG Z tg iter ρ own P) (on : List (Str × Nat)) (ok : BlkOk Z.X.N Z.X.env.scope scope on) (I : List PyData → Nat → List PyData → Own → Prop) (h0 : ∀ ys o, P ys o → I ys 0 [] o) (hlen : ∀ ys i acc o, I ys i acc o → acc.length < 100000)
    (step : ∀ ys i y acc o D, ys[i]? = some y → I ys i acc o → ∃ ρ2 is l, (∀ i ∈ is, i ∈ on.map (·.2)) ∧ (∀ s H C cl fp, GT (blkZ Z scope s H C cl fp) tg y (wipeR ρ (on.map (·.2))) ρ2 is) ∧ (∀ s H C cl fp, ETs (blkZ Z scope s H C cl fp) ifs ρ2 ((D, .lst acc) :: o) l) ∧
      (l = true → ∀ s H C cl fp, EG (blkZ Z scope s H C cl fp) elt ρ2 ((D, .lst acc) :: o) (fun t o2 => ∃ d o', t = .d d ∧ o2 = (D, .lst acc) :: o' ∧ I ys (i + 1) (acc ++ [d]) o')) ∧ (l = false → I ys (i + 1) acc o)) :
    CP Z elt tg iter ifs scope ρ own (fun ds o => ∃ ys, I ys ys.length ds o) := by
  obtain ⟨wi, hi, hw⟩ := it
  refine ⟨wi, fun v σ H Q => ∀ s' H' C cl fp, wG (Z.X.blk s' H' scope (compEnvC scope cl C Z.X.env) fp) tg v σ H Q, fun σ H Q => ∀ s' H' C cl fp, wTs (Z.X.blk s' H' scope (compEnvC scope cl C Z.X.env) fp) ifs σ H Q, fun σ H Q => ∀ s' H' C cl fp, wE (Z.X.blk s' H' scope (compEnvC scope cl C Z.X.env) fp) elt σ H Q, on, hi, ok,
    fun s' H' C cl fp => ⟨fun pins s σ H v u Q I r h => (h s' H' C cl fp).run pins s u I r⟩, fun s' H' C cl fp => ⟨fun pins s σ H Q I h => (h s' H' C cl fp).run pins s I⟩, fun s' H' C cl fp => ⟨fun pins s σ H Q I h => (h s' H' C cl fp).run pins s I⟩, fun Hf σ H S E Q q => ?_⟩
  refine hw Hf σ H S E _ fun J Hf1 H1 ys own1 m1 S1 hP W D hD => ?_
  refine ⟨fun i m H' => m = ys.length - i ∧ i ≤ ys.length ∧ ∃ Hf' acc o, Same Hf1 Hf' ∧ Sat Z.B Hf' H' ((D, .lst acc) :: o) ∧ I ys i acc o, ⟨ys.length, by omega, by omega, Hf1, [], own1, Same.refl _, S1.newOwn hD ⟨[], upd_same, .nil⟩, h0 ys own1 hP⟩, ?_⟩
  rintro i m H' ⟨rfl, hil, Hf', acc, o, m', S', q'⟩
  by_cases hlt : i < ys.length
  · refine .inr ⟨W.go i Hf' H' _ m' S' trivial hlt, fun H2 => ∃ Hf2 acc2 o2, Same Hf1 Hf2 ∧ Sat Z.B Hf2 H2 ((D, .lst acc2) :: o2) ∧ I ys (i + 1) acc2 o2, fun H2 ⟨Hf2, acc2, o2, m2, S2, q2⟩ => ⟨ys.length - (i + 1), by omega, rfl, hlt, Hf2, acc2, o2, m2, S2, q2⟩, fun x H2 hx => ?_⟩
    obtain ⟨Hf2, m2, S2, r2⟩ := W.yld i _ Hf' H' _ x H2 m' S' trivial (List.getElem?_eq_getElem hlt) hx
    obtain ⟨ρ2, is, l, hin, gt, et, h1, h2⟩ := step ys i _ acc o D (List.getElem?_eq_getElem hlt) q'
    have E2 : EnvR Hf2 (wipe σ (on.map (·.2))) (wipeR ρ (on.map (·.2))) := (E.mono ((m1.trans m').trans m2)).wipe _
    intro s' H'' C cl fp
    refine gt s' H'' C cl fp _ Hf2 _ H2 x S2 E2 r2 _ fun σ3 E3 b3 => ⟨wipe_but b3 hin, ?_⟩
    intro s' H'' C cl fp
    refine et s' H'' C cl fp Hf2 σ3 H2 S2 E3 _ fun Hf3 H3 m3 S3 => ?_
    cases l with
    | false => exact iteF ⟨Hf3, acc, o, (m'.trans m2).trans m3, S3, h2 rfl⟩
    | true =>
      refine iteT ?_
      intro s' H'' C cl fp
      refine h1 rfl s' H'' C cl fp Hf3 σ3 H3 S3 (E3.mono m3) _ fun v Hf4 H4 t o2 m4 S4 r4 _ hq => ?_
      obtain ⟨d, o', rfl, rfl, hI⟩ := hq
      obtain ⟨_, _, vs, g1, g2⟩ := S4.at (p := D) (oo := .lst acc) (by simp)
      exact ⟨vs, g1, by rw [g2.length]; exact Nat.lt_of_lt_of_le (hlen _ _ _ _ q') (by decide), Hf4, acc ++ [d], o', ((m'.trans m2).trans m3).trans m4, S4.write (oa := []) (oo' := .lst (acc ++ [d])) ⟨_, upd_same, g2.append (.cons r4 .nil)⟩, hI⟩
  · have e : i = ys.length := by omega
    subst e
    exact .inl ⟨W.stop _ Hf' H' _ m' S' trivial (Nat.le_refl _), q D Hf' H' acc o (m1.trans m') S' ⟨ys, q'⟩⟩
end
/-! ### a def of the text as the top has left it -/
structure Df (K : PySem.W.Frag) (mg : Str → Option Value) (z : Str) (st : Stmt) (ps : List Str) : Prop where
  ex : ∃ f fd, Fun K z z st f fd ∧ mg z = some (.ref f) ∧ ∀ us : List Value, us.length = ps.length → bindArgs fd ⟨us, []⟩ = pure (ps.zip us)
theorem Df.fn {K : PySem.W.Frag} {mg : Str → Option Value} {P : Program} {w : World} {base : Heap} {z : Str} {st : Stmt} {ps : List Str} {k : Nat} {Pre : Pr} (D : Df K mg z st ps) (h : ∀ f fd, Fun K z z st f fd → FnOk P w K mg base (L2.CX P w) k f fd ps (spG Pre)) : Fn K mg P w base z ps k Pre := by
  obtain ⟨f, fd, F, hm, hb⟩ := D.ex
  exact ⟨f, fd, h f fd F, hm, F.kp, Binds.all hb⟩
theorem df_mk {K : PySem.W.Frag} {mg : Str → Option Value} {h : Heap} {z : Str} {st : Stmt} {ps : List Str} {f : Addr} {oc : Value} {od an : Option Addr} {sl : Array (Option Value)} {kV dc pm cd ct : Value} (X : K.In h) (G : h.Ns mainGlobals mg)
    (hb : ∀ (kV doc pm : Value) (an : Option Addr) (cdv ct : Value) (us : List Value), us.length = ps.length → bindArgs (PySem.W.fnOf z z (defArgs st) (defBody st) (defScope st) .none kV doc pm an cdv ct) ⟨us, []⟩ = pure (ps.zip us))
    (a : PySem.W.nsIn K mainGlobals z = some (some (.ref f))) (l : K.lookup f = some ⟨oc, od, .func (PySem.W.fnOf z z (defArgs st) (defBody st) (defScope st) .none kV dc pm an cd ct), sl⟩) (c : PySem.W.codeIn K cd z = true) (k : PySem.W.keepIn K (.ref f) = true) : Df K mg z st ps :=
  have F := fun_mk (st := st) l c k
  ⟨f, _, F, PySem.W.mg_of X G a, fun us hl => hb _ _ _ _ _ _ us hl⟩
theorem err_mk {K : PySem.W.Frag} {mg : Str → Option Value} {h : Heap} {z : Str} {C : Addr} (X : K.In h) (G : h.Ns mainGlobals mg) (a : PySem.W.nsIn K mainGlobals z = some (some (.ref C)))
    (x : PySem.W.excIn K C [.type "ValueError", .type "Exception", .type "BaseException", .type "object"] "ValueError.__new__" = true) (k : PySem.W.keepIn K (.ref C) = true) (b : PySem.W.subIn K (.ref C) (.type "BaseException") = some true) (t : PySem.W.typeIn K (.ref C) = some (.type "type")) : ErrC K mg z C := ⟨PySem.W.mg_of X G a, x, k, b, t⟩
/-- the classes of the program -/
structure Cl where
  DayError : Addr
  BadYear : Addr
  BadDay : Addr
  BadNumber : Addr
  BadShare : Addr
  BadText : Addr
  NotFound : Addr
  Calendar : Addr
end Sd


/-! fractions as data, sizes -/
namespace Sd
open PySem PySem.Spec PyProof.Rows L2
def fr (q : Rat) : PyData := .tuple [.int q.num, .int (q.den : Int)]
theorem low_eq (a b : Int) (hb : 0 < b) : ((a : Rat) / b).num = a / (Int.gcd a b) ∧ (((a : Rat) / b).den : Int) = b / (Int.gcd a b) := by
  rw [← Rat.divInt_eq_div]
  refine ⟨?_, ?_⟩
  · rw [Rat.num_divInt, Int.sign_eq_one_of_pos hb, Int.one_mul, Int.gcd_comm]
  · rw [Rat.den_divInt, if_neg (by omega), Int.gcd_comm, Int.natCast_ediv, Int.natAbs_of_nonneg (by omega)]
theorem fr_low (a b : Int) (hb : 0 < b) : PyData.tuple [.int (a / (Int.gcd a b : Nat)), .int (b / (Int.gcd a b : Nat))] = fr ((a : Rat) / b) := by
  unfold fr
  rw [(low_eq a b hb).1, (low_eq a b hb).2]
theorem den_pos (q : Rat) : (0 : Int) < (q.den : Int) := by
  have := q.den_nz
  omega
theorem num_den (q : Rat) : (q.num : Rat) / ((q.den : Int) : Rat) = q := by
  rw [← Rat.divInt_eq_div, Rat.num_divInt_den]
theorem den_ne (q : Rat) : ((q.den : Int) : Rat) ≠ 0 := by
  intro h
  have : (q.den : Int) = 0 := by exact_mod_cast h
  have := den_pos q
  omega
theorem num_eq (q : Rat) : (q.num : Rat) = q * ((q.den : Int) : Rat) := by
  have h := num_den q
  have h2 := den_ne q
  grind
theorem eqv_fr (p q : Rat) : PyData.eqv (fr p) (fr q) = decide (p = q) := by
  have e : PyData.eqv (fr p) (fr q) = (decide (p.num = q.num) && decide ((p.den : Int) = (q.den : Int))) := by
    simp [fr, PyData.eqv, PyData.eqvAll, Bool.beq_eq_decide_eq]
  rw [e, Bool.eq_iff_iff]
  simp only [Bool.and_eq_true, decide_eq_true_eq]
  constructor
  · rintro ⟨h1, h2⟩
    exact Rat.ext h1 (by omega)
  · rintro rfl
    exact ⟨rfl, rfl⟩
/-! shapes -/
def Shp (n : Nat) (d : PyData) : Prop := d.canLay0 = true ∧ d.depth ≤ n
theorem Shp.shaped {n : Nat} {d : PyData} (h : Shp n d) (hn : n ≤ 64) : SeqAt.shaped d = true := by
  unfold SeqAt.shaped
  rw [h.1, decide_eq_true (Nat.le_trans h.2 hn)]
  rfl
theorem depthAll_le {n : Nat} : ∀ {ds : List PyData}, (∀ d ∈ ds, d.depth ≤ n) → PyData.depthAll ds ≤ n
  | [], _ => Nat.zero_le _
  | d :: ds, h => by
    unfold PyData.depthAll
    exact Nat.max_le.mpr ⟨h d (by simp), depthAll_le fun x hx => h x (by simp [hx])⟩
theorem canAll_of : ∀ {ds : List PyData}, (∀ d ∈ ds, d.canLay0 = true) → PyData.canLayAll0 ds = true
  | [], _ => by simp [PyData.canLayAll0]
  | d :: ds, h => by
    unfold PyData.canLayAll0
    rw [h d (by simp), canAll_of fun x hx => h x (by simp [hx])]
    rfl
theorem shp_int (i : Int) : Shp 0 (.int i) := ⟨by simp [PyData.canLay0], by simp [PyData.depth]⟩
theorem shp_list {n : Nat} {ds : List PyData} (h : ∀ d ∈ ds, Shp n d) : Shp (n + 1) (.list ds) := ⟨by unfold PyData.canLay0; exact canAll_of fun d hd => (h d hd).1, by unfold PyData.depth; have := depthAll_le (n := n) fun d hd => (h d hd).2; omega⟩
theorem shp_tup {n : Nat} {ds : List PyData} (h : ∀ d ∈ ds, Shp n d) : Shp (n + 1) (.tuple ds) := ⟨by unfold PyData.canLay0; exact canAll_of fun d hd => (h d hd).1, by unfold PyData.depth; have := depthAll_le (n := n) fun d hd => (h d hd).2; omega⟩
theorem shp_fr (q : Rat) : Shp 1 (fr q) := shp_tup fun d hd => by
  simp only [List.mem_cons, List.not_mem_nil, or_false] at hd
  rcases hd with rfl | rfl <;> exact shp_int _
theorem shp_ints (ns : List Int) : Shp 1 (.list (ns.map PyData.int)) := shp_list fun d hd => by
  obtain ⟨n, _, rfl⟩ := List.mem_map.mp hd
  exact shp_int n
theorem sh_fr (q : Rat) : SeqAt.shaped (fr q) = true := (shp_fr q).shaped (by decide)
theorem sh_ints (ns : List Int) : SeqAt.shaped (.list (ns.map PyData.int)) = true := (shp_ints ns).shaped (by decide)
def Sz (n : Nat) (i : Int) : Prop := i.natAbs < 2 ^ n
def Sq (n : Nat) (q : Rat) : Prop := q.num.natAbs < 2 ^ n ∧ q.den < 2 ^ n
theorem pow_le {m n : Nat} (h : m ≤ n) : 2 ^ m ≤ 2 ^ n := Nat.pow_le_pow_right (by decide) h
theorem Sz.mono {m n : Nat} {i : Int} (h : Sz m i) (hn : m ≤ n) : Sz n i := Nat.lt_of_lt_of_le h (pow_le hn)
theorem Sq.mono {m n : Nat} {q : Rat} (h : Sq m q) (hn : m ≤ n) : Sq n q := ⟨Nat.lt_of_lt_of_le h.1 (pow_le hn), Nat.lt_of_lt_of_le h.2 (pow_le hn)⟩
theorem Sz.mul {m n : Nat} {i j : Int} (h : Sz m i) (h' : Sz n j) : Sz (m + n) (i * j) := wide_lt h h'
theorem Sz.add {m n : Nat} {i j : Int} (h : Sz m i) (h' : Sz n j) : Sz (max m n + 1) (i + j) := by
  have h1 := (h.mono (Nat.le_max_left m n))
  have h2 := (h'.mono (Nat.le_max_right m n))
  unfold Sz at *
  rw [Nat.pow_succ]
  omega
theorem Sz.neg {m : Nat} {i : Int} (h : Sz m i) : Sz m (-i) := by unfold Sz at *; rw [Int.natAbs_neg]; exact h
theorem Sz.sub {m n : Nat} {i j : Int} (h : Sz m i) (h' : Sz n j) : Sz (max m n + 1) (i - j) := by rw [Int.sub_eq_add_neg]; exact h.add h'.neg
theorem Sq.num {m : Nat} {q : Rat} (h : Sq m q) : Sz m q.num := h.1
theorem Sq.den {m : Nat} {q : Rat} (h : Sq m q) : Sz m (q.den : Int) := by unfold Sz; rw [Int.natAbs_natCast]; exact h.2
theorem cmul_of {a b : Nat} {i j : Int} (ha : Sz a i) (hb : Sz b j) (h : a + b ≤ 999998) : CMulW i j := wide_mul (a := a + 1) (b := b + 1) (ha.mono (by omega)) (hb.mono (by omega)) (by omega) (by omega) (by omega)
theorem cdiv_of {b : Nat} {i j : Int} (h : 0 < j) (hb : Sz b j) (h9 : b ≤ 8999) : CDivW i j := wide_div (b := b + 1) h (hb.mono (by omega)) (by omega) (by omega)
theorem ediv_le_natAbs (a : Int) (g : Nat) (hd : (g : Int) ∣ a) : (a / (g : Int)).natAbs ≤ a.natAbs := by
  rw [Int.natAbs_ediv_of_dvd hd]
  exact Nat.div_le_self _ _
theorem Sq.of_div {n : Nat} {a b : Int} (hb : 0 < b) (h1 : Sz n a) (h2 : Sz n b) : Sq n ((a : Rat) / b) := by
  obtain ⟨e1, e2⟩ := low_eq a b hb
  constructor
  · rw [e1]
    exact Nat.lt_of_le_of_lt (ediv_le_natAbs a _ (Int.gcd_dvd_left a b)) h1
  · have h3 := ediv_le_natAbs b _ (Int.gcd_dvd_right a b)
    rw [← e2] at h3
    rw [Int.natAbs_natCast] at h3
    exact Nat.lt_of_le_of_lt h3 h2
theorem plus_eq (p q : Rat) : ((p.num * (q.den : Int) + q.num * (p.den : Int) : Int) : Rat) / ((p.den : Int) * (q.den : Int) : Int) = p + q := by
  have h1 := num_eq p
  have h2 := num_eq q
  have h3 := den_ne p
  have h4 := den_ne q
  push_cast at *
  rw [h1, h2]
  grind
theorem minus_eq (p q : Rat) : ((p.num * (q.den : Int) - q.num * (p.den : Int) : Int) : Rat) / ((p.den : Int) * (q.den : Int) : Int) = p - q := by
  have h1 := num_eq p
  have h2 := num_eq q
  have h3 := den_ne p
  have h4 := den_ne q
  push_cast at *
  rw [h1, h2]
  grind
theorem Sq.add {m n : Nat} {p q : Rat} (h : Sq m p) (h' : Sq n q) : Sq (m + n + 1) (p + q) := by
  rw [← plus_eq]
  refine Sq.of_div (Int.mul_pos (den_pos p) (den_pos q)) ?_ ((h.den.mul h'.den).mono (by omega))
  exact ((h.num.mul h'.den).add (h'.num.mul h.den)).mono (by omega)
theorem Sq.sub {m n : Nat} {p q : Rat} (h : Sq m p) (h' : Sq n q) : Sq (m + n + 1) (p - q) := by
  rw [← minus_eq]
  refine Sq.of_div (Int.mul_pos (den_pos p) (den_pos q)) ?_ ((h.den.mul h'.den).mono (by omega))
  exact ((h.num.mul h'.den).sub (h'.num.mul h.den)).mono (by omega)
theorem lt_fr (p q : Rat) : (p.num * (q.den : Int) < q.num * (p.den : Int)) ↔ p < q := (Rat.lt_iff p q).symm
theorem gcd_step (a b : Int) (ha : 0 ≤ a) (hb : 0 < b) : Int.gcd b (a % b) = Int.gcd a b := by
  have e : (a % b).natAbs = a.natAbs % b.natAbs := by
    rw [Int.natAbs_emod_of_nonneg ha]
  unfold Int.gcd
  rw [e, Nat.gcd_comm b.natAbs, ← Nat.gcd_rec, Nat.gcd_comm]
/-! no data is a dict -/
theorem Rep.nd {H : Hp} {v : V} {x : PyData} (h : Rep H v x) : ∀ kvs, x ≠ .dict kvs := fun kvs e => by
  subst e
  cases h
theorem Reps.nd {H : Hp} : ∀ {vs : List V} {ds : List PyData}, Reps H vs ds → ∀ d ∈ ds, ∀ kvs, d ≠ .dict kvs
  | _, _, .nil, _, h => nomatch h
  | _, _, .cons a b, d, h => by
    rcases List.mem_cons.mp h with rfl | h
    · exact a.nd
    · exact b.nd d h
def NoD (x : PyData) : Prop := (∀ kvs, x ≠ .dict kvs) ∧ ∀ ds, x = .list ds ∨ x = .tuple ds → ∀ d ∈ ds, ∀ kvs, d ≠ .dict kvs
theorem Rep.noD {H : Hp} {v : V} {x : PyData} (h : Rep H v x) : NoD x := ⟨h.nd, fun ds e => by
  rcases e with rfl | rfl
  · cases h with
    | lst _ r => exact r.nd
  · cases h with
    | tup _ r => exact r.nd⟩
theorem sds_nd {Z : Ctx} {sts : List Stmt} {D : DE} {ρ : List Slot} {own : Own} (i : Nat) {x : PyData} (hi : ρ[i]? = some (.d x)) (k : NoD x → SDs Z sts D ρ own) : SDs Z sts D ρ own := fun H0 Hf σ H m0 S E => by
  obtain ⟨v, _, r⟩ := E.d hi
  exact k r.noD H0 Hf σ H m0 S E
/-! years -/
def isInt (x : PyData) (lo hi : Int) : Bool := match x with
  | .int i => decide (lo ≤ i) && decide (i ≤ hi)
  | _ => false
def isYear (x : PyData) : Bool := match x with
  | .list ds => decide (1 ≤ (ds.length : Int)) && decide ((ds.length : Int) ≤ 8) && (ds.map fun d => isInt d 1 20).all id
  | _ => false
/-- a year of ints -/
structure Yr (ys : List Int) : Prop where
  lo : 1 ≤ ys.length
  hi : ys.length ≤ 8
  it : ∀ y ∈ ys, 1 ≤ y ∧ y ≤ 20
abbrev li (ns : List Int) : PyData := .list (ns.map PyData.int)
theorem Yr.is {ys : List Int} (h : Yr ys) : isYear (li ys) = true := by
  have e : isYear (li ys) = (decide (1 ≤ ((ys.map PyData.int).length : Int)) && decide (((ys.map PyData.int).length : Int) ≤ 8) && ((ys.map PyData.int).map fun d => isInt d 1 20).all id) := rfl
  have h1 := h.lo
  have h2 := h.hi
  rw [e, List.length_map, decide_eq_true (by omega), decide_eq_true (by omega), List.map_map]
  simp only [Bool.and_self, Bool.true_and, List.all_eq_true, List.mem_map]
  rintro x ⟨y, hy, rfl⟩
  have := h.it y hy
  simp [isInt, this.1, this.2]
theorem Sz.pow {k : Nat} {b : Int} (h : Sz k b) : ∀ n : Nat, Sz (k * n + 1) (b ^ n)
  | 0 => by unfold Sz; simp
  | n + 1 => by
    rw [Int.pow_succ]
    exact ((Sz.pow h n).mul h).mono (by rw [Nat.mul_succ]; omega)
/-! binomials -/
def bin : Nat → Nat → Nat
  | _, 0 => 1
  | 0, _ + 1 => 0
  | n + 1, k + 1 => bin n k + bin n (k + 1)
theorem bin_zero (n : Nat) : bin n 0 = 1 := by cases n <;> rfl
theorem bin_succ (n k : Nat) : bin (n + 1) (k + 1) = bin n k + bin n (k + 1) := rfl
theorem bin_out : ∀ (n k : Nat), n < k → bin n k = 0
  | _, 0, h => by omega
  | 0, _ + 1, _ => rfl
  | n + 1, k + 1, h => by rw [bin_succ, bin_out n k (by omega), bin_out n (k + 1) (by omega)]
theorem bin_self : ∀ n : Nat, bin n n = 1
  | 0 => rfl
  | n + 1 => by rw [bin_succ, bin_self n, bin_out n (n + 1) (by omega)]
theorem bin_mul : ∀ (n k : Nat), (n + 1) * bin n k = bin (n + 1) (k + 1) * (k + 1)
  | 0, 0 => rfl
  | 0, k + 1 => by simp [bin]
  | n + 1, 0 => by
    have h := bin_mul n 0
    rw [bin_zero] at *
    rw [bin_succ, bin_zero]
    omega
  | n + 1, k + 1 => by
    have h1 := bin_mul n k
    have h2 := bin_mul n (k + 1)
    rw [bin_succ (n + 1) (k + 1)]
    rw [bin_succ n (k + 1)] at h2 ⊢
    rw [bin_succ n k] at h1 ⊢
    grind
theorem bin_next (n k : Nat) (h : k ≤ n) : bin n (k + 1) * (k + 1) = bin n k * (n - k) := by
  have h1 := bin_mul n k
  rw [bin_succ] at h1
  obtain ⟨m, rfl⟩ : ∃ m, n = k + m := ⟨n - k, by omega⟩
  have e : k + m - k = m := by omega
  rw [e]
  grind
theorem bin_step (n i : Nat) (h : i ≤ n) : ((bin n i : Nat) : Int) * ((n : Int) - (0 + (i : Int))) / (0 + (i : Int) + 1) = (bin n (i + 1) : Nat) := by
  have h1 := bin_next n i h
  have h2 : ((bin n i : Nat) : Int) * ((n : Int) - (0 + (i : Int))) = ((bin n (i + 1) : Nat) : Int) * (0 + (i : Int) + 1) := by
    have e1 : ((n : Int) - (0 + (i : Int))) = ((n - i : Nat) : Int) := by omega
    have e2 : (0 + (i : Int) + 1) = ((i + 1 : Nat) : Int) := by omega
    rw [e1, e2]
    exact_mod_cast h1.symm
  rw [h2, Int.mul_ediv_cancel _ (by omega)]
theorem bin_le : ∀ (n k : Nat), bin n k ≤ 2 ^ n
  | n, 0 => by rw [bin_zero]; exact Nat.one_le_two_pow
  | 0, k + 1 => by simp [bin]
  | n + 1, k + 1 => by
    have h1 := bin_le n k
    have h2 := bin_le n (k + 1)
    rw [bin_succ, Nat.pow_succ]
    omega
theorem bin_lt (n i : Nat) {k : Nat} (h : i < k) (hk : k ≤ n) : bin n i < 2 ^ n := by
  cases n with
  | zero => omega
  | succ n =>
    cases i with
    | zero => rw [bin_zero]; exact Nat.one_lt_two_pow (by omega)
    | succ i =>
      have h1 := bin_le n i
      have h2 := bin_le n (i + 1)
      rw [bin_succ, Nat.pow_succ]
      by_cases e : i = n
      · omega
      · have : ∀ (n i : Nat), i < n → bin n i < 2 ^ n := fun n i hi => by
          induction n generalizing i with
          | zero => omega
          | succ n ih =>
            cases i with
            | zero => rw [bin_zero]; exact Nat.one_lt_two_pow (by omega)
            | succ i =>
              have a1 := ih i (by omega)
              have a2 := bin_le n (i + 1)
              rw [bin_succ, Nat.pow_succ]
              omega
        have a := this n i (by omega)
        omega
/-! lists of ints walked -/
theorem fm_congr {α β : Type} {f g : α → Option β} : ∀ {l : List α}, (∀ a ∈ l, f a = g a) → l.filterMap f = l.filterMap g
  | [], _ => rfl
  | a :: l, h => by
    rw [List.filterMap_cons, List.filterMap_cons, h a (by simp), fm_congr fun x hx => h x (by simp [hx])]

theorem zipD_ints (xs ys : List Int) : zipD (xs.map PyData.int) (ys.map PyData.int) = (xs.zip ys).map fun p => PyData.tuple [.int p.1, .int p.2] := by
  unfold zipD
  rw [List.zip_map, List.map_map]
  rfl
theorem enumD_ints (xs : List Int) : enumD (xs.map PyData.int) = (List.range xs.length).map fun (k : Nat) => PyData.tuple [.int (k : Int), .int (xs.getD k 0)] := by
  unfold enumD
  rw [List.length_map]
  refine List.map_congr_left fun k hk => ?_
  have hk : k < xs.length := by simpa using hk
  rw [List.getD_eq_getElem?_getD, List.getD_eq_getElem?_getD, List.getElem?_map, List.getElem?_eq_getElem hk]
  rfl
theorem sum_le_mul {b : Int} : ∀ {ys : List Int}, (∀ y ∈ ys, y ≤ b) → ys.sum ≤ b * ys.length
  | [], _ => by simp
  | y :: ys, h => by
    have h1 := sum_le_mul (ys := ys) fun z hz => h z (by simp [hz])
    have h2 := h y (by simp)
    rw [List.sum_cons, List.length_cons]
    push_cast
    rw [Int.mul_add]
    omega
theorem sum_ge_mul {b : Int} : ∀ {ys : List Int}, (∀ y ∈ ys, b ≤ y) → b * ys.length ≤ ys.sum
  | [], _ => by simp
  | y :: ys, h => by
    have h1 := sum_ge_mul (ys := ys) fun z hz => h z (by simp [hz])
    have h2 := h y (by simp)
    rw [List.sum_cons, List.length_cons]
    push_cast
    rw [Int.mul_add]
    omega
theorem Yr.sum_lo {ys : List Int} (h : Yr ys) : 1 ≤ ys.sum := by
  have h1 := sum_ge_mul (b := 1) fun y hy => (h.it y hy).1
  have := h.lo
  omega
theorem Yr.sum_hi {ys : List Int} (h : Yr ys) : ys.sum ≤ 160 := by
  have h1 := sum_le_mul (b := 20) fun y hy => (h.it y hy).2
  have := h.hi
  omega
theorem mem_le_sum : ∀ {ys : List Int}, (∀ y ∈ ys, 0 ≤ y) → ∀ y ∈ ys, y ≤ ys.sum
  | y :: ys, h, z, hz => by
    have hs : 0 ≤ ys.sum := by
      have := sum_ge_mul (b := 0) (ys := ys) fun x hx => h x (by simp [hx])
      simpa using this
    rw [List.sum_cons]
    rcases List.mem_cons.mp hz with rfl | hz
    · omega
    · have h1 := mem_le_sum (ys := ys) (fun x hx => h x (by simp [hx])) z hz
      have := h y (by simp)
      omega
theorem Yr.le_sum {ys : List Int} (h : Yr ys) {y : Int} (hy : y ∈ ys) : y ≤ ys.sum := mem_le_sum (fun z hz => by have := h.it z hz; omega) y hy
theorem Yr.szW {ys : List Int} (h : Yr ys) : Sz 8 ys.sum := by
  have h1 := h.sum_lo
  have h2 := h.sum_hi
  unfold Sz
  omega
theorem Yr.szD {ys : List Int} (h : Yr ys) {y : Int} (hy : y ∈ ys) : Sz 8 (ys.sum - y) := by
  have h1 := h.sum_lo
  have h2 := h.sum_hi
  have h3 := h.it y hy
  have h4 := h.le_sum hy
  unfold Sz
  omega
theorem Yr.szy {ys : List Int} (h : Yr ys) {y : Int} (hy : y ∈ ys) : Sz 8 y := by
  have h3 := h.it y hy
  unfold Sz
  omega
theorem Yr.posP {ys : List Int} (h : Yr ys) (n : Nat) : 0 < ys.sum ^ n := Int.pow_pos (by have := h.sum_lo; omega)
theorem Sz.nat {n k : Nat} (h : n < 2 ^ k) : Sz k (n : Int) := by unfold Sz; rw [Int.natAbs_natCast]; exact h
theorem Sz.one : Sz 1 1 := by unfold Sz; decide
theorem Sq.one : Sq 1 1 := ⟨by decide, by decide⟩
theorem Sq.zero : Sq 1 0 := ⟨by decide, by decide⟩
theorem getI {ys : List Int} {j : Nat} {y : Int} (h : ys[j]? = some y) : atI (ys.map PyData.int) (j : Int) = some (.int y) := atI_nat (by rw [List.getElem?_map, h]; rfl)
theorem bin_sz (n k : Nat) : Sz (n + 1) (bin n k : Nat) := Sz.nat (Nat.lt_of_le_of_lt (bin_le n k) (by rw [Nat.pow_succ]; have := Nat.one_le_two_pow (n := n); omega))
/-- told numbers on the days: ways -/
def plcW : List Int → List Nat → Nat → Int
  | y :: ys, k :: ks, left => (bin left k : Nat) * y ^ k * plcW ys ks (left - k)
  | _, _, _ => 1
def maxL (ys : List Int) : Int := ys.foldl max 0
theorem maxL_aux : ∀ (ys : List Int) (a : Int), a ≤ ys.foldl max a ∧ (∀ y ∈ ys, y ≤ ys.foldl max a) ∧ (ys.foldl max a = a ∨ ys.foldl max a ∈ ys)
  | [], a => ⟨Int.le_refl _, by simp, .inl rfl⟩
  | y :: ys, a => by
    obtain ⟨h1, h2, h3⟩ := maxL_aux ys (max a y)
    rw [List.foldl_cons]
    refine ⟨by omega, fun z hz => ?_, ?_⟩
    · rcases List.mem_cons.mp hz with rfl | hz
      · omega
      · exact h2 z hz
    · rcases h3 with h3 | h3
      · rw [h3]
        by_cases h : a ≤ y
        · right
          rw [Int.max_eq_right h]
          simp
        · left
          exact Int.max_eq_left (by omega)
      · exact .inr (by simp [h3])
theorem Yr.max_mem {ys : List Int} (h : Yr ys) : maxL ys ∈ ys := by
  obtain ⟨_, h2, h3⟩ := maxL_aux ys 0
  rcases h3 with h3 | h3
  · have hl := h.lo
    obtain ⟨y, hy⟩ := List.exists_mem_of_length_pos (show 0 < ys.length by omega)
    have a1 := h2 y hy
    have a2 := h.it y hy
    omega
  · exact h3
theorem Yr.max_le {ys : List Int} (h : Yr ys) : ∀ y ∈ ys, y ≤ maxL ys := (maxL_aux ys 0).2.1
/-- a list of numbers for the days -/
structure Ct (ys : List Int) (cs : List Nat) : Prop where
  len : cs.length = ys.length
  sum : cs.sum ≤ 12
def nI (cs : List Nat) : List Int := cs.map fun (n : Nat) => (n : Int)
theorem nI_sum : ∀ cs : List Nat, (nI cs).sum = (cs.sum : Nat)
  | [] => rfl
  | k :: ks => by
    have := nI_sum ks
    unfold nI at *
    rw [List.map_cons, List.sum_cons, List.sum_cons, this]
    push_cast
    rfl
theorem nat_mem_sum : ∀ {cs : List Nat} {k : Nat}, k ∈ cs → k ≤ cs.sum
  | y :: ys, k, h => by
    rw [List.sum_cons]
    rcases List.mem_cons.mp h with rfl | h
    · omega
    · have := nat_mem_sum h
      omega
end Sd


/-! the script, the draws -/
namespace Sd
open PySem PySem.Spec PyProof.Rows L2
def ScrAt (K : PySem.W.Frag) (own : Own) (a : Addr) (xs : List Int) : Prop := ∀ (Hf H : Hp), (∀ q ∈ own, OwnOk Hf H q.1 q.2) → SqL K H a (xs.map V.int)
theorem ScrAt.at {K : PySem.W.Frag} {own : Own} {a : Addr} {xs : List Int} {B : Bs} {Hf H : Hp} (h : ScrAt K own a xs) (S : Sat B Hf H own) : SqL K H a (xs.map V.int) := h Hf H fun q hq => (S.ow q hq).2.2
theorem dp_ints {K : PySem.W.Frag} {H : Hp} : ∀ xs : List Int, DpAll K H (xs.map V.int) (xs.map PyData.int)
  | [] => .nil
  | x :: xs => .cons (.int x) (dp_ints xs)
section
variable {Z : Ctx} {e a b c : Expr} {ρ : List Slot} {own : Own} {pos p : Pos} {i : Int} {k : Nat} {q : Addr} {xs : List Int}
theorem c_neScr (g : Gd Z k) (h : ScrAt Z.X.K own q xs) : CmpB Z .NotEq own (.raw (.ref q)) (.d (.list [])) (!decide (xs = [])) := ⟨_, op_neD g.hr.units, fun v w Hf H S r1 r2 Q k => by
  cases (show v = .ref q from r1)
  refine ⟨.list (xs.map PyData.int), .list [], .lst (h.at S) (dp_ints xs), (Rep.mono S.e1 r2).dp, sh_ints xs, (shp_list (n := 0) (ds := []) (fun d hd => absurd hd (by simp))).shaped (by decide), ?_⟩
  have e : PyData.eqv (.list (xs.map PyData.int)) (.list []) = decide (xs = []) := by
    cases xs <;> simp [PyData.eqv, PyData.eqvAll]
  rw [e]
  exact k⟩
theorem el_listScr (hm : Z.X.mg "list" = none) (h : EV Z e ρ own (.ref q)) (hs' : ScrAt Z.X.K own q xs) (hg : Gl Z.X "list" := by rfl) (hs : starEach [e] Z.X.env = (false, eval e Z.X.env) :: starEach [] Z.X.env := by rfl) : EL Z (.Call (.Name "list" p) [e] [] pos) ρ own (xs.map PyData.int) :=
  el_callTy call_list_of hg hm (by decide +kernel) (ea_cons h ea_nil hs) fun vs Hf H S r0 Q k => by
    obtain ⟨v, rfl, r⟩ := r0.one
    cases (show v = .ref q from r)
    exact ⟨q, _, rfl, .inl (hs'.at S), fun l hl => k l Hf _ (Same.refl _) (S.newOwn (oo := .lst (xs.map PyData.int)) hl ⟨_, upd_same, Reps.ints xs⟩)⟩
/-- [a, i], the first a value with a change -/
theorem eg_lst2 {P : V → Own → Prop} (h1 : EG Z a ρ own fun s o => ∃ v, s = .raw v ∧ P v o) (h2 : ∀ v o, P v o → ED Z b ρ o (.int i)) (hs : starEach [a, b] Z.X.env = (false, eval a Z.X.env) :: starEach [b] Z.X.env := by rfl) (hs2 : starEach [b] Z.X.env = (false, eval b Z.X.env) :: starEach [] Z.X.env := by rfl) :
    EG Z (.List [a, b] pos) ρ own (fun s o => ∃ q v o', s = .raw (.ref q) ∧ o = (q, .raw (.lst [v, .int i])) :: o' ∧ P v o') := fun Hf σ H S E Q k => wE.of (pe_lst paW)
  ((eag_cons (R := fun ss o => ∃ v, ss = [.raw v, .d (.int i)] ∧ P v o) h1 (fun s o hq _ => by
      obtain ⟨v, rfl, hq⟩ := hq
      exact EA.toEAG (ea_cons (h2 v o hq) ea_nil hs2) ⟨v, rfl, hq⟩) hs) Hf σ H S E _ fun vs Hf1 H1 ss o m1 S1 r1 hq => by
    obtain ⟨v, rfl, hq⟩ := hq
    obtain ⟨v1, v2, rfl, r2, r3⟩ := r1.two
    cases (show v1 = v from r2)
    cases r3
    exact ⟨by show 2 ≤ sizeLine; decide, fun p hp => k _ Hf1 _ (.raw (.ref p)) _ m1 (S1.newOwn (oo := .raw (.lst [v, .int i])) hp upd_same) rfl (fun z => nomatch z) ⟨p, v, o, rfl, rfl, hq⟩⟩)
end
/-- what the draws are: a list of a list of ints and a count -/
def drw (d n : Addr) (cells : List Int) (cnt : Int) : Own := [(d, .raw (.lst [.ref n, .int cnt])), (n, .lst (cells.map PyData.int))]
theorem cx_no {P : Program} {w : World} {H : Hp} {s : Shared} {e : Value} {s' : Shared} (h : L2.CX P w [] H s (fun _ _ _ => False) e s') : False := by
  obtain ⟨_, _, _, _, _, _, _, _, _, _, _, _, z⟩ := h
  exact z
def pre_law (K : PySem.W.Frag) : Pr := fun ss own post => ∃ (a : Addr) (ns : List Int), ss = [.raw (.ref a)] ∧ ScrAt K own a ns ∧ ns.length ≤ 63 ∧ post = fun o => ∃ own', o = .ret (.d (.bool true)) own'
theorem law_in {K : PySem.W.Frag} {H : Hp} {a : Addr} {ns : List Int} (hl : ns.length ≤ 63) (hO : Only H) (hS : SqL K H a (ns.map V.int)) : spG (pre_law K) [.ref a] H (fun v _ => v = .bl true) (fun _ _ _ => False) := by
  have fin : ∀ (own : Own) (HB : Hp), Sat ⟨fun _ => none, HB⟩ (fun _ => none) H own → ScrAt K own a ns → spG (pre_law K) [.ref a] H (fun v _ => v = .bl true) (fun _ _ _ => False) := fun own HB S hs =>
    ⟨fun _ => none, HB, [.raw (.ref a)], own, _, S, .cons rfl .nil, ⟨a, ns, rfl, hs, hl, rfl⟩, fun s own' v Hf' H' hq S' r hu => by
      obtain ⟨o, hq⟩ := hq
      cases hq
      cases r
      rfl, fun C own' Hf' H' hq S' => by
      obtain ⟨o, hq⟩ := hq
      cases hq⟩
  have nt : ∀ (p : Addr) (xs : List V), H p = some (.tup xs) → (none : Option HO) = some (.tup xs) := fun p xs h => by
    rcases hO p with z | ⟨o, ys, z⟩
    · rw [z] at h; cases h
    · rw [z] at h; cases h
  rcases hS with (h | ⟨o, h⟩) | h
  · rcases hO a with z | ⟨o, xs, z⟩
    · rw [z] at h; cases h
    · rw [z] at h; cases h
  · refine fin [(a, .raw (.frz o (.lst (ns.map V.int))))] (less H [a]) ⟨fun _ _ h => h, fun _ _ h => (by cases h), fun p u h => ?_, fun p u h => (by cases h), fun q hq => ?_, by simp, nt⟩ (fun Hf H' hq => ?_)
    · by_cases hp : p ∈ [a]
      · have h : less H [a] p = some u := h
        rw [less_in hp] at h; cases h
      · have h : less H [a] p = some u := h
        rw [less_out hp] at h; exact h
    · have e : q = (a, .raw (.frz o (.lst (ns.map V.int)))) := by simpa using hq
      subst e
      exact ⟨rfl, less_in (by simp), h⟩
    · have h' := hq (a, .raw (.frz o (.lst (ns.map V.int)))) (by simp)
      exact .inl (.inr ⟨o, h'⟩)
  · exact fin [] H ⟨fun _ _ h => h, fun _ _ h => (by cases h), fun _ _ h => h, fun p u h => (by cases h), fun q hq => (nomatch hq), by simp, nt⟩ (fun Hf H' _ => .inr h)
end Sd


/-! more statements -/
namespace Sd
open PySem PySem.Spec PyProof.Rows L2
section
variable {Z : Ctx} {D : DE} {e a b c tg : Expr} {es : List Expr} {ρ : List Slot} {own oa ob : Own} {pos tpos p : Pos} {i j : Int} {s t : Slot} {k : Nat} {ds : List PyData} {x : PyData} {q : Addr} {R : Slot → Own → Prop}
theorem eg_tup {x1 : Nat} {P : List PyData → Own → Prop} (h : EAG Z es ρ own fun ss o => ∃ ds, ss = ds.map Slot.d ∧ ds.length ≤ 1000 ∧ P ds o) : EG Z (.Tuple es x1 pos) ρ own (fun s o => ∃ ds, s = .d (.tuple ds) ∧ P ds o) := fun Hf σ H S E Q q => wE.of (pe_tup paW) (h Hf σ H S E _ fun vs Hf1 H1 ss o m1 S1 r1 hq => by
  obtain ⟨ds, rfl, hl, hq⟩ := hq
  have r := r1.data
  exact ⟨Nat.le_trans (by rw [r.length]; exact hl) (by decide), fun p hp => q _ _ _ (.d (.tuple ds)) o (m1.trans (S1.new_same hp _)) (S1.new hp _) (Rep.tup upd_same (r.mono (S1.new_same hp _))) (fun z => nomatch z) ⟨ds, rfl, hq⟩⟩)
theorem sd_asgG {P : PyData → Own → Prop} (he : EG Z e ρ own fun s o => ∃ x, s = .d x ∧ P x o) (h : ∀ x o, P x o → ∃ ρ' is, GT Z tg x ρ ρ' is ∧ D.nx ρ' o) (hs : swapsWithSole [tg] e pos.line Z.X.env = pure false := by rfl) (hw : swappedStores [tg] e Z.X.env = pure none := by rfl)
    (h1 : (assignEach [tg] Z.X.env).map (·.2) = [assign tg Z.X.env] := by rfl) : SD Z (.Assign [tg] e pos) D ρ own := fun H0 Hf σ H m0 S E => wS.of (ps_asg peW pgW hs hw h1)
  (he Hf σ H S E _ fun v Hf1 H1 s o m1 S1 r1 _ hq => by
    obtain ⟨x, rfl, hq⟩ := hq
    obtain ⟨ρ', is, hg, hn⟩ := h x o hq
    exact hg o Hf1 σ H1 v S1 (E.mono m1) r1 _ fun σ' E' _ => ⟨Hf1, ρ', o, m0.trans m1, S1, E', hn⟩)
theorem sd_setitemG {P : Int → Own → Prop} (he : ED Z e ρ ((q, .lst ds) :: ob) x) (ha : EV Z a ρ ((q, .lst ds) :: ob) (.ref q)) (hb : EG Z b ρ ((q, .lst ds) :: ob) fun t o => ∃ i o', t = .d (.int i) ∧ o = (q, .lst ds) :: o' ∧ P i o') (h : ∀ i o', P i o' → ∃ n, ixN ds.length i = some n ∧ D.nx ρ ((q, .lst (ds.set n x)) :: o'))
    (hs : swapsWithSole [.Subscript a b tpos] e pos.line Z.X.env = pure false := by rfl) (hw : swappedStores [.Subscript a b tpos] e Z.X.env = pure none := by rfl) (h1 : (assignEach [.Subscript a b tpos] Z.X.env).map (·.2) = [assign (.Subscript a b tpos) Z.X.env] := by rfl)
    (hq : ∀ v, assign (.Subscript a b tpos) Z.X.env v = (do
      let ov ← holding [v] (eval a Z.X.env)
      let iv ← holding [v, ov] (eval b Z.X.env)
      standAt tpos
      holding [v, ov, iv] (setItem ov iv v)
      release [v, ov, iv] []) := by intro _; rfl) : SD Z (.Assign [.Subscript a b tpos] e pos) D ρ ((q, .lst ds) :: ob) := fun H0 Hf σ H m0 S E => wS.of (ps_asg peW (pg_sub peW peW set_list hq) hs hw h1) (he Hf σ H S E _ fun v Hf1 H1 m1 S1 r1 => ha Hf1 σ H1 S1 (E.mono m1) _ fun w Hf2 H2 m2 S2 r2 =>
  hb Hf2 σ H2 S2 (E.mono (m1.trans m2)) _ fun z Hf3 H3 t o m3 S3 r3 _ hq => by
    obtain ⟨i, o', rfl, rfl, hq⟩ := hq
    obtain ⟨n, hn, hd⟩ := h i o' hq
    cases r3
    cases (show w = .ref q from r2)
    obtain ⟨_, _, vs, g1, g2⟩ := S3.at (p := q) (oo := .lst ds) (by simp)
    exact ⟨q, vs, i, n, rfl, rfl, g1, by rw [g2.length]; exact hn, Hf3, ρ, _, ((m0.trans m1).trans m2).trans m3, S3.write (oa := []) (oo' := .lst (ds.set n x)) ⟨_, upd_same, g2.set ((show Rep Hf1 v x from r1).mono (m2.trans m3)) n⟩, E.mono ((m1.trans m2).trans m3), hd⟩)
/-- sorted of ints -/
theorem el_sorted {ns res : List Int} (hm : Z.X.mg "sorted" = none) (h : ES Z e ρ own s) (L : Lst own s (ns.map PyData.int)) (hl : ns.length < 64) (hr : ∀ ns' : List Int, ns'.Perm ns → ns'.Pairwise (· ≤ ·) → ns' = res) (hg : Gl Z.X "sorted" := by rfl) (hs : starEach [e] Z.X.env = (false, eval e Z.X.env) :: starEach [] Z.X.env := by rfl) : EL Z (.Call (.Name "sorted" p) [e] [] pos) ρ own (res.map PyData.int) :=
  el_callB cr_sorted hg hm (by decide +kernel) (ea_cons h ea_nil hs) fun vs Hf H S r0 Q k => by
    obtain ⟨v, rfl, r⟩ := r0.one
    obtain ⟨q, vs, rfl, e1, e2⟩ := L.at S r
    cases e2.of_ints
    refine ⟨q, ns, rfl, SqL.of e1, hl, fun ns' l hp ho hn => ?_⟩
    rw [hr ns' hp ho]
    exact k l Hf _ (Same.refl _) (S.newOwn (oo := .lst (res.map PyData.int)) hn ⟨_, upd_same, Reps.ints res⟩)
end
section
variable {Z : Ctx} {e : Expr} {es : List Expr} {ρ : List Slot} {o1 : Own} {pos p : Pos} {k j : Nat} {ss : List Slot} {z : Str} {ps : List Str} {Pre : Pr} {post : Out → Prop} {R : Slot → Own → Prop}
/-- a def that gets all that is owned -/
theorem eg_callW (F : Fn Z.X.K Z.X.mg Z.X.prog Z.X.w Z.X.base z ps j Pre) (g : Gd Z k) (hj : j ≤ k) (ha : EA Z (e :: es) ρ o1 ss) (hp : Pre ss o1 post) (h1 : ∀ s o1', post (.ret s o1') → R s o1') (h2 : ∀ C o1', post (.exc C o1') → Z.ex C ρ o1')
    (hg : Gl Z.X z := by rfl) (hdb : (z == ("__debug__" : Str)) = false := by decide) (he : starEach (e :: es) Z.X.env = (false, eval e Z.X.env) :: starEach es Z.X.env := by rfl) (hpl : (backTo pos (starEach es Z.X.env)).any (·.1) = false := by rfl) :
    EG Z (.Call (.Name z p) (e :: es) [] pos) ρ o1 R := by
  have e0 : ∀ o : Own, [] ++ o ++ [] = o := fun o => by rw [List.nil_append, List.append_nil]
  have := eg_call (p := p) (R := R) (oa := []) (o1 := o1) (ob := []) F g hj (by rw [e0]; exact ha) hp (fun s o h => by rw [e0]; exact h1 s o h) (fun C o h => by rw [e0]; exact h2 C o h) hg hdb he hpl
  rw [e0] at this
  exact this
end
theorem eqv_self {n : Nat} {d : PyData} (h : Shp n d) : PyData.eqv d d = true := SeqAt.eqv_refl d h.1
/-- a, b = constants: no swap -/
theorem sw_const {ts vs : List Expr} {k k2 : Nat} {p p2 : Pos} {env : Env} (h : vs.all (foldedForSure 8) = true) : swappedStores [.Tuple ts k p] (.Tuple vs k2 p2) env = pure none := by
  unfold swappedStores
  simp only [h]
  simp
  repeat' split
  all_goals rfl
end Sd


/-! still more rules -/
namespace Sd
open PySem PySem.Spec PyProof.Rows L2
section
variable {Z : Ctx} {D : DE} {e a b c tg : Expr} {es : List Expr} {ρ : List Slot} {own oa ob : Own} {pos tpos p : Pos} {i j : Int} {s t : Slot} {k : Nat} {ds : List PyData} {x y : PyData} {q : Addr} {R : Slot → Own → Prop}
end
end Sd


/-! an exception that is caught and kept in a name -/
namespace Sd
open PySem PySem.Spec PyProof.Rows L2
section
variable {X : Cx} {pins : List (Addr × Obj)} {σ : L2.St} {H : Hp} {s : Shared}
end
section
variable {Z : Ctx} {D : DE} {ρ : List Slot} {own : Own} {k : Nat} {x n z : Str} {c : Value} {body : List Stmt} {np pos pos' p1 p2 p3 : Pos}
end
/-! ### isinstance of a kept exception -/
section
variable {Z : Ctx} {a b o e : Expr} {ρ : List Slot} {own : Own} {pos p cpos apos : Pos} {k : Nat} {q D : Addr} {s t : Slot} {ds : List PyData} {x : PyData}
end
/-- what is known of a class of errors beside the others -/
structure ErrK (K : PySem.W.Frag) (C y d n s t o D : Addr) (by_ bd bn bs bt bo : Bool) : Prop where
  xc : ExcC K C
  y : PySem.W.kitOne K (.ref C) (.ref y) = some by_
  d : PySem.W.kitOne K (.ref C) (.ref d) = some bd
  n : PySem.W.kitOne K (.ref C) (.ref n) = some bn
  s : PySem.W.kitOne K (.ref C) (.ref s) = some bs
  t : PySem.W.kitOne K (.ref C) (.ref t) = some bt
  o : PySem.W.kitOne K (.ref C) (.ref o) = some bo
  de : PySem.W.kitOne K (.ref C) (.ref D) = some true
  ve : PySem.W.kitOne K (.ref C) (.type "ValueError") = some true
  ex : PySem.W.exmOne K (.ref C) (.ref D) = some true
end Sd


/-! sets of ints -/
namespace Sd
open PySem PySem.Spec PyProof.Rows L2
section
variable {X : Cx}
end
section
variable {Z : Ctx} {e : Expr} {ρ : List Slot} {own : Own} {pos p p2 q : Pos} {k : Nat} {s : Slot}
end
theorem Sat.nil {B : Bs} {Hf H : Hp} {own : Own} (S : Sat B Hf H own) : Sat B Hf H [] := ⟨S.e0, S.e1, S.eb, S.fr, (fun q hq => nomatch hq), by simp, S.tp⟩
section
variable {Z : Ctx} {D : DE} {ρ : List Slot} {own : Own} {sts : List Stmt} {a b c : Expr} {pos : Pos} {R : Slot → Own → Prop}
end
/-! ### one class of errors beside another -/
end Sd


/-! sorted of pairs of ints -/
namespace Sd
open PySem PySem.Spec PyProof.Rows L2
abbrev pr (p : Int × Int) : PyData := .tuple [.int p.1, .int p.2]
section
variable {Z : Ctx} {e : Expr} {ρ : List Slot} {own : Own} {pos p : Pos} {s : Slot}
end
end Sd


/-! texts -/
namespace Sd
open PySem PySem.Spec PyProof.Rows L2
section
variable {Z : Ctx} {e o a b tg : Expr} {ρ : List Slot} {own : Own} {pos p apos cpos : Pos} {s : Slot} {i n : Int} {z y : Str} {k : Nat}
end
end Sd


namespace Sd
open PySem PySem.Spec PyProof.Rows L2
/-! sums over ints, lists given by functions -/
section
variable {Z : Ctx} {elt tg iter : Expr} {scope : Scope} {ρ : List Slot} {own : Own} {k : Nat} {Po : Own → Prop} {ys : List PyData} {pos : Pos} {D : DE}
end
end Sd


/-! list(range(..)), tuple(range(..)), sorted of a tuple of ints -/
namespace Sd
open PySem PySem.Spec PyProof.Rows L2
section
variable {Z : Ctx} {a b e : Expr} {ρ : List Slot} {own : Own} {pos p p2 q : Pos} {k : Nat} {i j : Int}
end
end Sd


/-! dicts with tuples of ints as keys -/
namespace Sd
open PySem PySem.Spec PyProof.Rows L2
/-! ### walking d.items() -/
section
variable {X : Cx} {pins : List (Addr × Obj)} {σ : L2.St} {H : Hp} {s : Shared}
end

/-! ### a display of one pair -/
def getT {κ α : Type} [DecidableEq κ] (tb : List (κ × α)) (k : κ) : Option α := (tb.find? fun e => decide (e.1 = k)).map (·.2)
theorem inl_inj : ∀ {a b : List Int}, (a.map Sum.inl : List Key) = b.map Sum.inl → a = b
  | [], [], _ => rfl
  | [], _ :: _, h => nomatch h
  | _ :: _, [], h => nomatch h
  | x :: a, y :: b, h => by
    rw [List.map_cons, List.map_cons] at h
    injection h with h1 h2
    injection h1 with h1
    rw [h1, inl_inj h2]
theorem DtOk.nil {Hf : Hp} : DtOk Hf [] [] := ⟨rfl, .nil⟩
theorem DtOk.inv {Hf : Hp} {kvs : List (List Key × V)} {e : List Int × PyData} {tb : List (List Int × PyData)} (h : DtOk Hf kvs (e :: tb)) : ∃ v r, kvs = (e.1.map Sum.inl, v) :: r ∧ Rep Hf v e.2 ∧ DtOk Hf r tb := by
  obtain ⟨h1, h2⟩ := h
  match kvs, h1, h2 with
  | [], h1, _ => exact nomatch h1
  | (k, v) :: r, h1, h2 =>
    rw [List.map_cons, List.map_cons] at h1
    injection h1 with h3 h4
    cases h2 with
    | cons a b => exact ⟨v, r, by rw [← h3], a, h4, b⟩
theorem DtOk.inv0 {Hf : Hp} {kvs : List (List Key × V)} (h : DtOk Hf kvs []) : kvs = [] := by
  have := h.ks
  simpa using this
theorem DtOk.cons {Hf : Hp} {r : List (List Key × V)} {e : List Int × PyData} {tb : List (List Int × PyData)} {v : V} (a : Rep Hf v e.2) (h : DtOk Hf r tb) : DtOk Hf ((e.1.map Sum.inl, v) :: r) (e :: tb) :=
  ⟨by rw [List.map_cons, List.map_cons, h.ks], .cons a h.vs⟩
theorem DtOk.length {Hf : Hp} {kvs : List (List Key × V)} {tb : List (List Int × PyData)} (h : DtOk Hf kvs tb) : kvs.length = tb.length := by
  have := congrArg List.length h.ks
  simpa using this
theorem DtOk.any {Hf : Hp} (k : List Int) : ∀ {tb : List (List Int × PyData)} {kvs : List (List Key × V)}, DtOk Hf kvs tb → (kvs.any fun kv => decide (kv.1 = k.map Sum.inl)) = tb.any fun e => decide (e.1 = k)
  | [], kvs, h => by rw [h.inv0]; rfl
  | e :: tb, kvs, h => by
    obtain ⟨v, r, rfl, _, h2⟩ := h.inv
    rw [List.any_cons, List.any_cons, DtOk.any k h2]
    congr 1
    refine decide_eq_decide.mpr ⟨fun z => inl_inj z, fun z => by rw [z]⟩
theorem DtOk.get {Hf : Hp} (k : List Int) : ∀ {tb : List (List Int × PyData)} {kvs : List (List Key × V)}, DtOk Hf kvs tb → (getT tb k = none → valV kvs (k.map Sum.inl) = none) ∧ ∀ d, getT tb k = some d → ∃ v, valV kvs (k.map Sum.inl) = some v ∧ Rep Hf v d
  | [], kvs, h => by rw [h.inv0]; exact ⟨fun _ => rfl, fun d z => nomatch z⟩
  | e :: tb, kvs, h => by
    obtain ⟨v, r, rfl, hv, h2⟩ := h.inv
    have ih := DtOk.get k h2
    by_cases hk : e.1 = k
    · have g : getT (e :: tb) k = some e.2 := by simp [getT, List.find?_cons, hk]
      rw [g]
      refine ⟨(fun z => nomatch z), fun d z => ?_⟩
      cases z
      exact ⟨v, valV_pos (by rw [hk]), hv⟩
    · have g : getT (e :: tb) k = getT tb k := by simp [getT, List.find?_cons, hk]
      rw [g, valV_neg (fun z => hk (inl_inj z))]
      exact ih
theorem DtOk.at {Hf : Hp} : ∀ {tb : List (List Int × PyData)} {kvs : List (List Key × V)} {i : Nat} {k : List Key} {v : V}, DtOk Hf kvs tb → kvs[i]? = some (k, v) → ∃ e, tb[i]? = some e ∧ k = e.1.map Sum.inl ∧ Rep Hf v e.2
  | [], kvs, i, k, v, h, q => by rw [h.inv0] at q; simp at q
  | e :: tb, kvs, 0, k, v, h, q => by
    obtain ⟨v', r, rfl, hv, h2⟩ := h.inv
    simp at q
    obtain ⟨rfl, rfl⟩ := q
    exact ⟨e, rfl, rfl, hv⟩
  | e :: tb, kvs, i + 1, k, v, h, q => by
    obtain ⟨v', r, rfl, hv, h2⟩ := h.inv
    exact DtOk.at (i := i) h2 (by simpa using q)
section
variable {Z : Ctx} {D : DE} {e f o a : Expr} {ρ : List Slot} {own oa ob : Own} {pos p tpos apos cpos : Pos} {q : Addr} {tb : List (List Int × PyData)} {k : List Int} {d d0 x : PyData} {n : Nat} {R : Slot → Own → Prop}
end
/-! ### what is not needed any more -/
theorem Sat.sub {B : Bs} {Hf H : Hp} {o o' : Own} (h : o'.Sublist o) (S : Sat B Hf H o) : Sat B Hf H o' := ⟨S.e0, S.e1, S.eb, S.fr, fun q hq => S.ow q (h.subset hq), (h.map Prod.fst).nodup S.nd, S.tp⟩
end Sd


/-! a list of one's own, lent: data while an expression runs -/
namespace Sd
open PySem PySem.Spec PyProof.Rows L2
/-- no list within -/
inductive Fre : PyData → Prop
  | non : Fre .none
  | bl (b : Bool) : Fre (.bool b)
  | int (i : Int) : Fre (.int i)
  | str (z : Str) : Fre (.str z)
  | tup {ds : List PyData} : (∀ d ∈ ds, Fre d) → Fre (.tuple ds)
section
variable {Z : Ctx} {D : DE} {e : Expr} {ρ : List Slot} {own : Own} {p : Addr} {ds : List PyData} {R R' : Slot → Own → Prop}
end
/-! ### a def without parameters -/
end Sd


/-! sorted(d), d a dict with tuples of ints as keys -/
namespace Sd
open PySem PySem.Spec PyProof.Rows L2
section
variable {X : Cx}
end
end Sd
namespace Sd
open PySem PySem.Spec PyProof.Rows L2
section
variable {Z : Ctx} {e : Expr} {ρ : List Slot} {own : Own} {pos p : Pos} {s : Slot} {k : Nat}
end
end Sd
namespace Sd
open PySem PySem.Spec PyProof.Rows L2
/-! a comprehension whose elements read what is owned -/
section
variable {Z : Ctx} {elt tg iter : Expr} {ifs : List Expr} {scope : Scope} {ρ : List Slot} {own : Own} {Fin : List PyData → Own → Prop} {k : Nat} {Po : Own → Prop} {ys : List PyData} {pos : Pos} {D : DE}
end

/-! x in a tuple of ints -/
section
variable {Z : Ctx} {own : Own}
end
end Sd


/-! dicts with int keys -/
namespace Sd
open PySem PySem.Spec PyProof.Rows L2
theorem DkOk.nil {Hf : Hp} : DkOk Hf [] [] := ⟨rfl, .nil⟩
theorem DkOk.inv {Hf : Hp} {kvs : List (Key × V)} {e : Int × PyData} {tb : List (Int × PyData)} (h : DkOk Hf kvs (e :: tb)) : ∃ v r, kvs = ((Sum.inl e.1 : Key), v) :: r ∧ Rep Hf v e.2 ∧ DkOk Hf r tb := by
  obtain ⟨h1, h2⟩ := h
  match kvs, h1, h2 with
  | [], h1, _ => exact nomatch h1
  | (k, v) :: r, h1, h2 =>
    rw [List.map_cons, List.map_cons] at h1
    injection h1 with h3 h4
    cases h2 with
    | cons a b => exact ⟨v, r, by rw [← h3], a, h4, b⟩
theorem DkOk.inv0 {Hf : Hp} {kvs : List (Key × V)} (h : DkOk Hf kvs []) : kvs = [] := by
  have := h.ks
  simpa using this
theorem DkOk.cons {Hf : Hp} {r : List (Key × V)} {e : Int × PyData} {tb : List (Int × PyData)} {v : V} (a : Rep Hf v e.2) (h : DkOk Hf r tb) : DkOk Hf (((Sum.inl e.1 : Key), v) :: r) (e :: tb) :=
  ⟨by rw [List.map_cons, List.map_cons, h.ks], .cons a h.vs⟩
theorem DkOk.length {Hf : Hp} {kvs : List (Key × V)} {tb : List (Int × PyData)} (h : DkOk Hf kvs tb) : kvs.length = tb.length := by
  have := congrArg List.length h.ks
  simpa using this
theorem DkOk.any {Hf : Hp} (k : Int) : ∀ {tb : List (Int × PyData)} {kvs : List (Key × V)}, DkOk Hf kvs tb → (kvs.any fun kv => decide (kv.1 = Sum.inl k)) = tb.any fun e => decide (e.1 = k)
  | [], kvs, h => by rw [h.inv0]; rfl
  | e :: tb, kvs, h => by
    obtain ⟨v, r, rfl, _, h2⟩ := h.inv
    rw [List.any_cons, List.any_cons, DkOk.any k h2]
    congr 1
    refine decide_eq_decide.mpr ⟨fun z => Sum.inl.inj z, fun z => by rw [z]⟩
theorem DkOk.get {Hf : Hp} (k : Int) : ∀ {tb : List (Int × PyData)} {kvs : List (Key × V)}, DkOk Hf kvs tb → (getT tb k = none → valV kvs (Sum.inl k) = none) ∧ ∀ d, getT tb k = some d → ∃ v, valV kvs (Sum.inl k) = some v ∧ Rep Hf v d
  | [], kvs, h => by rw [h.inv0]; exact ⟨fun _ => rfl, fun d z => nomatch z⟩
  | e :: tb, kvs, h => by
    obtain ⟨v, r, rfl, hv, h2⟩ := h.inv
    have ih := DkOk.get k h2
    by_cases hk : e.1 = k
    · have g : getT (e :: tb) k = some e.2 := by simp [getT, List.find?_cons, hk]
      rw [g]
      refine ⟨(fun z => nomatch z), fun d z => ?_⟩
      cases z
      exact ⟨v, valV_pos (by rw [hk]), hv⟩
    · have g : getT (e :: tb) k = getT tb k := by simp [getT, List.find?_cons, hk]
      rw [g, valV_neg (fun z => hk (Sum.inl.inj z))]
      exact ih
section
variable {Z : Ctx} {D : DE} {e f o a : Expr} {ρ : List Slot} {own oa ob : Own} {pos p tpos apos cpos : Pos} {q : Addr} {tb : List (Int × PyData)} {k : Int} {d d0 x : PyData} {n : Nat} {R : Slot → Own → Prop}
end
end Sd


namespace Sd
open PySem PySem.Spec PyProof.Rows L2
/-! displays of constants: the step over a constant is proved once, for any constant (quick) -/
section
variable {Z : Sd.Ctx} {ρ : List Slot} {own : Own} {es : List Expr} {s : Slot} {ss : List Slot} {p pos : Pos} {x1 : Nat}
theorem eb_k {x : Const} {j : Nat} (h : ES Z (.Constant x j p) ρ own s) (hr : EA Z es ρ own ss) : EA Z (.Constant x j p :: es) ρ own (s :: ss) := ea_cons h hr
theorem ed_tb2 {x y : PyData} (h : EA Z es ρ own [.d x, .d y]) : ED Z (.Tuple es x1 pos) ρ own (.tuple [x, y]) := ed_tup (ds := [x, y]) h
theorem ed_k2 {i i' : Int} {j j' : Nat} {p' : Pos} : ED Z (.Tuple [.Constant (.int i) j p, .Constant (.int i') j' p'] x1 pos) ρ own (.tuple [.int i, .int i']) := by with_reducible exact ed_tb2 (eb_k ed_int (eb_k ed_int ea_nil))
end
end Sd


/-! plain defs (no defaults): what the binder makes, once for all -/
namespace Sd
open PySem PySem.Spec PyProof.Rows L2
def plainA (a : Arguments) (ps : List Str) : Bool := a.posonlyargs.isEmpty && (a.args.map (·.arg) == ps && (a.vararg.isNone && (a.kwonlyargs.isEmpty && (a.kwarg.isNone && decide ps.Nodup))))
theorem lookz_bind : ∀ {ps : List Str} {us : List Value}, us.length = ps.length → ∀ n ∈ ps, (List.lookup n (ps.zip us)).isSome = true
  | [], _, _, n, h => nomatch h
  | p :: ps, [], hl, _, _ => nomatch hl
  | p :: ps, u :: us, hl, n, h => by
    rw [List.zip_cons_cons, List.lookup_cons]
    split
    · rfl
    · rename_i hne
      rcases List.mem_cons.mp h with rfl | h
      · simp at hne
      · exact lookz_bind (by simpa using hl) n h
theorem fmc_bind {α β : Type} {f g : α → Option β} : ∀ {l : List α}, (∀ x ∈ l, f x = g x) → l.filterMap f = l.filterMap g
  | [], _ => rfl
  | x :: l, h => by rw [List.filterMap_cons, List.filterMap_cons, h x (.head _), fmc_bind fun y hy => h y (.tail _ hy)]
theorem mapz_bind : ∀ {ps : List Str} {us : List Value}, us.length = ps.length → ps.Nodup → ps.filterMap (fun n => (List.lookup n (ps.zip us)).map (Prod.mk n)) = ps.zip us
  | [], _, _, _ => rfl
  | p :: ps, [], hl, _ => nomatch hl
  | p :: ps, u :: us, hl, nd => by
    rw [List.nodup_cons] at nd
    rw [List.zip_cons_cons, List.filterMap_cons, List.lookup_cons]
    simp only [beq_self_eq_true, Option.map_some]
    congr 1
    refine Eq.trans ?_ (mapz_bind (ps := ps) (us := us) (by simpa using hl) nd.2)
    refine fmc_bind fun n hn => ?_
    rw [List.lookup_cons, beq_eq_false_iff_ne.mpr (show n ≠ p from fun e => nd.1 (by rw [← e]; exact hn))]
theorem bind_plain {fd : FuncData} {ps : List Str} {us : List Value} (h : plainA fd.params ps = true) (hd : fd.defaults = .none) (hl : us.length = ps.length) : bindArgs fd ⟨us, []⟩ = pure (ps.zip us) := by
  simp only [plainA, Bool.and_eq_true, List.isEmpty_iff, beq_iff_eq, Option.isNone_iff_eq_none, decide_eq_true_eq] at h
  obtain ⟨h1, h2, h3, h4, h5, nd⟩ := h
  have hm : (ps.filter fun n => (List.lookup n (ps.zip us)).isNone) = [] := List.filter_eq_nil_iff.mpr fun n hn => by
    have := lookz_bind hl n hn
    cases h : List.lookup n (ps.zip us) <;> simp_all
  have hz := mapz_bind hl nd
  have hq : seqItems? Value.none = pure none := rfl
  have hg : decide (us.length > ps.length) = false := decide_eq_false (by omega)
  unfold bindArgs
  simp only [h1, h2, h3, h4, h5, hd, hq, hg, List.map_nil, List.nil_append, List.append_nil, List.forIn_nil, pure_bind, Option.getD_none, List.drop_nil, List.length_nil, Nat.sub_zero, List.take_length, List.drop_length, List.zip_nil_right, hm, List.isEmpty_nil, Bool.not_true, Bool.false_and, Bool.false_eq_true, if_false]
  exact congrArg pure hz
theorem df_mk2 {K : PySem.W.Frag} {mg : Str → Option Value} {h : Heap} {z : Str} {st : Stmt} {ps : List Str} {f : Addr} {oc : Value} {od an : Option Addr} {sl : Array (Option Value)} {kV dc pm cd ct : Value} (X : K.In h) (G : h.Ns mainGlobals mg) (hb : plainA (defArgs st) ps = true)
    (a : PySem.W.nsIn K mainGlobals z = some (some (.ref f))) (l : K.lookup f = some ⟨oc, od, .func (PySem.W.fnOf z z (defArgs st) (defBody st) (defScope st) .none kV dc pm an cd ct), sl⟩) (c : PySem.W.codeIn K cd z = true) (k : PySem.W.keepIn K (.ref f) = true) : Df K mg z st ps :=
  df_mk X G (fun _ _ _ _ _ _ _ hl => bind_plain hb rfl hl) a l c k
end Sd


/-! sums, binomial laws -/
namespace Sd
def sumTo (f : Nat → Rat) : Nat → Rat
  | 0 => 0
  | n + 1 => sumTo f n + f n
theorem sumTo_congr {f g : Nat → Rat} : ∀ {n : Nat}, (∀ i, i < n → f i = g i) → sumTo f n = sumTo g n
  | 0, _ => rfl
  | n + 1, h => by
    show sumTo f n + f n = sumTo g n + g n
    rw [sumTo_congr fun i hi => h i (by omega), h n (by omega)]
theorem sumTo_add (f g : Nat → Rat) : ∀ n : Nat, sumTo (fun i => f i + g i) n = sumTo f n + sumTo g n
  | 0 => by show (0 : Rat) = 0 + 0; grind
  | n + 1 => by
    show sumTo _ n + _ = (sumTo f n + f n) + (sumTo g n + g n)
    rw [sumTo_add f g n]
    grind
theorem sumTo_mul (c : Rat) (f : Nat → Rat) : ∀ n : Nat, sumTo (fun i => c * f i) n = c * sumTo f n
  | 0 => by show (0 : Rat) = c * 0; grind
  | n + 1 => by
    show sumTo _ n + _ = c * (sumTo f n + f n)
    rw [sumTo_mul c f n]
    grind
theorem sumTo_shift (f : Nat → Rat) : ∀ n : Nat, sumTo f (n + 1) = f 0 + sumTo (fun i => f (i + 1)) n
  | 0 => by show (0 : Rat) + f 0 = f 0 + 0; grind
  | n + 1 => by
    have ih := sumTo_shift f n
    show sumTo f (n + 1) + f (n + 1) = f 0 + (sumTo (fun i => f (i + 1)) n + f (n + 1))
    rw [ih]
    grind
theorem pow_add1 (a : Rat) (n : Nat) : a ^ (n + 1) = a ^ n * a := Rat.pow_succ a n
/-- the chance of o out of n -/
def rw1 (a : Rat) (n o : Nat) : Rat := ((bin n o : Nat) : Rat) * a ^ o * (1 - a) ^ (n - o)
theorem rw1_out (a : Rat) (n : Nat) : rw1 a n (n + 1) = 0 := by
  unfold rw1
  rw [bin_out n (n + 1) (by omega)]
  grind
theorem rw1_zero (a : Rat) (n : Nat) : rw1 a (n + 1) 0 = (1 - a) * rw1 a n 0 := by
  unfold rw1
  rw [bin_zero, bin_zero, Nat.sub_zero, Nat.sub_zero, pow_add1]
  grind
theorem rw1_step (a : Rat) (n o : Nat) (h : o ≤ n) : rw1 a (n + 1) (o + 1) = a * rw1 a n o + (1 - a) * rw1 a n (o + 1) := by
  unfold rw1
  rw [bin_succ, pow_add1, show n + 1 - (o + 1) = n - o by omega]
  by_cases e : o = n
  · subst e
    rw [bin_out o (o + 1) (by omega)]
    push_cast
    grind
  · rw [show n - o = n - (o + 1) + 1 by omega, pow_add1]
    push_cast
    grind
def mom (a : Rat) (φ : Nat → Rat) (n : Nat) : Rat := sumTo (fun o => φ o * rw1 a n o) (n + 1)
theorem mom_zero (a : Rat) (φ : Nat → Rat) : mom a φ 0 = φ 0 := by
  show (0 : Rat) + φ 0 * rw1 a 0 0 = φ 0
  unfold rw1
  rw [bin_zero]
  simp
  grind
theorem mom_step (a : Rat) (φ : Nat → Rat) (n : Nat) : mom a φ (n + 1) = a * mom a (fun o => φ (o + 1)) n + (1 - a) * mom a φ n := by
  unfold mom
  rw [sumTo_shift]
  have e1 : sumTo (fun i => φ (i + 1) * rw1 a (n + 1) (i + 1)) (n + 1) = sumTo (fun i => a * (φ (i + 1) * rw1 a n i) + (1 - a) * (φ (i + 1) * rw1 a n (i + 1))) (n + 1) := by
    refine sumTo_congr fun i hi => ?_
    rw [rw1_step a n i (by omega)]
    grind
  rw [e1, sumTo_add, sumTo_mul, sumTo_mul, rw1_zero]
  have e2 : sumTo (fun o => φ o * rw1 a n o) (n + 1 + 1) = sumTo (fun o => φ o * rw1 a n o) (n + 1) := by
    show sumTo (fun o => φ o * rw1 a n o) (n + 1) + φ (n + 1) * rw1 a n (n + 1) = _
    rw [rw1_out]
    grind
  rw [sumTo_shift] at e2
  grind
theorem mom_one (a : Rat) : ∀ n : Nat, mom a (fun _ => 1) n = 1
  | 0 => mom_zero a _
  | n + 1 => by
    rw [mom_step, mom_one a n]
    grind
theorem mom_addc (a : Rat) (φ ψ : Nat → Rat) (n : Nat) : mom a (fun o => φ o + ψ o) n = mom a φ n + mom a ψ n := by
  unfold mom
  rw [← sumTo_add]
  refine sumTo_congr fun i _ => ?_
  grind
theorem mom_mulc (a c : Rat) (φ : Nat → Rat) (n : Nat) : mom a (fun o => c * φ o) n = c * mom a φ n := by
  unfold mom
  rw [← sumTo_mul]
  refine sumTo_congr fun i _ => ?_
  grind
theorem mom_id (a : Rat) : ∀ n : Nat, mom a (fun o => ((o : Nat) : Rat)) n = (n : Nat) * a
  | 0 => by rw [mom_zero]; simp
  | n + 1 => by
    have e : (fun o : Nat => (((o + 1 : Nat)) : Rat)) = fun o : Nat => ((o : Nat) : Rat) + 1 := by funext o; push_cast; rfl
    rw [mom_step, mom_id a n]
    show a * mom a (fun o => (((o + 1 : Nat)) : Rat)) n + _ = _
    rw [e, mom_addc, mom_one, mom_id a n]
    push_cast
    grind
theorem mom_two (a : Rat) : ∀ n : Nat, mom a (fun o => ((o : Nat) : Rat) * (((o : Nat) : Rat) - 1)) n = (n : Nat) * ((n : Nat) - 1) * a * a
  | 0 => by rw [mom_zero]; simp
  | n + 1 => by
    have e : (fun o : Nat => (((o + 1 : Nat)) : Rat) * ((((o + 1 : Nat)) : Rat) - 1)) = fun o : Nat => ((o : Nat) : Rat) * (((o : Nat) : Rat) - 1) + 2 * ((o : Nat) : Rat) := by
      funext o
      push_cast
      grind
    rw [mom_step, mom_two a n]
    show a * mom a (fun o => (((o + 1 : Nat)) : Rat) * ((((o + 1 : Nat)) : Rat) - 1)) n + _ = _
    rw [e, mom_addc, mom_mulc, mom_id, mom_two a n]
    push_cast
    grind
theorem pow_ne {w : Rat} (hw : w ≠ 0) : ∀ k : Nat, w ^ k ≠ 0
  | 0 => by simp
  | k + 1 => by
    have := pow_ne hw k
    rw [pow_add1]
    grind
theorem pow_sum (w : Rat) (m : Nat) : ∀ k : Nat, w ^ (m + k) = w ^ m * w ^ k
  | 0 => by simp
  | k + 1 => by
    rw [← Nat.add_assoc, pow_add1, pow_add1, pow_sum w m k]
    grind
theorem div_pow (x w : Rat) (hw : w ≠ 0) : ∀ k : Nat, (x / w) ^ k = x ^ k / w ^ k
  | 0 => by simp; grind
  | k + 1 => by
    have h : w ^ k ≠ 0 := pow_ne hw k
    rw [pow_add1, pow_add1, pow_add1, div_pow x w hw k]
    grind
/-- as the program reckons it -/
theorem rw1_eq (y W : Int) (hW : W ≠ 0) (n o : Nat) (ho : o ≤ n) : ((((bin n o : Nat) * y ^ o * (W - y) ^ (n - o) : Int)) : Rat) / ((W ^ n : Int) : Rat) = rw1 ((y : Rat) / W) n o := by
  unfold rw1
  have hw : (W : Rat) ≠ 0 := by exact_mod_cast hW
  have e1 : (1 : Rat) - (y : Rat) / W = ((W : Rat) - y) / W := by grind
  rw [e1, div_pow _ _ hw, div_pow _ _ hw]
  have e2 : (W : Rat) ^ n = (W : Rat) ^ o * (W : Rat) ^ (n - o) := by
    rw [← pow_sum]
    congr 1
    omega
  have h1 : (W : Rat) ^ o ≠ 0 := pow_ne hw _
  have h2 : (W : Rat) ^ (n - o) ≠ 0 := pow_ne hw _
  push_cast
  rw [e2]
  grind
end Sd


namespace Pg
open PySem PySem.Spec PyProof.Rows L2 Sd
def topS (i : Nat) : Stmt := PySem.Challenge.pw_samedays_k19_whole_days.main.body.getD i (.Pass ⟨0, 0, 0, 0⟩)
abbrev s_is_int : Stmt := topS 6
theorem sc_is_int : FnScope ["value", "low", "high"] ["value", "low", "high"] (defScope s_is_int) := ⟨rfl, rfl, rfl, by decide +kernel, rfl, by decide +kernel, by decide +kernel⟩
theorem pa_is_int : plainA (defArgs s_is_int) ["value", "low", "high"] = true := by decide +kernel
abbrev s_common : Stmt := topS 7
theorem sc_common : FnScope ["one", "other"] ["one", "other"] (defScope s_common) := ⟨rfl, rfl, rfl, by decide +kernel, rfl, by decide +kernel, by decide +kernel⟩
theorem pa_common : plainA (defArgs s_common) ["one", "other"] = true := by decide +kernel
abbrev s_is_year : Stmt := topS 8
theorem sc_is_year : FnScope ["value", "one"] ["value"] (defScope s_is_year) := ⟨rfl, rfl, rfl, by decide +kernel, rfl, by decide +kernel, by decide +kernel⟩
theorem pa_is_year : plainA (defArgs s_is_year) ["value"] = true := by decide +kernel
abbrev s_check_year : Stmt := topS 9
theorem sc_check_year : FnScope ["value"] ["value"] (defScope s_check_year) := ⟨rfl, rfl, rfl, by decide +kernel, rfl, by decide +kernel, by decide +kernel⟩
theorem pa_check_year : plainA (defArgs s_check_year) ["value"] = true := by decide +kernel
abbrev s_check_day : Stmt := topS 10
theorem sc_check_day : FnScope ["year", "value"] ["year", "value"] (defScope s_check_day) := ⟨rfl, rfl, rfl, by decide +kernel, rfl, by decide +kernel, by decide +kernel⟩
theorem pa_check_day : plainA (defArgs s_check_day) ["year", "value"] = true := by decide +kernel
abbrev s_check_many : Stmt := topS 11
theorem sc_check_many : FnScope ["value"] ["value"] (defScope s_check_many) := ⟨rfl, rfl, rfl, by decide +kernel, rfl, by decide +kernel, by decide +kernel⟩
theorem pa_check_many : plainA (defArgs s_check_many) ["value"] = true := by decide +kernel
abbrev s_lowest : Stmt := topS 13
theorem sc_lowest : FnScope ["top", "below", "divisor"] ["top", "below"] (defScope s_lowest) := ⟨rfl, rfl, rfl, by decide +kernel, rfl, by decide +kernel, by decide +kernel⟩
theorem pa_lowest : plainA (defArgs s_lowest) ["top", "below"] = true := by decide +kernel
abbrev s_plus : Stmt := topS 14
theorem sc_plus : FnScope ["one", "other"] ["one", "other"] (defScope s_plus) := ⟨rfl, rfl, rfl, by decide +kernel, rfl, by decide +kernel, by decide +kernel⟩
theorem pa_plus : plainA (defArgs s_plus) ["one", "other"] = true := by decide +kernel
abbrev s_minus : Stmt := topS 15
theorem sc_minus : FnScope ["one", "other"] ["one", "other"] (defScope s_minus) := ⟨rfl, rfl, rfl, by decide +kernel, rfl, by decide +kernel, by decide +kernel⟩
theorem pa_minus : plainA (defArgs s_minus) ["one", "other"] = true := by decide +kernel
abbrev s_power : Stmt := topS 16
theorem sc_power : FnScope ["base", "exponent", "found", "turn"] ["base", "exponent"] (defScope s_power) := ⟨rfl, rfl, rfl, by decide +kernel, rfl, by decide +kernel, by decide +kernel⟩
theorem pa_power : plainA (defArgs s_power) ["base", "exponent"] = true := by decide +kernel
abbrev s_choose : Stmt := topS 17
theorem sc_choose : FnScope ["whole", "part", "found", "k"] ["whole", "part"] (defScope s_choose) := ⟨rfl, rfl, rfl, by decide +kernel, rfl, by decide +kernel, by decide +kernel⟩
theorem pa_choose : plainA (defArgs s_choose) ["whole", "part"] = true := by decide +kernel
abbrev s_share_of : Stmt := topS 19
theorem sc_share_of : FnScope ["year", "day"] ["year", "day"] (defScope s_share_of) := ⟨rfl, rfl, rfl, by decide +kernel, rfl, by decide +kernel, by decide +kernel⟩
theorem pa_share_of : plainA (defArgs s_share_of) ["year", "day"] = true := by decide +kernel
abbrev s_on_day : Stmt := topS 20
theorem sc_on_day : FnScope ["year", "day", "many"] ["year", "day", "many"] (defScope s_on_day) := ⟨rfl, rfl, rfl, by decide +kernel, rfl, by decide +kernel, by decide +kernel⟩
theorem pa_on_day : plainA (defArgs s_on_day) ["year", "day", "many"] = true := by decide +kernel
abbrev s_just_on_day : Stmt := topS 21
theorem sc_just_on_day : FnScope ["year", "day", "many", "own", "ways"] ["year", "day", "many", "own"] (defScope s_just_on_day) := ⟨rfl, rfl, rfl, by decide +kernel, rfl, by decide +kernel, by decide +kernel⟩
theorem pa_just_on_day : plainA (defArgs s_just_on_day) ["year", "day", "many", "own"] = true := by decide +kernel
abbrev s_check_counts : Stmt := topS 22
theorem sc_check_counts : FnScope ["year", "value", "one"] ["year", "value"] (defScope s_check_counts) := ⟨rfl, rfl, rfl, by decide +kernel, rfl, by decide +kernel, by decide +kernel⟩
theorem pa_check_counts : plainA (defArgs s_check_counts) ["year", "value"] = true := by decide +kernel
abbrev s_placed : Stmt := topS 23
theorem sc_placed : FnScope ["year", "counts", "ways", "left", "weight", "own"] ["year", "counts"] (defScope s_placed) := ⟨rfl, rfl, rfl, by decide +kernel, rfl, by decide +kernel, by decide +kernel⟩
theorem pa_placed : plainA (defArgs s_placed) ["year", "counts"] = true := by decide +kernel
abbrev s_likeliest_days : Stmt := topS 24
theorem sc_likeliest_days : FnScope ["year", "day", "weight"] ["year"] (defScope s_likeliest_days) := ⟨rfl, rfl, rfl, by decide +kernel, rfl, by decide +kernel, by decide +kernel⟩
theorem pa_likeliest_days : plainA (defArgs s_likeliest_days) ["year"] = true := by decide +kernel
abbrev s_next_on_used : Stmt := topS 25
theorem sc_next_on_used : FnScope ["year", "counts", "weight", "own"] ["year", "counts"] (defScope s_next_on_used) := ⟨rfl, rfl, rfl, by decide +kernel, rfl, by decide +kernel, by decide +kernel⟩
theorem pa_next_on_used : plainA (defArgs s_next_on_used) ["year", "counts"] = true := by decide +kernel
abbrev s_mean_pairs : Stmt := topS 27
theorem sc_mean_pairs : FnScope ["year", "many", "squares", "weight"] ["year", "many"] (defScope s_mean_pairs) := ⟨rfl, rfl, rfl, by decide +kernel, rfl, by decide +kernel, by decide +kernel⟩
theorem pa_mean_pairs : plainA (defArgs s_mean_pairs) ["year", "many"] = true := by decide +kernel
abbrev s_mean_used : Stmt := topS 29
theorem sc_mean_used : FnScope ["year", "many", "found", "whole", "weight"] ["year", "many"] (defScope s_mean_used) := ⟨rfl, rfl, rfl, by decide +kernel, rfl, by decide +kernel, by decide +kernel⟩
theorem pa_mean_used : plainA (defArgs s_mean_used) ["year", "many"] = true := by decide +kernel
abbrev s_law_start : Stmt := topS 31
theorem sc_law_start : FnScope ["script"] ["script"] (defScope s_law_start) := ⟨rfl, rfl, rfl, by decide +kernel, rfl, by decide +kernel, by decide +kernel⟩
theorem pa_law_start : plainA (defArgs s_law_start) ["script"] = true := by decide +kernel
abbrev s_law_draw : Stmt := topS 32
theorem sc_law_draw : FnScope ["draws", "limit", "numbers", "at", "cell", "mixed"] ["draws", "limit"] (defScope s_law_draw) := ⟨rfl, rfl, rfl, by decide +kernel, rfl, by decide +kernel, by decide +kernel⟩
theorem pa_law_draw : plainA (defArgs s_law_draw) ["draws", "limit"] = true := by decide +kernel
abbrev s_law_pick : Stmt := topS 33
theorem sc_law_pick : FnScope ["draws", "choices"] ["draws", "choices"] (defScope s_law_pick) := ⟨rfl, rfl, rfl, by decide +kernel, rfl, by decide +kernel, by decide +kernel⟩
theorem pa_law_pick : plainA (defArgs s_law_pick) ["draws", "choices"] = true := by decide +kernel
abbrev s_law_low : Stmt := topS 34
theorem sc_law_low : FnScope ["top", "under", "one", "other"] ["top", "under"] (defScope s_law_low) := ⟨rfl, rfl, rfl, by decide +kernel, rfl, by decide +kernel, by decide +kernel⟩
theorem pa_law_low : plainA (defArgs s_law_low) ["top", "under"] = true := by decide +kernel
abbrev s_law_add : Stmt := topS 35
theorem sc_law_add : FnScope ["one", "other"] ["one", "other"] (defScope s_law_add) := ⟨rfl, rfl, rfl, by decide +kernel, rfl, by decide +kernel, by decide +kernel⟩
theorem pa_law_add : plainA (defArgs s_law_add) ["one", "other"] = true := by decide +kernel
abbrev s_law_less : Stmt := topS 36
theorem sc_law_less : FnScope ["one", "other"] ["one", "other"] (defScope s_law_less) := ⟨rfl, rfl, rfl, by decide +kernel, rfl, by decide +kernel, by decide +kernel⟩
theorem pa_law_less : plainA (defArgs s_law_less) ["one", "other"] = true := by decide +kernel
abbrev s_law_year : Stmt := topS 37
theorem sc_law_year : FnScope ["draws", "most", "wide", "k"] ["draws", "most"] (defScope s_law_year) := ⟨rfl, rfl, rfl, by decide +kernel, rfl, by decide +kernel, by decide +kernel⟩
theorem pa_law_year : plainA (defArgs s_law_year) ["draws", "most"] = true := by decide +kernel
abbrev s_law_best : Stmt := topS 38
theorem sc_law_best : FnScope ["draws", "year", "size", "whole", "many", "best", "shares", "day", "counts", "two", "few", "k"] ["draws", "year", "size", "whole", "many"] (defScope s_law_best) := ⟨rfl, rfl, rfl, by decide +kernel, rfl, by decide +kernel, by decide +kernel⟩
theorem pa_law_best : plainA (defArgs s_law_best) ["draws", "year", "size", "whole", "many"] = true := by decide +kernel
abbrev s_law : Stmt := topS 39
theorem sc_law : FnScope ["script", "draws", "year", "size", "whole", "many", "total_used", "pairs", "day", "rows", "middle", "sum_here", "twos", "own"] ["script"] (defScope s_law) := ⟨rfl, rfl, rfl, by decide +kernel, rfl, by decide +kernel, by decide +kernel⟩
theorem pa_law : plainA (defArgs s_law) ["script"] = true := by decide +kernel
structure Tx (K : PySem.W.Frag) (mg : Str → Option Value) (c : Cl) : Prop where
  e_DayError : ErrC K mg "DayError" c.DayError
  e_BadYear : ErrC K mg "BadYear" c.BadYear
  e_BadDay : ErrC K mg "BadDay" c.BadDay
  e_BadNumber : ErrC K mg "BadNumber" c.BadNumber
  k_MOST_THINGS : ∃ t, mg "MOST_THINGS" = some (.int 12 t)
  d_is_int : Df K mg "is_int" s_is_int ["value", "low", "high"]
  d_common : Df K mg "common" s_common ["one", "other"]
  d_is_year : Df K mg "is_year" s_is_year ["value"]
  d_check_year : Df K mg "check_year" s_check_year ["value"]
  d_check_day : Df K mg "check_day" s_check_day ["year", "value"]
  d_check_many : Df K mg "check_many" s_check_many ["value"]
  d_lowest : Df K mg "lowest" s_lowest ["top", "below"]
  d_plus : Df K mg "plus" s_plus ["one", "other"]
  d_minus : Df K mg "minus" s_minus ["one", "other"]
  d_power : Df K mg "power" s_power ["base", "exponent"]
  d_choose : Df K mg "choose" s_choose ["whole", "part"]
  d_share_of : Df K mg "share_of" s_share_of ["year", "day"]
  d_on_day : Df K mg "on_day" s_on_day ["year", "day", "many"]
  d_just_on_day : Df K mg "just_on_day" s_just_on_day ["year", "day", "many", "own"]
  d_check_counts : Df K mg "check_counts" s_check_counts ["year", "value"]
  d_placed : Df K mg "placed" s_placed ["year", "counts"]
  d_likeliest_days : Df K mg "likeliest_days" s_likeliest_days ["year"]
  d_next_on_used : Df K mg "next_on_used" s_next_on_used ["year", "counts"]
  d_mean_pairs : Df K mg "mean_pairs" s_mean_pairs ["year", "many"]
  d_mean_used : Df K mg "mean_used" s_mean_used ["year", "many"]
  d_law_start : Df K mg "_law_start" s_law_start ["script"]
  d_law_draw : Df K mg "_law_draw" s_law_draw ["draws", "limit"]
  d_law_pick : Df K mg "_law_pick" s_law_pick ["draws", "choices"]
  d_law_low : Df K mg "_law_low" s_law_low ["top", "under"]
  d_law_add : Df K mg "_law_add" s_law_add ["one", "other"]
  d_law_less : Df K mg "_law_less" s_law_less ["one", "other"]
  d_law_year : Df K mg "_law_year" s_law_year ["draws", "most"]
  d_law_best : Df K mg "_law_best" s_law_best ["draws", "year", "size", "whole", "many"]
  d_law : Df K mg "law" s_law ["script"]
  n_isinstance : mg "isinstance" = none
  n_int : mg "int" = none
  n_bool : mg "bool" = none
  n_all : mg "all" = none
  n_list : mg "list" = none
  n_len : mg "len" = none
  n_abs : mg "abs" = none
  n_range : mg "range" = none
  n_sum : mg "sum" = none
  n_zip : mg "zip" = none
  n_enumerate : mg "enumerate" = none
  n_max : mg "max" = none
  n_min : mg "min" = none
  n_sorted : mg "sorted" = none
end Pg

namespace Pg
open PySem PySem.Spec PyProof.Rows L2 Sd
section
variable {P : Program} {w : World} {K : PySem.W.Frag} {mg : Str → Option Value} {base : Heap} {c : Cl}
def pre_is_int : Pr := fun ss own post => ∃ x lo hi, ss = [.d x, .d (.int lo), .d (.int hi)] ∧ own = [] ∧ post = fun o => o = .ret (.d (.bool (isInt x lo hi))) []
theorem fn_is_int (T : Tx K mg c) : Fn K mg P w base "is_int" ["value", "low", "high"] 1 pre_is_int := T.d_is_int.fn fun f fd F => okG (k := 0) F sc_is_int (by rintro ss own post ⟨x, lo, hi, rfl, _⟩; rfl) (by
  rintro ss own post ⟨x, lo, hi, rfl, rfl, rfl⟩ cdv A outer s H E B g
  refine sds_nd 0 rfl fun hx => ?_
  have hx := hx.1
  refine sds_one (sd_retD (x := .bool (isInt x lo hi)) (ES.is (ed_and (l := isInt x lo hi) (ed_isi (x := x) (l := (kitB (tyD x) "int").getD false) T.n_isinstance (ed_v 0) .d (ev_ty (T := "int") rfl T.n_int (by decide +kernel)) ?_) fun hk => ?_) ?_) rfl)
  · cases x <;> first | rfl | exact absurd rfl (hx _)
  · refine ES.is (ed_and (l := isInt x lo hi) (ed_not (ed_isi (x := x) (l := (kitB (tyD x) "bool").getD false) T.n_isinstance (ed_v 0) .d (ev_ty (T := "bool") rfl T.n_bool (by decide +kernel)) ?_)) fun hk2 => ed_one ?_) ?_
    · cases x <;> first | rfl | exact absurd rfl (hx _)
    · cases x with
      | int i => exact ed_chain c_le c_le (ed_v 1) (ed_v 0) (ed_v 2)
      | bool b => exact nomatch (show false = true from hk2)
      | none => exact nomatch (show false = true from hk)
      | str z => exact nomatch (show false = true from hk)
      | list z => exact nomatch (show false = true from hk)
      | tuple z => exact nomatch (show false = true from hk)
      | dict z => exact absurd rfl (hx z)
    · cases x <;> first | rfl | exact nomatch (show false = true from hk) | exact absurd rfl (hx _)
  · cases x <;> first | rfl | exact absurd rfl (hx _))
end
end Pg

namespace Pg
open PySem PySem.Spec PyProof.Rows L2 Sd
section
variable {P : Program} {w : World} {K : PySem.W.Frag} {mg : Str → Option Value} {base : Heap} {c : Cl}
def pre_check_day (c : Cl) : Pr := fun ss own post => ∃ (ds : List PyData) (x : PyData), ss = [.d (.list ds), .d x] ∧ own = [] ∧ post = fun o => o = if isInt x 0 ((ds.length : Int) - 1) = true then .ret (.d .none) [] else .exc c.BadDay []
theorem fn_check_day (T : Tx K mg c) : Fn K mg P w base "check_day" ["year", "value"] 2 (pre_check_day c) := T.d_check_day.fn fun f fd F => okG (k := 1) F sc_check_day (by rintro ss own post ⟨ds, x, rfl, _⟩; rfl) (by
  rintro ss own post ⟨ds, x, rfl, rfl, rfl⟩ cdv A outer s H E B g
  refine sds_one (sd_if (et_not (et_val (es_call (fn_is_int T) g (by decide) (ea_cons (ed_v 1) (ea_cons ed_int (ea_cons (ed_sub (ed_len T.n_len (ed_v 0) .d) ed_int) ea_nil))) ⟨x, _, _, rfl, rfl, rfl⟩))) (fun h => ?_) fun h => ?_)
  · refine sds_one (sd_raise g T.e_BadDay ?_)
    show Out.exc c.BadDay [] = _
    rw [if_neg (by simpa using h)]
  · refine sds_nil ?_
    show Out.ret (.d .none) [] = _
    rw [if_pos (by simpa using h)])
theorem ok_day {c : Cl} {ys : List Int} {d : Int} (h : 0 ≤ d ∧ d < (ys.length : Int)) : pre_check_day c [.d (li ys), .d (.int d)] [] (fun o => o = .ret (.d .none) []) := ⟨_, .int d, rfl, rfl, by
  rw [if_pos]
  have : d ≤ (ys.length : Int) - 1 := by omega
  simp [Sd.isInt, h.1, this]⟩
end
end Pg

namespace Pg
open PySem PySem.Spec PyProof.Rows L2 Sd
section
variable {P : Program} {w : World} {K : PySem.W.Frag} {mg : Str → Option Value} {base : Heap} {c : Cl}
def pre_check_many (c : Cl) : Pr := fun ss own post => ∃ x : PyData, ss = [.d x] ∧ own = [] ∧ post = fun o => o = if isInt x 0 12 = true then .ret (.d .none) [] else .exc c.BadNumber []
theorem fn_check_many (T : Tx K mg c) : Fn K mg P w base "check_many" ["value"] 2 (pre_check_many c) := T.d_check_many.fn fun f fd F => okG (k := 1) F sc_check_many (by rintro ss own post ⟨x, rfl, _⟩; rfl) (by
  rintro ss own post ⟨x, rfl, rfl, rfl⟩ cdv A outer s H E B g
  obtain ⟨t, hm⟩ := T.k_MOST_THINGS
  refine sds_one (sd_if (et_not (et_val (es_call (fn_is_int T) g (by decide) (ea_cons (ed_v 0) (ea_cons ed_int (ea_cons (ed_glob rfl hm) ea_nil))) ⟨x, _, _, rfl, rfl, rfl⟩))) (fun h => ?_) fun h => ?_)
  · refine sds_one (sd_raise g T.e_BadNumber ?_)
    show Out.exc c.BadNumber [] = _
    rw [if_neg (by simpa using h)]
  · refine sds_nil ?_
    show Out.ret (.d .none) [] = _
    rw [if_pos (by simpa using h)])
theorem ok_many {c : Cl} {n : Int} (h : 0 ≤ n ∧ n ≤ 12) : pre_check_many c [.d (.int n)] [] (fun o => o = .ret (.d .none) []) := ⟨.int n, rfl, rfl, by
  rw [if_pos]
  simp [Sd.isInt, h.1, h.2]⟩
end
end Pg

namespace Pg
open PySem PySem.Spec PyProof.Rows L2 Sd
section
variable {P : Program} {w : World} {K : PySem.W.Frag} {mg : Str → Option Value} {base : Heap} {c : Cl}
def pre_is_year : Pr := fun ss own post => ∃ x, ss = [.d x] ∧ own = [] ∧ post = fun o => o = .ret (.d (.bool (isYear x))) []
theorem fn_is_year (T : Tx K mg c) : Fn K mg P w base "is_year" ["value"] 2 pre_is_year := T.d_is_year.fn fun f fd F => okG (k := 1) F sc_is_year (by rintro ss own post ⟨x, rfl, _⟩; rfl) (by
  rintro ss own post ⟨x, rfl, rfl, rfl⟩ cdv A outer s H E B g
  refine sds_nd 0 rfl fun hx => ?_
  have hx := hx.1
  by_cases hl : ∃ ds, x = .list ds
  · obtain ⟨ds, rfl⟩ := hl
    refine sds_cons (sd_if (l := !(decide (1 ≤ (ds.length : Int)) && decide ((ds.length : Int) ≤ 8))) (ET.is (EW.et (ew_or (et_not (et_val (ed_isi (x := .list ds) (l := true) T.n_isinstance (ed_v 0) .d (ev_ty (T := "list") rfl T.n_list (by decide +kernel)) rfl))) fun _ => ew_or1 (et_not (et_chain c_le c_le ed_int (ed_len T.n_len (ed_v 0) .d) ed_int)))) (by simp)) (fun h => ?_) fun h => ?_)
    · refine sds_one (sd_retD ed_bl ?_)
      have : isYear (.list ds) = false := by
        unfold isYear
        simp only [Bool.not_eq_true', Bool.and_eq_false_iff] at h ⊢
        exact .inl h
      rw [this]
    · have h : (decide (1 ≤ (ds.length : Int)) && decide ((ds.length : Int) ≤ 8)) = true := by simpa using h
      have hlen : ds.length ≤ 8 := by simp at h; omega
      refine sds_nil (sds_one (sd_retD (ed_all (ns := ds.map fun d => isInt d 1 20) g T.n_all (EL.ed (ds := (ds.map fun d => isInt d 1 20).map PyData.bool) (EL.is (el_comp g (compP g (it_list (ed_v 0)) [("one", 1)] (blkOk_by (N := ["value", "one"]) (sc := defScope s_is_year) (by decide +kernel)) ds id (by simp) (fun d => some (.bool (isInt d 1 20))) (fun d => [.d (.list ds), .d d]) [1] (by simp) (by omega) (fun _ _ => trivial)
        (fun d _ s H C cl fp g' => gt_name 1 g'.nd) (fun d _ s H C cl fp o g' => ets_nil) (fun d _ x hx s H C cl fp o g' => ?_))) ?_)) .d) ?_))
      · cases hx
        exact es_call (fn_is_int T) g' (by decide) (ea_cons (ed_v 1) (ea_cons ed_int (ea_cons ed_int ea_nil))) ⟨d, 1, 20, rfl, rfl, rfl⟩
      · rw [List.map_map]
        exact List.filterMap_eq_map' .. |>.symm ▸ rfl
      · show Out.ret (.d (.bool ((ds.map fun d => isInt d 1 20).all id))) [] = Out.ret (.d (.bool (isYear (.list ds)))) []
        have e : isYear (.list ds) = (decide (1 ≤ (ds.length : Int)) && decide ((ds.length : Int) ≤ 8) && (ds.map fun d => isInt d 1 20).all id) := rfl
        rw [e, h, Bool.true_and]
  · have hk : kitB (tyD x) "list" = some false := by
      cases x <;> first | rfl | exact absurd ⟨_, rfl⟩ hl | exact absurd rfl (hx _)
    refine sds_cons (sd_if (l := true) (EW.et (ew_or (k := true) (l := true) (et_not (k := false) (et_val (ed_isi (x := x) (l := false) T.n_isinstance (ed_v 0) .d (ev_ty (T := "list") rfl T.n_list (by decide +kernel)) hk))) fun h => nomatch h)) (fun h => ?_) fun h => nomatch h)
    refine sds_one (sd_retD ed_bl ?_)
    cases x <;> first | rfl | exact absurd ⟨_, rfl⟩ hl)
end
end Pg

namespace Pg
open PySem PySem.Spec PyProof.Rows L2 Sd
section
variable {P : Program} {w : World} {K : PySem.W.Frag} {mg : Str → Option Value} {base : Heap} {c : Cl}
def pre_check_year (c : Cl) : Pr := fun ss own post => ∃ x, ss = [.d x] ∧ own = [] ∧ post = fun o => o = if isYear x = true then .ret (.d .none) [] else .exc c.BadYear []
theorem fn_check_year (T : Tx K mg c) : Fn K mg P w base "check_year" ["value"] 3 (pre_check_year c) := T.d_check_year.fn fun f fd F => okG (k := 2) F sc_check_year (by rintro ss own post ⟨x, rfl, _⟩; rfl) (by
  rintro ss own post ⟨x, rfl, rfl, rfl⟩ cdv A outer s H E B g
  refine sds_one (sd_if (et_not (et_val (es_call (fn_is_year T) g (by decide) (ea_cons (ed_v 0) ea_nil) ⟨x, rfl, rfl, rfl⟩))) (fun h => ?_) fun h => ?_)
  · refine sds_one (sd_raise g T.e_BadYear ?_)
    show Out.exc c.BadYear [] = _
    rw [if_neg (by simpa using h)]
  · refine sds_nil ?_
    show Out.ret (.d .none) [] = _
    rw [if_pos (by simpa using h)])
/-- a year is checked -/
theorem ok_year {c : Cl} {ys : List Int} (h : Yr ys) : pre_check_year c [.d (li ys)] [] (fun o => o = .ret (.d .none) []) := ⟨li ys, rfl, rfl, by rw [if_pos h.is]⟩
end
end Pg

namespace Pg
open PySem PySem.Spec PyProof.Rows L2 Sd
section
variable {P : Program} {w : World} {K : PySem.W.Frag} {mg : Str → Option Value} {base : Heap} {c : Cl}
def pre_choose : Pr := fun ss own post => ∃ n k : Nat, ss = [.d (.int (n : Int)), .d (.int (k : Int))] ∧ own = [] ∧ k ≤ n ∧ n ≤ 1000 ∧ post = fun o => o = .ret (.d (.int (bin n k : Nat))) []
theorem fn_choose (T : Tx K mg c) : Fn K mg P w base "choose" ["whole", "part"] 1 pre_choose := T.d_choose.fn fun f fd F => okG (k := 0) F sc_choose (by rintro ss own post ⟨n, k, rfl, _⟩; rfl) (by
  rintro ss own post ⟨n, k, rfl, rfl, hk, hn, rfl⟩ cdv A outer s H E B g
  refine sds_cons (sd_set 2 g.nd ed_int ?_)
  refine sds_cons (sd_for g (it_range1 T.n_range (ed_v 1) ⟨by omega, by omega⟩) (fun i ρ own => own = [] ∧ ∃ t, ρ = [.d (.int (n : Int)), .d (.int (k : Int)), .d (.int (bin n i : Nat)), t]) ⟨rfl, _, by rw [bin_zero]; rfl⟩ (fun _ _ _ _ => trivial) ?_ ?_)
  · rintro i y ρ1 own1 hy ⟨rfl, t, rfl⟩
    obtain ⟨hi, rfl⟩ := rng_get hy
    have hi : i < k := by omega
    refine ⟨_, _, gt_name 3 g.nd, sds_one (sd_set 2 g.nd (ed_fdivS (ed_mul (ed_v 2) (ed_sub (ed_v 0) (ed_v 3)) (cmul_of (a := n) (b := 64) ?_ ?_ (by omega))) (ed_add (ed_v 3) ed_int) ⟨by omega, by omega⟩) ?_)⟩
    · unfold Sz
      rw [Int.natAbs_natCast]
      exact bin_lt n i hi hk
    · unfold Sz
      omega
    · refine ⟨rfl, .d (.int (0 + (i : Int))), ?_⟩
      have e : ((bin n i : Nat) : Int) * ((n : Int) - (0 + (i : Int))) / (0 + (i : Int) + 1) = (bin n (i + 1) : Nat) := bin_step n i (by omega)
      rw [e]
      rfl
  · rintro ρ1 own1 ⟨rfl, t, rfl⟩
    rw [rng_length]
    refine sds_one (sd_retD (ed_v 2) ?_)
    show Out.ret (.d (.int (bin n (k : Int).toNat : Nat))) [] = _
    rw [Int.toNat_natCast])
end
end Pg

namespace Pg
open PySem PySem.Spec PyProof.Rows L2 Sd
section
variable {P : Program} {w : World} {K : PySem.W.Frag} {mg : Str → Option Value} {base : Heap} {c : Cl}
def pre_common : Pr := fun ss own post => ∃ a b : Int, ss = [.d (.int a), .d (.int b)] ∧ own = [] ∧ 0 ≤ a ∧ 0 ≤ b ∧ post = fun o => o = .ret (.d (.int (Int.gcd a b : Nat))) []
theorem fn_common (T : Tx K mg c) : Fn K mg P w base "common" ["one", "other"] 1 pre_common := T.d_common.fn fun f fd F => okG (k := 0) F sc_common (by rintro ss own post ⟨a, b, rfl, _⟩; rfl) (by
  rintro ss own post ⟨a, b, rfl, rfl, ha, hb, rfl⟩ cdv A outer s H E B g
  refine sds_cons (sd_while g (fun m ρ own => ∃ x y : Int, 0 ≤ x ∧ 0 ≤ y ∧ ρ = [.d (.int x), .d (.int y)] ∧ own = [] ∧ Int.gcd x y = Int.gcd a b ∧ m = y.toNat) b.toNat ⟨a, b, ha, hb, rfl, rfl, rfl, rfl⟩ ?_)
  rintro m ρ1 own1 ⟨x, y, hx, hy, rfl, rfl, e, rfl⟩
  refine ⟨_, et_cmp c_neI (ed_v 1) ed_int, fun h => ?_, fun h => ?_⟩
  · have h0 : 0 < y := by
      have : y ≠ 0 := fun z => by subst z; simp at h
      omega
    refine sds_one (sd_par 0 1 g (ea_cons (ed_v 1) (ea_cons (ed_mod (ed_v 0) (ed_v 1) h0) ea_nil)) ?_)
    have h1 := Int.emod_nonneg x (Int.ne_of_gt h0)
    have h2 := Int.emod_lt_of_pos x h0
    exact ⟨(x % y).toNat, by omega, y, x % y, hy, h1, rfl, rfl, (gcd_step x y hx h0).trans e, rfl⟩
  · have h0 : y = 0 := by simpa using h
    subst h0
    refine sds_one (sd_retD (ed_v 0) ?_)
    show Out.ret (.d (.int x)) [] = Out.ret (.d (.int (Int.gcd a b : Nat))) []
    rw [← e, Int.gcd_zero_right, Int.natAbs_of_nonneg hx])
end
end Pg

namespace Pg
open PySem PySem.Spec PyProof.Rows L2 Sd
section
variable {P : Program} {w : World} {K : PySem.W.Frag} {mg : Str → Option Value} {base : Heap} {c : Cl}
def pre_lowest : Pr := fun ss own post => ∃ a b : Int, ss = [.d (.int a), .d (.int b)] ∧ own = [] ∧ 0 < b ∧ Sz 8999 b ∧ post = fun o => o = .ret (.d (fr ((a : Rat) / b))) []
theorem fn_lowest (T : Tx K mg c) : Fn K mg P w base "lowest" ["top", "below"] 2 pre_lowest := T.d_lowest.fn fun f fd F => okG (k := 1) F sc_lowest (by rintro ss own post ⟨a, b, rfl, _⟩; rfl) (by
  rintro ss own post ⟨a, b, rfl, rfl, hb, hz, rfl⟩ cdv A outer s H E B g
  have eg : Int.gcd (if a < 0 then -a else a) b = Int.gcd a b := by
    split
    · rw [Int.gcd_comm, Int.gcd_neg, Int.gcd_comm]
    · rfl
  refine sds_cons (sd_set 2 g.nd (es_call (fn_common T) g (by decide) (ea_cons (ed_abs T.n_abs (ed_v 0)) (ea_cons (ed_v 1) ea_nil)) ⟨_, _, rfl, rfl, by split <;> omega, by omega, rfl⟩) ?_)
  rw [eg]
  have g0 : (0 : Int) < (Int.gcd a b : Nat) := by
    have := Int.gcd_pos_of_ne_zero_right a (show b ≠ 0 by omega)
    omega
  have gz : Sz 8999 (Int.gcd a b : Nat) := by
    have := Int.gcd_le_natAbs_right (a := a) (show b ≠ 0 by omega)
    unfold Sz at *
    rw [Int.natAbs_natCast]
    omega
  refine sds_one (sd_retD (ed_tup (ds := [_, _]) (ea_cons (ed_fdiv (ed_v 0) (ed_v 2) (cdiv_of g0 gz (by decide))) (ea_cons (ed_fdiv (ed_v 1) (ed_v 2) (cdiv_of g0 gz (by decide))) ea_nil))) ?_)
  show Out.ret (.d (.tuple [.int (a / (Int.gcd a b : Nat)), .int (b / (Int.gcd a b : Nat))])) [] = _
  rw [fr_low a b hb])
end
end Pg

namespace Pg
open PySem PySem.Spec PyProof.Rows L2 Sd
section
variable {P : Program} {w : World} {K : PySem.W.Frag} {mg : Str → Option Value} {base : Heap} {c : Cl}
def pre_power : Pr := fun ss own post => ∃ (b : Int) (n k : Nat), ss = [.d (.int b), .d (.int (n : Int))] ∧ own = [] ∧ Sz k b ∧ n ≤ 1000 ∧ k ≤ 100 ∧ post = fun o => o = .ret (.d (.int (b ^ n))) []
theorem fn_power (T : Tx K mg c) : Fn K mg P w base "power" ["base", "exponent"] 1 pre_power := T.d_power.fn fun f fd F => okG (k := 0) F sc_power (by rintro ss own post ⟨b, n, k, rfl, _⟩; rfl) (by
  rintro ss own post ⟨b, n, k, rfl, rfl, hb, hn, hk, rfl⟩ cdv A outer s H E B g
  refine sds_cons (sd_set 2 g.nd ed_int ?_)
  refine sds_cons (sd_for g (it_range1 T.n_range (ed_v 1) ⟨by omega, by omega⟩) (fun i ρ own => own = [] ∧ ∃ t, ρ = [.d (.int b), .d (.int (n : Int)), .d (.int (b ^ i)), t]) ⟨rfl, _, by rw [Int.pow_zero]; rfl⟩ (fun _ _ _ _ => trivial) ?_ ?_)
  · rintro i y ρ1 own1 hy ⟨rfl, t, rfl⟩
    obtain ⟨hi, rfl⟩ := rng_get hy
    have hi : i < n := by omega
    refine ⟨_, _, gt_name 3 g.nd, sds_one (sd_aug 2 iop_mulW g.nd rfl (ed_v 0) (cmul_of (hb.pow i) hb ?_) ?_)⟩
    · have : k * i ≤ 100 * 1000 := Nat.mul_le_mul hk (by omega)
      omega
    · exact ⟨rfl, _, by rw [Int.pow_succ]; rfl⟩
  · rintro ρ1 own1 ⟨rfl, t, rfl⟩
    rw [rng_length]
    refine sds_one (sd_retD (ed_v 2) ?_)
    show Out.ret (.d (.int (b ^ (n : Int).toNat))) [] = _
    rw [Int.toNat_natCast])
end
end Pg

namespace Pg
open PySem PySem.Spec PyProof.Rows L2 Sd
section
variable {P : Program} {w : World} {K : PySem.W.Frag} {mg : Str → Option Value} {base : Heap} {c : Cl}
def pre_just_on_day : Pr := fun ss own post => ∃ (ys : List Int) (j n k : Nat) (y : Int), ss = [.d (li ys), .d (.int (j : Int)), .d (.int (n : Int)), .d (.int (k : Int))] ∧ own = [] ∧ Yr ys ∧ ys[j]? = some y ∧ n ≤ 12 ∧ k ≤ 12 ∧ post = fun o => o = .ret (.d (fr ((((bin n k : Nat) * y ^ k * (ys.sum - y) ^ (n - k) : Int) : Rat) / ((ys.sum ^ n : Int) : Rat)))) []
theorem fn_just_on_day (T : Tx K mg c) : Fn K mg P w base "just_on_day" ["year", "day", "many", "own"] 4 pre_just_on_day := T.d_just_on_day.fn fun f fd F => okG (k := 3) F sc_just_on_day (by rintro ss own post ⟨ys, j, n, k, y, rfl, _⟩; rfl) (by
  rintro ss own post ⟨ys, j, n, k, y, rfl, rfl, hY, hj, hn, hk, rfl⟩ cdv A outer s H E B g
  have hl := (List.getElem?_eq_some_iff.mp hj).1
  have hm : y ∈ ys := List.mem_of_getElem? hj
  refine sds_cons (sd_expr (es_call (fn_check_year T) g (by decide) (ea_cons (ed_v 0) ea_nil) (ok_year hY)) ?_)
  refine sds_cons (sd_expr (es_call (fn_check_day T) g (by decide) (ea_cons (ed_v 0) (ea_cons (ed_v 1) ea_nil)) (ok_day ⟨by omega, by omega⟩)) ?_)
  refine sds_cons (sd_expr (es_call (fn_check_many T) g (by decide) (ea_cons (ed_v 2) ea_nil) (ok_many ⟨by omega, by omega⟩)) ?_)
  refine sds_cons (sd_if (l := false) (ET.is (et_not (et_val (es_call (fn_is_int T) g (by decide) (ea_cons (ed_v 3) (ea_cons ed_int (ea_cons ed_int ea_nil))) ⟨_, _, _, rfl, rfl, rfl⟩))) ?_) (fun h => nomatch h) fun _ => sds_nil ?_)
  · have : ((k : Int) ≤ 12) := by omega
    simp [Sd.isInt, this]
  refine sds_cons (sd_if (et_cmp c_gt (ed_v 3) (ed_v 2)) (fun h => ?_) fun h => sds_nil ?_)
  · have hkn : n < k := by simpa using h
    refine sds_one (sd_retD (ed_k2 (i := 0) (i' := 1)) ?_)
    rw [bin_out n k hkn]
    have e : (((((0 : Nat) : Int) * y ^ k * (ys.sum - y) ^ (n - k) : Int)) : Rat) / ((ys.sum ^ n : Int) : Rat) = 0 := by
      have : (((0 : Nat) : Int) * y ^ k * (ys.sum - y) ^ (n - k) : Int) = 0 := by simp
      rw [this]
      rw [Rat.div_def]
      simp [Rat.zero_mul]
    rw [e]
    rfl
  · have hkn : k ≤ n := by
      have : ¬ ((n : Int) < (k : Int)) := by simpa using h
      omega
    have h1 : Sz 97 (y ^ k) := ((hY.szy hm).pow k).mono (by omega)
    have h2 : Sz 97 ((ys.sum - y) ^ (n - k)) := ((hY.szD hm).pow (n - k)).mono (by omega)
    have h3 : Sz 97 (ys.sum ^ n) := (hY.szW.pow n).mono (by omega)
    have h4 : Sz 13 (bin n k : Nat) := (bin_sz n k).mono (by omega)
    have e1 : (n : Int) - (k : Int) = ((n - k : Nat) : Int) := by omega
    refine sds_cons (sd_set 4 g.nd (ed_mul (ed_mul (es_call (fn_choose T) g (by decide) (ea_cons (ed_v 2) (ea_cons (ed_v 3) ea_nil)) ⟨n, k, rfl, rfl, hkn, by omega, rfl⟩) (es_call (fn_power T) g (by decide) (ea_cons (ed_ixL (ed_v 0) (ed_v 1) .d (getI hj)) (ea_cons (ed_v 3) ea_nil)) ⟨y, k, 8, rfl, rfl, hY.szy hm, by omega, by decide, rfl⟩) (cmul_of h4 h1 (by decide)))
      (es_call (fn_power T) g (by decide) (ea_cons (ed_sub (ed_sum g T.n_sum (ed_v 0) .d) (ed_ixL (ed_v 0) (ed_v 1) .d (getI hj))) (ea_cons (ES.is (ed_sub (ed_v 2) (ed_v 3)) (by rw [e1])) ea_nil)) ⟨_, n - k, 8, rfl, rfl, hY.szD hm, by omega, by decide, rfl⟩) (cmul_of (h4.mul h1) h2 (by decide))) ?_)
    exact sds_one (sd_retD (es_call (fn_lowest T) g (by decide) (ea_cons (ed_v 4) (ea_cons (es_call (fn_power T) g (by decide) (ea_cons (ed_sum g T.n_sum (ed_v 0) .d) (ea_cons (ed_v 2) ea_nil)) ⟨_, n, 8, rfl, rfl, hY.szW, by omega, by decide, rfl⟩) ea_nil)) ⟨_, _, rfl, rfl, hY.posP n, h3.mono (by decide), rfl⟩) rfl))
end
end Pg

namespace Pg
open PySem PySem.Spec PyProof.Rows L2 Sd
section
variable {P : Program} {w : World} {K : PySem.W.Frag} {mg : Str → Option Value} {base : Heap} {c : Cl}
def pre_law_low : Pr := fun ss own post => ∃ a b : Int, ss = [.d (.int a), .d (.int b)] ∧ own = [] ∧ 0 < b ∧ Sz 8999 b ∧ post = fun o => o = .ret (.d (fr ((a : Rat) / b))) []
theorem fn_law_low (T : Tx K mg c) : Fn K mg P w base "_law_low" ["top", "under"] 1 pre_law_low := T.d_law_low.fn fun f fd F => okG (k := 0) F sc_law_low (by rintro ss own post ⟨a, b, rfl, _⟩; rfl) (by
  rintro ss own post ⟨a, b, rfl, rfl, hb, hz, rfl⟩ cdv A outer s H E B g
  have eg : Int.gcd (if a < 0 then -a else a) b = Int.gcd a b := by
    split
    · rw [Int.gcd_comm, Int.gcd_neg, Int.gcd_comm]
    · rfl
  have ha : 0 ≤ (if a < 0 then -a else a) := by split <;> omega
  refine sds_cons (sd_par 2 3 g (ea_cons (ed_abs T.n_abs (ed_v 0)) (ea_cons (ed_v 1) ea_nil)) ?_)
  generalize (if a < 0 then -a else a) = a' at eg ha
  refine sds_cons (sd_while g (fun m ρ own => ∃ x y : Int, 0 ≤ x ∧ 0 ≤ y ∧ ρ = [.d (.int a), .d (.int b), .d (.int x), .d (.int y)] ∧ own = [] ∧ Int.gcd x y = Int.gcd a b ∧ m = y.toNat) b.toNat ⟨a', b, ha, by omega, rfl, rfl, eg, rfl⟩ ?_)
  rintro m ρ1 own1 ⟨x, y, hx, hy, rfl, rfl, e, rfl⟩
  refine ⟨_, et_cmp c_neI (ed_v 3) ed_int, fun h => ?_, fun h => ?_⟩
  · have h0 : 0 < y := by
      have : y ≠ 0 := fun z => by subst z; simp at h
      omega
    refine sds_one (sd_par 2 3 g (ea_cons (ed_v 3) (ea_cons (ed_mod (ed_v 2) (ed_v 3) h0) ea_nil)) ?_)
    have h1 := Int.emod_nonneg x (Int.ne_of_gt h0)
    have h2 := Int.emod_lt_of_pos x h0
    exact ⟨(x % y).toNat, by omega, y, x % y, hy, h1, rfl, rfl, (gcd_step x y hx h0).trans e, rfl⟩
  · have h0 : y = 0 := by simpa using h
    subst h0
    have ex : x = (Int.gcd a b : Nat) := by rw [← e, Int.gcd_zero_right, Int.natAbs_of_nonneg hx]
    subst ex
    have g0 : (0 : Int) < (Int.gcd a b : Nat) := by
      have := Int.gcd_pos_of_ne_zero_right a (show b ≠ 0 by omega)
      omega
    have gz : Sz 8999 (Int.gcd a b : Nat) := by
      have := Int.gcd_le_natAbs_right (a := a) (show b ≠ 0 by omega)
      unfold Sz at *
      rw [Int.natAbs_natCast]
      omega
    refine sds_one (sd_retD (ed_tup (ds := [_, _]) (ea_cons (ed_fdiv (ed_v 0) (ed_v 2) (cdiv_of g0 gz (by decide))) (ea_cons (ed_fdiv (ed_v 1) (ed_v 2) (cdiv_of g0 gz (by decide))) ea_nil))) ?_)
    show Out.ret (.d (.tuple [.int (a / (Int.gcd a b : Nat)), .int (b / (Int.gcd a b : Nat))])) [] = _
    rw [fr_low a b hb])
end
end Pg

namespace Pg
open PySem PySem.Spec PyProof.Rows L2 Sd
section
variable {P : Program} {w : World} {K : PySem.W.Frag} {mg : Str → Option Value} {base : Heap} {c : Cl}
def pre_law_add : Pr := fun ss own post => ∃ (p q : Rat) (m n : Nat), ss = [.d (fr p), .d (fr q)] ∧ own = [] ∧ Sq m p ∧ Sq n q ∧ m + n ≤ 8990 ∧ post = fun o => o = .ret (.d (fr (p + q))) []
theorem fn_law_add (T : Tx K mg c) : Fn K mg P w base "_law_add" ["one", "other"] 2 pre_law_add := T.d_law_add.fn fun f fd F => okG (k := 1) F sc_law_add (by rintro ss own post ⟨p, q, m, n, rfl, _⟩; rfl) (by
  rintro ss own post ⟨p, q, m, n, rfl, rfl, hp, hq, hmn, rfl⟩ cdv A outer s H E B g
  refine sds_one (sd_retD (es_call (fn_law_low T) g (by decide) (ea_cons (ed_add (ed_mul (ed_ixT (ed_v 0) ed_int rfl) (ed_ixT (ed_v 1) ed_int rfl) (cmul_of hp.num hq.den (by omega))) (ed_mul (ed_ixT (ed_v 1) ed_int rfl) (ed_ixT (ed_v 0) ed_int rfl) (cmul_of hq.num hp.den (by omega))))
    (ea_cons (ed_mul (ed_ixT (ed_v 0) ed_int rfl) (ed_ixT (ed_v 1) ed_int rfl) (cmul_of hp.den hq.den (by omega))) ea_nil)) ⟨_, _, rfl, rfl, Int.mul_pos (den_pos p) (den_pos q), (hp.den.mul hq.den).mono (by omega), rfl⟩) ?_)
  rw [plus_eq])
end
end Pg

namespace Pg
open PySem PySem.Spec PyProof.Rows L2 Sd
section
variable {P : Program} {w : World} {K : PySem.W.Frag} {mg : Str → Option Value} {base : Heap} {c : Cl}
def pre_law_draw : Pr := fun ss own post => ∃ (d n : Addr) (cells : List Int) (cnt limit : Int), ss = [.raw (.ref d), .d (.int limit)] ∧ own = drw d n cells cnt ∧ cells ≠ [] ∧ 0 < limit ∧ limit < 1073741824 ∧
  post = fun o => ∃ r cells' cnt', 0 ≤ r ∧ r < limit ∧ cells' ≠ [] ∧ o = .ret (.d (.int r)) (drw d n cells' cnt')
theorem fn_law_draw (T : Tx K mg c) : Fn K mg P w base "_law_draw" ["draws", "limit"] 1 pre_law_draw := T.d_law_draw.fn fun f fd F => okG (k := 0) F sc_law_draw (by rintro ss own post ⟨d, n, cells, cnt, limit, rfl, _⟩; rfl) (by
  rintro ss own post ⟨d, n, cells, cnt, limit, rfl, rfl, hc, hl, hl2, rfl⟩ cdv A outer s H E B g
  unfold drw
  have hpos : (0 : Int) < cells.length := by
    have := List.length_pos_iff.mpr hc
    omega
  refine sds_cons (sd_set 2 g.nd (es_ixR (s := .raw (.ref n)) (q := d) (vs := [.ref n, .int cnt]) (by simp) (ev_v 0) ed_int rfl fun _ => rfl) ?_)
  refine sds_cons (sd_setitemR (oa := []) (q := d) (vs := [.ref n, .int cnt]) (n := 1) (v := .int (cnt + 1)) (ed_add (es_ixR (s := .d (.int cnt)) (q := d) (vs := [.ref n, .int cnt]) (by simp) (ev_v 0) ed_int rfl fun _ => Rep.int _) ed_int) (fun _ _ h => by cases h; rfl) (ev_v 0) ed_int rfl ?_)
  have eset : ([.ref n, .int cnt] : List V).set 1 (.int (cnt + 1)) = [.ref n, .int (cnt + 1)] := rfl
  rw [eset]
  refine sds_cons (sd_set 3 g.nd (ed_mod (es_ixR (s := .d (.int (cnt + 1))) (q := d) (vs := [.ref n, .int (cnt + 1)]) (by simp) (ev_v 0) ed_int rfl fun _ => Rep.int _) (ed_len (ds := cells.map PyData.int) T.n_len (ev_v 2) (Lst.o (by simp))) (by rw [List.length_map]; exact hpos)) ?_)
  rw [List.length_map]
  have h1 := Int.emod_nonneg (cnt + 1) (Int.ne_of_gt hpos)
  have h2 := Int.emod_lt_of_pos (cnt + 1) hpos
  obtain ⟨j, hj⟩ : ∃ j : Nat, (cnt + 1) % (cells.length : Int) = (j : Int) := ⟨((cnt + 1) % (cells.length : Int)).toNat, by omega⟩
  rw [hj]
  have hjl : j < cells.length := by omega
  have hat : (cells.map PyData.int)[j]? = some (.int cells[j]) := by
    rw [List.getElem?_map, List.getElem?_eq_getElem hjl]
    rfl
  have hix : ixN (cells.map PyData.int).length (j : Int) = some j := by
    unfold ixN
    rw [if_pos (by omega), if_pos (by rw [List.length_map]; omega)]
    simp
  refine sds_cons (sd_set 4 g.nd (ed_ixL (ds := cells.map PyData.int) (ev_v 2) (ed_v 3) (Lst.o (by simp)) (atI_ixN hix hat)) ?_)
  refine sds_cons (sd_if (et_cmp c_ge (ed_v 4) ed_int) (fun h => ?_) fun h => ?_)
  · refine sds_cons (sd_setitem (oa := [_]) (p := n) (n := j) (ed_fdivS (ed_v 4) (ed_v 1) ⟨hl, hl2⟩) (ev_v 2) (ed_v 3) hix ?_)
    refine sds_one (sd_retD (ed_mod (ed_v 4) (ed_v 1) hl) ?_)
    refine ⟨cells[j] % limit, cells.set j (cells[j] / limit), cnt + 1, Int.emod_nonneg _ (Int.ne_of_gt hl), Int.emod_lt_of_pos _ hl, fun z => hc (by simpa using z), ?_⟩
    rw [List.map_set]
    rfl
  · refine sds_nil ?_
    have m1 := fun x : Int => Int.emod_nonneg x (show (4294967291 : Int) ≠ 0 by decide)
    have m2 := fun x : Int => Int.emod_lt_of_pos x (show (0 : Int) < 4294967291 by decide)
    have m3 := fun x : Int => Int.emod_nonneg x (show (4294967279 : Int) ≠ 0 by decide)
    have m4 := fun x : Int => Int.emod_lt_of_pos x (show (0 : Int) < 4294967279 by decide)
    refine sds_cons (sd_set 5 g.nd (ed_mod (ed_add (ed_v 4) (ed_mulS ed_int (es_ixR (s := .d (.int (cnt + 1))) (q := d) (vs := [.ref n, .int (cnt + 1)]) (by simp) (ev_v 0) ed_int rfl fun _ => Rep.int _) (.inl ⟨by decide, by decide⟩))) ed_int (by decide)) ?_)
    refine sds_cons (sd_set 5 g.nd (ed_mod (ed_pow (ed_v 5) ed_int ⟨by decide, by decide, ?_⟩) ed_int (by decide)) ?_)
    · have a1 := m1 (cells[j] + 104729 * (cnt + 1))
      have a2 := m2 (cells[j] + 104729 * (cnt + 1))
      generalize (cells[j] + 104729 * (cnt + 1)) % 4294967291 = x at a1 a2
      show x.natAbs < 2 ^ 64
      omega
    · refine sds_one (sd_retD (ed_mod (ed_fdivS (ed_mod (ed_add (ed_mulS (ed_fdivS (ed_v 5) ed_int ⟨by decide, by decide⟩) ed_int (.inr ⟨by decide, by decide⟩)) (ed_v 5)) ed_int (by decide)) ed_int ⟨by decide, by decide⟩) (ed_v 1) hl) ?_)
      exact ⟨_, cells, cnt + 1, Int.emod_nonneg _ (Int.ne_of_gt hl), Int.emod_lt_of_pos _ hl, hc, rfl⟩)
end
end Pg

namespace Pg
open PySem PySem.Spec PyProof.Rows L2 Sd
section
variable {P : Program} {w : World} {K : PySem.W.Frag} {mg : Str → Option Value} {base : Heap} {c : Cl}
def pre_law_less : Pr := fun ss own post => ∃ (p q : Rat) (m n : Nat), ss = [.d (fr p), .d (fr q)] ∧ own = [] ∧ Sq m p ∧ Sq n q ∧ m + n ≤ 8990 ∧ post = fun o => o = .ret (.d (.bool (decide (p < q)))) []
theorem fn_law_less (T : Tx K mg c) : Fn K mg P w base "_law_less" ["one", "other"] 1 pre_law_less := T.d_law_less.fn fun f fd F => okG (k := 0) F sc_law_less (by rintro ss own post ⟨p, q, m, n, rfl, _⟩; rfl) (by
  rintro ss own post ⟨p, q, m, n, rfl, rfl, hp, hq, hmn, rfl⟩ cdv A outer s H E B g
  refine sds_one (sd_retD (ed_cmp c_lt (ed_mul (ed_ixT (ed_v 0) ed_int rfl) (ed_ixT (ed_v 1) ed_int rfl) (cmul_of hp.num hq.den (by omega))) (ed_mul (ed_ixT (ed_v 1) ed_int rfl) (ed_ixT (ed_v 0) ed_int rfl) (cmul_of hq.num hp.den (by omega)))) ?_)
  rw [decide_eq_decide.mpr (lt_fr p q)])
end
end Pg

namespace Pg
open PySem PySem.Spec PyProof.Rows L2 Sd
section
variable {P : Program} {w : World} {K : PySem.W.Frag} {mg : Str → Option Value} {base : Heap} {c : Cl}
def lkd (ys : List Int) : List Nat := (List.range ys.length).filter fun i => decide (ys.getD i 0 = maxL ys)
def pre_likeliest_days : Pr := fun ss own post => ∃ (ys : List Int), ss = [.d (li ys)] ∧ own = [] ∧ Yr ys ∧ post = fun o => ∃ p, o = .ret (.raw (.ref p)) [(p, .lst ((nI (lkd ys)).map PyData.int))]
theorem fn_likeliest_days (T : Tx K mg c) : Fn K mg P w base "likeliest_days" ["year"] 4 pre_likeliest_days := T.d_likeliest_days.fn fun f fd F => okG (k := 3) F sc_likeliest_days (by rintro ss own post ⟨ys, rfl, _⟩; rfl) (by
  rintro ss own post ⟨ys, rfl, rfl, hY, rfl⟩ cdv A outer s H E B g
  refine sds_cons (sd_expr (es_call (fn_check_year T) g (by decide) (ea_cons (ed_v 0) ea_nil) (ok_year hY)) ?_)
  have hl := hY.hi
  refine sds_one (sd_retL (ds := (nI (lkd ys)).map PyData.int) (EL.is (el_comp g (compP g (it_enum T.n_enumerate (ed_v 0)) [("day", 1), ("weight", 2)] (blkOk_by (N := ["year", "day", "weight"]) (sc := defScope s_likeliest_days) (by decide +kernel)) (List.range ys.length) (fun (k : Nat) => PyData.tuple [.int (k : Int), .int (ys.getD k 0)]) (enumD_ints ys) (fun k => if ys.getD k 0 = maxL ys then some (.int (k : Int)) else none) (fun k => [.d (li ys), .d (.int (k : Int)), .d (.int (ys.getD k 0))]) [1, 2] (by simp) (by rw [List.length_range]; omega) (fun _ _ => trivial)
        (fun k _ s H C cl fp g' => gt_tup g'.calm (gts_cons (gt_name 1 g'.nd) (gts_cons (gt_name 2 g'.nd) gts_nil)) rfl) (fun k hk s H C cl fp o g' => ets_one (ET.is (et_cmp c_eqI (ed_v 2) (ed_max (ns := ys) (m := maxL ys) g' T.n_max (ed_v 0) .d hY.max_mem hY.max_le)) ?_)) (fun k hk x hx s H C cl fp o g' => ?_))) ?_) fun p => ⟨p, rfl⟩)
  · by_cases h : ys.getD k 0 = maxL ys
    · rw [if_pos h, decide_eq_true h]; rfl
    · rw [if_neg h, decide_eq_false h]; rfl
  · by_cases h : ys.getD k 0 = maxL ys
    · rw [if_pos h] at hx
      cases hx
      exact ed_v 1
    · rw [if_neg h] at hx
      cases hx
  · unfold lkd nI
    rw [List.map_map]
    rw [← List.filterMap_eq_filter, List.map_filterMap]
    refine fm_congr fun k _ => ?_
    by_cases h : ys.getD k 0 = maxL ys <;> simp [Option.guard, h])
end
end Pg

namespace Pg
open PySem PySem.Spec PyProof.Rows L2 Sd
section
variable {P : Program} {w : World} {K : PySem.W.Frag} {mg : Str → Option Value} {base : Heap} {c : Cl}
def pre_check_counts : Pr := fun ss own post => ∃ (ys : List Int) (cs : List Nat), ss = [.d (li ys), .d (li (nI cs))] ∧ own = [] ∧ Ct ys cs ∧ ys.length ≤ 8 ∧ post = fun o => o = .ret (.d .none) []
theorem fn_check_counts (T : Tx K mg c) : Fn K mg P w base "check_counts" ["year", "value"] 2 pre_check_counts := T.d_check_counts.fn fun f fd F => okG (k := 1) F sc_check_counts (by rintro ss own post ⟨ys, cs, rfl, _⟩; rfl) (by
  rintro ss own post ⟨ys, cs, rfl, rfl, hC, hl, rfl⟩ cdv A outer s H E B g
  have hlen : (nI cs).length = cs.length := by simp [nI]
  have hcl := hC.len
  refine sds_cons (sd_if (l := false) (ET.is (EW.et (ew_or (et_not (et_val (ed_isi (x := li (nI cs)) (l := true) T.n_isinstance (ed_v 1) .d (ev_ty (T := "list") rfl T.n_list (by decide +kernel)) rfl))) fun _ => ew_or (et_cmp c_neI (ed_len T.n_len (ed_v 1) .d) (ed_len T.n_len (ed_v 0) .d)) fun _ => ew_or1 (et_not (et_val (ed_all (ns := (nI cs).map fun _ => true) g T.n_all (EL.ed (EL.is (el_comp g (compP g (it_list (ed_v 1)) [("one", 2)] (blkOk_by (N := ["year", "value", "one"]) (sc := defScope s_check_counts) (by decide +kernel)) (nI cs) PyData.int rfl (fun n => some (.bool true)) (fun n => [.d (li ys), .d (li (nI cs)), .d (.int n)]) [2] (by simp) (by omega) (fun _ _ => trivial)
        (fun d _ s H C cl fp g' => gt_name 2 g'.nd) (fun d _ s H C cl fp o g' => ets_nil) (fun n hn x hx s H C cl fp o g' => ?_))) ?_)) .d))))) ?_) (fun h => nomatch h) fun _ => sds_nil ?_)
  · cases hx
    refine ES.is (es_call (fn_is_int T) g' (by decide) (ea_cons (ed_v 2) (ea_cons ed_int (ea_cons ed_int ea_nil))) ⟨_, _, _, rfl, rfl, rfl⟩) ?_
    obtain ⟨k, hk, rfl⟩ := List.mem_map.mp hn
    have := nat_mem_sum hk
    have h12 := hC.sum
    have : ((k : Int) ≤ 12) := by omega
    simp [Sd.isInt, this]
  · rw [List.map_map]
    exact List.filterMap_eq_map' .. |>.symm ▸ rfl
  · rw [List.length_map, List.length_map, hlen, hcl]
    simp
  refine sds_one (sd_if (l := false) (ET.is (et_cmp c_gt (ed_sum (ns := nI cs) g T.n_sum (ed_v 1) .d) ed_int) ?_) (fun h => nomatch h) fun _ => sds_nil rfl)
  rw [nI_sum]
  have := hC.sum
  exact decide_eq_false (by omega))
end
end Pg

namespace Pg
open PySem PySem.Spec PyProof.Rows L2 Sd
section
variable {P : Program} {w : World} {K : PySem.W.Frag} {mg : Str → Option Value} {base : Heap} {c : Cl}
def usedW (ys : List Int) (cs : List Nat) : Int := ((ys.zip cs).map fun p => if 0 < p.2 then p.1 else 0).sum
def pre_next_on_used : Pr := fun ss own post => ∃ (ys : List Int) (cs : List Nat), ss = [.d (li ys), .d (li (nI cs))] ∧ own = [] ∧ Yr ys ∧ Ct ys cs ∧ post = fun o => o = .ret (.d (fr ((usedW ys cs : Rat) / ys.sum))) []
theorem usedW_eq (ys : List Int) (cs : List Nat) : (((ys.zip (nI cs)).filterMap fun p => if 0 < p.2 then some p.1 else none)).sum = usedW ys cs := by
  unfold usedW nI
  rw [List.zip_map_right]
  generalize ys.zip cs = l
  induction l with
  | nil => rfl
  | cons q l ih =>
    obtain ⟨a, b⟩ := q
    rw [List.map_cons, List.map_cons, List.sum_cons, List.filterMap_cons]
    by_cases h : 0 < b
    · simp only [Prod.map, id, if_pos h, if_pos (show (0 : Int) < (b : Int) by omega)]
      rw [List.sum_cons, ih]
    · simp only [Prod.map, id, if_neg h, if_neg (show ¬ (0 : Int) < (b : Int) by omega)]
      rw [ih]
      omega
theorem fn_next_on_used (T : Tx K mg c) : Fn K mg P w base "next_on_used" ["year", "counts"] 4 pre_next_on_used := T.d_next_on_used.fn fun f fd F => okG (k := 3) F sc_next_on_used (by rintro ss own post ⟨ys, cs, rfl, _⟩; rfl) (by
  rintro ss own post ⟨ys, cs, rfl, rfl, hY, hC, rfl⟩ cdv A outer s H E B g
  have hl := hY.hi
  refine sds_cons (sd_expr (es_call (fn_check_year T) g (by decide) (ea_cons (ed_v 0) ea_nil) (ok_year hY)) ?_)
  refine sds_cons (sd_expr (es_call (fn_check_counts T) g (by decide) (ea_cons (ed_v 0) (ea_cons (ed_v 1) ea_nil)) ⟨ys, cs, rfl, rfl, hC, hY.hi, rfl⟩) ?_)
  refine sds_one (sd_retD (es_call (fn_lowest T) g (by decide) (ea_cons (ed_sum (ns := (ys.zip (nI cs)).filterMap fun p => if 0 < p.2 then some p.1 else none) g T.n_sum (EL.ed (EL.is (el_comp g (compP g (it_zip T.n_zip (ed_v 0) (ed_v 1)) [("weight", 2), ("own", 3)] (blkOk_by (N := ["year", "counts", "weight", "own"]) (sc := defScope s_next_on_used) (by decide +kernel)) (ys.zip (nI cs)) (fun p => PyData.tuple [.int p.1, .int p.2]) (zipD_ints _ _) (fun p => if 0 < p.2 then some (.int p.1) else none) (fun p => [.d (li ys), .d (li (nI cs)), .d (.int p.1), .d (.int p.2)]) [2, 3] (by simp) (by rw [List.length_zip]; omega) (fun _ _ => trivial)
        (fun p _ s H C cl fp g' => gt_tup g'.calm (gts_cons (gt_name 2 g'.nd) (gts_cons (gt_name 3 g'.nd) gts_nil)) rfl) (fun p hk s H C cl fp o g' => ets_one (ET.is (et_cmp c_gt (ed_v 3) ed_int) ?_)) (fun p hk x hx s H C cl fp o g' => ?_))) ?_)) .d) (ea_cons (ed_sum g T.n_sum (ed_v 0) .d) ea_nil)) ⟨_, _, rfl, rfl, by have := hY.sum_lo; omega, hY.szW.mono (by decide), rfl⟩) ?_)
  · by_cases h : 0 < p.2
    · rw [if_pos h, decide_eq_true h]; rfl
    · rw [if_neg h, decide_eq_false h]; rfl
  · by_cases h : 0 < p.2
    · rw [if_pos h] at hx
      cases hx
      exact ed_v 2
    · rw [if_neg h] at hx
      cases hx
  · rw [List.map_filterMap]
    refine fm_congr fun q _ => ?_
    by_cases h : 0 < q.2 <;> simp [h]
  · rw [usedW_eq])
end
end Pg

namespace Pg
open PySem PySem.Spec PyProof.Rows L2 Sd
section
variable {P : Program} {w : World} {K : PySem.W.Frag} {mg : Str → Option Value} {base : Heap} {c : Cl}
def pre_minus : Pr := fun ss own post => ∃ (p q : Rat) (m n : Nat), ss = [.d (fr p), .d (fr q)] ∧ own = [] ∧ Sq m p ∧ Sq n q ∧ m + n ≤ 8990 ∧ post = fun o => o = .ret (.d (fr (p - q))) []
theorem fn_minus (T : Tx K mg c) : Fn K mg P w base "minus" ["one", "other"] 3 pre_minus := T.d_minus.fn fun f fd F => okG (k := 2) F sc_minus (by rintro ss own post ⟨p, q, m, n, rfl, _⟩; rfl) (by
  rintro ss own post ⟨p, q, m, n, rfl, rfl, hp, hq, hmn, rfl⟩ cdv A outer s H E B g
  refine sds_one (sd_retD (es_call (fn_lowest T) g (by decide) (ea_cons (ed_sub (ed_mul (ed_ixT (ed_v 0) ed_int rfl) (ed_ixT (ed_v 1) ed_int rfl) (cmul_of hp.num hq.den (by omega))) (ed_mul (ed_ixT (ed_v 1) ed_int rfl) (ed_ixT (ed_v 0) ed_int rfl) (cmul_of hq.num hp.den (by omega))))
    (ea_cons (ed_mul (ed_ixT (ed_v 0) ed_int rfl) (ed_ixT (ed_v 1) ed_int rfl) (cmul_of hp.den hq.den (by omega))) ea_nil)) ⟨_, _, rfl, rfl, Int.mul_pos (den_pos p) (den_pos q), (hp.den.mul hq.den).mono (by omega), rfl⟩) ?_)
  rw [minus_eq])
end
end Pg

namespace Pg
open PySem PySem.Spec PyProof.Rows L2 Sd
section
variable {P : Program} {w : World} {K : PySem.W.Frag} {mg : Str → Option Value} {base : Heap} {c : Cl}
def pre_on_day : Pr := fun ss own post => ∃ (ys : List Int) (j n : Nat) (y : Int), ss = [.d (li ys), .d (.int (j : Int)), .d (.int (n : Int))] ∧ own = [] ∧ Yr ys ∧ ys[j]? = some y ∧ n ≤ 12 ∧ post = fun o => o = .ret (.d (fr (1 - (((ys.sum - y) ^ n : Int) : Rat) / ((ys.sum ^ n : Int) : Rat)))) []
theorem fn_on_day (T : Tx K mg c) : Fn K mg P w base "on_day" ["year", "day", "many"] 4 pre_on_day := T.d_on_day.fn fun f fd F => okG (k := 3) F sc_on_day (by rintro ss own post ⟨ys, j, n, y, rfl, _⟩; rfl) (by
  rintro ss own post ⟨ys, j, n, y, rfl, rfl, hY, hj, hn, rfl⟩ cdv A outer s H E B g
  have hl := (List.getElem?_eq_some_iff.mp hj).1
  have hm : y ∈ ys := List.mem_of_getElem? hj
  refine sds_cons (sd_expr (es_call (fn_check_year T) g (by decide) (ea_cons (ed_v 0) ea_nil) (ok_year hY)) ?_)
  refine sds_cons (sd_expr (es_call (fn_check_day T) g (by decide) (ea_cons (ed_v 0) (ea_cons (ed_v 1) ea_nil)) (ok_day ⟨by omega, by omega⟩)) ?_)
  refine sds_cons (sd_expr (es_call (fn_check_many T) g (by decide) (ea_cons (ed_v 2) ea_nil) (ok_many ⟨by omega, by omega⟩)) ?_)
  have h1 : Sz 97 ((ys.sum - y) ^ n) := ((hY.szD hm).pow n).mono (by omega)
  have h2 : Sz 97 (ys.sum ^ n) := (hY.szW.pow n).mono (by omega)
  exact sds_one (sd_retD (es_call (fn_minus T) g (by decide) (ea_cons (ed_k2 (i := 1) (i' := 1)) (ea_cons (es_call (fn_lowest T) g (by decide) (ea_cons (es_call (fn_power T) g (by decide) (ea_cons (ed_sub (ed_sum g T.n_sum (ed_v 0) .d) (ed_ixL (ed_v 0) (ed_v 1) .d (getI hj))) (ea_cons (ed_v 2) ea_nil)) ⟨_, n, 8, rfl, rfl, hY.szD hm, by omega, by decide, rfl⟩)
    (ea_cons (es_call (fn_power T) g (by decide) (ea_cons (ed_sum g T.n_sum (ed_v 0) .d) (ea_cons (ed_v 2) ea_nil)) ⟨_, n, 8, rfl, rfl, hY.szW, by omega, by decide, rfl⟩) ea_nil)) ⟨_, _, rfl, rfl, hY.posP n, h2.mono (by decide), rfl⟩) ea_nil)) ⟨1, _, 1, 97, rfl, rfl, .one, Sq.of_div (hY.posP n) h1 h2, by decide, rfl⟩) rfl))
end
end Pg

namespace Pg
open PySem PySem.Spec PyProof.Rows L2 Sd
section
variable {P : Program} {w : World} {K : PySem.W.Frag} {mg : Str → Option Value} {base : Heap} {c : Cl}
def pre_placed : Pr := fun ss own post => ∃ (ys : List Int) (cs : List Nat), ss = [.d (li ys), .d (li (nI cs))] ∧ own = [] ∧ Yr ys ∧ Ct ys cs ∧ post = fun o => o = .ret (.d (fr ((plcW ys cs cs.sum : Rat) / ((ys.sum ^ cs.sum : Int) : Rat)))) []
theorem fn_placed (T : Tx K mg c) : Fn K mg P w base "placed" ["year", "counts"] 4 pre_placed := T.d_placed.fn fun f fd F => okG (k := 3) F sc_placed (by rintro ss own post ⟨ys, cs, rfl, _⟩; rfl) (by
  rintro ss own post ⟨ys, cs, rfl, rfl, hY, hC, rfl⟩ cdv A outer s H E B g
  have hl := hY.hi
  have h12 := hC.sum
  have hcl := hC.len
  refine sds_cons (sd_expr (es_call (fn_check_year T) g (by decide) (ea_cons (ed_v 0) ea_nil) (ok_year hY)) ?_)
  refine sds_cons (sd_expr (es_call (fn_check_counts T) g (by decide) (ea_cons (ed_v 0) (ea_cons (ed_v 1) ea_nil)) ⟨ys, cs, rfl, rfl, hC, hY.hi, rfl⟩) ?_)
  refine sds_cons (sd_par 2 3 g (ea_cons ed_int (ea_cons (ed_sum (ns := nI cs) g T.n_sum (ed_v 1) .d) ea_nil)) ?_)
  rw [nI_sum]
  have hz : zipD ((ys).map PyData.int) ((nI cs).map PyData.int) = (ys.zip cs).map fun p => PyData.tuple [.int p.1, .int (p.2 : Nat)] := by
    rw [zipD_ints]
    unfold nI
    rw [List.zip_map_right, List.map_map]
    rfl
  refine sds_cons (sd_for g (it_zip T.n_zip (ed_v 0) (ed_v 1)) (fun i ρ own => own = [] ∧ ∃ (ways : Int) (left : Nat), Sz (120 * i + 1) ways ∧ left = (cs.drop i).sum ∧ ways * plcW (ys.drop i) (cs.drop i) left = plcW ys cs cs.sum ∧ ∃ t u, ρ = [.d (li ys), .d (li (nI cs)), .d (.int ways), .d (.int (left : Int)), t, u]) ⟨rfl, 1, cs.sum, Sz.one, rfl, by simp, _, _, rfl⟩ (fun _ _ _ _ => trivial) ?_ ?_)
  · rintro i y ρ1 own1 hy ⟨rfl, ways, left, hs, hleft, he, t, u, rfl⟩
    rw [hz, List.getElem?_map] at hy
    cases ea : (ys.zip cs)[i]? with
    | none => rw [ea] at hy; cases hy
    | some q =>
      obtain ⟨y', k⟩ := q
      rw [ea] at hy
      cases hy
      rw [List.getElem?_zip_eq_some] at ea
      have hm : y' ∈ ys := List.mem_of_getElem? ea.1
      have hi := (List.getElem?_eq_some_iff.mp ea.1).1
      have d1 : ys.drop i = y' :: ys.drop (i + 1) := by
        rw [List.drop_eq_getElem_cons hi]
        congr 1
        exact (List.getElem?_eq_some_iff.mp ea.1).2
      have hi2 := (List.getElem?_eq_some_iff.mp ea.2).1
      have d2 : cs.drop i = k :: cs.drop (i + 1) := by
        rw [List.drop_eq_getElem_cons hi2]
        congr 1
        exact (List.getElem?_eq_some_iff.mp ea.2).2
      have dsum : left = k + (cs.drop (i + 1)).sum := by rw [hleft, d2, List.sum_cons]
      have ds12 : left ≤ 12 := by
        have : (cs.take i).sum + (cs.drop i).sum = cs.sum := by rw [← List.sum_append, List.take_append_drop]
        omega
      have h1 : Sz 97 (y' ^ k) := ((hY.szy hm).pow k).mono (by omega)
      have h4 : Sz 13 (bin left k : Nat) := (bin_sz left k).mono (by omega)
      refine ⟨_, _, gt_tup g.calm (gts_cons (gt_name 4 g.nd) (gts_cons (gt_name 5 g.nd) gts_nil)) rfl, sds_cons (sd_aug 2 iop_mulW g.nd rfl (ed_mul (es_call (fn_choose T) g (by decide) (ea_cons (ed_v 3) (ea_cons (ed_v 5) ea_nil)) ⟨left, k, rfl, rfl, by omega, by omega, rfl⟩) (es_call (fn_power T) g (by decide) (ea_cons (ed_v 4) (ea_cons (ed_v 5) ea_nil)) ⟨y', k, 8, rfl, rfl, hY.szy hm, by omega, by decide, rfl⟩) (cmul_of h4 h1 (by decide))) (cmul_of hs (h4.mul h1) (by omega)) ?_)⟩
      refine sds_one (sd_aug 3 iop_subC g.nd rfl (ed_v 5) trivial ?_)
      refine ⟨rfl, ways * ((bin left k : Nat) * y' ^ k), left - k, (hs.mul (h4.mul h1)).mono (by omega), by omega, ?_, .d (.int y'), .d (.int (k : Int)), ?_⟩
      · rw [← he, d1, d2]
        show _ = ways * ((bin left k : Nat) * y' ^ k * plcW (ys.drop (i + 1)) (cs.drop (i + 1)) (left - k))
        rw [Int.mul_assoc]
      · have e : (left : Int) - (k : Int) = ((left - k : Nat) : Int) := by omega
        show [Slot.d (li ys), .d (li (nI cs)), .d (.int (ways * ((bin left k : Nat) * y' ^ k))), .d (.int ((left : Int) - (k : Int))), .d (.int y'), .d (.int (k : Int))] = _
        rw [e]
  · rintro ρ1 own1 ⟨rfl, ways, left, hs, hleft, he, t, u, rfl⟩
    have hlen : (zipD ((ys).map PyData.int) ((nI cs).map PyData.int)).length = ys.length := by
      rw [hz, List.length_map, List.length_zip, hcl]
      simp
    rw [hlen] at he
    have e1 : ys.drop ys.length = [] := List.drop_length
    rw [e1] at he
    have e2 : ways = plcW ys cs cs.sum := by
      rw [← he]
      simp [plcW]
    subst e2
    have h3 : Sz 97 (ys.sum ^ cs.sum) := (hY.szW.pow cs.sum).mono (by omega)
    refine sds_one (sd_retD (es_call (fn_lowest T) g (by decide) (ea_cons (ed_v 2) (ea_cons (es_call (fn_power T) g (by decide) (ea_cons (ed_sum g T.n_sum (ed_v 0) .d) (ea_cons (ed_sum (ns := nI cs) g T.n_sum (ed_v 1) .d) ea_nil)) ⟨_, cs.sum, 8, by rw [nI_sum], rfl, hY.szW, by omega, by decide, rfl⟩) ea_nil)) ⟨_, _, rfl, rfl, hY.posP _, h3.mono (by decide), rfl⟩) rfl))
end
end Pg

namespace Pg
open PySem PySem.Spec PyProof.Rows L2 Sd
section
variable {P : Program} {w : World} {K : PySem.W.Frag} {mg : Str → Option Value} {base : Heap} {c : Cl}
def pre_share_of : Pr := fun ss own post => ∃ (ys : List Int) (j : Nat) (y : Int), ss = [.d (li ys), .d (.int (j : Int))] ∧ own = [] ∧ Yr ys ∧ ys[j]? = some y ∧ post = fun o => o = .ret (.d (fr ((y : Rat) / ys.sum))) []
theorem fn_share_of (T : Tx K mg c) : Fn K mg P w base "share_of" ["year", "day"] 4 pre_share_of := T.d_share_of.fn fun f fd F => okG (k := 3) F sc_share_of (by rintro ss own post ⟨ys, j, y, rfl, _⟩; rfl) (by
  rintro ss own post ⟨ys, j, y, rfl, rfl, hY, hj, rfl⟩ cdv A outer s H E B g
  have hl := (List.getElem?_eq_some_iff.mp hj).1
  refine sds_cons (sd_expr (es_call (fn_check_year T) g (by decide) (ea_cons (ed_v 0) ea_nil) (ok_year hY)) ?_)
  refine sds_cons (sd_expr (es_call (fn_check_day T) g (by decide) (ea_cons (ed_v 0) (ea_cons (ed_v 1) ea_nil)) (ok_day ⟨by omega, by omega⟩)) ?_)
  exact sds_one (sd_retD (es_call (fn_lowest T) g (by decide) (ea_cons (ed_ixL (ed_v 0) (ed_v 1) .d (getI hj)) (ea_cons (ed_sum g T.n_sum (ed_v 0) .d) ea_nil)) ⟨_, _, rfl, rfl, by have := hY.sum_lo; omega, hY.szW.mono (by decide), rfl⟩) rfl))
end
end Pg

namespace Pg
open PySem PySem.Spec PyProof.Rows L2 Sd
section
variable {P : Program} {w : World} {K : PySem.W.Frag} {mg : Str → Option Value} {base : Heap} {c : Cl}
theorem plcW_zeros : ∀ (ys : List Int) (m left : Nat), plcW ys (List.replicate m 0) left = 1
  | [], _, _ => by simp [plcW]
  | _ :: _, 0, _ => by simp [plcW]
  | y :: ys, m + 1, left => by
    rw [List.replicate_succ]
    show (bin left 0 : Nat) * y ^ 0 * plcW ys (List.replicate m 0) (left - 0) = 1
    rw [bin_zero, plcW_zeros ys m]
    simp
theorem plcW_one : ∀ (ys : List Int) (j n : Nat) (y : Int), ys[j]? = some y → plcW ys ((List.replicate ys.length 0).set j n) n = y ^ n
  | [], _, _, _, h => by simp at h
  | x :: ys, 0, n, y, h => by
    have e : x = y := by simpa using h
    subst e
    rw [List.length_cons, List.replicate_succ, List.set_cons_zero]
    show (bin n n : Nat) * x ^ n * plcW ys (List.replicate ys.length 0) (n - n) = x ^ n
    rw [bin_self, plcW_zeros]
    simp
  | x :: ys, j + 1, n, y, h => by
    rw [List.length_cons, List.replicate_succ, List.set_cons_succ]
    show (bin n 0 : Nat) * x ^ 0 * plcW ys ((List.replicate ys.length 0).set j n) (n - 0) = y ^ n
    rw [bin_zero, Nat.sub_zero, plcW_one ys j n y (by simpa using h)]
    simp
theorem sum_zeros : ∀ m : Nat, (List.replicate m (0 : Nat)).sum = 0
  | 0 => rfl
  | m + 1 => by rw [List.replicate_succ, List.sum_cons, sum_zeros m]
theorem sum_one : ∀ (m j n : Nat), j < m → ((List.replicate m 0).set j n).sum = n
  | 0, _, _, h => by omega
  | m + 1, 0, n, _ => by rw [List.replicate_succ, List.set_cons_zero, List.sum_cons, sum_zeros]; omega
  | m + 1, j + 1, n, h => by rw [List.replicate_succ, List.set_cons_succ, List.sum_cons, sum_one m j n (by omega)]; omega
theorem usedW_ones : ∀ (ys : List Int), usedW ys (List.replicate ys.length 1) = ys.sum
  | [] => rfl
  | y :: ys => by
    have := usedW_ones ys
    unfold usedW at *
    rw [List.length_cons, List.replicate_succ, List.zip_cons_cons, List.map_cons, List.sum_cons, List.sum_cons, this]
    rfl
theorem usedW_zeros : ∀ (ys : List Int), usedW ys (List.replicate ys.length 0) = 0
  | [] => rfl
  | y :: ys => by
    have := usedW_zeros ys
    unfold usedW at *
    rw [List.length_cons, List.replicate_succ, List.zip_cons_cons, List.map_cons, List.sum_cons, this]
    rfl
theorem nI_rep (m k : Nat) : nI (List.replicate m k) = List.replicate m (k : Int) := by simp [nI]
theorem lkd_mem {ys : List Int} {i : Nat} (h : i ∈ lkd ys) : ∃ y, ys[i]? = some y ∧ y = maxL ys := by
  unfold lkd at h
  obtain ⟨h1, h2⟩ := List.mem_filter.mp h
  have hl : i < ys.length := by simpa using h1
  refine ⟨ys[i], List.getElem?_eq_getElem hl, ?_⟩
  have := of_decide_eq_true h2
  rw [List.getD_eq_getElem?_getD, List.getElem?_eq_getElem hl] at this
  exact this
theorem lkd_ne {ys : List Int} (hY : Yr ys) : ∃ j r, lkd ys = j :: r := by
  obtain ⟨i, hi, e⟩ := List.getElem_of_mem hY.max_mem
  have hm : i ∈ lkd ys := by
    unfold lkd
    refine List.mem_filter.mpr ⟨by simpa using hi, ?_⟩
    rw [List.getD_eq_getElem?_getD, List.getElem?_eq_getElem hi]
    exact decide_eq_true e
  cases h : lkd ys with
  | nil => rw [h] at hm; cases hm
  | cons j r => exact ⟨j, r, rfl⟩
theorem lkd_sorted (ys : List Int) : (nI (lkd ys)).Pairwise (· ≤ ·) := by
  unfold nI lkd
  exact List.Pairwise.map _ (fun a b (h : a < b) => by show (a : Int) ≤ (b : Int); omega) (List.Pairwise.filter _ List.pairwise_lt_range)
def pre_law_best : Pr := fun ss own post => ∃ (d q : Addr) (cells : List Int) (cnt : Int) (ys : List Int) (n : Nat), ss = [.raw (.ref d), .d (li ys), .d (.int (ys.length : Int)), .d (.int ys.sum), .d (.int (n : Int))] ∧ own = drw d q cells cnt ∧ cells ≠ [] ∧ Yr ys ∧ n ≤ 12 ∧ post = fun o => ∃ own', o = .ret (.d (.bool true)) own'
theorem fn_law_best (T : Tx K mg c) : Fn K mg P w base "_law_best" ["draws", "year", "size", "whole", "many"] 5 pre_law_best := T.d_law_best.fn fun f fd F => okG (k := 4) F sc_law_best (by rintro ss own post ⟨d, q, cells, cnt, ys, n, rfl, _⟩; rfl) (by
  rintro ss own post ⟨d, q, cells, cnt, ys, n, rfl, rfl, hc, hY, hn, rfl⟩ cdv A outer s H E B g
  have hl := hY.hi
  have hlo := hY.lo
  have hW := hY.sum_lo
  have hWq : (0 : Rat) < (ys.sum : Rat) := by
    have : (0 : Int) < ys.sum := by omega
    exact_mod_cast this
  -- best
  refine sds_cons (sd_setL 5 g.nd (el_call (fn_likeliest_days T) g (by decide) (ea_cons (ed_v 1) ea_nil) ⟨ys, rfl, rfl, hY, rfl⟩) fun p => ?_)
  refine sds_freeze 5 (oa := []) rfl ?_
  obtain ⟨j0, r0, hj0⟩ := lkd_ne hY
  obtain ⟨y0, hy0, ey0⟩ := lkd_mem (show j0 ∈ lkd ys by rw [hj0]; simp)
  have hb0 : atI ((nI (lkd ys)).map PyData.int) (0 : Int) = some (.int (j0 : Int)) := by
    rw [hj0]
    exact atI_nat (j := 0) rfl
  have hsq : ∀ {i : Nat} {y : Int}, ys[i]? = some y → Sq 8 ((y : Rat) / ys.sum) := fun {i y} h => Sq.of_div (by omega) (hY.szy (List.mem_of_getElem? h)) hY.szW
  refine sds_cons (sd_if (l := false) (ET.is (EW.et (ew_or (et_cmp (c_ne g .d .d (sh_ints []) (sh_ints [])) (EL.ed (EL.is (el_comp g (compP g (it_range1 T.n_range (ed_v 2) ⟨by omega, by omega⟩) [("day", 7)] (blkOk_by (N := ["draws", "year", "size", "whole", "many", "best", "shares", "day", "counts", "two", "few", "k"]) (sc := defScope s_law_best) (by decide +kernel)) (List.range ys.length) (fun (k : Nat) => PyData.int (0 + (k : Int))) (by rw [Int.toNat_natCast]; rfl) (fun _ => none) (fun (k : Nat) => [.raw (.ref d), .d (li ys), .d (.int (ys.length : Int)), .d (.int ys.sum), .d (.int (n : Int)), .d (li (nI (lkd ys))), .un, .d (.int (0 + (k : Int))), .un, .un, .un, .un]) [7] (by simp) (by rw [List.length_range]; omega) (fun _ _ => trivial)
      (fun k _ s H C cl fp g' => gt_name 7 g'.nd) (fun k hk s H C cl fp o g' => ?_) (fun k hk x hx s H C cl fp o g' => nomatch hx))) ?_)) (ed_lst (ds := []) ea_nil)) fun _ => ew_or1 (et_cmp (c_ne g .d .d (sh_ints (nI (lkd ys))) (sh_ints (nI (lkd ys)))) (ed_v 5) (EL.ed (el_sorted (ns := nI (lkd ys)) (res := nI (lkd ys)) T.n_sorted (ed_v 5) .d ?_ ?_))))) ?_) (fun h => nomatch h) fun _ => sds_nil ?_)
  · have hk : k < ys.length := by simpa using hk
    have hky : ys[k]? = some ys[k] := List.getElem?_eq_getElem hk
    have e0 : (0 : Int) + (k : Int) = (k : Int) := by omega
    rw [e0]
    refine ets_one (ET.is (et_val (es_call (fn_law_less T) g' (by decide) (ea_cons (es_call (fn_share_of T) g' (by decide) (ea_cons (ed_v 1) (ea_cons (ed_ixL (ed_v 5) ed_int .d hb0) ea_nil)) ⟨ys, j0, y0, rfl, rfl, hY, hy0, rfl⟩) (ea_cons (es_call (fn_share_of T) g' (by decide) (ea_cons (ed_v 1) (ea_cons (ed_v 7) ea_nil)) ⟨ys, k, _, rfl, rfl, hY, hky, rfl⟩) ea_nil)) ⟨_, _, 8, 8, rfl, rfl, hsq hy0, hsq hky, by decide, rfl⟩)) ?_)
    refine decide_eq_false fun hlt => ?_
    have h1 : ys[k] ≤ y0 := by rw [ey0]; exact hY.max_le _ (List.getElem_mem hk)
    have h2 : (ys[k] : Rat) ≤ (y0 : Rat) := by exact_mod_cast h1
    have h3 : (ys[k] : Rat) / ys.sum ≤ (y0 : Rat) / ys.sum := by
      rw [Rat.div_def, Rat.div_def]
      exact Rat.mul_le_mul_of_nonneg_right h2 (Rat.le_of_lt (Rat.inv_pos.mpr hWq))
    grind
  · simp
  · unfold nI lkd
    rw [List.length_map]
    have := List.length_filter_le (fun i => decide (ys.getD i 0 = maxL ys)) (List.range ys.length)
    rw [List.length_range] at this
    omega
  · intro ns' hp ho
    exact List.Perm.eq_of_pairwise (fun a b _ _ h1 h2 => Int.le_antisymm h1 h2) ho (lkd_sorted ys) hp
  · rw [eqv_self (shp_ints []), eqv_self (shp_ints (nI (lkd ys)))]
    rfl
  -- shares
  refine sds_cons (sd_set 6 g.nd (ed_tup (ds := [.int 0, .int 1]) (ea_cons ed_int (ea_cons ed_int ea_nil))) ?_)
  refine sds_cons (sd_for g (it_range1 T.n_range (ed_v 2) ⟨by omega, by omega⟩) (fun i ρ own => own = drw d q cells cnt ∧ i ≤ ys.length ∧ Sq (20 * i + 1) (((ys.take i).sum : Rat) / ys.sum) ∧ ∃ t, ρ = [.raw (.ref d), .d (li ys), .d (.int (ys.length : Int)), .d (.int ys.sum), .d (.int (n : Int)), .d (li (nI (lkd ys))), .d (fr (((ys.take i).sum : Rat) / ys.sum)), t, .un, .un, .un, .un]) ⟨rfl, Nat.zero_le _, ?_, .un, ?_⟩ (fun _ _ _ _ => trivial) ?_ ?_)
  · have e : (((ys.take 0).sum : Int) : Rat) / ys.sum = 0 := by
      show ((0 : Int) : Rat) / _ = 0
      rw [Rat.div_def]
      simp [Rat.zero_mul]
    rw [e]
    exact .zero
  · have e : (((ys.take 0).sum : Int) : Rat) / ys.sum = 0 := by
      show ((0 : Int) : Rat) / _ = 0
      rw [Rat.div_def]
      simp [Rat.zero_mul]
    rw [e]
    rfl
  · rintro i y ρ1 own1 hy ⟨rfl, _, hs, t, rfl⟩
    obtain ⟨hi, rfl⟩ := rng_get hy
    have hi : i < ys.length := by omega
    have hiy : ys[i]? = some ys[i] := List.getElem?_eq_getElem hi
    have e0 : (0 : Int) + (i : Int) = (i : Int) := by omega
    rw [e0]
    have en : ((ys.take i).sum : Rat) / ys.sum + (ys[i] : Rat) / ys.sum = (((ys.take (i + 1)).sum : Int) : Rat) / ys.sum := by
      rw [sum_take hiy]
      push_cast
      grind
    refine ⟨_, _, gt_name 7 g.nd, sds_one (sd_set 6 g.nd (es_call (fn_law_add T) g (by decide) (ea_cons (ed_v 6) (ea_cons (es_call (fn_share_of T) g (by decide) (ea_cons (ed_v 1) (ea_cons (ed_v 7) ea_nil)) ⟨ys, i, _, rfl, rfl, hY, hiy, rfl⟩) ea_nil)) ⟨_, _, _, 8, rfl, rfl, hs, hsq hiy, by omega, rfl⟩) ?_)⟩
    rw [en]
    refine ⟨rfl, hi, ?_, _, rfl⟩
    rw [← en]
    exact (hs.add (hsq hiy)).mono (by omega)
  rintro ρ1 own1 ⟨rfl, _, hs, t, rfl⟩
  rw [rng_length, Int.toNat_natCast, List.take_length]
  have e1 : (ys.sum : Rat) / ys.sum = 1 := by grind
  rw [e1]
  -- counts
  refine sds_cons (sd_setL 8 g.nd (EL.is (el_rep (ed_lst (ds := [.int 0]) (ea_cons ed_int ea_nil)) (ed_v 2) .d ⟨by omega, by omega⟩ (by simp)) (show _ = (List.replicate ys.length (PyData.int 0)) by rw [Int.toNat_natCast, List.flatten_replicate_singleton])) fun p2 => ?_)
  refine sds_cons (sd_setitemG (P := fun i o => ∃ cells' cnt', 0 ≤ i ∧ i < (ys.length : Int) ∧ cells' ≠ [] ∧ o = drw d q cells' cnt') (ed_v 4) (ev_v 8) (eg_call (oa := [(p2, .lst (List.replicate ys.length (PyData.int 0)))]) (o1 := drw d q cells cnt) (ob := []) (fn_law_draw T) g (by decide) (ea_cons (ev_v 0) (ea_cons (ed_v 2) ea_nil)) ⟨d, q, cells, cnt, _, rfl, rfl, hc, by omega, by omega, rfl⟩ ?_ ?_) ?_)
  · rintro t o1 ⟨r, cells', cnt', h0, h1, h2, e⟩
    cases e
    exact ⟨r, drw d q cells' cnt', rfl, by simp, cells', cnt', h0, h1, h2, rfl⟩
  · rintro C o1 ⟨r, cells', cnt', h0, h1, h2, e⟩
    cases e
  rintro i o' ⟨cells', cnt', h0, h1, h2, rfl⟩
  obtain ⟨j, rfl⟩ : ∃ j : Nat, i = (j : Int) := ⟨i.toNat, by omega⟩
  have hj : j < ys.length := by omega
  refine ⟨j, ?_, ?_⟩
  · unfold ixN
    rw [List.length_replicate, if_pos (by omega), if_pos (by omega)]
    simp
  obtain ⟨cs, hcs⟩ : ∃ cs : List Nat, cs = (List.replicate ys.length 0).set j n := ⟨_, rfl⟩
  have ecs : (List.replicate ys.length (PyData.int 0)).set j (.int (n : Int)) = (nI cs).map PyData.int := by
    rw [hcs]
    unfold nI
    rw [List.map_set, List.map_set, List.map_replicate, List.map_replicate]
    rfl
  rw [ecs]
  have hcl : cs.length = ys.length := by rw [hcs]; simp
  have hcsum : cs.sum = n := by rw [hcs]; exact sum_one _ _ _ hj
  have hCt : Ct ys cs := ⟨hcl, by omega⟩
  refine sds_freeze 8 (oa := []) rfl ?_
  -- day
  have hnd : ∃ j1 r1, ((List.range ys.length).filter fun k => decide (cs.getD k 0 = n)) = j1 :: r1 := by
    have hm : j ∈ (List.range ys.length).filter fun k => decide (cs.getD k 0 = n) := List.mem_filter.mpr ⟨by simpa using hj, decide_eq_true (by rw [hcs, List.getD_eq_getElem?_getD, List.getElem?_set_self (by simpa using hj)]; rfl)⟩
    cases h : (List.range ys.length).filter fun k => decide (cs.getD k 0 = n) with
    | nil => rw [h] at hm; cases hm
    | cons j1 r1 => exact ⟨j1, r1, rfl⟩
  obtain ⟨j1, r1, hj1⟩ := hnd
  have hj1m : j1 ∈ (List.range ys.length).filter fun k => decide (cs.getD k 0 = n) := by rw [hj1]; simp
  obtain ⟨a1, a2⟩ := List.mem_filter.mp hj1m
  have hj1l : j1 < ys.length := by simpa using a1
  have hcj1 : cs.getD j1 0 = n := of_decide_eq_true a2
  have efl : ((List.range ys.length).filterMap fun k => if cs.getD k 0 = n then some (PyData.int (k : Int)) else none) = ((List.range ys.length).filter fun k => decide (cs.getD k 0 = n)).map fun (k : Nat) => PyData.int (k : Int) := by
    rw [← List.filterMap_eq_filter, List.map_filterMap]
    refine fm_congr fun k _ => ?_
    by_cases h : cs.getD k 0 = n <;> simp [Option.guard, h]
  refine sds_cons (sd_set 7 g.nd (ed_ixL (d := .int (j1 : Int)) (EL.ed (el_comp g (compP g (it_range1 T.n_range (ed_v 2) ⟨by omega, by omega⟩) [("k", 11)] (blkOk_by (N := ["draws", "year", "size", "whole", "many", "best", "shares", "day", "counts", "two", "few", "k"]) (sc := defScope s_law_best) (by decide +kernel)) (List.range ys.length) (fun (k : Nat) => PyData.int (0 + (k : Int))) (by rw [Int.toNat_natCast]; rfl) (fun k => if cs.getD k 0 = n then some (.int (k : Int)) else none) (fun (k : Nat) => [.raw (.ref d), .d (li ys), .d (.int (ys.length : Int)), .d (.int ys.sum), .d (.int (n : Int)), .d (li (nI (lkd ys))), .d (fr 1), t, .d (li (nI cs)), .un, .un, .d (.int (0 + (k : Int)))]) [11] (by simp) (by rw [List.length_range]; omega) (fun _ _ => trivial)
      (fun k _ s H C cl fp g' => gt_name 11 g'.nd) (fun k hk s H C cl fp o g' => ?_) (fun k hk x hx s H C cl fp o g' => ?_)))) ed_int .d ?_) ?_)
  · have hk : k < ys.length := by simpa using hk
    have hkc : (nI cs)[k]? = some ((cs.getD k 0 : Nat) : Int) := by
      unfold nI
      rw [List.getElem?_map, List.getD_eq_getElem?_getD, List.getElem?_eq_getElem (by omega)]
      rfl
    have e0 : (0 : Int) + (k : Int) = (k : Int) := by omega
    rw [e0]
    refine ets_one (ET.is (et_cmp c_eqI (ed_ixL (ed_v 8) (ed_v 11) .d (getI hkc)) (ed_v 4)) ?_)
    by_cases h : cs.getD k 0 = n
    · rw [if_pos h, h, decide_eq_true rfl]; rfl
    · rw [if_neg h, decide_eq_false (fun z => h (by omega))]; rfl
  · by_cases h : cs.getD k 0 = n
    · rw [if_pos h] at hx
      cases hx
      have e0 : (0 : Int) + (k : Int) = (k : Int) := by omega
      rw [e0]
      exact ed_v 11
    · rw [if_neg h] at hx
      cases hx
  · rw [efl, hj1]
    exact atI_nat (j := 0) rfl
  have hy1 : ys[j1]? = some ys[j1] := List.getElem?_eq_getElem hj1l
  have epl : plcW ys cs n = ys[j1] ^ n := by
    rw [hcs]
    by_cases h : n = 0
    · subst h
      rw [plcW_one ys j 0 ys[j] (List.getElem?_eq_getElem hj)]
      simp
    · have : j1 = j := by
        rw [hcs, List.getD_eq_getElem?_getD] at hcj1
        by_cases e : j = j1
        · exact e.symm
        · rw [List.getElem?_set_ne e, List.getElem?_replicate, if_pos hj1l] at hcj1
          exact absurd hcj1.symm h
      subst this
      exact plcW_one ys j1 n _ hy1
  have hsz3 : Sz 97 (ys.sum ^ n) := (hY.szW.pow n).mono (by omega)
  have hpj : ((plcW ys cs cs.sum : Int) : Rat) / ((ys.sum ^ cs.sum : Int) : Rat) = ((((bin n n : Nat) * ys[j1] ^ n * (ys.sum - ys[j1]) ^ (n - n) : Int) : Rat) / ((ys.sum ^ n : Int) : Rat)) := by
    rw [hcsum, epl, bin_self, Nat.sub_self]
    congr 2
    simp
  refine sds_cons (sd_if (l := false) (ET.is (EW.et (ew_or (et_cmp (c_ne g .d .d (sh_fr 1) (sh_fr 1)) (ed_v 6) (ed_tup (ds := [.int 1, .int 1]) (ea_cons ed_int (ea_cons ed_int ea_nil)))) fun _ => ew_or1 (et_cmp (c_ne g .d .d (sh_fr _) (sh_fr _)) (es_call (fn_placed T) g (by decide) (ea_cons (ed_v 1) (ea_cons (ed_v 8) ea_nil)) ⟨ys, cs, rfl, rfl, hY, hCt, rfl⟩) (es_call (fn_just_on_day T) g (by decide) (ea_cons (ed_v 1) (ea_cons (ed_v 7) (ea_cons (ed_v 4) (ea_cons (ed_v 4) ea_nil)))) ⟨ys, j1, n, n, _, rfl, rfl, hY, hy1, hn, hn, rfl⟩)))) ?_) (fun h => nomatch h) fun _ => sds_nil ?_)
  · rw [eqv_fr, eqv_fr, hpj]
    simp
  -- a day taken apart
  have tail : ∀ ρ : List Slot, ρ[1]? = some (.d (li ys)) → ρ[2]? = some (.d (.int (ys.length : Int))) → ρ.length = 12 → SDs (ctxOf P w K mg base ["draws", "year", "size", "whole", "many", "best", "shares", "day", "counts", "two", "few", "k"] "_law_best" s_law_best f cdv A outer s H E B (fun C _ own => ∃ own', Out.exc C own = .ret (.d (.bool true)) own')) ((defBody s_law_best).drop 9) { nx := fun _ own => ∃ own', Out.ret (.d .none) own = .ret (.d (.bool true)) own', rt := fun s own => ∃ own', Out.ret s own = .ret (.d (.bool true)) own' } ρ (drw d q cells' cnt') := by
    intro ρ h1 h2 h3
    refine sds_one (sd_retD (ES.is (ed_and (ed_cmp (c_eq g .d .d (sh_fr _) (sh_fr 1)) (es_call (fn_next_on_used T) g (by decide) (ea_cons (ed_v 1 h1) (ea_cons (es_if (k := true) (s := .d (li (nI (List.replicate ys.length 1)))) (ET.is (et_cmp c_le (ed_v 2 h2) ed_int) (decide_eq_true (by omega))) (fun _ => EL.ed (EL.is (el_rep (ed_lst (ds := [.int 1]) (ea_cons ed_int ea_nil)) (ed_v 2 h2) .d ⟨by omega, by omega⟩ (by simp)) ?_)) fun h => nomatch h) ea_nil)) ⟨ys, List.replicate ys.length 1, rfl, rfl, hY, ⟨by simp, ?_⟩, rfl⟩) (ed_tup (ds := [.int 1, .int 1]) (ea_cons ed_int (ea_cons ed_int ea_nil)))) fun _ => ed_one (ed_cmp (c_eq g .d .d (sh_fr _) (sh_fr 0)) (es_call (fn_next_on_used T) g (by decide) (ea_cons (ed_v 1 h1) (ea_cons (EL.ed (EL.is (el_rep (ed_lst (ds := [.int 0]) (ea_cons ed_int ea_nil)) (ed_v 2 h2) .d ⟨by omega, by omega⟩ (by simp)) (show _ = (nI (List.replicate ys.length 0)).map PyData.int from ?_))) ea_nil)) ⟨ys, List.replicate ys.length 0, rfl, rfl, hY, ⟨by simp, ?_⟩, rfl⟩) (ed_tup (ds := [.int 0, .int 1]) (ea_cons ed_int (ea_cons ed_int ea_nil))))) (show _ = PyData.bool true from ?_)) ⟨_, rfl⟩)
    · rw [Int.toNat_natCast, List.flatten_replicate_singleton, nI_rep]
      simp
    · have : ∀ m : Nat, (List.replicate m (1 : Nat)).sum = m := fun m => by
        induction m with
        | zero => rfl
        | succ m ih => rw [List.replicate_succ, List.sum_cons, ih]; omega
      rw [this]
      omega
    · rw [Int.toNat_natCast, List.flatten_replicate_singleton, nI_rep]
      simp
    · rw [sum_zeros]
      omega
    · have z0 : ((0 : Int) : Rat) / ys.sum = 0 := by
        rw [Rat.div_def]
        simp [Rat.zero_mul]
      rw [eqv_fr, eqv_fr, usedW_ones, usedW_zeros, e1, z0]
      simp
  refine sds_cons (sd_if (et_cmp c_gt (ed_v 2) ed_int) (fun h => ?_) fun h => sds_nil (tail _ rfl rfl rfl))
  have hs1 : 1 < ys.length := by
    have : (1 : Int) < (ys.length : Int) := by simpa using h
    omega
  obtain ⟨a0, rest, rfl⟩ : ∃ a0 rest, ys = a0 :: rest := by
    cases ys with
    | nil => simp at hs1
    | cons a0 rest => exact ⟨a0, rest, rfl⟩
  have ha0 := hY.it a0 (by simp)
  have hrest : 1 ≤ rest.sum := by
    have h1 := sum_ge_mul (b := 1) (ys := rest) fun y hy => (hY.it y (by simp [hy])).1
    rw [List.length_cons] at hs1
    omega
  have hsum : (a0 :: rest).sum = a0 + rest.sum := List.sum_cons
  have h00 : (a0 :: rest)[0]? = some a0 := rfl
  have h0i : atI ((a0 :: rest).map PyData.int) (0 : Int) = some (.int a0) := getI (j := 0) h00
  obtain ⟨b0, hb0'⟩ : ∃ b0, b0 = (a0 :: rest).sum - a0 := ⟨_, rfl⟩
  refine sds_cons (sd_set 9 g.nd (ed_lst (ds := [.int a0, .int ((a0 :: rest).sum - a0)]) (ea_cons (ed_ixL (ed_v 1) ed_int .d h0i) (ea_cons (ed_sub (ed_v 3) (ed_ixL (ed_v 1) ed_int .d h0i)) ea_nil))) ?_)
  rw [← hb0']
  have em : (if (2 : Int) < (n : Int) then (2 : Int) else (n : Int)) = ((min n 2 : Nat) : Int) := by split <;> omega
  refine sds_cons (sd_set 10 g.nd (ES.is (ed_min2 g T.n_min (ed_v 4) ed_int) (congrArg PyData.int em)) ?_)
  have htwo : ([a0, b0] : List Int).sum = (a0 :: rest).sum := by simp; omega
  by_cases hM : max a0 b0 ≤ 20
  · have hY2 : Yr [a0, b0] := ⟨by simp, by simp, fun y hy => by
      simp only [List.mem_cons, List.not_mem_nil, or_false] at hy
      rcases hy with rfl | rfl
      · exact ha0
      · omega⟩
    have h20 : ([a0, b0] : List Int)[0]? = some a0 := rfl
    refine sds_cons (sd_if (l := true) (ET.is (et_cmp c_le (ed_max (ns := [a0, b0]) (m := max a0 b0) g T.n_max (ed_v 9) .d (by rcases Int.le_total a0 b0 with z | z <;> simp [Int.max_eq_right, Int.max_eq_left, z]) (by intro y hy; simp only [List.mem_cons, List.not_mem_nil, or_false] at hy; omega)) ed_int) (decide_eq_true hM)) (fun _ => ?_) fun h => nomatch h)
    refine sds_one (sd_if (l := false) (ET.is (et_cmp (c_ne g .d .d (sh_fr _) (sh_fr _)) (es_call (fn_just_on_day T) g (by decide) (ea_cons (ed_v 9) (ea_cons ed_int (ea_cons (ed_v 4) (ea_cons (ed_v 10) ea_nil)))) ⟨[a0, b0], 0, n, min n 2, a0, rfl, rfl, hY2, h20, hn, by omega, rfl⟩) (es_call (fn_just_on_day T) g (by decide) (ea_cons (ed_v 1) (ea_cons ed_int (ea_cons (ed_v 4) (ea_cons (ed_v 10) ea_nil)))) ⟨a0 :: rest, 0, n, min n 2, a0, rfl, rfl, hY, h00, hn, by omega, rfl⟩)) ?_) (fun h => nomatch h) fun _ => sds_nil ?_)
    · rw [eqv_fr, htwo]
      simp
    refine sds_one (sd_if (l := false) (ET.is (EW.et (ew_and (k := true) (ET.is (et_cmp c_le (ed_max (ns := [a0, b0]) (m := max a0 b0) g T.n_max (ed_v 9) .d (by rcases Int.le_total a0 b0 with z | z <;> simp [Int.max_eq_right, Int.max_eq_left, z]) (by intro y hy; simp only [List.mem_cons, List.not_mem_nil, or_false] at hy; omega)) ed_int) (decide_eq_true hM)) fun _ => ew_and1 (et_cmp (c_ne g .d .d (sh_fr _) (sh_fr _)) (es_call (fn_on_day T) g (by decide) (ea_cons (ed_v 9) (ea_cons ed_int (ea_cons (ed_v 4) ea_nil))) ⟨[a0, b0], 0, n, a0, rfl, rfl, hY2, h20, hn, rfl⟩) (es_call (fn_on_day T) g (by decide) (ea_cons (ed_v 1) (ea_cons ed_int (ea_cons (ed_v 4) ea_nil))) ⟨a0 :: rest, 0, n, a0, rfl, rfl, hY, h00, hn, rfl⟩)))) ?_) (fun h => nomatch h) fun _ => sds_nil (tail _ rfl rfl rfl))
    rw [eqv_fr, htwo]
    simp
  · have hmem : max a0 b0 ∈ [a0, b0] := by rcases Int.le_total a0 b0 with z | z <;> simp [Int.max_eq_right, Int.max_eq_left, z]
    have hle : ∀ y ∈ [a0, b0], y ≤ max a0 b0 := by intro y hy; simp only [List.mem_cons, List.not_mem_nil, or_false] at hy; omega
    refine sds_cons (sd_if (l := false) (ET.is (et_cmp c_le (ed_max (ns := [a0, b0]) (m := max a0 b0) g T.n_max (ed_v 9) .d hmem hle) ed_int) (decide_eq_false hM)) (fun h => nomatch h) fun _ => sds_nil ?_)
    exact sds_one (sd_if (l := false) (EW.et (ew_and (k := false) (l := false) (ET.is (et_cmp c_le (ed_max (ns := [a0, b0]) (m := max a0 b0) g T.n_max (ed_v 9) .d hmem hle) ed_int) (decide_eq_false hM)) fun h => nomatch h)) (fun h => nomatch h) fun _ => sds_nil (tail _ rfl rfl rfl)))
end
end Pg

namespace Pg
open PySem PySem.Spec PyProof.Rows L2 Sd
section
variable {P : Program} {w : World} {K : PySem.W.Frag} {mg : Str → Option Value} {base : Heap} {c : Cl}
def forB : Stmt → List Stmt
  | .For _ _ b _ _ => b
  | _ => []
def law_inB : List Stmt := forB ((forB ((defBody s_law).getD 4 s_law)).getD 2 s_law)
abbrev N_law : List Str := ["script", "draws", "year", "size", "whole", "many", "total_used", "pairs", "day", "rows", "middle", "sum_here", "twos", "own"]
theorem low_mul (q : Rat) (m : Int) : ((q.num * m : Int) : Rat) / ((q.den : Int) : Rat) = (m : Rat) * q := by
  have h1 := num_eq q
  have h2 := den_ne q
  push_cast at *
  rw [h1]
  grind
theorem low_two (q : Rat) (m : Int) : ((q.num * m * (m - 1) : Int) : Rat) / (((q.den : Int) * 2 : Int) : Rat) = (m : Rat) * ((m : Rat) - 1) / 2 * q := by
  have h1 := num_eq q
  have h2 := den_ne q
  push_cast at *
  rw [h1]
  grind
theorem law_inner (T : Tx K mg c) {f : Addr} {cdv : Value} {A : Around} {outer : List Env} {s : Shared} {H : Hp} {E : XK} {B : Bs} {ex : Addr → List Slot → Own → Prop} (g : Gd (ctxOf P w K mg base N_law "law" s_law f cdv A outer s H E B ex) 5) {own : Own} (t0 t1 t2 t3 t4 t5 t6 t7 t8 : Slot) (o : Nat) (rows : List PyData) (r S1 S2 S3 : Rat) {D : DE} (ho : o ≤ 12) (hro : atI rows (o : Int) = some (fr r)) (hr : Sq 210 r) (s1 : Sq (230 * o + 1) S1) (s2 : Sq (230 * o + 1) S2) (s3 : Sq (230 * o + 1) S3)
    (h : Sq (230 * (o + 1) + 1) (S1 + r) → Sq (230 * (o + 1) + 1) (S2 + ((o : Int) : Rat) * r) → Sq (230 * (o + 1) + 1) (S3 + (((o : Int) : Rat) * (((o : Int) : Rat) - 1) / 2) * r) →
      D.nx [t0, t1, t2, t3, t4, t5, t6, t7, t8, .d (.list rows), .d (fr (S2 + ((o : Int) : Rat) * r)), .d (fr (S1 + r)), .d (fr (S3 + (((o : Int) : Rat) * (((o : Int) : Rat) - 1) / 2) * r)), .d (.int (o : Int))] own) :
    SDs (ctxOf P w K mg base N_law "law" s_law f cdv A outer s H E B ex) law_inB D [t0, t1, t2, t3, t4, t5, t6, t7, t8, .d (.list rows), .d (fr S2), .d (fr S1), .d (fr S3), .d (.int (o : Int))] own := by
  have hden := den_pos r
  have z1 : Sz 214 (r.num * (o : Int)) := (hr.num.mul (Sz.nat (n := o) (k := 4) (by omega))).mono (by decide)
  have z2 : Sz 218 (r.num * (o : Int) * ((o : Int) - 1)) := (z1.mul (show Sz 4 ((o : Int) - 1) by unfold Sz; omega)).mono (by decide)
  have z3 : Sz 218 ((r.den : Int) * 2) := (hr.den.mul (show Sz 2 2 by unfold Sz; decide)).mono (by decide)
  have q1 : Sq 214 (((o : Int) : Rat) * r) := by
    rw [← low_mul]
    exact Sq.of_div hden z1 (hr.den.mono (by decide))
  have q2 : Sq 218 ((((o : Int) : Rat) * (((o : Int) : Rat) - 1) / 2) * r) := by
    rw [← low_two]
    exact Sq.of_div (by omega) z2 z3
  refine sds_cons (sd_set 11 g.nd (es_call (fn_law_add T) g (by decide) (ea_cons (ed_v 11) (ea_cons (ed_ixL (ed_v 9) (ed_v 13) .d hro) ea_nil)) ⟨_, r, _, _, rfl, rfl, s1, hr, by omega, rfl⟩) ?_)
  refine sds_cons (sd_set 10 g.nd (es_call (fn_law_add T) g (by decide) (ea_cons (ed_v 10) (ea_cons (es_call (fn_law_low T) g (by decide) (ea_cons (ed_mul (ed_ixT (ed_ixL (ed_v 9) (ed_v 13) .d hro) ed_int rfl) (ed_v 13) (cmul_of hr.num (Sz.nat (n := o) (k := 4) (by omega)) (by decide))) (ea_cons (ed_ixT (ed_ixL (ed_v 9) (ed_v 13) .d hro) ed_int rfl) ea_nil)) ⟨_, _, rfl, rfl, hden, hr.den.mono (by decide), rfl⟩) ea_nil)) ⟨_, ((o : Int) : Rat) * r, _, 214, by rw [low_mul], rfl, s2, q1, by omega, rfl⟩) ?_)
  refine sds_one (sd_set 12 g.nd (es_call (fn_law_add T) g (by decide) (ea_cons (ed_v 12) (ea_cons (es_call (fn_law_low T) g (by decide) (ea_cons (ed_mul (ed_mul (ed_ixT (ed_ixL (ed_v 9) (ed_v 13) .d hro) ed_int rfl) (ed_v 13) (cmul_of hr.num (Sz.nat (n := o) (k := 4) (by omega)) (by decide))) (ed_sub (ed_v 13) ed_int) (cmul_of z1 (show Sz 4 ((o : Int) - 1) by unfold Sz; omega) (by decide))) (ea_cons (ed_mul (ed_ixT (ed_ixL (ed_v 9) (ed_v 13) .d hro) ed_int rfl) ed_int (cmul_of hr.den (show Sz 2 2 by unfold Sz; decide) (by decide))) ea_nil)) ⟨_, _, rfl, rfl, by omega, z3.mono (by decide), rfl⟩) ea_nil)) ⟨_, (((o : Int) : Rat) * (((o : Int) : Rat) - 1) / 2) * r, _, 218, by rw [low_two], rfl, s3, q2, by omega, rfl⟩) ?_)
  exact h ((s1.add hr).mono (by omega)) ((s2.add q1).mono (by omega)) ((s3.add q2).mono (by omega))
end
end Pg

namespace Pg
open PySem PySem.Spec PyProof.Rows L2 Sd
section
variable {P : Program} {w : World} {K : PySem.W.Frag} {mg : Str → Option Value} {base : Heap} {c : Cl}
def pre_law_start (K : PySem.W.Frag) : Pr := fun ss own post => ∃ (a : Addr) (ns : List Int), ss = [.raw (.ref a)] ∧ ScrAt K own a ns ∧ post = fun o => ∃ d n cells, cells ≠ [] ∧ o = .ret (.raw (.ref d)) (drw d n cells 0 ++ own)
theorem fn_law_start (T : Tx K mg c) : Fn K mg P w base "_law_start" ["script"] 1 (pre_law_start K) := T.d_law_start.fn fun f fd F => okG (k := 0) F sc_law_start (by rintro ss own post ⟨a, ns, rfl, _⟩; rfl) (by
  rintro ss own post ⟨a, ns, rfl, hs, rfl⟩ cdv A outer s H E B g
  refine sds_one (sd_retG (eg_lst2 (P := fun v o => ∃ n, v = .ref n ∧ o = (n, .lst ((if ns = [] then [0] else ns).map PyData.int)) :: own) (EL.toEG (el_if (et_cmp (c_neScr g hs) (ev_v 0) (ed_lst (ds := []) ea_nil)) (fun h => EL.is (el_listScr T.n_list (ev_v 0) hs) ?_) fun h => EL.is (el_lst (ds := [.int 0]) (ea_cons ed_int ea_nil)) ?_) fun p => ⟨_, rfl, p, rfl, rfl⟩) fun v o _ => ed_int) ?_)
  · rw [if_neg (by simpa using h)]
  · rw [if_pos (by simpa using h)]
    rfl
  · rintro t o ⟨q, v, o', rfl, rfl, n, rfl, rfl⟩
    exact ⟨q, n, if ns = [] then [0] else ns, by split <;> simp_all, rfl⟩)
end
end Pg

namespace Pg
open PySem PySem.Spec PyProof.Rows L2 Sd
section
variable {P : Program} {w : World} {K : PySem.W.Frag} {mg : Str → Option Value} {base : Heap} {c : Cl}
def pre_law_pick : Pr := fun ss own post => ∃ (d n : Addr) (cells : List Int) (cnt : Int) (ds : List PyData), ss = [.raw (.ref d), .d (.list ds)] ∧ own = drw d n cells cnt ∧ cells ≠ [] ∧ ds ≠ [] ∧ ds.length ≤ 1000000 ∧
  post = fun o => ∃ x cells' cnt', x ∈ ds ∧ cells' ≠ [] ∧ o = .ret (.d x) (drw d n cells' cnt')
theorem fn_law_pick (T : Tx K mg c) : Fn K mg P w base "_law_pick" ["draws", "choices"] 2 pre_law_pick := T.d_law_pick.fn fun f fd F => okG (k := 1) F sc_law_pick (by rintro ss own post ⟨d, n, cells, cnt, ds, rfl, _⟩; rfl) (by
  rintro ss own post ⟨d, n, cells, cnt, ds, rfl, rfl, hc, hd, hl, rfl⟩ cdv A outer s H E B g
  have hpos : 0 < ds.length := List.length_pos_iff.mpr hd
  refine sds_one (sd_retG (eg_ixL (P := fun i o => ∃ cells' cnt', 0 ≤ i ∧ i < (ds.length : Int) ∧ cells' ≠ [] ∧ o = drw d n cells' cnt') (R := fun t o => ∃ x cells' cnt', x ∈ ds ∧ cells' ≠ [] ∧ t = .d x ∧ o = drw d n cells' cnt') (ed_v 1) (eg_call (oa := []) (o1 := drw d n cells cnt) (ob := []) (fn_law_draw T) g (by decide) (ea_cons (ev_v 0) (ea_cons (ed_len T.n_len (ed_v 1) .d) ea_nil)) ⟨d, n, cells, cnt, _, rfl, rfl, hc, by omega, by omega, rfl⟩ ?_ ?_) ?_) ?_)
  · rintro t o1 ⟨r, cells', cnt', h0, h1, h2, e⟩
    cases e
    exact ⟨r, rfl, cells', cnt', h0, h1, h2, by simp⟩
  · rintro C o1 ⟨r, cells', cnt', h0, h1, h2, e⟩
    cases e
  · rintro i o ⟨cells', cnt', h0, h1, h2, rfl⟩
    obtain ⟨j, rfl⟩ : ∃ j : Nat, i = (j : Int) := ⟨i.toNat, by omega⟩
    have hj : j < ds.length := by omega
    exact ⟨ds[j], atI_nat (List.getElem?_eq_getElem hj), ds[j], cells', cnt', List.getElem_mem hj, h2, rfl, rfl⟩
  · rintro t o ⟨x, cells', cnt', h1, h2, rfl, rfl⟩
    exact ⟨x, cells', cnt', h1, h2, rfl⟩)
end
end Pg

namespace Pg
open PySem PySem.Spec PyProof.Rows L2 Sd
section
variable {P : Program} {w : World} {K : PySem.W.Frag} {mg : Str → Option Value} {base : Heap} {c : Cl}
def pre_law_year : Pr := fun ss own post => ∃ (d n : Addr) (cells : List Int) (cnt most : Int), ss = [.raw (.ref d), .d (.int most)] ∧ own = drw d n cells cnt ∧ cells ≠ [] ∧ 1 ≤ most ∧ most ≤ 8 ∧
  post = fun o => ∃ p ys cells' cnt', Yr ys ∧ (ys.length : Int) ≤ most ∧ cells' ≠ [] ∧ o = .ret (.raw (.ref p)) ((p, .lst (ys.map PyData.int)) :: drw d n cells' cnt')
theorem fn_law_year (T : Tx K mg c) : Fn K mg P w base "_law_year" ["draws", "most"] 3 pre_law_year := T.d_law_year.fn fun f fd F => okG (k := 2) F sc_law_year (by rintro ss own post ⟨d, n, cells, cnt, most, rfl, _⟩; rfl) (by
  rintro ss own post ⟨d, n, cells, cnt, most, rfl, rfl, hc, hm1, hm8, rfl⟩ cdv A outer s H E B g
  refine sds_cons (sd_setG 2 g.nd (R := fun t o => ∃ wd cells' cnt', (1 ≤ wd ∧ wd ≤ 20) ∧ cells' ≠ [] ∧ t = .d (.int wd) ∧ o = drw d n cells' cnt') (eg_call (oa := []) (o1 := drw d n cells cnt) (ob := []) (fn_law_pick T) g (by decide) (ea_cons (ev_v 0) (ea_cons (ed_lst (ds := [.int 1, .int 3, .int 20]) (ea_cons ed_int (ea_cons ed_int (ea_cons ed_int ea_nil)))) ea_nil)) ⟨d, n, cells, cnt, _, rfl, rfl, hc, by simp, by simp, rfl⟩ ?_ ?_) ?_)
  · rintro t o1 ⟨x, cells', cnt', h1, h2, e⟩
    cases e
    simp only [List.mem_cons, List.not_mem_nil, or_false] at h1
    rcases h1 with rfl | rfl | rfl
    · exact ⟨1, cells', cnt', by decide, h2, rfl, by simp⟩
    · exact ⟨3, cells', cnt', by decide, h2, rfl, by simp⟩
    · exact ⟨20, cells', cnt', by decide, h2, rfl, by simp⟩
  · rintro C o1 ⟨x, cells', cnt', h1, h2, e⟩
    cases e
  rintro t o ⟨wd, cells', cnt', hw, hc', rfl, rfl⟩
  refine sds_one (sd_retG (eg_comp g (compG g (itg_range1 (P := fun i o => (1 ≤ i ∧ i ≤ most) ∧ ∃ cells' cnt', cells' ≠ [] ∧ o = drw d n cells' cnt') T.n_range (EG.imp (eg_add (P := fun j o => (0 ≤ j ∧ j < most) ∧ ∃ cells' cnt', cells' ≠ [] ∧ o = drw d n cells' cnt') ed_int (eg_call (oa := []) (o1 := drw d n cells' cnt') (ob := []) (fn_law_draw T) g (by decide) (ea_cons (ev_v 0) (ea_cons (ed_v 1) ea_nil)) ⟨d, n, cells', cnt', _, rfl, rfl, hc', by omega, by omega, rfl⟩ ?_ ?_)) ?_)) [("k", 3)] (blkOk_by (N := ["draws", "most", "wide", "k"]) (sc := defScope s_law_year) (by decide +kernel))
    (fun ys i acc o => ∃ m : Int, (1 ≤ m ∧ m ≤ most) ∧ ys.length = m.toNat ∧ (∃ vs : List Int, acc = vs.map PyData.int ∧ vs.length = i ∧ ∀ v ∈ vs, 1 ≤ v ∧ v ≤ 20) ∧ i ≤ ys.length ∧ ∃ cells' cnt', cells' ≠ [] ∧ o = drw d n cells' cnt') ?_ ?_ ?_)) ?_)
  · rintro t o1 ⟨r, cells'', cnt'', h0, h1, h2, e⟩
    cases e
    exact ⟨r, rfl, ⟨h0, h1⟩, cells'', cnt'', h2, by simp⟩
  · rintro C o1 ⟨r, cells'', cnt'', h0, h1, h2, e⟩
    cases e
  · rintro t o ⟨j, rfl, hj, cells'', cnt'', h2, rfl⟩
    exact ⟨1 + j, rfl, by omega, by omega, cells'', cnt'', h2, rfl⟩
  · rintro ys o ⟨i, rfl, hi, cells'', cnt'', h2, rfl⟩
    exact ⟨i, hi, rng_length _ _, ⟨[], rfl, rfl, by simp⟩, Nat.zero_le _, cells'', cnt'', h2, rfl⟩
  · rintro ys i acc o ⟨m, hm, hl, ⟨vs, rfl, hv, _⟩, hi, _⟩
    rw [List.length_map]
    omega
  · rintro ys i y acc o D hy ⟨m, hm, hl, ⟨vs, rfl, hv, hvs⟩, hi, cells'', cnt'', h2, rfl⟩
    have hlt : i < ys.length := (List.getElem?_eq_some_iff.mp hy).1
    refine ⟨_, _, true, ?_, fun s H C cl fp => gt_name 3 g.nd, fun s H C cl fp => ets_nil, fun _ s H C cl fp => ?_, fun h => nomatch h⟩
    · intro i hi
      simpa using hi
    · refine EG.imp (eg_add (P := fun j o => (0 ≤ j ∧ j < wd) ∧ ∃ cells' cnt', cells' ≠ [] ∧ o = (D, .lst (vs.map PyData.int)) :: drw d n cells' cnt') ed_int (eg_call (oa := [(D, .lst (vs.map PyData.int))]) (o1 := drw d n cells'' cnt'') (ob := []) (fn_law_draw T) (g.blk ..) (by decide) (ea_cons (ev_v 0) (ea_cons (ed_v 2) ea_nil)) ⟨d, n, cells'', cnt'', _, rfl, rfl, h2, by omega, by omega, rfl⟩ ?_ ?_)) ?_
      · rintro t o1 ⟨r, cells3, cnt3, h0, h1, h2, e⟩
        cases e
        exact ⟨r, rfl, ⟨h0, h1⟩, cells3, cnt3, h2, by simp⟩
      · rintro C o1 ⟨r, cells3, cnt3, h0, h1, h2, e⟩
        cases e
      · rintro t o ⟨j, rfl, hj, cells3, cnt3, h3, rfl⟩
        refine ⟨.int (1 + j), drw d n cells3 cnt3, rfl, rfl, m, hm, hl, ⟨vs ++ [1 + j], by simp, by simp [hv], ?_⟩, hlt, cells3, cnt3, h3, rfl⟩
        intro v hv'
        rcases List.mem_append.mp hv' with h | h
        · exact hvs v h
        · have : v = 1 + j := by simpa using h
          omega
  · rintro t o ⟨p, ds, o', rfl, rfl, ys, m, hm, hl, ⟨vs, rfl, hv, hvs⟩, hi, cells3, cnt3, h3, rfl⟩
    exact ⟨p, vs, cells3, cnt3, ⟨by omega, by omega, hvs⟩, by omega, h3, rfl⟩)
end
end Pg

namespace Pg
open PySem PySem.Spec PyProof.Rows L2 Sd
section
variable {P : Program} {w : World} {K : PySem.W.Frag} {mg : Str → Option Value} {base : Heap} {c : Cl}
def sqs (ys : List Int) : Int := (ys.map fun y => y * y).sum
def pre_mean_pairs : Pr := fun ss own post => ∃ (ys : List Int) (n : Nat), ss = [.d (li ys), .d (.int (n : Int))] ∧ own = [] ∧ Yr ys ∧ n ≤ 12 ∧ post = fun o => o = .ret (.d (fr ((((n : Int) * ((n : Int) - 1) / 2 * sqs ys : Int) : Rat) / ((ys.sum * ys.sum : Int) : Rat)))) []
theorem sqs_hi {ys : List Int} (h : Yr ys) : 0 ≤ sqs ys ∧ sqs ys ≤ 3200 := by
  unfold sqs
  have h1 := sum_le_mul (b := 400) (ys := ys.map fun y => y * y) (fun z hz => by
    obtain ⟨y, hy, rfl⟩ := List.mem_map.mp hz
    have := h.it y hy
    have : y * y ≤ 20 * 20 := Int.mul_le_mul (by omega) (by omega) (by omega) (by omega)
    omega)
  have h2 := sum_ge_mul (b := 0) (ys := ys.map fun y => y * y) (fun z hz => by
    obtain ⟨y, hy, rfl⟩ := List.mem_map.mp hz
    have := h.it y hy
    exact Int.mul_nonneg (by omega) (by omega))
  rw [List.length_map] at h1 h2
  have := h.hi
  omega
theorem fn_mean_pairs (T : Tx K mg c) : Fn K mg P w base "mean_pairs" ["year", "many"] 4 pre_mean_pairs := T.d_mean_pairs.fn fun f fd F => okG (k := 3) F sc_mean_pairs (by rintro ss own post ⟨ys, n, rfl, _⟩; rfl) (by
  rintro ss own post ⟨ys, n, rfl, rfl, hY, hn, rfl⟩ cdv A outer s H E B g
  have hl := hY.hi
  obtain ⟨q1, q2⟩ := sqs_hi hY
  have s1 := hY.sum_lo
  have s2 := hY.sum_hi
  refine sds_cons (sd_expr (es_call (fn_check_year T) g (by decide) (ea_cons (ed_v 0) ea_nil) (ok_year hY)) ?_)
  refine sds_cons (sd_expr (es_call (fn_check_many T) g (by decide) (ea_cons (ed_v 1) ea_nil) (ok_many ⟨by omega, by omega⟩)) ?_)
  refine sds_cons (sd_set 2 g.nd (ed_sum (ns := ys.map fun y => y * y) g T.n_sum (EL.ed (EL.is (el_comp g (compP g (it_list (ed_v 0)) [("weight", 3)] (blkOk_by (N := ["year", "many", "squares", "weight"]) (sc := defScope s_mean_pairs) (by decide +kernel)) ys PyData.int rfl (fun y => some (.int (y * y))) (fun y => [.d (li ys), .d (.int (n : Int)), .un, .d (.int y)]) [3] (by simp) (by omega) (fun _ _ => trivial)
        (fun d _ s H C cl fp g' => gt_name 3 g'.nd) (fun d _ s H C cl fp o g' => ets_nil) (fun y hy x hx s H C cl fp o g' => ?_))) ?_)) .d) ?_)
  · cases hx
    have := hY.it y hy
    exact ed_mulS (ed_v 3) (ed_v 3) (.inl ⟨by omega, by omega⟩)
  · rw [List.map_map]
    exact List.filterMap_eq_map' .. |>.symm ▸ rfl
  have a1 : 0 ≤ (n : Int) * ((n : Int) - 1) / 2 ∧ (n : Int) * ((n : Int) - 1) / 2 ≤ 66 := by
    have : ∀ m : Nat, m ≤ 12 → 0 ≤ (m : Int) * ((m : Int) - 1) / 2 ∧ (m : Int) * ((m : Int) - 1) / 2 ≤ 66 := by decide
    exact this n hn
  refine sds_one (sd_retD (es_call (fn_lowest T) g (by decide) (ea_cons (ed_mulS (ed_fdivS (ed_mulS (ed_v 1) (ed_sub (ed_v 1) ed_int) (.inl ⟨by omega, by omega⟩)) ed_int ⟨by decide, by decide⟩) (ed_v 2) (.inl ⟨by omega, by omega⟩)) (ea_cons (ed_mulS (ed_sum g T.n_sum (ed_v 0) .d) (ed_sum g T.n_sum (ed_v 0) .d) (.inl ⟨by omega, by omega⟩)) ea_nil)) ⟨_, _, rfl, rfl, Int.mul_pos (by omega) (by omega), (hY.szW.mul hY.szW).mono (by decide), rfl⟩) rfl))
end
end Pg

namespace Pg
open PySem PySem.Spec PyProof.Rows L2 Sd
section
variable {P : Program} {w : World} {K : PySem.W.Frag} {mg : Str → Option Value} {base : Heap} {c : Cl}
def pre_plus : Pr := fun ss own post => ∃ (p q : Rat) (m n : Nat), ss = [.d (fr p), .d (fr q)] ∧ own = [] ∧ Sq m p ∧ Sq n q ∧ m + n ≤ 8990 ∧ post = fun o => o = .ret (.d (fr (p + q))) []
theorem fn_plus (T : Tx K mg c) : Fn K mg P w base "plus" ["one", "other"] 3 pre_plus := T.d_plus.fn fun f fd F => okG (k := 2) F sc_plus (by rintro ss own post ⟨p, q, m, n, rfl, _⟩; rfl) (by
  rintro ss own post ⟨p, q, m, n, rfl, rfl, hp, hq, hmn, rfl⟩ cdv A outer s H E B g
  refine sds_one (sd_retD (es_call (fn_lowest T) g (by decide) (ea_cons (ed_add (ed_mul (ed_ixT (ed_v 0) ed_int rfl) (ed_ixT (ed_v 1) ed_int rfl) (cmul_of hp.num hq.den (by omega))) (ed_mul (ed_ixT (ed_v 1) ed_int rfl) (ed_ixT (ed_v 0) ed_int rfl) (cmul_of hq.num hp.den (by omega))))
    (ea_cons (ed_mul (ed_ixT (ed_v 0) ed_int rfl) (ed_ixT (ed_v 1) ed_int rfl) (cmul_of hp.den hq.den (by omega))) ea_nil)) ⟨_, _, rfl, rfl, Int.mul_pos (den_pos p) (den_pos q), (hp.den.mul hq.den).mono (by omega), rfl⟩) ?_)
  rw [plus_eq])
end
end Pg

namespace Pg
open PySem PySem.Spec PyProof.Rows L2 Sd
section
variable {P : Program} {w : World} {K : PySem.W.Frag} {mg : Str → Option Value} {base : Heap} {c : Cl}
def musd (ys : List Int) (n : Nat) (l : List Int) : Rat := (l.map fun y => 1 - (((ys.sum - y) ^ n : Int) : Rat) / ((ys.sum ^ n : Int) : Rat)).sum
def pre_mean_used : Pr := fun ss own post => ∃ (ys : List Int) (n : Nat), ss = [.d (li ys), .d (.int (n : Int))] ∧ own = [] ∧ Yr ys ∧ n ≤ 12 ∧ post = fun o => o = .ret (.d (fr (musd ys n ys))) []
theorem musd_take {ys : List Int} {n i : Nat} {y : Int} (h : ys[i]? = some y) : musd ys n (ys.take (i + 1)) = musd ys n (ys.take i) + (1 - (((ys.sum - y) ^ n : Int) : Rat) / ((ys.sum ^ n : Int) : Rat)) := by
  unfold musd
  rw [List.take_add_one, h, List.map_append, List.sum_append]
  simp only [Option.toList_some, List.map_cons, List.map_nil, List.sum_cons, List.sum_nil, Rat.add_zero]
theorem fn_mean_used (T : Tx K mg c) : Fn K mg P w base "mean_used" ["year", "many"] 4 pre_mean_used := T.d_mean_used.fn fun f fd F => okG (k := 3) F sc_mean_used (by rintro ss own post ⟨ys, n, rfl, _⟩; rfl) (by
  rintro ss own post ⟨ys, n, rfl, rfl, hY, hn, rfl⟩ cdv A outer s H E B g
  have hl := hY.hi
  refine sds_cons (sd_expr (es_call (fn_check_year T) g (by decide) (ea_cons (ed_v 0) ea_nil) (ok_year hY)) ?_)
  refine sds_cons (sd_expr (es_call (fn_check_many T) g (by decide) (ea_cons (ed_v 1) ea_nil) (ok_many ⟨by omega, by omega⟩)) ?_)
  refine sds_cons (sd_par 2 3 g (ea_cons (ed_k2 (i := 0) (i' := 1)) (ea_cons (ed_sum g T.n_sum (ed_v 0) .d) ea_nil)) ?_)
  refine sds_cons (sd_for g (it_list (ed_v 0)) (fun i ρ own => own = [] ∧ Sq (200 * i + 1) (musd ys n (ys.take i)) ∧ ∃ t, ρ = [.d (li ys), .d (.int (n : Int)), .d (fr (musd ys n (ys.take i))), .d (.int ys.sum), t]) ⟨rfl, .zero, _, rfl⟩ (fun _ _ _ _ => trivial) ?_ ?_)
  · rintro i y ρ1 own1 hy ⟨rfl, hs, t, rfl⟩
    rw [List.getElem?_map] at hy
    cases ea : ys[i]? with
    | none => rw [ea] at hy; cases hy
    | some y' =>
      rw [ea] at hy
      cases hy
      have hm : y' ∈ ys := List.mem_of_getElem? ea
      have hi := (List.getElem?_eq_some_iff.mp ea).1
      have h1 : Sz 97 ((ys.sum - y') ^ n) := ((hY.szD hm).pow n).mono (by omega)
      have h2 : Sz 97 (ys.sum ^ n) := (hY.szW.pow n).mono (by omega)
      have h3 : Sq 97 ((((ys.sum - y') ^ n : Int) : Rat) / ((ys.sum ^ n : Int) : Rat)) := Sq.of_div (hY.posP n) h1 h2
      have h4 := Sq.one.sub h3
      refine ⟨_, _, gt_name 4 g.nd, sds_one (sd_set 2 g.nd (es_call (fn_plus T) g (by decide) (ea_cons (ed_v 2) (ea_cons (es_call (fn_minus T) g (by decide) (ea_cons (ed_k2 (i := 1) (i' := 1)) (ea_cons (es_call (fn_lowest T) g (by decide) (ea_cons (es_call (fn_power T) g (by decide) (ea_cons (ed_sub (ed_v 3) (ed_v 4)) (ea_cons (ed_v 1) ea_nil)) ⟨_, n, 8, rfl, rfl, hY.szD hm, by omega, by decide, rfl⟩)
        (ea_cons (es_call (fn_power T) g (by decide) (ea_cons (ed_v 3) (ea_cons (ed_v 1) ea_nil)) ⟨_, n, 8, rfl, rfl, hY.szW, by omega, by decide, rfl⟩) ea_nil)) ⟨_, _, rfl, rfl, hY.posP n, h2.mono (by decide), rfl⟩) ea_nil)) ⟨1, _, 1, 97, rfl, rfl, .one, h3, by decide, rfl⟩) ea_nil)) ⟨_, _, _, _, rfl, rfl, hs, h4, by omega, rfl⟩) ?_)⟩
      refine ⟨rfl, ?_, .d (.int y'), ?_⟩
      · rw [musd_take ea]
        exact (hs.add h4).mono (by omega)
      · rw [musd_take ea]
        rfl
  · rintro ρ1 own1 ⟨rfl, hs, t, rfl⟩
    refine sds_one (sd_retD (ed_v 2) ?_)
    rw [List.length_map, List.take_length])
end
end Pg

namespace Pg
open PySem PySem.Spec PyProof.Rows L2 Sd
section
variable {P : Program} {w : World} {K : PySem.W.Frag} {mg : Str → Option Value} {base : Heap} {c : Cl}
def prs (ys : List Int) (n : Nat) (l : List Int) : Rat := (l.map fun (y : Int) => ((n : Nat) : Rat) * (((n : Nat) : Rat) - 1) / 2 * ((y : Rat) / ys.sum) * ((y : Rat) / ys.sum)).sum
theorem prs_take {ys : List Int} {n i : Nat} {y : Int} (h : ys[i]? = some y) : prs ys n (ys.take (i + 1)) = prs ys n (ys.take i) + ((n : Nat) : Rat) * (((n : Nat) : Rat) - 1) / 2 * ((y : Rat) / ys.sum) * ((y : Rat) / ys.sum) := by
  unfold prs
  rw [List.take_add_one, h, List.map_append, List.sum_append]
  simp only [Option.toList_some, List.map_cons, List.map_nil, List.sum_cons, List.sum_nil, Rat.add_zero]
theorem tri_even (n : Nat) : ((n : Int) * ((n : Int) - 1) / 2 : Int) * 2 = (n : Int) * ((n : Int) - 1) := by
  have h : (n : Int) % 2 = 0 ∨ (n : Int) % 2 = 1 := by omega
  refine Int.ediv_mul_cancel ?_
  rcases h with h | h
  · exact Int.dvd_trans (Int.dvd_of_emod_eq_zero h) (Int.dvd_mul_right _ _)
  · exact Int.dvd_trans (show (2 : Int) ∣ (n : Int) - 1 by omega) (Int.dvd_mul_left _ _)
theorem tri_rat (n : Nat) : (((n : Int) * ((n : Int) - 1) / 2 : Int) : Rat) = ((n : Nat) : Rat) * (((n : Nat) : Rat) - 1) / 2 := by
  have h : ((((n : Int) * ((n : Int) - 1) / 2 : Int) * 2 : Int) : Rat) = (((n : Int) * ((n : Int) - 1) : Int) : Rat) := by rw [tri_even]
  push_cast at h
  grind
theorem prs_eq (ys : List Int) (n : Nat) (hW : ys.sum ≠ 0) : prs ys n ys = ((((n : Int) * ((n : Int) - 1) / 2 * sqs ys : Int) : Rat) / ((ys.sum * ys.sum : Int) : Rat)) := by
  have hw : (ys.sum : Rat) ≠ 0 := by exact_mod_cast hW
  have key : ∀ l : List Int, prs ys n l = ((((n : Int) * ((n : Int) - 1) / 2 * sqs l : Int) : Rat) / ((ys.sum * ys.sum : Int) : Rat)) := fun l => by
    have t := tri_rat n
    generalize ((n : Int) * ((n : Int) - 1) / 2 : Int) = m at t ⊢
    induction l with
    | nil =>
      unfold prs sqs
      simp
      grind
    | cons y l ih =>
      unfold prs sqs at *
      rw [List.map_cons, List.sum_cons, List.map_cons, List.sum_cons, ih]
      rw [← t]
      push_cast
      grind
  exact key ys
theorem sum1_succ (al : Rat) (n o : Nat) : sumTo (fun o => 1 * rw1 al n o) (o + 1) = sumTo (fun o => 1 * rw1 al n o) o + rw1 al n o := by
  show _ + 1 * rw1 al n o = _
  rw [Rat.one_mul]
theorem pp_e (n : Nat) (y W : Int) (hW : (W : Rat) ≠ 0) : ((n : Nat) : Rat) * (((n : Nat) : Rat) - 1) / 2 * ((y : Rat) / W) * ((y : Rat) / W) = ((((n : Int) * ((n : Int) - 1) / 2 * (y * y) : Int) : Rat) / ((W * W : Int) : Rat)) := by
  have t := tri_rat n
  generalize ((n : Int) * ((n : Int) - 1) / 2 : Int) = m at t ⊢
  push_cast
  rw [t]
  grind
theorem m3_e (al : Rat) (n : Nat) : sumTo (fun o => (((o : Nat) : Rat) * (((o : Nat) : Rat) - 1) / 2) * rw1 al n o) (n + 1) = ((n : Nat) : Rat) * (((n : Nat) : Rat) - 1) / 2 * al * al := by
  have h1 := mom_two al n
  have h2 := mom_mulc al (1 / 2) (fun o => ((o : Nat) : Rat) * (((o : Nat) : Rat) - 1)) n
  rw [h1] at h2
  have h3 : mom al (fun o => (1 / 2) * (((o : Nat) : Rat) * (((o : Nat) : Rat) - 1))) n = sumTo (fun o => (((o : Nat) : Rat) * (((o : Nat) : Rat) - 1) / 2) * rw1 al n o) (n + 1) := by
    unfold mom
    refine sumTo_congr fun o _ => ?_
    grind
  rw [← h3, h2]
  grind
theorem zny_e (n : Nat) (y W : Int) : (((n : Int) * y : Int) : Rat) / W = ((n : Nat) : Rat) * ((y : Rat) / W) := by
  push_cast
  grind
theorem one_e (y W : Int) (hW : (W : Rat) ≠ 0) : (1 : Rat) - (((W - y) ^ 1 : Int) : Rat) / ((W ^ 1 : Int) : Rat) = (y : Rat) / W := by
  rw [Int.pow_one, Int.pow_one]
  push_cast
  grind
theorem can_e (x : Rat) : (1 : Rat) - x + x = 1 := by grind
theorem ok_law (T : Tx K mg c) {f : Addr} {fd : FuncData} (F : Fun K "law" "law" s_law f fd) : FnOk P w K mg base (L2.CX P w) 6 f fd ["script"] (spG (pre_law K)) := okG (k := 5) F sc_law (by rintro ss own post ⟨a, ns, rfl, _⟩; rfl) (by
  rintro ss own0 post ⟨a, ns, rfl, hscr, hlen, rfl⟩ cdv A outer s H E B g
  -- draws, year
  refine sds_cons (sd_setG 1 g.nd (R := fun t o => ∃ d q cells, cells ≠ [] ∧ t = .raw (.ref d) ∧ o = drw d q cells 0 ++ own0) (eg_callW (fn_law_start T) g (by decide) (ea_cons (ev_v 0) ea_nil) ⟨a, ns, rfl, hscr, rfl⟩ ?_ ?_) ?_)
  · rintro t o1 ⟨d, q, cells, h1, e⟩
    cases e
    exact ⟨d, q, cells, h1, rfl, rfl⟩
  · rintro C o1 ⟨d, q, cells, h1, e⟩
    cases e
  rintro t o ⟨d, q, cells, hc, rfl, rfl⟩
  refine sds_cons (sd_setG 2 g.nd (R := fun t o => ∃ p ys cells' cnt', Yr ys ∧ cells' ≠ [] ∧ t = .raw (.ref p) ∧ o = (p, .lst (ys.map PyData.int)) :: (drw d q cells' cnt' ++ own0)) (eg_call (oa := []) (o1 := drw d q cells 0) (ob := own0) (fn_law_year T) g (by decide) (ea_cons (ev_v 1) (ea_cons ed_int ea_nil)) ⟨d, q, cells, 0, 8, rfl, rfl, hc, by decide, by decide, rfl⟩ ?_ ?_) ?_)
  · rintro t o1 ⟨p, ys, cells', cnt', h1, _, h2, e⟩
    cases e
    exact ⟨p, ys, cells', cnt', h1, h2, rfl, by simp⟩
  · rintro C o1 ⟨p, ys, cells', cnt', h1, _, h2, e⟩
    cases e
  rintro t o ⟨p, ys, cells2, cnt2, hY, hc2, rfl, rfl⟩
  refine sds_freeze 2 (oa := []) rfl ?_
  have hl := hY.hi
  have hlo := hY.lo
  have hW := hY.sum_lo
  have hWi : ys.sum ≠ 0 := by omega
  have hWq : (ys.sum : Rat) ≠ 0 := by exact_mod_cast hWi
  -- size, whole, many
  refine sds_cons (sd_asgG (P := fun x o => ∃ (n : Nat) (cells' : List Int) (cnt' : Int), n ≤ 12 ∧ cells' ≠ [] ∧ x = .tuple [.int (ys.length : Int), .int ys.sum, .int (n : Int)] ∧ o = drw d q cells' cnt' ++ own0) (EG.imp (eg_tup (P := fun ds o => ∃ (n : Nat) (cells' : List Int) (cnt' : Int), n ≤ 12 ∧ cells' ≠ [] ∧ ds = [.int (ys.length : Int), .int ys.sum, .int (n : Int)] ∧ o = drw d q cells' cnt' ++ own0)
    (eag_cons (P := fun t o => t = .d (.int (ys.length : Int)) ∧ o = drw d q cells2 cnt2 ++ own0) (ES.toEG (ES.is (ed_len T.n_len (ed_v 2) .d) (by rw [List.length_map])) (fun z => nomatch z) ⟨rfl, rfl⟩) fun t o hq _ => ?_)) ?_) ?_)
  · obtain ⟨rfl, rfl⟩ := hq
    refine eag_cons (P := fun t o => t = .d (.int ys.sum) ∧ o = drw d q cells2 cnt2 ++ own0) (ES.toEG (ed_sum g T.n_sum (ed_v 2) .d) (fun z => nomatch z) ⟨rfl, rfl⟩) fun t o hq _ => ?_
    obtain ⟨rfl, rfl⟩ := hq
    refine eag_cons (P := fun t o => ∃ (n : Nat) (cells' : List Int) (cnt' : Int), n ≤ 12 ∧ cells' ≠ [] ∧ t = .d (.int (n : Int)) ∧ o = drw d q cells' cnt' ++ own0) (eg_call (oa := []) (o1 := drw d q cells2 cnt2) (ob := own0) (fn_law_draw T) g (by decide) (ea_cons (ev_v 1) (ea_cons ed_int ea_nil)) ⟨d, q, cells2, cnt2, 13, rfl, rfl, hc2, by decide, by decide, rfl⟩ ?_ ?_) fun t o hq _ => ?_
    · rintro t o1 ⟨r, cells', cnt', h0, h1, h2, e⟩
      cases e
      exact ⟨r.toNat, cells', cnt', by omega, h2, by rw [Int.toNat_of_nonneg h0], by simp⟩
    · rintro C o1 ⟨r, cells', cnt', h0, h1, h2, e⟩
      cases e
    · obtain ⟨n, cells', cnt', h1, h2, rfl, rfl⟩ := hq
      exact EA.toEAG ea_nil ⟨[_, _, _], rfl, by simp, n, cells', cnt', h1, h2, rfl, rfl⟩
  · rintro t o ⟨ds, rfl, n, cells', cnt', h1, h2, rfl, rfl⟩
    exact ⟨_, rfl, n, cells', cnt', h1, h2, rfl, rfl⟩
  rintro x o ⟨n, cells3, cnt3, hn, hc3, rfl, rfl⟩
  refine ⟨_, _, gt_tup g.calm (gts_cons (gt_name 3 g.nd) (gts_cons (gt_name 4 g.nd) (gts_cons (gt_name 5 g.nd) gts_nil))) rfl, ?_⟩
  refine sds_cons (sd_asg (ed_tup (ds := [fr 0, fr 0]) (ea_cons (ed_tup (ds := [.int 0, .int 1]) (ea_cons ed_int (ea_cons ed_int ea_nil))) (ea_cons (ed_tup (ds := [.int 0, .int 1]) (ea_cons ed_int (ea_cons ed_int ea_nil))) ea_nil))) (gt_tup g.calm (gts_cons (gt_name 6 g.nd) (gts_cons (gt_name 7 g.nd) gts_nil)) rfl) ?_ (hw := sw_const rfl))
  -- the days
  refine sds_cons (sd_for g (it_range1 T.n_range (ed_v 3) ⟨by omega, by omega⟩) (fun i ρ own => own = drw d q cells3 cnt3 ++ own0 ∧ Sq (200 * i + 1) (musd ys n (ys.take i)) ∧ Sq (200 * i + 1) (prs ys n (ys.take i)) ∧ ∃ t8 t9 t10 t11 t12 t13, ρ = [.raw (.ref a), .raw (.ref d), .d (li ys), .d (.int (ys.length : Int)), .d (.int ys.sum), .d (.int (n : Int)), .d (fr (musd ys n (ys.take i))), .d (fr (prs ys n (ys.take i))), t8, t9, t10, t11, t12, t13]) ⟨rfl, .zero, .zero, .un, .un, .un, .un, .un, .un, rfl⟩ (fun _ _ _ _ => trivial) ?_ ?_)
  · rintro i y ρ1 own1 hy ⟨rfl, hsu, hsp, t8, t9, t10, t11, t12, t13, rfl⟩
    obtain ⟨hi, rfl⟩ := rng_get hy
    have hi : i < ys.length := by omega
    have hiy : ys[i]? = some ys[i] := List.getElem?_eq_getElem hi
    generalize hy0 : ys[i] = y0 at hiy
    have hm : y0 ∈ ys := List.mem_of_getElem? hiy
    have e0 : (0 : Int) + (i : Int) = (i : Int) := by omega
    rw [e0]
    obtain ⟨al, hal⟩ : ∃ al : Rat, al = (y0 : Rat) / ys.sum := ⟨_, rfl⟩
    have hrw : ∀ o : Nat, o ≤ n → ((((bin n o : Nat) * y0 ^ o * (ys.sum - y0) ^ (n - o) : Int) : Rat) / ((ys.sum ^ n : Int) : Rat)) = rw1 al n o := fun o ho => by rw [hal]; exact rw1_eq y0 ys.sum hWi n o ho
    have hrs : ∀ o : Nat, o ≤ n → Sq 210 (rw1 al n o) := fun o ho => by
      rw [← hrw o ho]
      have h1 : Sz 97 (y0 ^ o) := ((hY.szy hm).pow o).mono (by omega)
      have h2 : Sz 97 ((ys.sum - y0) ^ (n - o)) := ((hY.szD hm).pow (n - o)).mono (by omega)
      have h3 : Sz 97 (ys.sum ^ n) := (hY.szW.pow n).mono (by omega)
      have h4 : Sz 13 (bin n o : Nat) := (bin_sz n o).mono (by omega)
      exact Sq.of_div (hY.posP n) (((h4.mul h1).mul h2).mono (by decide)) (h3.mono (by decide))
    refine ⟨_, _, gt_name 8 g.nd, ?_⟩
    refine sds_cons (sd_setC 9 g (compP g (it_range1 T.n_range (ed_add (ed_v 5) ed_int) ⟨by omega, by omega⟩) [("own", 13)] (blkOk_by (N := ["script", "draws", "year", "size", "whole", "many", "total_used", "pairs", "day", "rows", "middle", "sum_here", "twos", "own"]) (sc := defScope s_law) (by decide +kernel)) (List.range (n + 1)) (fun (k : Nat) => PyData.int (0 + (k : Int))) (by rw [show ((n : Int) + 1).toNat = n + 1 by omega]; rfl) (fun k => some (fr (rw1 al n k))) (fun (k : Nat) => [.raw (.ref a), .raw (.ref d), .d (li ys), .d (.int (ys.length : Int)), .d (.int ys.sum), .d (.int (n : Int)), .d (fr (musd ys n (ys.take i))), .d (fr (prs ys n (ys.take i))), .d (.int (i : Int)), t9, t10, t11, t12, .d (.int (0 + (k : Int)))]) [13] (by simp) (by rw [List.length_range]; omega) (fun _ _ => trivial)
      (fun k _ s H C cl fp g' => gt_name 13 g'.nd) (fun k hk s H C cl fp o g' => ets_nil) (fun k hk x hx s H C cl fp o g' => ?_)) ?_ (sw_true rfl rfl rfl (by decide +kernel)))
    · cases hx
      have hk : k ≤ n := by
        have : k < n + 1 := by simpa using hk
        omega
      have e0 : (0 : Int) + (k : Int) = (k : Int) := by omega
      rw [e0, ← hrw k hk]
      exact es_call (fn_just_on_day T) g' (by decide) (ea_cons (ed_v 2) (ea_cons (ed_v 8) (ea_cons (ed_v 5) (ea_cons (ed_v 13) ea_nil)))) ⟨ys, i, n, k, y0, rfl, rfl, hY, hiy, hn, by omega, rfl⟩
    rintro p3 ds3 o3 ⟨rfl, rfl⟩
    refine sds_freeze 9 (oa := []) rfl ?_
    have erows : ((List.range (n + 1)).filterMap fun k => some (fr (rw1 al n k))) = (List.range (n + 1)).map fun k => fr (rw1 al n k) := congrFun List.filterMap_eq_map' _
    rw [erows]
    have hrow : ∀ o : Nat, o ≤ n → atI ((List.range (n + 1)).map fun k => fr (rw1 al n k)) (o : Int) = some (fr (rw1 al n o)) := fun o ho => atI_nat (by rw [List.getElem?_map, List.getElem?_range (by omega)]; rfl)
    refine sds_cons (sd_asg (ed_tup (ds := [fr 0, fr 0, fr 0]) (ea_cons (ed_tup (ds := [.int 0, .int 1]) (ea_cons ed_int (ea_cons ed_int ea_nil))) (ea_cons (ed_tup (ds := [.int 0, .int 1]) (ea_cons ed_int (ea_cons ed_int ea_nil))) (ea_cons (ed_tup (ds := [.int 0, .int 1]) (ea_cons ed_int (ea_cons ed_int ea_nil))) ea_nil)))) (gt_tup g.calm (gts_cons (gt_name 10 g.nd) (gts_cons (gt_name 11 g.nd) (gts_cons (gt_name 12 g.nd) gts_nil))) rfl) ?_ (hw := sw_const rfl))
    refine sds_cons (sd_for g (it_range1 T.n_range (ed_add (ed_v 5) ed_int) ⟨by omega, by omega⟩) (fun o ρ own => own = drw d q cells3 cnt3 ++ own0 ∧ Sq (230 * o + 1) (sumTo (fun o => 1 * rw1 al n o) o) ∧ Sq (230 * o + 1) (sumTo (fun o => ((o : Nat) : Rat) * rw1 al n o) o) ∧ Sq (230 * o + 1) (sumTo (fun o => (((o : Nat) : Rat) * (((o : Nat) : Rat) - 1) / 2) * rw1 al n o) o) ∧
        ∃ t13, ρ = [.raw (.ref a), .raw (.ref d), .d (li ys), .d (.int (ys.length : Int)), .d (.int ys.sum), .d (.int (n : Int)), .d (fr (musd ys n (ys.take i))), .d (fr (prs ys n (ys.take i))), .d (.int (i : Int)), .d (.list ((List.range (n + 1)).map fun k => fr (rw1 al n k))), .d (fr (sumTo (fun o => ((o : Nat) : Rat) * rw1 al n o) o)), .d (fr (sumTo (fun o => 1 * rw1 al n o) o)), .d (fr (sumTo (fun o => (((o : Nat) : Rat) * (((o : Nat) : Rat) - 1) / 2) * rw1 al n o) o)), t13]) ⟨rfl, .zero, .zero, .zero, t13, rfl⟩ (fun _ _ _ _ => trivial) ?_ ?_)
    · rintro o yy ρ2 own2 hyy ⟨rfl, s1, s2, s3, t13', rfl⟩
      obtain ⟨ho, rfl⟩ := rng_get hyy
      have ho : o ≤ n := by omega
      have e0 : (0 : Int) + (o : Int) = (o : Int) := by omega
      rw [e0]
      refine ⟨_, _, gt_name 13 g.nd, ?_⟩
      have c1 : sumTo (fun o => 1 * rw1 al n o) (o + 1) = sumTo (fun o => 1 * rw1 al n o) o + rw1 al n o := sum1_succ al n o
      have c2 : sumTo (fun o => ((o : Nat) : Rat) * rw1 al n o) (o + 1) = sumTo (fun o => ((o : Nat) : Rat) * rw1 al n o) o + ((o : Int) : Rat) * rw1 al n o := rfl
      have c3 : sumTo (fun o => (((o : Nat) : Rat) * (((o : Nat) : Rat) - 1) / 2) * rw1 al n o) (o + 1) = sumTo (fun o => (((o : Nat) : Rat) * (((o : Nat) : Rat) - 1) / 2) * rw1 al n o) o + (((o : Int) : Rat) * (((o : Int) : Rat) - 1) / 2) * rw1 al n o := rfl
      refine law_inner T g _ _ _ _ _ _ _ _ _ o _ (rw1 al n o) _ _ _ (by omega) (hrow o ho) (hrs o ho) s1 s2 s3 fun a1 a2 a3 => ?_
      rw [← c1] at a1 ⊢
      rw [← c2] at a2 ⊢
      rw [← c3] at a3 ⊢
      exact ⟨rfl, a1, a2, a3, .d (.int (o : Int)), rfl⟩
    rintro ρ2 own2 ⟨rfl, _, _, _, t13', rfl⟩
    rw [rng_length, show ((n : Int) + 1).toNat = n + 1 by omega]
    have m1 : sumTo (fun o => 1 * rw1 al n o) (n + 1) = 1 := mom_one al n
    have m2 : sumTo (fun o => ((o : Nat) : Rat) * rw1 al n o) (n + 1) = (n : Nat) * al := mom_id al n
    have m3 : sumTo (fun o => (((o : Nat) : Rat) * (((o : Nat) : Rat) - 1) / 2) * rw1 al n o) (n + 1) = ((n : Nat) : Rat) * (((n : Nat) : Rat) - 1) / 2 * al * al := by
      exact m3_e al n
    rw [m1, m2, m3]
    have od : ((((ys.sum - y0) ^ n : Int) : Rat) / ((ys.sum ^ n : Int) : Rat)) = rw1 al n 0 := by
      rw [← hrw 0 (Nat.zero_le _), bin_zero, Nat.sub_zero]
      congr 2
      simp
    have hyi : atI (ys.map PyData.int) (i : Int) = some (.int y0) := getI hiy
    have zy := hY.it y0 hm
    have zny : (((n : Int) * y0 : Int) : Rat) / ys.sum = ((n : Nat) : Rat) * al := by
      rw [hal]
      exact zny_e n y0 ys.sum
    refine sds_cons (sd_if (l := false) (ET.is (EW.et (ew_or (et_cmp (c_ne g .d .d (sh_fr 1) (sh_fr 1)) (ed_v 11) (ed_tup (ds := [.int 1, .int 1]) (ea_cons ed_int (ea_cons ed_int ea_nil)))) fun _ => ew_or1 (et_cmp (c_ne g .d .d (sh_fr _) (sh_fr _)) (ed_v 10) (es_call (fn_law_low T) g (by decide) (ea_cons (ed_mulS (ed_v 5) (ed_ixL (ed_v 2) (ed_v 8) .d hyi) (.inl ⟨by omega, by omega⟩)) (ea_cons (ed_v 4) ea_nil)) ⟨_, _, rfl, rfl, by omega, hY.szW.mono (by decide), rfl⟩)))) ?_) (fun h => nomatch h) fun _ => sds_nil ?_)
    · rw [eqv_fr, eqv_fr, zny]
      simp
    have qod : Sq 97 (rw1 al n 0) := by
      rw [← od]
      exact Sq.of_div (hY.posP n) (((hY.szD hm).pow n).mono (by omega)) ((hY.szW.pow n).mono (by omega))
    have qod2 := Sq.one.sub qod
    have one_y : (1 : Rat) - (((ys.sum - y0) ^ 1 : Int) : Rat) / ((ys.sum ^ 1 : Int) : Rat) = (y0 : Rat) / ys.sum := by
      exact one_e y0 ys.sum hWq
    refine sds_cons (sd_if (l := false) (ET.is (EW.et (ew_or (et_cmp (c_ne g .d .d (sh_fr _) (sh_fr 1)) (es_call (fn_law_add T) g (by decide) (ea_cons (es_call (fn_on_day T) g (by decide) (ea_cons (ed_v 2) (ea_cons (ed_v 8) (ea_cons (ed_v 5) ea_nil))) ⟨ys, i, n, y0, rfl, rfl, hY, hiy, hn, rfl⟩) (ea_cons (ed_ixL (ed_v 9) ed_int .d (hrow 0 (Nat.zero_le _))) ea_nil)) ⟨_, _, _, _, by rw [od], rfl, qod2, qod, by decide, rfl⟩) (ed_tup (ds := [.int 1, .int 1]) (ea_cons ed_int (ea_cons ed_int ea_nil)))) fun _ => ew_or1 (et_cmp (c_ne g .d .d (sh_fr _) (sh_fr _)) (es_call (fn_on_day T) g (by decide) (ea_cons (ed_v 2) (ea_cons (ed_v 8) (ea_cons ed_int ea_nil))) ⟨ys, i, 1, y0, rfl, rfl, hY, hiy, by decide, rfl⟩) (es_call (fn_share_of T) g (by decide) (ea_cons (ed_v 2) (ea_cons (ed_v 8) ea_nil)) ⟨ys, i, y0, rfl, rfl, hY, hiy, rfl⟩)))) ?_) (fun h => nomatch h) fun _ => sds_nil ?_)
    · have z : (1 : Rat) - rw1 al n 0 + rw1 al n 0 = 1 := can_e _
      rw [eqv_fr, eqv_fr, one_y, z]
      simp
    refine sds_cons (sd_set 6 g.nd (es_call (fn_law_add T) g (by decide) (ea_cons (ed_v 6) (ea_cons (es_call (fn_on_day T) g (by decide) (ea_cons (ed_v 2) (ea_cons (ed_v 8) (ea_cons (ed_v 5) ea_nil))) ⟨ys, i, n, y0, rfl, rfl, hY, hiy, hn, rfl⟩) ea_nil)) ⟨_, 1 - rw1 al n 0, _, _, by rw [od], rfl, hsu, qod2, by omega, rfl⟩) ?_)
    have qpp : Sq 25 (((n : Nat) : Rat) * (((n : Nat) : Rat) - 1) / 2 * al * al) := by
      have e : ((n : Nat) : Rat) * (((n : Nat) : Rat) - 1) / 2 * al * al = ((((n : Int) * ((n : Int) - 1) / 2 * (y0 * y0) : Int) : Rat) / ((ys.sum * ys.sum : Int) : Rat)) := by
        rw [hal]
        exact pp_e n y0 ys.sum hWq
      rw [e]
      have a1 : 0 ≤ (n : Int) * ((n : Int) - 1) / 2 ∧ (n : Int) * ((n : Int) - 1) / 2 ≤ 66 := by
        have : ∀ m : Nat, m ≤ 12 → 0 ≤ (m : Int) * ((m : Int) - 1) / 2 ∧ (m : Int) * ((m : Int) - 1) / 2 ≤ 66 := by decide
        exact this n hn
      have a2 : Sz 7 ((n : Int) * ((n : Int) - 1) / 2) := by unfold Sz; omega
      exact Sq.of_div (Int.mul_pos (by omega) (by omega)) ((a2.mul ((hY.szy hm).mul (hY.szy hm))).mono (by decide)) ((hY.szW.mul hY.szW).mono (by decide))
    refine sds_one (sd_set 7 g.nd (es_call (fn_law_add T) g (by decide) (ea_cons (ed_v 7) (ea_cons (ed_v 12) ea_nil)) ⟨_, _, _, _, rfl, rfl, hsp, qpp, by omega, rfl⟩) ?_)
    have e6 : musd ys n (ys.take (i + 1)) = musd ys n (ys.take i) + (1 - rw1 al n 0) := by rw [musd_take hiy, od]
    have e7 : prs ys n (ys.take (i + 1)) = prs ys n (ys.take i) + ((n : Nat) : Rat) * (((n : Nat) : Rat) - 1) / 2 * al * al := by rw [prs_take hiy, ← hal]
    have u6 : Sq (200 * (i + 1) + 1) (musd ys n (ys.take (i + 1))) := by
      rw [e6]
      exact (hsu.add qod2).mono (by omega)
    have u7 : Sq (200 * (i + 1) + 1) (prs ys n (ys.take (i + 1))) := by
      rw [e7]
      exact (hsp.add qpp).mono (by omega)
    rw [← e6, ← e7]
    exact ⟨rfl, u6, u7, .d (.int (i : Int)), .d (.list ((List.range (n + 1)).map fun k => fr (rw1 al n k))), .d (fr (((n : Nat) : Rat) * al)), .d (fr 1), .d (fr (((n : Nat) : Rat) * (((n : Nat) : Rat) - 1) / 2 * al * al)), t13', rfl⟩
  · rintro ρ1 own1 ⟨rfl, hsu, hsp, t8, t9, t10, t11, t12, t13, rfl⟩
    rw [rng_length, Int.toNat_natCast, List.take_length]
    refine sds_cons (sd_if (l := false) (ET.is (EW.et (ew_or (et_cmp (c_ne g .d .d (sh_fr _) (sh_fr _)) (ed_v 6) (es_call (fn_mean_used T) g (by decide) (ea_cons (ed_v 2) (ea_cons (ed_v 5) ea_nil)) ⟨ys, n, rfl, rfl, hY, hn, rfl⟩)) fun _ => ew_or1 (et_cmp (c_ne g .d .d (sh_fr _) (sh_fr _)) (ed_v 7) (es_call (fn_mean_pairs T) g (by decide) (ea_cons (ed_v 2) (ea_cons (ed_v 5) ea_nil)) ⟨ys, n, rfl, rfl, hY, hn, rfl⟩)))) ?_) (fun h => nomatch h) fun _ => sds_nil ?_)
    · rw [eqv_fr, eqv_fr, prs_eq ys n hWi]
      simp
    refine sds_one (sd_retG (R := fun t o => t = .d (.bool true)) (eg_call (oa := []) (o1 := drw d q cells3 cnt3) (ob := own0) (fn_law_best T) g (by decide) (ea_cons (ev_v 1) (ea_cons (ed_v 2) (ea_cons (ed_v 3) (ea_cons (ed_v 4) (ea_cons (ed_v 5) ea_nil))))) ⟨d, q, cells3, cnt3, ys, n, rfl, rfl, hc3, hY, hn, rfl⟩ ?_ ?_) ?_)
    · rintro t o1 ⟨o, e⟩
      cases e
      rfl
    · rintro C o1 ⟨o, e⟩
      cases e
    · rintro t o rfl
      exact ⟨_, rfl⟩)
end
end Pg

namespace Pg
open PySem PySem.Spec PyProof.Rows L2 Sd
section
variable {P : Program} {w : World} {K : PySem.W.Frag} {mg : Str → Option Value} {base : Heap} {c : Cl}
theorem int_mk {h : Heap} {z : Str} {i : Int} {t : Tok} (X : K.In h) (G : h.Ns mainGlobals mg) (a : PySem.W.nsIn K mainGlobals z = some (some (.int i t))) : ∃ t, mg z = some (.int i t) := ⟨t, PySem.W.mg_of X G a⟩
theorem law_end {fa cDayError cBadYear cBadDay cBadNumber cBadShare cBadText cNotFound cCalendar : Addr} (T : Tx K mg ⟨cDayError, cBadYear, cBadDay, cBadNumber, cBadShare, cBadText, cNotFound, cCalendar⟩) (hmg : mg "law" = some (.ref fa)) : ∃ fd : FuncData, (∀ (s : Shared) (u : Value), BindsTo s fd ⟨[u], []⟩ [("script", u)]) ∧ ∀ base : Heap, K.In base → base.Ns mainGlobals mg → FnOk P w K mg base (L2.CX P w) 6 fa fd ["script"] (spG (pre_law K)) := by
  obtain ⟨f, fd, F, hm, hb⟩ := T.d_law.ex
  rw [hmg] at hm
  cases hm
  exact ⟨fd, fun s u => .of_eq (hb [u] rfl), fun base _ _ => ok_law T F⟩
end
end Pg

open PySem PySem.W PyProof.Rows
set_option maxRecDepth 100000 in
set_option maxHeartbeats 0 in
theorem PySem.Challenge.cw_samedays_k19_whole_days_holds : PySem.Challenge.rw_samedays_k19_whole_days.Holds := by
  w_on; o_law; k_head; (case hw => w_witness2)
  k_fill
  refine L2.walk_of (l := PySem.Challenge.rw_samedays_k19_whole_days) (n := 63) (k := 6) (x := "script") (CX := fun w => L2.CX PySem.Challenge.rw_samedays_k19_whole_days.prog w) (sp := fun w => Sd.spG (Sd.pre_law _)) rfl (by decide) rfl ⟨rfl, by decide, by decide⟩ (fun w h Y => PySem.W.kIn_of Y) ?F (fun _ H a ns hl hO hS => Sd.law_in hl hO hS) (fun _ _ _ _ _ h => Sd.cx_no h)
  case F =>
    intro w mg fa h KX G hmg
    refine' Pg.law_end (cBadShare := 0) (cBadText := 0) (cNotFound := 0) (cCalendar := 0) ⟨Sd.err_mk KX G ?a0 ?x0 ?k0 ?b0 ?t0, Sd.err_mk KX G ?a1 ?x1 ?k1 ?b1 ?t1, Sd.err_mk KX G ?a2 ?x2 ?k2 ?b2 ?t2, Sd.err_mk KX G ?a3 ?x3 ?k3 ?b3 ?t3, Pg.int_mk KX G ?a4, Sd.df_mk2 KX G Pg.pa_is_int ?a5 ?l5 ?c5 ?k5, Sd.df_mk2 KX G Pg.pa_common ?a6 ?l6 ?c6 ?k6, Sd.df_mk2 KX G Pg.pa_is_year ?a7 ?l7 ?c7 ?k7, Sd.df_mk2 KX G Pg.pa_check_year ?a8 ?l8 ?c8 ?k8, Sd.df_mk2 KX G Pg.pa_check_day ?a9 ?l9 ?c9 ?k9, Sd.df_mk2 KX G Pg.pa_check_many ?a10 ?l10 ?c10 ?k10, Sd.df_mk2 KX G Pg.pa_lowest ?a11 ?l11 ?c11 ?k11, Sd.df_mk2 KX G Pg.pa_plus ?a12 ?l12 ?c12 ?k12, Sd.df_mk2 KX G Pg.pa_minus ?a13 ?l13 ?c13 ?k13, Sd.df_mk2 KX G Pg.pa_power ?a14 ?l14 ?c14 ?k14, Sd.df_mk2 KX G Pg.pa_choose ?a15 ?l15 ?c15 ?k15, Sd.df_mk2 KX G Pg.pa_share_of ?a16 ?l16 ?c16 ?k16, Sd.df_mk2 KX G Pg.pa_on_day ?a17 ?l17 ?c17 ?k17, Sd.df_mk2 KX G Pg.pa_just_on_day ?a18 ?l18 ?c18 ?k18, Sd.df_mk2 KX G Pg.pa_check_counts ?a19 ?l19 ?c19 ?k19, Sd.df_mk2 KX G Pg.pa_placed ?a20 ?l20 ?c20 ?k20, Sd.df_mk2 KX G Pg.pa_likeliest_days ?a21 ?l21 ?c21 ?k21, Sd.df_mk2 KX G Pg.pa_next_on_used ?a22 ?l22 ?c22 ?k22, Sd.df_mk2 KX G Pg.pa_mean_pairs ?a23 ?l23 ?c23 ?k23, Sd.df_mk2 KX G Pg.pa_mean_used ?a24 ?l24 ?c24 ?k24, Sd.df_mk2 KX G Pg.pa_law_start ?a25 ?l25 ?c25 ?k25, Sd.df_mk2 KX G Pg.pa_law_draw ?a26 ?l26 ?c26 ?k26, Sd.df_mk2 KX G Pg.pa_law_pick ?a27 ?l27 ?c27 ?k27, Sd.df_mk2 KX G Pg.pa_law_low ?a28 ?l28 ?c28 ?k28, Sd.df_mk2 KX G Pg.pa_law_add ?a29 ?l29 ?c29 ?k29, Sd.df_mk2 KX G Pg.pa_law_less ?a30 ?l30 ?c30 ?k30, Sd.df_mk2 KX G Pg.pa_law_year ?a31 ?l31 ?c31 ?k31, Sd.df_mk2 KX G Pg.pa_law_best ?a32 ?l32 ?c32 ?k32, Sd.df_mk2 KX G Pg.pa_law ?a33 ?l33 ?c33 ?k33, PySem.W.mg_none_of KX G ?z34, PySem.W.mg_none_of KX G ?z35, PySem.W.mg_none_of KX G ?z36, PySem.W.mg_none_of KX G ?z37, PySem.W.mg_none_of KX G ?z38, PySem.W.mg_none_of KX G ?z39, PySem.W.mg_none_of KX G ?z40, PySem.W.mg_none_of KX G ?z41, PySem.W.mg_none_of KX G ?z42, PySem.W.mg_none_of KX G ?z43, PySem.W.mg_none_of KX G ?z44, PySem.W.mg_none_of KX G ?z45, PySem.W.mg_none_of KX G ?z46, PySem.W.mg_none_of KX G ?z47⟩ hmg
    (case a0 => k_is)
    (case a1 => k_is)
    (case a2 => k_is)
    (case a3 => k_is)
    (case a4 => k_is)
    (case a5 => k_is)
    (case a6 => k_is)
    (case a7 => k_is)
    (case a8 => k_is)
    (case a9 => k_is)
    (case a10 => k_is)
    (case a11 => k_is)
    (case a12 => k_is)
    (case a13 => k_is)
    (case a14 => k_is)
    (case a15 => k_is)
    (case a16 => k_is)
    (case a17 => k_is)
    (case a18 => k_is)
    (case a19 => k_is)
    (case a20 => k_is)
    (case a21 => k_is)
    (case a22 => k_is)
    (case a23 => k_is)
    (case a24 => k_is)
    (case a25 => k_is)
    (case a26 => k_is)
    (case a27 => k_is)
    (case a28 => k_is)
    (case a29 => k_is)
    (case a30 => k_is)
    (case a31 => k_is)
    (case a32 => k_is)
    (case a33 => k_is)
    (case x0 => k_exc)
    (case k0 => k_is)
    (case b0 => k_is)
    (case t0 => k_is)
    (case x1 => k_exc)
    (case k1 => k_is)
    (case b1 => k_is)
    (case t1 => k_is)
    (case x2 => k_exc)
    (case k2 => k_is)
    (case b2 => k_is)
    (case t2 => k_is)
    (case x3 => k_exc)
    (case k3 => k_is)
    (case b3 => k_is)
    (case t3 => k_is)
    (case l5 => k_is)
    (case c5 => k_is)
    (case k5 => k_is)
    (case l6 => k_is)
    (case c6 => k_is)
    (case k6 => k_is)
    (case l7 => k_is)
    (case c7 => k_is)
    (case k7 => k_is)
    (case l8 => k_is)
    (case c8 => k_is)
    (case k8 => k_is)
    (case l9 => k_is)
    (case c9 => k_is)
    (case k9 => k_is)
    (case l10 => k_is)
    (case c10 => k_is)
    (case k10 => k_is)
    (case l11 => k_is)
    (case c11 => k_is)
    (case k11 => k_is)
    (case l12 => k_is)
    (case c12 => k_is)
    (case k12 => k_is)
    (case l13 => k_is)
    (case c13 => k_is)
    (case k13 => k_is)
    (case l14 => k_is)
    (case c14 => k_is)
    (case k14 => k_is)
    (case l15 => k_is)
    (case c15 => k_is)
    (case k15 => k_is)
    (case l16 => k_is)
    (case c16 => k_is)
    (case k16 => k_is)
    (case l17 => k_is)
    (case c17 => k_is)
    (case k17 => k_is)
    (case l18 => k_is)
    (case c18 => k_is)
    (case k18 => k_is)
    (case l19 => k_is)
    (case c19 => k_is)
    (case k19 => k_is)
    (case l20 => k_is)
    (case c20 => k_is)
    (case k20 => k_is)
    (case l21 => k_is)
    (case c21 => k_is)
    (case k21 => k_is)
    (case l22 => k_is)
    (case c22 => k_is)
    (case k22 => k_is)
    (case l23 => k_is)
    (case c23 => k_is)
    (case k23 => k_is)
    (case l24 => k_is)
    (case c24 => k_is)
    (case k24 => k_is)
    (case l25 => k_is)
    (case c25 => k_is)
    (case k25 => k_is)
    (case l26 => k_is)
    (case c26 => k_is)
    (case k26 => k_is)
    (case l27 => k_is)
    (case c27 => k_is)
    (case k27 => k_is)
    (case l28 => k_is)
    (case c28 => k_is)
    (case k28 => k_is)
    (case l29 => k_is)
    (case c29 => k_is)
    (case k29 => k_is)
    (case l30 => k_is)
    (case c30 => k_is)
    (case k30 => k_is)
    (case l31 => k_is)
    (case c31 => k_is)
    (case k31 => k_is)
    (case l32 => k_is)
    (case c32 => k_is)
    (case k32 => k_is)
    (case l33 => k_is)
    (case c33 => k_is)
    (case k33 => k_is)
    (case z34 => k_is)
    (case z35 => k_is)
    (case z36 => k_is)
    (case z37 => k_is)
    (case z38 => k_is)
    (case z39 => k_is)
    (case z40 => k_is)
    (case z41 => k_is)
    (case z42 => k_is)
    (case z43 => k_is)
    (case z44 => k_is)
    (case z45 => k_is)
    (case z46 => k_is)
    (case z47 => k_is)
