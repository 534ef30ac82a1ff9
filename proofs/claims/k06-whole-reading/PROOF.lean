import PyProof.Rows.All
import Wide.All
import OpenK.AllK
import Wide.FinOn
import HandS.Base
import HandS.Call
import HandS.List
import HandS.Comp
import HandS.Ends
import HandS.Dict
import HandS.Iter
import HandS.Text
import HandS.Exc
import HandS.TryOnly
import HandS.ExcOwn
import HandS.ExcValue
import HandS.IsInst
import HandS.Wide
import HandS.Words
import HandS.WordsList
import HandS.WordsDict
import HandS.WordsExc
import HandS.Style
import HandS.Deep
import HandS.ExcIs
import KE.DataFind
import HandS.Strs
import HandS.More
import HandS.SortRule
import HandS.Conv
import HandS.DictTup
import KE.KDictDisplayH
import HandS.TupSets
import HandS.SortOrd
import KE.SortData
import PySem.Challenge.RW_samedays_k06_whole_reading
set_option Elab.async false
set_option linter.all false
set_option maxRecDepth 100000
set_option maxHeartbeats 16000000
/-! data over the layer: what a value stands for, what is owned, judgements over data -/
namespace Sd
open PySem PySem.Spec PyProof.Rows L2

mutual
inductive Rep (H : Hp) : V → PyData → Prop
  | non : Rep H .non .none
  | bl (b : Bool) : Rep H (.bl b) (.bool b)
  | int (i : Int) : Rep H (.int i) (.int i)
  | str (x : Str) : Rep H (.str x) (.str x)
  | lst {a : Addr} {xs : List V} {ds : List PyData} : H a = some (.lst xs) → Reps H xs ds → Rep H (.ref a) (.list ds)
  | tup {a : Addr} {xs : List V} {ds : List PyData} : H a = some (.tup xs) → Reps H xs ds → Rep H (.ref a) (.tuple ds)
inductive Reps (H : Hp) : List V → List PyData → Prop
  | nil : Reps H [] []
  | cons {v : V} {vs : List V} {d : PyData} {ds : List PyData} : Rep H v d → Reps H vs ds → Reps H (v :: vs) (d :: ds)
end
section
variable {H H' : Hp} {K : PySem.W.Frag}
theorem Rep.mono (e : Same H H') {v : V} {d : PyData} (h : Rep H v d) : Rep H' v d :=
  Rep.rec (motive_1 := fun v d _ => Rep H' v d) (motive_2 := fun vs ds _ => Reps H' vs ds) .non .bl .int .str (fun h _ r => .lst (e _ _ h) r) (fun h _ r => .tup (e _ _ h) r) .nil (fun _ _ a b => .cons a b) h
theorem Reps.mono (e : Same H H') {v : List V} {d : List PyData} (h : Reps H v d) : Reps H' v d :=
  Reps.rec (motive_1 := fun v d _ => Rep H' v d) (motive_2 := fun vs ds _ => Reps H' vs ds) .non .bl .int .str (fun h _ r => .lst (e _ _ h) r) (fun h _ r => .tup (e _ _ h) r) .nil (fun _ _ a b => .cons a b) h
theorem Rep.dp {v : V} {d : PyData} (h : Rep H v d) : Dp K H v d :=
  Rep.rec (motive_1 := fun v d _ => Dp K H v d) (motive_2 := fun vs ds _ => DpAll K H vs ds) .non .bl .int .str (fun h _ r => .lst (SqL.of h) r) (fun h _ r => .tup (SqT.of h) r) .nil (fun _ _ a b => .cons a b) h
theorem Reps.length : ∀ {vs : List V} {ds : List PyData}, Reps H vs ds → vs.length = ds.length
  | _, _, .nil => rfl
  | _, _, .cons _ r => congrArg (· + 1) r.length
theorem Reps.get : ∀ {vs : List V} {ds : List PyData} {i : Nat} {d : PyData}, Reps H vs ds → ds[i]? = some d → ∃ v, vs[i]? = some v ∧ Rep H v d
  | _, _, _, _, .nil, e => by simp at e
  | _, _, 0, _, .cons a _, e => by simp at e; subst e; exact ⟨_, rfl, a⟩
  | _, _, i + 1, d, .cons _ r, e => by
    obtain ⟨v, h1, h2⟩ := Reps.get (i := i) (d := d) r (by simpa using e)
    exact ⟨v, by simpa using h1, h2⟩
theorem Reps.append : ∀ {xs ys : List V} {us ws : List PyData}, Reps H xs us → Reps H ys ws → Reps H (xs ++ ys) (us ++ ws)
  | _, _, _, _, .nil, s => s
  | _, _, _, _, .cons r t, s => .cons r (Reps.append t s)
theorem Reps.take : ∀ {xs : List V} {us : List PyData} (n : Nat), Reps H xs us → Reps H (xs.take n) (us.take n)
  | _, _, 0, _ => .nil
  | _, _, _ + 1, .nil => .nil
  | _, _, n + 1, .cons r t => .cons r (Reps.take n t)
theorem Reps.drop : ∀ {xs : List V} {us : List PyData} (n : Nat), Reps H xs us → Reps H (xs.drop n) (us.drop n)
  | _, _, 0, r => r
  | _, _, _ + 1, .nil => .nil
  | _, _, n + 1, .cons _ t => Reps.drop n t
theorem Reps.set {x : V} {u : PyData} (r : Rep H x u) : ∀ {xs : List V} {us : List PyData} (i : Nat), Reps H xs us → Reps H (xs.set i x) (us.set i u)
  | _, _, _, .nil => .nil
  | _, _, 0, .cons _ t => .cons r t
  | _, _, i + 1, .cons q t => .cons q (Reps.set r i t)
theorem Reps.reverse : ∀ {xs : List V} {us : List PyData}, Reps H xs us → Reps H xs.reverse us.reverse
  | _, _, .nil => .nil
  | _, _, .cons r t => by
    rw [List.reverse_cons, List.reverse_cons]
    exact t.reverse.append (.cons r .nil)
theorem Reps.ints : ∀ (ns : List Int), Reps H (ns.map V.int) (ns.map PyData.int)
  | [] => .nil
  | n :: r => .cons (.int n) (Reps.ints r)
theorem Reps.of_ints : ∀ {ns : List Int} {vs : List V}, Reps H vs (ns.map PyData.int) → vs = ns.map V.int
  | [], _, .nil => rfl
  | n :: r, _, .cons h t => by
    cases h
    rw [Reps.of_ints t]
    rfl
theorem Reps.of_bls : ∀ {ns : List Bool} {vs : List V}, Reps H vs (ns.map PyData.bool) → vs = ns.map V.bl
  | [], _, .nil => rfl
  | n :: r, _, .cons h t => by
    cases h
    rw [Reps.of_bls t]
    rfl
end

/-! ### weakest readings -/
section
variable {X : Cx}
structure wE (X : Cx) (e : Expr) (σ : L2.St) (H : Hp) (Q : VK) : Prop where
  run : ∀ (pins : List (Addr × Obj)) (s : Shared), Inv X pins σ H s → wpAny (model X.prog X.w) X.A (eval e X.env) (EP X pins σ Q) X.xe s
structure wT (X : Cx) (e : Expr) (σ : L2.St) (H : Hp) (Q : Bool → Hp → Prop) : Prop where
  run : ∀ (pins : List (Addr × Obj)) (s : Shared), Inv X pins σ H s → wpAny (model X.prog X.w) X.A (isTrue e X.env (eval e X.env)) (TP X pins σ Q) X.xe s
structure wW (X : Cx) (e : Expr) (σ : L2.St) (H : Hp) (Q : Bool → Hp → Prop) : Prop where
  run : ∀ (whole : Sem Value) (pins : List (Addr × Obj)) (s : Shared), Inv X pins σ H s → wpAny (model X.prog X.w) X.A (isTrue e X.env whole) (TP X pins σ Q) X.xe s
structure wA (X : Cx) (es : List Expr) (σ : L2.St) (H : Hp) (Q : List V → Hp → Prop) : Prop where
  run : ∀ (pos : Pos) (pins : List (Addr × Obj)) (s : Shared), Inv X pins σ H s → wpAny (model X.prog X.w) X.A (spliced (backTo pos (starEach es X.env))) (AP X pins σ Q) X.xe s
structure wS (X : Cx) (st : Stmt) (D : Ends) (σ : L2.St) (H : Hp) : Prop where
  run : ∀ (pins : List (Addr × Obj)) (s : Shared), Inv X pins σ H s → wpAny (model X.prog X.w) X.A (exec st X.env) (SP X pins D) X.xe s
structure wSs (X : Cx) (st : List Stmt) (D : Ends) (σ : L2.St) (H : Hp) : Prop where
  run : ∀ (pins : List (Addr × Obj)) (s : Shared), Inv X pins σ H s → wpAny (model X.prog X.w) X.A (execs st X.env) (SP X pins D) X.xe s
theorem peW {e : Expr} : PE X e (wE X e) := ⟨fun pins s _ _ _ I h => h.run pins s I⟩
theorem ptW {e : Expr} : PT X e (wT X e) := ⟨fun pins s _ _ _ I h => h.run pins s I⟩
theorem pwW {e : Expr} : PW X e (wW X e) := ⟨fun wh pins s _ _ _ I h => h.run wh pins s I⟩
theorem paW {es : List Expr} : PA X es (wA X es) := ⟨fun pos pins s _ _ _ I h => h.run pos pins s I⟩
theorem psW {st : Stmt} : PS X st (wS X st) := ⟨fun pins s _ _ _ I h => h.run pins s I⟩
theorem pssW {st : List Stmt} : PSs X st (wSs X st) := ⟨fun pins s _ _ _ I h => h.run pins s I⟩
theorem wE.of {e : Expr} {t : TE} (h : PE X e t) {σ : L2.St} {H : Hp} {Q : VK} (q : t σ H Q) : wE X e σ H Q := ⟨fun pins s I => h.run pins s σ H Q I q⟩
theorem wT.of {e : Expr} {t : TT} (h : PT X e t) {σ : L2.St} {H : Hp} {Q : Bool → Hp → Prop} (q : t σ H Q) : wT X e σ H Q := ⟨fun pins s I => h.run pins s σ H Q I q⟩
theorem wW.of {e : Expr} {t : TT} (h : PW X e t) {σ : L2.St} {H : Hp} {Q : Bool → Hp → Prop} (q : t σ H Q) : wW X e σ H Q := ⟨fun wh pins s I => h.run wh pins s σ H Q I q⟩
theorem wA.of {es : List Expr} {t : TA} (h : PA X es t) {σ : L2.St} {H : Hp} {Q : List V → Hp → Prop} (q : t σ H Q) : wA X es σ H Q := ⟨fun pos pins s I => h.run pos pins s σ H Q I q⟩
theorem wS.of {st : Stmt} {t : TS} (h : PS X st t) {σ : L2.St} {H : Hp} {D : Ends} (q : t D σ H) : wS X st D σ H := ⟨fun pins s I => h.run pins s σ H D I q⟩
theorem wSs.of {st : List Stmt} {t : TS} (h : PSs X st t) {σ : L2.St} {H : Hp} {D : Ends} (q : t D σ H) : wSs X st D σ H := ⟨fun pins s I => h.run pins s σ H D I q⟩
end

/-! ### what is known of the heap -/
inductive Slot where
  | un
  | d (x : PyData)
  | raw (v : V)
inductive OO where
  | lst (ds : List PyData)
  | raw (o : HO)
  | dt (tb : List (List Int × PyData))
  | dl (od : Obj) (kvs : List (List Key × V)) (tb : List (List Int × PyData))
  | dk (tb : List (Int × PyData))
abbrev Own := List (Addr × OO)
structure Bs where
  Hf : Hp
  HB : Hp
/-- a dict with tuples of ints as keys, as data -/
structure DtOk (Hf : Hp) (kvs : List (List Key × V)) (tb : List (List Int × PyData)) : Prop where
  ks : kvs.map (·.1) = tb.map fun e => e.1.map Sum.inl
  vs : Reps Hf (kvs.map (·.2)) (tb.map (·.2))
structure DkOk (Hf : Hp) (kvs : List (Key × V)) (tb : List (Int × PyData)) : Prop where
  ks : kvs.map (·.1) = tb.map fun e => Sum.inl e.1
  vs : Reps Hf (kvs.map (·.2)) (tb.map (·.2))
def OwnOk (Hf H : Hp) (p : Addr) : OO → Prop
  | .lst ds => ∃ vs, H p = some (.lst vs) ∧ Reps Hf vs ds
  | .raw o => H p = some o
  | .dt tb => ∃ kvs, H p = some (.dT kvs) ∧ DtOk Hf kvs tb
  | .dl od kvs tb => H p = some (.frz od (.dT kvs)) ∧ DtOk Hf kvs tb
  | .dk tb => ∃ kvs, H p = some (.dK kvs) ∧ DkOk Hf kvs tb
theorem OwnOk.mono {Hf Hf' H H' : Hp} {p : Addr} {o : OO} (e : Same Hf Hf') (h : ∀ u, H p = some u → H' p = some u) (x : OwnOk Hf H p o) : OwnOk Hf' H' p o := by
  cases o with
  | lst ds => obtain ⟨vs, h1, h2⟩ := x; exact ⟨vs, h _ h1, h2.mono e⟩
  | raw o => exact h _ x
  | dt tb => obtain ⟨vs, h1, h2⟩ := x; exact ⟨vs, h _ h1, h2.ks, h2.vs.mono e⟩
  | dl od kvs tb => obtain ⟨h1, h2⟩ := x; exact ⟨h _ h1, h2.ks, h2.vs.mono e⟩
  | dk tb => obtain ⟨vs, h1, h2⟩ := x; exact ⟨vs, h _ h1, h2.ks, h2.vs.mono e⟩
theorem OwnOk.there {Hf H : Hp} {p : Addr} {o : OO} (x : OwnOk Hf H p o) : ∃ u, H p = some u := by
  cases o with
  | lst ds => obtain ⟨vs, h1, h2⟩ := x; exact ⟨_, h1⟩
  | raw o => exact ⟨_, x⟩
  | dt tb => obtain ⟨vs, h1, h2⟩ := x; exact ⟨_, h1⟩
  | dl od kvs tb => obtain ⟨h1, h2⟩ := x; exact ⟨_, h1⟩
  | dk tb => obtain ⟨vs, h1, h2⟩ := x; exact ⟨_, h1⟩
structure Sat (B : Bs) (Hf H : Hp) (own : Own) : Prop where
  e0 : Same B.Hf Hf
  e1 : Same Hf H
  eb : Same B.HB H
  fr : ∀ p o, Hf p = some o → B.Hf p = none → B.HB p = none
  ow : ∀ q ∈ own, Hf q.1 = none ∧ B.HB q.1 = none ∧ OwnOk Hf H q.1 q.2
  nd : (own.map Prod.fst).Nodup
  tp : ∀ p xs, H p = some (.tup xs) → Hf p = some (.tup xs)
theorem same_upd {H H' : Hp} {p : Addr} {o : HO} (e : Same H H') (h : H p = none) : Same H (upd H' p o) := fun b x q => by
  rw [upd_ne (ne_of_none q h)]
  exact e b x q
theorem same_upd2 {H H' : Hp} {p : Addr} {o : HO} (e : Same H H') : Same (upd H p o) (upd H' p o) := fun b x q => by
  by_cases hb : b = p
  · subst hb; rw [upd_same] at q ⊢; exact q
  · rw [upd_ne hb] at q ⊢; exact e b x q
section
variable {B : Bs} {Hf H : Hp} {own : Own} {p : Addr}
theorem Sat.none_f (S : Sat B Hf H own) (n : H p = none) : Hf p = none := S.e1.free n
theorem Sat.none_b (S : Sat B Hf H own) (n : H p = none) : B.HB p = none := S.eb.free n
theorem Sat.none_0 (S : Sat B Hf H own) (n : H p = none) : B.Hf p = none := S.e0.free (S.e1.free n)
theorem Sat.ne (S : Sat B Hf H own) (n : H p = none) {q : Addr × OO} (hq : q ∈ own) : q.1 ≠ p := by
  obtain ⟨_, _, c⟩ := S.ow q hq
  obtain ⟨u, hu⟩ := c.there
  exact ne_of_none hu n
/-- a new thing that will not change -/
theorem Sat.new (S : Sat B Hf H own) (n : H p = none) (o : HO) : Sat B (upd Hf p o) (upd H p o) own where
  e0 := same_upd S.e0 (S.none_0 n)
  e1 := same_upd2 S.e1
  eb := same_upd S.eb (S.none_b n)
  fr := fun q u h hb => by
    by_cases e : q = p
    · rw [e]; exact S.none_b n
    · rw [upd_ne e] at h; exact S.fr q u h hb
  ow := fun q hq => by
    obtain ⟨a, b, c⟩ := S.ow q hq
    have ne := S.ne n hq
    exact ⟨by rw [upd_ne ne]; exact a, b, c.mono (same_upd (Same.refl _) (S.none_f n)) fun u hu => by rw [upd_ne ne]; exact hu⟩
  nd := S.nd
  tp := fun q xs h => by
    by_cases e : q = p
    · subst e; rw [upd_same] at h ⊢; exact h
    · rw [upd_ne e] at h ⊢; exact S.tp q xs h
theorem Sat.new_same (S : Sat B Hf H own) (n : H p = none) (o : HO) : Same Hf (upd Hf p o) := same_upd (Same.refl _) (S.none_f n)
/-- a new thing of one's own -/
theorem Sat.newOwn (S : Sat B Hf H own) (n : H p = none) {o : HO} {oo : OO} (ok : OwnOk Hf (upd H p o) p oo) (nt : ∀ xs, o ≠ .tup xs := by intro _ z; cases z) : Sat B Hf (upd H p o) ((p, oo) :: own) where
  e0 := S.e0
  e1 := same_upd S.e1 (S.none_f n)
  eb := same_upd S.eb (S.none_b n)
  fr := S.fr
  ow := fun q hq => by
    rcases List.mem_cons.mp hq with rfl | hq
    · exact ⟨S.none_f n, S.none_b n, ok⟩
    · obtain ⟨a, b, c⟩ := S.ow q hq
      have ne := S.ne n hq
      exact ⟨a, b, c.mono (Same.refl _) fun u hu => by rw [upd_ne ne]; exact hu⟩
  nd := by
    rw [List.map_cons, List.nodup_cons]
    refine ⟨fun hm => ?_, S.nd⟩
    obtain ⟨q, hq, e⟩ := List.mem_map.mp hm
    exact S.ne n hq e
  tp := fun q xs h => by
    by_cases e : q = p
    · subst e; rw [upd_same] at h; exact absurd (Option.some.inj h) (nt xs)
    · rw [upd_ne e] at h; exact S.tp q xs h
theorem Sat.at (S : Sat B Hf H own) {oo : OO} (h : (p, oo) ∈ own) : Hf p = none ∧ B.HB p = none ∧ OwnOk Hf H p oo := S.ow _ h
/-- a thing of one's own changes -/
theorem Sat.write {oa ob : Own} {oo oo' : OO} {o : HO} (S : Sat B Hf H (oa ++ (p, oo) :: ob)) (ok : OwnOk Hf (upd H p o) p oo') (nt : ∀ xs, o ≠ .tup xs := by intro _ z; cases z) : Sat B Hf (upd H p o) (oa ++ (p, oo') :: ob) := by
  obtain ⟨a, b, _⟩ := S.at (p := p) (oo := oo) (by simp)
  have nd := S.nd
  rw [List.map_append, List.map_cons] at nd
  refine ⟨S.e0, same_upd S.e1 a, same_upd S.eb b, S.fr, fun q hq => ?_, by rw [List.map_append, List.map_cons]; exact nd, fun q xs h => ?_⟩
  rotate_left
  · by_cases e : q = p
    · subst e; rw [upd_same] at h; exact absurd (Option.some.inj h) (nt xs)
    · rw [upd_ne e] at h; exact S.tp q xs h
  have key : q ∈ oa ∨ q ∈ ob → Hf q.1 = none ∧ B.HB q.1 = none ∧ OwnOk Hf (upd H p o) q.1 q.2 := fun hq => by
    have hm : q ∈ oa ++ (p, oo) :: ob := by
      rcases hq with h | h
      · exact List.mem_append_left _ h
      · exact List.mem_append_right _ (List.mem_cons_of_mem _ h)
    obtain ⟨a', b', c'⟩ := S.ow q hm
    have ne : q.1 ≠ p := fun e => by
      rcases hq with h | h
      · exact (List.nodup_append.mp nd).2.2 q.1 (List.mem_map.mpr ⟨q, h, rfl⟩) p (List.mem_cons_self) e
      · have := (List.nodup_cons.mp (List.nodup_append.mp nd).2.1).1
        exact this (List.mem_map.mpr ⟨q, h, e⟩)
    exact ⟨a', b', c'.mono (Same.refl _) fun u hu => by rw [upd_ne ne]; exact hu⟩
  rcases List.mem_append.mp hq with h | h
  · exact key (.inl h)
  · rcases List.mem_cons.mp h with rfl | h
    · exact ⟨a, b, ok⟩
    · exact key (.inr h)
/-- a list of one's own will not change any more -/
theorem Sat.freeze {oa ob : Own} {ds : List PyData} (S : Sat B Hf H (oa ++ (p, .lst ds) :: ob)) : ∃ Hf', Same Hf Hf' ∧ Sat B Hf' H (oa ++ ob) ∧ Rep Hf' (.ref p) (.list ds) := by
  obtain ⟨a, b, vs, hp, hr⟩ := S.at (p := p) (oo := .lst ds) (by simp)
  have nd := S.nd
  rw [List.map_append, List.map_cons] at nd
  have sm : Same Hf (upd Hf p (.lst vs)) := same_upd (Same.refl _) a
  refine ⟨upd Hf p (.lst vs), sm, ⟨S.e0.trans sm, fun q u h => ?_, S.eb, fun q u h hb => ?_, fun q hq => ?_, ?_, fun q xs h => sm _ _ (S.tp q xs h)⟩, .lst upd_same (hr.mono sm)⟩
  · by_cases e : q = p
    · subst e; rw [upd_same] at h; rw [hp]; exact h
    · rw [upd_ne e] at h; exact S.e1 q u h
  · by_cases e : q = p
    · subst e; exact b
    · rw [upd_ne e] at h; exact S.fr q u h hb
  · have hm : q ∈ oa ++ (p, .lst ds) :: ob := by
      rcases List.mem_append.mp hq with h | h
      · exact List.mem_append_left _ h
      · exact List.mem_append_right _ (List.mem_cons_of_mem _ h)
    obtain ⟨a', b', c'⟩ := S.ow q hm
    have ne : q.1 ≠ p := fun e => by
      rcases List.mem_append.mp hq with h | h
      · exact (List.nodup_append.mp nd).2.2 q.1 (List.mem_map.mpr ⟨q, h, rfl⟩) p (List.mem_cons_self) e
      · have := (List.nodup_cons.mp (List.nodup_append.mp nd).2.1).1
        exact this (List.mem_map.mpr ⟨q, h, e⟩)
    exact ⟨by rw [upd_ne ne]; exact a', b', c'.mono sm fun u hu => hu⟩
  · rw [List.map_append]
    refine List.nodup_append.mpr ⟨(List.nodup_append.mp nd).1, (List.nodup_cons.mp (List.nodup_append.mp nd).2.1).2, fun x hx y hy => (List.nodup_append.mp nd).2.2 x hx y (List.mem_cons_of_mem _ hy)⟩
/-- forget a thing of one's own -/
theorem Sat.drop {oa ob : Own} {oo : OO} (S : Sat B Hf H (oa ++ (p, oo) :: ob)) : Sat B Hf H (oa ++ ob) := by
  have nd := S.nd
  rw [List.map_append, List.map_cons] at nd
  refine ⟨S.e0, S.e1, S.eb, S.fr, fun q hq => S.ow q ?_, ?_, S.tp⟩
  · rcases List.mem_append.mp hq with h | h
    · exact List.mem_append_left _ h
    · exact List.mem_append_right _ (List.mem_cons_of_mem _ h)
  · rw [List.map_append]
    refine List.nodup_append.mpr ⟨(List.nodup_append.mp nd).1, (List.nodup_cons.mp (List.nodup_append.mp nd).2.1).2, fun x hx y hy => (List.nodup_append.mp nd).2.2 x hx y (List.mem_cons_of_mem _ hy)⟩
end

/-! ### slots -/
def SlotR (Hf : Hp) (v : V) : Slot → Prop
  | .un => True
  | .d x => Rep Hf v x
  | .raw w => v = w
theorem SlotR.mono {Hf Hf' : Hp} (e : Same Hf Hf') {v : V} {s : Slot} (h : SlotR Hf v s) : SlotR Hf' v s := by
  cases s with
  | un => trivial
  | d x => exact Rep.mono e h
  | raw w => exact h
structure EnvR (Hf : Hp) (σ : L2.St) (ρ : List Slot) : Prop where
  len : σ.length = ρ.length
  at_ : ∀ (i : Nat) (s : Slot), ρ[i]? = some s → s = .un ∨ ∃ v, σ[i]? = some (some v) ∧ SlotR Hf v s
section
variable {Hf Hf' : Hp} {σ : L2.St} {ρ : List Slot}
theorem EnvR.mono (e : Same Hf Hf') (h : EnvR Hf σ ρ) : EnvR Hf' σ ρ := ⟨h.len, fun i s q => by
  rcases h.at_ i s q with z | ⟨v, z, r⟩
  · exact .inl z
  · exact .inr ⟨v, z, r.mono e⟩⟩
theorem EnvR.set (h : EnvR Hf σ ρ) {v : V} {s : Slot} (r : SlotR Hf v s) (i : Nat) : EnvR Hf (σ.set i (some v)) (ρ.set i s) := by
  refine ⟨by rw [List.length_set, List.length_set]; exact h.len, fun j t q => ?_⟩
  by_cases e : i = j
  · subst e
    by_cases hi : i < ρ.length
    · rw [List.getElem?_set_self hi] at q
      cases q
      exact .inr ⟨v, by rw [List.getElem?_set_self (by rw [h.len]; exact hi)], r⟩
    · rw [List.getElem?_eq_none (by simpa using hi)] at q
      cases q
  · rw [List.getElem?_set_ne e] at q
    rcases h.at_ j t q with z | ⟨w, z, r'⟩
    · exact .inl z
    · exact .inr ⟨w, by rw [List.getElem?_set_ne e]; exact z, r'⟩
theorem EnvR.unset (h : EnvR Hf σ ρ) (i : Nat) (o : Option V) : EnvR Hf (σ.set i o) (ρ.set i .un) := by
  refine ⟨by rw [List.length_set, List.length_set]; exact h.len, fun j t q => ?_⟩
  by_cases e : i = j
  · subst e
    by_cases hi : i < ρ.length
    · rw [List.getElem?_set_self hi] at q
      cases q
      exact .inl rfl
    · rw [List.getElem?_eq_none (by simpa using hi)] at q
      cases q
  · rw [List.getElem?_set_ne e] at q
    rcases h.at_ j t q with z | ⟨w, z, r'⟩
    · exact .inl z
    · exact .inr ⟨w, by rw [List.getElem?_set_ne e]; exact z, r'⟩
theorem EnvR.d (h : EnvR Hf σ ρ) {i : Nat} {x : PyData} (e : ρ[i]? = some (.d x)) : ∃ v, σ[i]? = some (some v) ∧ Rep Hf v x := by
  rcases h.at_ i _ e with z | z
  · cases z
  · exact z
theorem EnvR.raw (h : EnvR Hf σ ρ) {i : Nat} {w : V} (e : ρ[i]? = some (.raw w)) : σ[i]? = some (some w) := by
  rcases h.at_ i _ e with z | ⟨v, z, r⟩
  · cases z
  · rw [z, show v = w from r]
def wipeR (ρ : List Slot) : List Nat → List Slot
  | [] => ρ
  | v :: vs => (wipeR ρ vs).set v .un
theorem EnvR.wipe (h : EnvR Hf σ ρ) : ∀ is : List Nat, EnvR Hf (wipe σ is) (wipeR ρ is)
  | [] => h
  | i :: is => (EnvR.wipe h is).unset i none
end

/-! ### judgements over data -/
structure Ctx where
  X : Cx
  B : Bs
  ex : Addr → List Slot → Own → Prop
def Wish (Z : Ctx) : WX := fun cls d σ H => ∃ C Hf ρ own, cls = .ref C ∧ d = none ∧ Sat Z.B Hf H own ∧ EnvR Hf σ ρ ∧ Z.ex C ρ own
structure Gd (Z : Ctx) (k : Nat) : Prop where
  tk : Takes Z.X (Wish Z)
  po : PassesOwn (model Z.X.prog Z.X.w) Z.X.A Z.X.env Z.X.xe
  calm : Z.X.calm = true
  nd : Z.X.N.Nodup
  hr : Room k Z.X.A
theorem Gd.mono {Z : Ctx} {j k : Nat} (g : Gd Z k) (h : j ≤ k) : Gd Z j := ⟨g.tk, g.po, g.calm, g.nd, g.hr.mono h⟩
/-- e evaluates to what s says -/
def ES (Z : Ctx) (e : Expr) (ρ : List Slot) (own : Own) (s : Slot) : Prop := ∀ Hf σ H, Sat Z.B Hf H own → EnvR Hf σ ρ → ∀ Q : VK, (∀ v Hf' H', Same Hf Hf' → Sat Z.B Hf' H' own → SlotR Hf' v s → Q v H') → wE Z.X e σ H Q
abbrev ED (Z : Ctx) (e : Expr) (ρ : List Slot) (own : Own) (x : PyData) : Prop := ES Z e ρ own (.d x)
abbrev EV (Z : Ctx) (e : Expr) (ρ : List Slot) (own : Own) (v : V) : Prop := ES Z e ρ own (.raw v)
/-- a new list of one's own -/
def EL (Z : Ctx) (e : Expr) (ρ : List Slot) (own : Own) (ds : List PyData) : Prop := ∀ Hf σ H, Sat Z.B Hf H own → EnvR Hf σ ρ → ∀ Q : VK, (∀ p Hf' H', Same Hf Hf' → Sat Z.B Hf' H' ((p, .lst ds) :: own) → Q (.ref p) H') → wE Z.X e σ H Q
/-- e ends in an exception -/
def EX (Z : Ctx) (e : Expr) (ρ : List Slot) (own : Own) : Prop := ∀ Hf σ H, Sat Z.B Hf H own → EnvR Hf σ ρ → ∀ Q : VK, wE Z.X e σ H Q
def ET (Z : Ctx) (e : Expr) (ρ : List Slot) (own : Own) (b : Bool) : Prop := ∀ Hf σ H, Sat Z.B Hf H own → EnvR Hf σ ρ → ∀ Q : Bool → Hp → Prop, (∀ Hf' H', Same Hf Hf' → Sat Z.B Hf' H' own → Q b H') → wT Z.X e σ H Q
def EW (Z : Ctx) (e : Expr) (ρ : List Slot) (own : Own) (b : Bool) : Prop := ∀ Hf σ H, Sat Z.B Hf H own → EnvR Hf σ ρ → ∀ Q : Bool → Hp → Prop, (∀ Hf' H', Same Hf Hf' → Sat Z.B Hf' H' own → Q b H') → wW Z.X e σ H Q
inductive SlotsR (Hf : Hp) : List V → List Slot → Prop
  | nil : SlotsR Hf [] []
  | cons {v : V} {vs : List V} {s : Slot} {ss : List Slot} : SlotR Hf v s → SlotsR Hf vs ss → SlotsR Hf (v :: vs) (s :: ss)
theorem SlotsR.mono {Hf Hf' : Hp} (e : Same Hf Hf') : ∀ {vs : List V} {ss : List Slot}, SlotsR Hf vs ss → SlotsR Hf' vs ss
  | _, _, .nil => .nil
  | _, _, .cons a b => .cons (a.mono e) (b.mono e)
theorem SlotsR.length {Hf : Hp} : ∀ {vs : List V} {ss : List Slot}, SlotsR Hf vs ss → vs.length = ss.length
  | _, _, .nil => rfl
  | _, _, .cons _ r => congrArg (· + 1) r.length
theorem SlotsR.data {Hf : Hp} : ∀ {vs : List V} {ds : List PyData}, SlotsR Hf vs (ds.map Slot.d) → Reps Hf vs ds
  | _, [], .nil => .nil
  | _, _ :: _, .cons a b => .cons a b.data
def EA (Z : Ctx) (es : List Expr) (ρ : List Slot) (own : Own) (ss : List Slot) : Prop := ∀ Hf σ H, Sat Z.B Hf H own → EnvR Hf σ ρ → ∀ Q : List V → Hp → Prop, (∀ vs Hf' H', Same Hf Hf' → Sat Z.B Hf' H' own → SlotsR Hf' vs ss → Q vs H') → wA Z.X es σ H Q

section
variable {Z : Ctx} {e a b c : Expr} {ρ : List Slot} {own : Own} {pos : Pos} {x y : PyData} {i j : Int} {s t : Slot} {k : Nat}
theorem ES.is (h : ED Z e ρ own x) (q : x = y) : ED Z e ρ own y := q ▸ h
theorem ET.is {b b' : Bool} (h : ET Z e ρ own b) (q : b = b') : ET Z e ρ own b' := q ▸ h
theorem EL.is {xs ys : List PyData} (h : EL Z e ρ own xs) (q : xs = ys) : EL Z e ρ own ys := q ▸ h
/-- a new list is data -/
theorem EL.ed {ds : List PyData} (h : EL Z e ρ own ds) : ED Z e ρ own (.list ds) := fun Hf σ H S R Q q => h Hf σ H S R Q fun p Hf' H' m S' => by
  obtain ⟨Hf2, m2, S2, r⟩ := Sat.freeze (oa := []) S'
  exact q _ Hf2 H' (m.trans m2) S2 r
/-! names, constants -/
theorem es_v (n : Nat) {z : Str} {s : Slot} (he : ρ[n]? = some s) (hs : s ≠ .un) (hN : Z.X.N[n]? = some z := by rfl) (hv : Vis Z.X.env.scope z := by first | exact Or.inl rfl | exact Or.inr (Or.inl rfl) | exact Or.inr (Or.inr rfl)) (hd : (z == ("__debug__" : Str)) = false := by decide)
    (hcd : (z == ("__classdict__" : Str)) = false := by decide) : ES Z (.Name z pos) ρ own s := fun Hf σ H S R Q q => wE.of (pe_var hN hv hd hcd) (by
  rcases R.at_ n s he with z | ⟨v, e, r⟩
  · exact absurd z hs
  · exact ⟨v, e, q v Hf H (Same.refl _) S r⟩)
theorem ed_v (n : Nat) {z : Str} {x : PyData} (he : ρ[n]? = some (.d x) := by rfl) (hN : Z.X.N[n]? = some z := by rfl) (hv : Vis Z.X.env.scope z := by first | exact Or.inl rfl | exact Or.inr (Or.inl rfl) | exact Or.inr (Or.inr rfl)) (hd : (z == ("__debug__" : Str)) = false := by decide)
    (hcd : (z == ("__classdict__" : Str)) = false := by decide) : ED Z (.Name z pos) ρ own x := es_v n he (fun q => nomatch q) hN hv hd hcd
theorem ev_v (n : Nat) {z : Str} {x : V} (he : ρ[n]? = some (.raw x) := by rfl) (hN : Z.X.N[n]? = some z := by rfl) (hv : Vis Z.X.env.scope z := by first | exact Or.inl rfl | exact Or.inr (Or.inl rfl) | exact Or.inr (Or.inr rfl)) (hd : (z == ("__debug__" : Str)) = false := by decide)
    (hcd : (z == ("__classdict__" : Str)) = false := by decide) : EV Z (.Name z pos) ρ own x := es_v n he (fun q => nomatch q) hN hv hd hcd
theorem ed_int {j : Nat} {i : Int} : ED Z (.Constant (.int i) j pos) ρ own (.int i) := fun Hf σ H S R Q q => wE.of pe_int (q _ Hf H (Same.refl _) S (.int i))
theorem ed_bl {j : Nat} {b : Bool} : ED Z (.Constant (.bool b) j pos) ρ own (.bool b) := fun Hf σ H S R Q q => wE.of pe_bl (q _ Hf H (Same.refl _) S (.bl b))
theorem ed_non {j : Nat} : ED Z (.Constant .none j pos) ρ own .none := fun Hf σ H S R Q q => wE.of pe_non (q _ Hf H (Same.refl _) S .non)
theorem ed_str {j : Nat} {z : Str} : ED Z (.Constant (.str z) j pos) ρ own (.str z) := fun Hf σ H S R Q q => wE.of pe_str (q _ Hf H (Same.refl _) S (.str z))
/-- a module's own int -/
theorem ed_glob {z : Str} {n : Int} {t : Tok} (hg : Gl Z.X z) (hm : Z.X.mg z = some (.int n t)) (hd : (z == ("__debug__" : Str)) = false := by decide) : ED Z (.Name z pos) ρ own (.int n) := fun Hf σ H S R Q q => wE.of (pe_glob hg hm (v := .int n) ⟨_, rfl⟩ hd) (q _ Hf H (Same.refl _) S (.int n))
theorem ev_glob {z : Str} {C : Addr} (hg : Gl Z.X z) (hm : Z.X.mg z = some (.ref C)) (hd : (z == ("__debug__" : Str)) = false := by decide) : EV Z (.Name z pos) ρ own (.ref C) := fun Hf σ H S R Q q => wE.of (pe_glob hg hm (v := .ref C) rfl hd) (q _ Hf H (Same.refl _) S rfl)
theorem ev_ty {z : Str} {T : String} (hg : Gl Z.X z) (hm : Z.X.mg z = none) (hv : bootBuiltins z = some (.type T)) (hn : z ≠ "__name__" := by decide) (hd : (z == ("__debug__" : Str)) = false := by decide) : EV Z (.Name z pos) ρ own (.ty T) := fun Hf σ H S R Q q => wE.of (pe_bltn hg hm hv (v := .ty T) rfl hn hd) (q _ Hf H (Same.refl _) S rfl)

end
end Sd


namespace Sd
open PySem PySem.Spec PyProof.Rows L2
section
variable {Z : Ctx} {e a b c : Expr} {es : List Expr} {ρ : List Slot} {own : Own} {pos : Pos} {x y : PyData} {i j : Int} {s t u : Slot} {k : Nat}
theorem es_bin {op : Operator} {r : R2} {u : Slot} (ho : OpR Z.X (binaryOp op) r) (ha : ES Z a ρ own s) (hb : ES Z b ρ own t)
    (hr : ∀ v w Hf H, Sat Z.B Hf H own → SlotR Hf v s → SlotR Hf w t → ∀ Q : VK, (∀ z Hf' H', Same Hf Hf' → Sat Z.B Hf' H' own → SlotR Hf' z u → Q z H') → r v w H Q) : ES Z (.BinOp a op b pos) ρ own u := fun Hf σ H S R Q q =>
  wE.of (pe_op ho peW peW) (ha Hf σ H S R _ fun v Hf1 H1 m1 S1 r1 => hb Hf1 σ H1 S1 (R.mono m1) _ fun w Hf2 H2 m2 S2 r2 => hr v w Hf2 H2 S2 (r1.mono m2) r2 Q fun z Hf3 H3 m3 S3 r3 => q z Hf3 H3 ((m1.trans m2).trans m3) S3 r3)
theorem el_bin {op : Operator} {r : R2} {ds : List PyData} (ho : OpR Z.X (binaryOp op) r) (ha : ES Z a ρ own s) (hb : ES Z b ρ own t)
    (hr : ∀ v w Hf H, Sat Z.B Hf H own → SlotR Hf v s → SlotR Hf w t → ∀ Q : VK, (∀ p Hf' H', Same Hf Hf' → Sat Z.B Hf' H' ((p, .lst ds) :: own) → Q (.ref p) H') → r v w H Q) : EL Z (.BinOp a op b pos) ρ own ds := fun Hf σ H S R Q q =>
  wE.of (pe_op ho peW peW) (ha Hf σ H S R _ fun v Hf1 H1 m1 S1 r1 => hb Hf1 σ H1 S1 (R.mono m1) _ fun w Hf2 H2 m2 S2 r2 => hr v w Hf2 H2 S2 (r1.mono m2) r2 Q fun z Hf3 H3 m3 S3 => q z Hf3 H3 ((m1.trans m2).trans m3) S3)
theorem ed_add (ha : ED Z a ρ own (.int i)) (hb : ED Z b ρ own (.int j)) : ED Z (.BinOp a .Add b pos) ρ own (.int (i + j)) := es_bin op_add ha hb fun v w Hf H S r1 r2 Q q => by
  cases r1; cases r2
  exact ⟨i, j, rfl, rfl, q _ Hf H (Same.refl _) S (.int _)⟩
theorem ed_sub (ha : ED Z a ρ own (.int i)) (hb : ED Z b ρ own (.int j)) : ED Z (.BinOp a .Sub b pos) ρ own (.int (i - j)) := es_bin op_sub ha hb fun v w Hf H S r1 r2 Q q => by
  cases r1; cases r2
  exact ⟨i, j, rfl, rfl, q _ Hf H (Same.refl _) S (.int _)⟩
/-- a product: small by the size of both -/
theorem ed_mul (ha : ED Z a ρ own (.int i)) (hb : ED Z b ρ own (.int j)) (h : CMulW i j) : ED Z (.BinOp a .Mult b pos) ρ own (.int (i * j)) := es_bin op_mulW ha hb fun v w Hf H S r1 r2 Q q => by
  cases r1; cases r2
  exact ⟨i, j, rfl, rfl, h, q _ Hf H (Same.refl _) S (.int _)⟩
theorem ed_mulS (ha : ED Z a ρ own (.int i)) (hb : ED Z b ρ own (.int j)) (h : CMul i j) : ED Z (.BinOp a .Mult b pos) ρ own (.int (i * j)) := es_bin op_mul ha hb fun v w Hf H S r1 r2 Q q => by
  cases r1; cases r2
  exact ⟨i, j, rfl, rfl, h, q _ Hf H (Same.refl _) S (.int _)⟩
theorem ed_fdiv (ha : ED Z a ρ own (.int i)) (hb : ED Z b ρ own (.int j)) (h : CDivW i j) : ED Z (.BinOp a .FloorDiv b pos) ρ own (.int (i / j)) := es_bin op_fdivW ha hb fun v w Hf H S r1 r2 Q q => by
  cases r1; cases r2
  exact ⟨i, j, rfl, rfl, h, q _ Hf H (Same.refl _) S (.int _)⟩
theorem ed_fdivS (ha : ED Z a ρ own (.int i)) (hb : ED Z b ρ own (.int j)) (h : 0 < j ∧ j < 1073741824) : ED Z (.BinOp a .FloorDiv b pos) ρ own (.int (i / j)) := es_bin op_fdiv ha hb fun v w Hf H S r1 r2 Q q => by
  cases r1; cases r2
  exact ⟨i, j, rfl, rfl, h, q _ Hf H (Same.refl _) S (.int _)⟩
theorem ed_mod (ha : ED Z a ρ own (.int i)) (hb : ED Z b ρ own (.int j)) (h : 0 < j) : ED Z (.BinOp a .Mod b pos) ρ own (.int (i % j)) := es_bin op_mod ha hb fun v w Hf H S r1 r2 Q q => by
  cases r1; cases r2
  exact ⟨i, j, rfl, rfl, h, q _ Hf H (Same.refl _) S (.int _)⟩
theorem ed_pow (ha : ED Z a ρ own (.int i)) (hb : ED Z b ρ own (.int j)) (h : CPow i j) : ED Z (.BinOp a .Pow b pos) ρ own (.int (i ^ j.toNat)) := es_bin op_pow ha hb fun v w Hf H S r1 r2 Q q => by
  cases r1; cases r2
  exact ⟨i, j, rfl, rfl, h, q _ Hf H (Same.refl _) S (.int _)⟩
theorem ed_neg (ha : ED Z a ρ own (.int i)) : ED Z (.UnaryOp .USub a pos) ρ own (.int (-i)) := fun Hf σ H S R Q q =>
  wE.of (pe_un un_neg peW) (ha Hf σ H S R _ fun v Hf1 H1 m1 S1 r1 => by
    cases r1
    exact ⟨i, rfl, q _ Hf1 H1 m1 S1 (.int _)⟩)
def Lst (own : Own) (s : Slot) (ds : List PyData) : Prop := s = .d (.list ds) ∨ ∃ p, s = .raw (.ref p) ∧ (p, OO.lst ds) ∈ own
theorem Lst.d {ds : List PyData} : Lst own (.d (.list ds)) ds := .inl rfl
theorem Lst.o {p : Addr} {ds : List PyData} (h : (p, OO.lst ds) ∈ own) : Lst own (.raw (.ref p)) ds := .inr ⟨p, rfl, h⟩
theorem Lst.at {B : Bs} {Hf H : Hp} {ds : List PyData} {v : V} (L : Lst own s ds) (S : Sat B Hf H own) (r : SlotR Hf v s) : ∃ p vs, v = .ref p ∧ H p = some (.lst vs) ∧ Reps Hf vs ds := by
  rcases L with rfl | ⟨p, rfl, h⟩
  · cases r with
    | lst h1 h2 => exact ⟨_, _, rfl, S.e1 _ _ h1, h2⟩
  · obtain ⟨_, _, vs, h1, h2⟩ := S.at h
    exact ⟨p, vs, r, h1, h2⟩
/-- a + b of lists -/
theorem el_cat {xs ys : List PyData} (ha : ES Z a ρ own s) (hb : ES Z b ρ own t) (l1 : Lst own s xs) (l2 : Lst own t ys) (h : xs.length + ys.length ≤ 100000) : EL Z (.BinOp a .Add b pos) ρ own (xs ++ ys) := el_bin op_cat ha hb fun v w Hf H S r1 r2 Q q => by
  obtain ⟨p, vs, rfl, h1, g1⟩ := l1.at S r1
  obtain ⟨p', vs', rfl, h2, g2⟩ := l2.at S r2
  have e1 := g1.length
  have e2 := g2.length
  refine ⟨p, p', vs, vs', rfl, rfl, h1, h2, Nat.le_trans (by omega : _ ≤ 100000) (by decide), fun l hl => q l Hf _ (Same.refl _) (S.newOwn hl ⟨_, upd_same, g1.append g2⟩)⟩
theorem Reps.rep {H : Hp} {xs : List V} {us : List PyData} (h : Reps H xs us) : ∀ k : Nat, Reps H (List.replicate k xs).flatten (List.replicate k us).flatten
  | 0 => .nil
  | k + 1 => by
    rw [List.replicate_succ, List.replicate_succ, List.flatten_cons, List.flatten_cons]
    exact h.append (h.rep k)
/-- xs * n -/
theorem el_rep {xs : List PyData} (ha : ES Z a ρ own s) (hb : ED Z b ρ own (.int i)) (l1 : Lst own s xs) (h : i ≤ 1000 ∧ -1000 ≤ i) (h2 : xs.length ≤ 1000) : EL Z (.BinOp a .Mult b pos) ρ own (List.replicate i.toNat xs).flatten := el_bin op_rep ha hb fun v w Hf H S r1 r2 Q q => by
  obtain ⟨p, vs, rfl, h1, g1⟩ := l1.at S r1
  cases r2
  have e1 := g1.length
  refine ⟨p, i, vs, rfl, rfl, h1, by omega, by omega, ?_, fun l hl => q l Hf _ (Same.refl _) (S.newOwn hl ⟨_, upd_same, g1.rep _⟩)⟩
  have : vs.length * i.toNat ≤ 1000 * 1000 := Nat.mul_le_mul (by omega) (by omega)
  exact Nat.le_trans this (by decide)

/-! comparisons, tests -/
theorem es_cmp {op : CmpOp} {r : R2} {u : Slot} (ho : OpR Z.X (compareOp op) r) (hm : behindInMarks op b = false) (ha : ES Z a ρ own s) (hb : ES Z b ρ own t)
    (hr : ∀ v w Hf H, Sat Z.B Hf H own → SlotR Hf v s → SlotR Hf w t → ∀ Q : VK, (∀ z Hf' H', Same Hf Hf' → Sat Z.B Hf' H' own → SlotR Hf' z u → Q z H') → r v w H Q) : ES Z (.Compare a [op] [b] pos) ρ own u := fun Hf σ H S R Q q =>
  wE.of (pe_cmpR ho peW peW hm) (ha Hf σ H S R _ fun v Hf1 H1 m1 S1 r1 => hb Hf1 σ H1 S1 (R.mono m1) _ fun w Hf2 H2 m2 S2 r2 => hr v w Hf2 H2 S2 (r1.mono m2) r2 Q fun z Hf3 H3 m3 S3 r3 => q z Hf3 H3 ((m1.trans m2).trans m3) S3 r3)
/-- a comparison that is a bool: as a value and as a test -/
def CmpB (Z : Ctx) (op : CmpOp) (own : Own) (s t : Slot) (k : Bool) : Prop := ∃ r : R2, OpR Z.X (compareOp op) r ∧ ∀ v w Hf H, Sat Z.B Hf H own → SlotR Hf v s → SlotR Hf w t → ∀ Q : VK, Q (.bl k) H → r v w H Q
theorem ed_cmp {op : CmpOp} {k : Bool} (hc : CmpB Z op own s t k) (ha : ES Z a ρ own s) (hb : ES Z b ρ own t) (hm : behindInMarks op b = false := by first | exact nomark _ | rfl) : ED Z (.Compare a [op] [b] pos) ρ own (.bool k) := by
  obtain ⟨r, ho, hr⟩ := hc
  exact es_cmp ho hm ha hb fun v w Hf H S r1 r2 Q q => hr v w Hf H S r1 r2 Q (q _ Hf H (Same.refl _) S (.bl k))
theorem et_cmp {op : CmpOp} {k : Bool} (hc : CmpB Z op own s t k) (ha : ES Z a ρ own s) (hb : ES Z b ρ own t) (hm : behindInMarks op b = false := by first | exact nomark _ | rfl) : ET Z (.Compare a [op] [b] pos) ρ own k := by
  obtain ⟨r, ho, hr⟩ := hc
  exact fun Hf σ H S R Q q => wT.of (pt_cmpR ho peW peW hm) (ha Hf σ H S R _ fun v Hf1 H1 m1 S1 r1 => hb Hf1 σ H1 S1 (R.mono m1) _ fun w Hf2 H2 m2 S2 r2 => hr v w Hf2 H2 S2 (r1.mono m2) r2 _ ⟨k, rfl, q Hf2 H2 (m1.trans m2) S2⟩)
theorem c_lt : CmpB Z .Lt own (.d (.int i)) (.d (.int j)) (decide (i < j)) := ⟨_, op_lt, fun v w Hf H S r1 r2 Q q => by cases r1; cases r2; exact ⟨i, j, rfl, rfl, q⟩⟩
theorem c_le : CmpB Z .LtE own (.d (.int i)) (.d (.int j)) (decide (i ≤ j)) := ⟨_, op_le, fun v w Hf H S r1 r2 Q q => by cases r1; cases r2; exact ⟨i, j, rfl, rfl, q⟩⟩
theorem c_gt : CmpB Z .Gt own (.d (.int i)) (.d (.int j)) (decide (j < i)) := ⟨_, op_gt, fun v w Hf H S r1 r2 Q q => by cases r1; cases r2; exact ⟨i, j, rfl, rfl, q⟩⟩
theorem c_ge : CmpB Z .GtE own (.d (.int i)) (.d (.int j)) (decide (j ≤ i)) := ⟨_, op_ge, fun v w Hf H S r1 r2 Q q => by cases r1; cases r2; exact ⟨i, j, rfl, rfl, q⟩⟩
theorem c_eqI : CmpB Z .Eq own (.d (.int i)) (.d (.int j)) (decide (i = j)) := ⟨_, op_eq, fun v w Hf H S r1 r2 Q q => by
  cases r1; cases r2
  refine ⟨rfl, ?_⟩
  rw [dec_int, Bool.beq_eq_decide_eq]
  exact q⟩
theorem c_neI : CmpB Z .NotEq own (.d (.int i)) (.d (.int j)) (!decide (i = j)) := ⟨_, op_ne, fun v w Hf H S r1 r2 Q q => by
  cases r1; cases r2
  refine ⟨rfl, ?_⟩
  rw [dec_int, Bool.beq_eq_decide_eq]
  exact q⟩
/-- data, or a list of one's own, as data -/
def Dat (own : Own) (s : Slot) (x : PyData) : Prop := s = .d x ∨ ∃ ds, x = .list ds ∧ Lst own s ds
theorem Dat.at {B : Bs} {Hf H : Hp} {v : V} (L : Dat own s x) (S : Sat B Hf H own) (r : SlotR Hf v s) : Rep H v x := by
  rcases L with rfl | ⟨ds, rfl, L⟩
  · exact Rep.mono S.e1 r
  · obtain ⟨p, vs, rfl, h1, h2⟩ := L.at S r
    exact .lst h1 (h2.mono S.e1)
theorem Dat.d : Dat own (.d x) x := .inl rfl
theorem Dat.o {p : Addr} {ds : List PyData} (h : (p, OO.lst ds) ∈ own) : Dat own (.raw (.ref p)) (.list ds) := .inr ⟨ds, rfl, .o h⟩
theorem c_eq (g : Gd Z k) (d1 : Dat own s x) (d2 : Dat own t y) (h1 : SeqAt.shaped x = true) (h2 : SeqAt.shaped y = true) : CmpB Z .Eq own s t (PyData.eqv x y) := ⟨_, op_eqD g.hr.units, fun v w Hf H S r1 r2 Q q => ⟨x, y, (d1.at S r1).dp, (d2.at S r2).dp, h1, h2, q⟩⟩
theorem c_ne (g : Gd Z k) (d1 : Dat own s x) (d2 : Dat own t y) (h1 : SeqAt.shaped x = true) (h2 : SeqAt.shaped y = true) : CmpB Z .NotEq own s t (!PyData.eqv x y) := ⟨_, op_neD g.hr.units, fun v w Hf H S r1 r2 Q q => ⟨x, y, (d1.at S r1).dp, (d2.at S r2).dp, h1, h2, q⟩⟩
/-- is None -/
def isNone : Slot → Bool
  | .d .none => true
  | .raw .non => true
  | _ => false
theorem isNone_at {Hf : Hp} {v : V} (hs : s ≠ .un) (r : SlotR Hf v s) : decide (v = .non) = isNone s := by
  cases s with
  | un => exact absurd rfl hs
  | d x => cases r <;> rfl
  | raw w =>
    cases (show v = w from r)
    cases v <;> rfl
theorem c_isN (hs : s ≠ .un) : CmpB Z .Is own s (.d .none) (isNone s) := ⟨_, op_isN, fun v w Hf H S r1 r2 Q q => by
  cases r2
  exact ⟨rfl, by rw [isNone_at hs r1]; exact q⟩⟩
/-- a bool as a test -/
theorem et_val {k : Bool} (h : ED Z e ρ own (.bool k)) (he : ∀ whole, isTrue e Z.X.env whole = (do let v ← whole; standAt e.pos; holding [v] (truthy v)) := by intro _; rfl) : ET Z e ρ own k := fun Hf σ H S R Q q =>
  wT.of (pt_val peW he) (h Hf σ H S R _ fun v Hf1 H1 m1 S1 r1 => by cases r1; exact ⟨k, rfl, q Hf1 H1 m1 S1⟩)
theorem EW.et {k : Bool} (h : EW Z e ρ own k) : ET Z e ρ own k := fun Hf σ H S R Q q => wT.of pwW.pt (h Hf σ H S R Q q)
theorem et_not {k : Bool} (h : ET Z e ρ own k) : ET Z (.UnaryOp .Not e pos) ρ own (!k) := fun Hf σ H S R Q q => wT.of (pt_not ptW) (h Hf σ H S R _ fun Hf1 H1 m1 S1 => q Hf1 H1 m1 S1)
variable {rest : List Expr}
theorem ew_and1 {k : Bool} (h : ET Z a ρ own k) : EW Z (.BoolOp .And [a] pos) ρ own k := fun Hf σ H S R Q q => wW.of (pw_and1 ptW) (h Hf σ H S R Q q)
theorem ew_or1 {k : Bool} (h : ET Z a ρ own k) : EW Z (.BoolOp .Or [a] pos) ρ own k := fun Hf σ H S R Q q => wW.of (pw_or1 ptW) (h Hf σ H S R Q q)
theorem ew_and {k l : Bool} (h1 : ET Z a ρ own k) (h2 : k = true → EW Z (.BoolOp .And (b :: rest) pos) ρ own l) : EW Z (.BoolOp .And (a :: b :: rest) pos) ρ own (k && l) := fun Hf σ H S R Q q => wW.of (pw_and ptW pwW) (h1 Hf σ H S R _ fun Hf1 H1 m1 S1 => by
  cases k with
  | true =>
    refine iteT (h2 rfl Hf1 σ H1 S1 (R.mono m1) Q fun Hf2 H2 m2 S2 => q Hf2 H2 (m1.trans m2) S2)
  | false => exact iteF (q Hf1 H1 m1 S1))
theorem ew_or {k l : Bool} (h1 : ET Z a ρ own k) (h2 : k = false → EW Z (.BoolOp .Or (b :: rest) pos) ρ own l) : EW Z (.BoolOp .Or (a :: b :: rest) pos) ρ own (k || l) := fun Hf σ H S R Q q => wW.of (pw_or ptW pwW) (h1 Hf σ H S R _ fun Hf1 H1 m1 S1 => by
  cases k with
  | true => exact iteT (q Hf1 H1 m1 S1)
  | false =>
    refine iteF (h2 rfl Hf1 σ H1 S1 (R.mono m1) Q fun Hf2 H2 m2 S2 => q Hf2 H2 (m1.trans m2) S2))
theorem ed_one {op : BoolOp} (h : ES Z a ρ own s) : ES Z (.BoolOp op [a] pos) ρ own s := fun Hf σ H S R Q q => wE.of (pe_one peW) (h Hf σ H S R Q q)
theorem ed_and {k l : Bool} (h1 : ED Z a ρ own (.bool k)) (h2 : k = true → ED Z (.BoolOp .And (b :: rest) pos) ρ own (.bool l)) : ED Z (.BoolOp .And (a :: b :: rest) pos) ρ own (.bool (k && l)) := fun Hf σ H S R Q q => wE.of (pe_and peW peW) (h1 Hf σ H S R _ fun v Hf1 H1 m1 S1 r1 => by
  cases r1
  refine ⟨k, rfl, ?_⟩
  cases k with
  | true => exact iteT (h2 rfl Hf1 σ H1 S1 (R.mono m1) Q fun v Hf2 H2 m2 S2 r2 => q v Hf2 H2 (m1.trans m2) S2 r2)
  | false => exact iteF (q _ Hf1 H1 m1 S1 (.bl false)))
theorem ed_not {k : Bool} (h : ED Z a ρ own (.bool k)) : ED Z (.UnaryOp .Not a pos) ρ own (.bool (!k)) := fun Hf σ H S R Q q => wE.of (pe_not peW) (h Hf σ H S R _ fun v Hf1 H1 m1 S1 r1 => by
  cases r1
  exact ⟨k, rfl, q _ Hf1 H1 m1 S1 (.bl _)⟩)
theorem es_if {k : Bool} (h : ET Z c ρ own k) (h1 : k = true → ES Z a ρ own s) (h2 : k = false → ES Z b ρ own s) : ES Z (.IfExp c a b pos) ρ own s := fun Hf σ H S R Q q => wE.of (pe_ifExp ptW peW peW) (h Hf σ H S R _ fun Hf1 H1 m1 S1 => by
  cases k with
  | true => exact iteT (h1 rfl Hf1 σ H1 S1 (R.mono m1) Q fun v Hf2 H2 m2 S2 r2 => q v Hf2 H2 (m1.trans m2) S2 r2)
  | false => exact iteF (h2 rfl Hf1 σ H1 S1 (R.mono m1) Q fun v Hf2 H2 m2 S2 r2 => q v Hf2 H2 (m1.trans m2) S2 r2))
theorem el_if {k : Bool} {ds : List PyData} (h : ET Z c ρ own k) (h1 : k = true → EL Z a ρ own ds) (h2 : k = false → EL Z b ρ own ds) : EL Z (.IfExp c a b pos) ρ own ds := fun Hf σ H S R Q q => wE.of (pe_ifExp ptW peW peW) (h Hf σ H S R _ fun Hf1 H1 m1 S1 => by
  cases k with
  | true => exact iteT (h1 rfl Hf1 σ H1 S1 (R.mono m1) Q fun v Hf2 H2 m2 S2 => q v Hf2 H2 (m1.trans m2) S2)
  | false => exact iteF (h2 rfl Hf1 σ H1 S1 (R.mono m1) Q fun v Hf2 H2 m2 S2 => q v Hf2 H2 (m1.trans m2) S2))
theorem et_chain {op op' : CmpOp} {k l : Bool} (hc1 : CmpB Z op own s t k) (hc2 : CmpB Z op' own t u l) (ha : ES Z a ρ own s) (hb : ES Z b ρ own t) (hd : ES Z c ρ own u) (hm : lastMarks [op, op'] [b, c] = false := by with_unfolding_all rfl) :
    ET Z (.Compare a [op, op'] [b, c] pos) ρ own (k && l) := by
  obtain ⟨r, ho, hr⟩ := hc1
  obtain ⟨r', ho', hr'⟩ := hc2
  refine fun Hf σ H S R Q q => wT.of (pt_chain ho ho' peW peW peW hm) (ha Hf σ H S R _ fun v Hf1 H1 m1 S1 r1 => hb Hf1 σ H1 S1 (R.mono m1) _ fun w Hf2 H2 m2 S2 r2 => hr v w Hf2 H2 S2 (r1.mono m2) r2 _ ⟨k, rfl, ?_⟩)
  cases k with
  | false => exact iteF ⟨_, rfl, q Hf2 H2 (m1.trans m2) S2⟩
  | true => exact iteT (hd Hf2 σ H2 S2 (R.mono (m1.trans m2)) _ fun z Hf3 H3 m3 S3 r3 => hr' w z Hf3 H3 S3 (r2.mono m3) r3 _ ⟨l, rfl, q Hf3 H3 ((m1.trans m2).trans m3) S3⟩)
theorem ed_chain {op op' : CmpOp} {k l : Bool} (hc1 : CmpB Z op own s t k) (hc2 : CmpB Z op' own t u l) (ha : ES Z a ρ own s) (hb : ES Z b ρ own t) (hd : ES Z c ρ own u) (hm : lastMarks [op, op'] [b, c] = false := by with_unfolding_all rfl) :
    ED Z (.Compare a [op, op'] [b, c] pos) ρ own (.bool (k && l)) := by
  obtain ⟨r, ho, hr⟩ := hc1
  obtain ⟨r', ho', hr'⟩ := hc2
  refine fun Hf σ H S R Q q => wE.of (pe_chain ho ho' peW peW peW hm) (ha Hf σ H S R _ fun v Hf1 H1 m1 S1 r1 => hb Hf1 σ H1 S1 (R.mono m1) _ fun w Hf2 H2 m2 S2 r2 => hr v w Hf2 H2 S2 (r1.mono m2) r2 _ ⟨k, rfl, ?_⟩)
  cases k with
  | false => exact iteF (q _ Hf2 H2 (m1.trans m2) S2 (.bl false))
  | true => exact iteT (hd Hf2 σ H2 S2 (R.mono (m1.trans m2)) _ fun z Hf3 H3 m3 S3 r3 => hr' w z Hf3 H3 S3 (r2.mono m3) r3 _ (q _ Hf3 H3 ((m1.trans m2).trans m3) S3 (.bl l)))

/-! arguments, displays -/
theorem ea_nil : EA Z [] ρ own [] := fun Hf σ H S R Q q => wA.of pa_nil (q [] Hf H (Same.refl _) S .nil)
theorem ea_cons {ss : List Slot} (h : ES Z e ρ own s) (hr : EA Z es ρ own ss) (hs : starEach (e :: es) Z.X.env = (false, eval e Z.X.env) :: starEach es Z.X.env := by rfl) : EA Z (e :: es) ρ own (s :: ss) := fun Hf σ H S R Q q => wA.of (pa_cons peW paW hs) (h Hf σ H S R _ fun v Hf1 H1 m1 S1 r1 =>
  hr Hf1 σ H1 S1 (R.mono m1) _ fun vs Hf2 H2 m2 S2 r2 => q (v :: vs) Hf2 H2 (m1.trans m2) S2 (.cons (r1.mono m2) r2))
theorem ed_tup {x1 : Nat} {ds : List PyData} (h : EA Z es ρ own (ds.map Slot.d)) (hl : ds.length ≤ 1000 := by exact Nat.le_of_ble_eq_true rfl) : ED Z (.Tuple es x1 pos) ρ own (.tuple ds) := fun Hf σ H S R Q q => wE.of (pe_tup paW) (h Hf σ H S R _ fun vs Hf1 H1 m1 S1 r1 => by
  have r := r1.data
  refine ⟨Nat.le_trans (by rw [r.length]; exact hl) (by decide), fun p hp => q (.ref p) _ _ (m1.trans (S1.new_same hp _)) (S1.new hp _) (.tup upd_same (r.mono (S1.new_same hp _)))⟩)
theorem el_lst {ds : List PyData} (h : EA Z es ρ own (ds.map Slot.d)) (hl : ds.length ≤ 1000 := by exact Nat.le_of_ble_eq_true rfl) : EL Z (.List es pos) ρ own ds := fun Hf σ H S R Q q => wE.of (pe_lst paW) (h Hf σ H S R _ fun vs Hf1 H1 m1 S1 r1 => by
  have r := r1.data
  refine ⟨Nat.le_trans (by rw [r.length]; exact hl) (by decide), fun p hp => q p _ _ m1 (S1.newOwn hp ⟨_, upd_same, r⟩)⟩)
theorem ed_lst {ds : List PyData} (h : EA Z es ρ own (ds.map Slot.d)) (hl : ds.length ≤ 1000 := by exact Nat.le_of_ble_eq_true rfl) : ED Z (.List es pos) ρ own (.list ds) := (el_lst h hl).ed

/-! items, slices -/
theorem atI_rep {H : Hp} {vs : List V} {ds : List PyData} {i : Int} {d : PyData} (r : Reps H vs ds) (h : atI ds i = some d) : ∃ v, atI vs i = some v ∧ Rep H v d := by
  unfold atI at h ⊢
  rw [r.length]
  cases e : ixN ds.length i with
  | none => rw [e] at h; cases h
  | some j =>
    rw [e] at h
    obtain ⟨v, h1, h2⟩ := r.get (show ds[j]? = some d from h)
    exact ⟨v, h1, h2⟩
theorem ed_ixL {ds : List PyData} {d : PyData} (ha : ES Z a ρ own s) (hb : ED Z b ρ own (.int i)) (l : Lst own s ds) (h : atI ds i = some d) (hs : PlainIx b := by exact fun _ _ => rfl) : ED Z (.Subscript a b pos) ρ own d := fun Hf σ H S R Q q =>
  wE.of (pe_ix ix_list peW peW hs) (ha Hf σ H S R _ fun v Hf1 H1 m1 S1 r1 => hb Hf1 σ H1 S1 (R.mono m1) _ fun w Hf2 H2 m2 S2 r2 => by
    obtain ⟨p, vs, rfl, h1, g1⟩ := l.at S2 (r1.mono m2)
    cases r2
    obtain ⟨z, h2, g2⟩ := atI_rep g1 h
    exact ⟨p, vs, i, z, rfl, rfl, SqL.of h1, h2, q z Hf2 H2 (m1.trans m2) S2 g2⟩)
theorem ed_ixT {ds : List PyData} {d : PyData} (ha : ED Z a ρ own (.tuple ds)) (hb : ED Z b ρ own (.int i)) (h : atI ds i = some d) (hs : PlainIx b := by exact fun _ _ => rfl) : ED Z (.Subscript a b pos) ρ own d := fun Hf σ H S R Q q =>
  wE.of (pe_ix ix_tup peW peW hs) (ha Hf σ H S R _ fun v Hf1 H1 m1 S1 r1 => hb Hf1 σ H1 S1 (R.mono m1) _ fun w Hf2 H2 m2 S2 r2 => by
    cases (show Rep Hf2 v (.tuple ds) from r1.mono m2) with
    | tup h1 g1 =>
      cases r2
      obtain ⟨z, h2, g2⟩ := atI_rep g1 h
      exact ⟨_, _, i, z, rfl, rfl, SqT.of (S2.e1 _ _ h1), h2, q z Hf2 H2 (m1.trans m2) S2 g2⟩)
end

/-! ### statements -/
structure DE where
  nx : List Slot → Own → Prop
  rt : Slot → Own → Prop
  bk : List Slot → Own → Prop := fun _ _ => False
  ct : List Slot → Own → Prop := fun _ _ => False
def lift (B : Bs) (H0 : Hp) (D : DE) : Ends where
  nx := fun σ H => ∃ Hf ρ own, Same H0 Hf ∧ Sat B Hf H own ∧ EnvR Hf σ ρ ∧ D.nx ρ own
  rt := fun v H => ∃ Hf s own, Same H0 Hf ∧ Sat B Hf H own ∧ SlotR Hf v s ∧ s ≠ .un ∧ D.rt s own
  bk := fun σ H => ∃ Hf ρ own, Same H0 Hf ∧ Sat B Hf H own ∧ EnvR Hf σ ρ ∧ D.bk ρ own
  ct := fun σ H => ∃ Hf ρ own, Same H0 Hf ∧ Sat B Hf H own ∧ EnvR Hf σ ρ ∧ D.ct ρ own
def SD (Z : Ctx) (st : Stmt) (D : DE) (ρ : List Slot) (own : Own) : Prop := ∀ H0 Hf σ H, Same H0 Hf → Sat Z.B Hf H own → EnvR Hf σ ρ → wS Z.X st (lift Z.B H0 D) σ H
def SDs (Z : Ctx) (st : List Stmt) (D : DE) (ρ : List Slot) (own : Own) : Prop := ∀ H0 Hf σ H, Same H0 Hf → Sat Z.B Hf H own → EnvR Hf σ ρ → wSs Z.X st (lift Z.B H0 D) σ H
section
variable {Z : Ctx} {D : DE} {ρ : List Slot} {own : Own} {pos : Pos} {st : Stmt} {sts A B : List Stmt} {e a b c : Expr} {x : PyData} {s t : Slot} {k : Nat}
theorem SP.imp {X : Cx} {pins : List (Addr × Obj)} {D D' : Ends} {f : Flow} {s' : Shared} (h : SP X pins D f s') (h1 : ∀ σ H, D.nx σ H → D'.nx σ H) (h2 : ∀ v H, D.rt v H → D'.rt v H) (h3 : ∀ σ H, D.bk σ H → D'.bk σ H) (h4 : ∀ σ H, D.ct σ H → D'.ct σ H) : SP X pins D' f s' := by
  cases f with
  | next => obtain ⟨σ, H, I, q⟩ := h; exact ⟨σ, H, I, h1 _ _ q⟩
  | brk => obtain ⟨σ, H, I, q⟩ := h; exact ⟨σ, H, I, h3 _ _ q⟩
  | cont => obtain ⟨σ, H, I, q⟩ := h; exact ⟨σ, H, I, h4 _ _ q⟩
  | ret u => obtain ⟨v, σ, H, I, r, q⟩ := h; exact ⟨v, σ, H, I, r, h2 _ _ q⟩
theorem wS.imp {X : Cx} {D D' : Ends} {σ : L2.St} {H : Hp} (h : wS X st D σ H) (h1 : ∀ σ H, D.nx σ H → D'.nx σ H) (h2 : ∀ v H, D.rt v H → D'.rt v H) (h3 : ∀ σ H, D.bk σ H → D'.bk σ H) (h4 : ∀ σ H, D.ct σ H → D'.ct σ H) : wS X st D' σ H :=
  ⟨fun pins s I => thn (h.run pins s I) fun f s' q => SP.imp q h1 h2 h3 h4⟩
theorem wSs.imp {X : Cx} {D D' : Ends} {σ : L2.St} {H : Hp} (h : wSs X sts D σ H) (h1 : ∀ σ H, D.nx σ H → D'.nx σ H) (h2 : ∀ v H, D.rt v H → D'.rt v H) (h3 : ∀ σ H, D.bk σ H → D'.bk σ H) (h4 : ∀ σ H, D.ct σ H → D'.ct σ H) : wSs X sts D' σ H :=
  ⟨fun pins s I => thn (h.run pins s I) fun f s' q => SP.imp q h1 h2 h3 h4⟩
theorem sds_nil (h : D.nx ρ own) : SDs Z [] D ρ own := fun H0 Hf σ H m0 S R => wSs.of pss_nil ⟨Hf, ρ, own, m0, S, R, h⟩
theorem sds_cons (h : SD Z st { D with nx := fun ρ own => SDs Z sts D ρ own } ρ own) : SDs Z (st :: sts) D ρ own := fun H0 Hf σ H m0 S R => wSs.of (pss_cons psW pssW) (wS.imp (h H0 Hf σ H m0 S R) (fun σ' H' ⟨Hf', ρ', own', m', S', R', q⟩ => q H0 Hf' σ' H' m' S' R') (fun _ _ q => q) (fun _ _ q => q) (fun _ _ q => q))
theorem sds_one (h : SD Z st D ρ own) : SDs Z [st] D ρ own := fun H0 Hf σ H m0 S R => wSs.of (pss_one psW) (h H0 Hf σ H m0 S R)
/-- name = e -/
theorem sd_set (i : Nat) {z : Str} {pos' : Pos} (hN : Z.X.N.Nodup) (he : ES Z e ρ own s) (h : D.nx (ρ.set i s) own) (hi : Z.X.N[i]? = some z := by rfl) (hx : Loc Z.X.env.scope z := by first | exact Or.inl rfl | exact Or.inr rfl) (hs : swapsWith e (some (.Name z pos')) pos.line Z.X.env = pure false := by rfl)
    (hf : Z.X.fn z = true ∨ Z.X.env.scope.names.lookup z = some .local := by first | exact .inl rfl | exact .inr rfl | assumption) : SD Z (.Assign [.Name z pos'] e pos) D ρ own := fun H0 Hf σ H m0 S R => wS.of (ps_set hN hi hx peW hs hf) (he Hf σ H S R _ fun v Hf1 H1 m1 S1 r1 => ⟨Hf1, _, own, m0.trans m1, S1, (R.mono m1).set r1 i, h⟩)
/-- name = a new list of one's own -/
theorem sd_setL (i : Nat) {z : Str} {pos' : Pos} {ds : List PyData} (hN : Z.X.N.Nodup) (he : EL Z e ρ own ds) (h : ∀ p, D.nx (ρ.set i (.raw (.ref p))) ((p, .lst ds) :: own)) (hi : Z.X.N[i]? = some z := by rfl) (hx : Loc Z.X.env.scope z := by first | exact Or.inl rfl | exact Or.inr rfl) (hs : swapsWith e (some (.Name z pos')) pos.line Z.X.env = pure false := by rfl)
    (hf : Z.X.fn z = true ∨ Z.X.env.scope.names.lookup z = some .local := by first | exact .inl rfl | exact .inr rfl | assumption) : SD Z (.Assign [.Name z pos'] e pos) D ρ own := fun H0 Hf σ H m0 S R => wS.of (ps_set hN hi hx peW hs hf) (he Hf σ H S R _ fun p Hf1 H1 m1 S1 => ⟨Hf1, _, _, m0.trans m1, S1, (R.mono m1).set (s := .raw (.ref p)) rfl i, h p⟩)
theorem sd_ret (he : ES Z e ρ own s) (hs : s ≠ .un) (h : D.rt s own) : SD Z (.Return (some e) pos) D ρ own := fun H0 Hf σ H m0 S R => wS.of (ps_ret peW) (he Hf σ H S R _ fun v Hf1 H1 m1 S1 r1 => ⟨Hf1, s, own, m0.trans m1, S1, r1, hs, h⟩)
theorem sd_retD (he : ED Z e ρ own x) (h : D.rt (.d x) own) : SD Z (.Return (some e) pos) D ρ own := sd_ret he (fun q => nomatch q) h
theorem sd_retL {ds : List PyData} (he : EL Z e ρ own ds) (h : ∀ p, D.rt (.raw (.ref p)) ((p, .lst ds) :: own)) : SD Z (.Return (some e) pos) D ρ own := fun H0 Hf σ H m0 S R => wS.of (ps_ret peW) (he Hf σ H S R _ fun p Hf1 H1 m1 S1 => ⟨Hf1, .raw (.ref p), _, m0.trans m1, S1, rfl, (fun q => nomatch q), h p⟩)
theorem sd_expr (he : ES Z e ρ own s) (h : D.nx ρ own) (hs : swapsWith e none pos.line Z.X.env = pure false := by rfl) : SD Z (.Expr e pos) D ρ own := fun H0 Hf σ H m0 S R => wS.of (ps_expr peW hs) (he Hf σ H S R _ fun v Hf1 H1 m1 S1 r1 => ⟨Hf1, ρ, own, m0.trans m1, S1, R.mono m1, h⟩)
theorem sd_exprX (he : EX Z e ρ own) (hs : swapsWith e none pos.line Z.X.env = pure false := by rfl) : SD Z (.Expr e pos) D ρ own := fun H0 Hf σ H m0 S R => wS.of (ps_expr peW hs) (he Hf σ H S R _)
theorem sd_if {l : Bool} (hc : ET Z c ρ own l) (h1 : l = true → SDs Z A D ρ own) (h2 : l = false → SDs Z B D ρ own) : SD Z (.If c A B pos) D ρ own := fun H0 Hf σ H m0 S R => wS.of (ps_if ptW pssW pssW) (hc Hf σ H S R _ fun Hf1 H1 m1 S1 => by
  cases l with
  | true => exact iteT (h1 rfl H0 Hf1 σ H1 (m0.trans m1) S1 (R.mono m1))
  | false => exact iteF (h2 rfl H0 Hf1 σ H1 (m0.trans m1) S1 (R.mono m1)))
/-- weaker ends -/
theorem SDs.imp {D' : DE} (h : SDs Z sts D ρ own) (h1 : ∀ ρ own, D.nx ρ own → D'.nx ρ own) (h2 : ∀ s own, D.rt s own → D'.rt s own) (h3 : ∀ ρ own, D.bk ρ own → D'.bk ρ own) (h4 : ∀ ρ own, D.ct ρ own → D'.ct ρ own) : SDs Z sts D' ρ own := fun H0 Hf σ H m0 S R => wSs.imp (h H0 Hf σ H m0 S R)
  (fun _ _ ⟨a, b, c, m, d, e, f⟩ => ⟨a, b, c, m, d, e, h1 _ _ f⟩) (fun _ _ ⟨a, b, c, m, d, e, g, f⟩ => ⟨a, b, c, m, d, e, g, h2 _ _ f⟩) (fun _ _ ⟨a, b, c, m, d, e, f⟩ => ⟨a, b, c, m, d, e, h3 _ _ f⟩) (fun _ _ ⟨a, b, c, m, d, e, f⟩ => ⟨a, b, c, m, d, e, h4 _ _ f⟩)
/-- a list of one's own is data from here on (its name: slot i) -/
theorem sds_freeze (i : Nat) {oa ob : Own} {p : Addr} {ds : List PyData} (hi : ρ[i]? = some (.raw (.ref p))) (h : SDs Z sts D (ρ.set i (.d (.list ds))) (oa ++ ob)) : SDs Z sts D ρ (oa ++ (p, .lst ds) :: ob) := fun H0 Hf σ H m0 S R => by
  obtain ⟨Hf', m, S', r⟩ := S.freeze
  refine h H0 Hf' σ H (m0.trans m) S' ?_
  have hv := (R.mono m).raw hi
  have R' := (R.mono m).set (v := .ref p) (s := .d (.list ds)) r i
  have e : σ.set i (some (.ref p)) = σ := by
    refine List.ext_getElem? fun j => ?_
    by_cases hj : i = j
    · subst hj
      have hl : i < σ.length := by
        obtain ⟨h, _⟩ := List.getElem?_eq_some_iff.mp hv
        exact h
      rw [List.getElem?_set_self hl, hv]
    · rw [List.getElem?_set_ne hj]
  rw [e] at R'
  exact R'
end
end Sd


namespace Sd
open PySem PySem.Spec PyProof.Rows L2
/-! ### values with a change of what is owned -/
def EG (Z : Ctx) (e : Expr) (ρ : List Slot) (own : Own) (R : Slot → Own → Prop) : Prop := ∀ Hf σ H, Sat Z.B Hf H own → EnvR Hf σ ρ → ∀ Q : VK, (∀ v Hf' H' s own', Same Hf Hf' → Sat Z.B Hf' H' own' → SlotR Hf' v s → s ≠ .un → R s own' → Q v H') → wE Z.X e σ H Q
section
variable {Z : Ctx} {e a b c : Expr} {es : List Expr} {ρ : List Slot} {own : Own} {pos : Pos} {x y : PyData} {i j : Int} {s t u : Slot} {k : Nat} {R : Slot → Own → Prop}
theorem ES.toEG (h : ES Z e ρ own s) (hs : s ≠ .un) (q : R s own) : EG Z e ρ own R := fun Hf σ H S E Q k => h Hf σ H S E Q fun v Hf' H' m S' r => k v Hf' H' s own m S' r hs q
theorem EG.toES (h : EG Z e ρ own fun t o => t = s ∧ o = own) : ES Z e ρ own s := fun Hf σ H S E Q k => h Hf σ H S E Q fun v Hf' H' t o m S' r _ q => by
  obtain ⟨rfl, rfl⟩ := q
  exact k v Hf' H' m S' r
theorem EG.toEL {ds : List PyData} (h : EG Z e ρ own fun t o => ∃ p, t = .raw (.ref p) ∧ o = (p, .lst ds) :: own) : EL Z e ρ own ds := fun Hf σ H S E Q k => h Hf σ H S E Q fun v Hf' H' t o m S' r _ q => by
  obtain ⟨p, rfl, rfl⟩ := q
  cases (show v = .ref p from r)
  exact k p Hf' H' m S'
theorem EL.toEG {ds : List PyData} (h : EL Z e ρ own ds) (q : ∀ p, R (.raw (.ref p)) ((p, .lst ds) :: own)) : EG Z e ρ own R := fun Hf σ H S E Q k => h Hf σ H S E Q fun p Hf' H' m S' => k _ Hf' H' (.raw (.ref p)) _ m S' rfl (fun z => nomatch z) (q p)
theorem EG.imp {R' : Slot → Own → Prop} (h : EG Z e ρ own R) (q : ∀ s o, R s o → R' s o) : EG Z e ρ own R' := fun Hf σ H S E Q k => h Hf σ H S E Q fun v Hf' H' s o m S' r hs z => k v Hf' H' s o m S' r hs (q s o z)
/-- a op b, the right one with a change -/
theorem eg_bin {op : Operator} {r : R2} {R1 : Slot → Own → Prop} (ho : OpR Z.X (binaryOp op) r) (ha : ES Z a ρ own s) (hb : EG Z b ρ own R1)
    (hr : ∀ v w Hf H t own', Sat Z.B Hf H own' → SlotR Hf v s → SlotR Hf w t → R1 t own' → ∀ Q : VK, (∀ z Hf' H' u, Same Hf Hf' → Sat Z.B Hf' H' own' → SlotR Hf' z u → u ≠ .un → R u own' → Q z H') → r v w H Q) : EG Z (.BinOp a op b pos) ρ own R := fun Hf σ H S E Q q =>
  wE.of (pe_op ho peW peW) (ha Hf σ H S E _ fun v Hf1 H1 m1 S1 r1 => hb Hf1 σ H1 S1 (E.mono m1) _ fun w Hf2 H2 t own' m2 S2 r2 _ q2 => hr v w Hf2 H2 t own' S2 (r1.mono m2) r2 q2 Q fun z Hf3 H3 u m3 S3 r3 hu q3 => q z Hf3 H3 u own' ((m1.trans m2).trans m3) S3 r3 hu q3)
theorem eg_add {P : Int → Own → Prop} (ha : ED Z a ρ own (.int i)) (hb : EG Z b ρ own fun t o => ∃ j, t = .d (.int j) ∧ P j o) : EG Z (.BinOp a .Add b pos) ρ own (fun t o => ∃ j, t = .d (.int (i + j)) ∧ P j o) := eg_bin op_add ha hb fun v w Hf H t own' S r1 r2 q2 Q q => by
  obtain ⟨j, rfl, hp⟩ := q2
  cases r1; cases r2
  exact ⟨i, j, rfl, rfl, q _ Hf H (.d (.int (i + j))) (Same.refl _) S (Rep.int (i + j)) (fun z => nomatch z) ⟨j, rfl, hp⟩⟩
end

/-! ### built-ins called by name -/
section
variable {Z : Ctx} {e a b c : Expr} {es : List Expr} {ρ : List Slot} {own : Own} {pos p : Pos} {x y : PyData} {i j : Int} {s t u : Slot} {k : Nat} {ss : List Slot}
theorem es_callB {id : String} {z : Str} {r : List V → Hp → VK → Prop} (hc : CallR Z.X (.builtin id) r) (hg : Gl Z.X z) (hm : Z.X.mg z = none) (hv : bootBuiltins z = some (.builtin id)) (ha : EA Z (e :: es) ρ own ss)
    (hr : ∀ vs Hf H, Sat Z.B Hf H own → SlotsR Hf vs ss → ∀ Q : VK, (∀ v Hf' H', Same Hf Hf' → Sat Z.B Hf' H' own → SlotR Hf' v s → Q v H') → r vs H Q)
    (hn : z ≠ "__name__" := by decide) (hdb : (z == ("__debug__" : Str)) = false := by decide) (hs : starEach (e :: es) Z.X.env = (false, eval e Z.X.env) :: starEach es Z.X.env := by first | assumption | rfl) (hpl : (backTo pos (starEach es Z.X.env)).any (·.1) = false := by first | assumption | rfl) : ES Z (.Call (.Name z p) (e :: es) [] pos) ρ own s := fun Hf σ H S E Q q =>
  wE.of (pe_callB hc hg hm hv paW hn hdb hs hpl) (ha Hf σ H S E _ fun vs Hf1 H1 m1 S1 r1 => hr vs Hf1 H1 S1 r1 Q fun v Hf2 H2 m2 S2 r2 => q v Hf2 H2 (m1.trans m2) S2 r2)
theorem el_callB {id : String} {z : Str} {ds : List PyData} {r : List V → Hp → VK → Prop} (hc : CallR Z.X (.builtin id) r) (hg : Gl Z.X z) (hm : Z.X.mg z = none) (hv : bootBuiltins z = some (.builtin id)) (ha : EA Z (e :: es) ρ own ss)
    (hr : ∀ vs Hf H, Sat Z.B Hf H own → SlotsR Hf vs ss → ∀ Q : VK, (∀ p Hf' H', Same Hf Hf' → Sat Z.B Hf' H' ((p, .lst ds) :: own) → Q (.ref p) H') → r vs H Q)
    (hn : z ≠ "__name__" := by decide) (hdb : (z == ("__debug__" : Str)) = false := by decide) (hs : starEach (e :: es) Z.X.env = (false, eval e Z.X.env) :: starEach es Z.X.env := by first | assumption | rfl) (hpl : (backTo pos (starEach es Z.X.env)).any (·.1) = false := by first | assumption | rfl) : EL Z (.Call (.Name z p) (e :: es) [] pos) ρ own ds := fun Hf σ H S E Q q =>
  wE.of (pe_callB hc hg hm hv paW hn hdb hs hpl) (ha Hf σ H S E _ fun vs Hf1 H1 m1 S1 r1 => hr vs Hf1 H1 S1 r1 Q fun v Hf2 H2 m2 S2 => q v Hf2 H2 (m1.trans m2) S2)
theorem es_callTy {T : String} {z : Str} {r : List V → Hp → VK → Prop} (hc : CallR Z.X (.type T) r) (hg : Gl Z.X z) (hm : Z.X.mg z = none) (hv : bootBuiltins z = some (.type T)) (ha : EA Z (e :: es) ρ own ss)
    (hr : ∀ vs Hf H, Sat Z.B Hf H own → SlotsR Hf vs ss → ∀ Q : VK, (∀ v Hf' H', Same Hf Hf' → Sat Z.B Hf' H' own → SlotR Hf' v s → Q v H') → r vs H Q)
    (hn : z ≠ "__name__" := by decide) (hdb : (z == ("__debug__" : Str)) = false := by decide) (hs : starEach (e :: es) Z.X.env = (false, eval e Z.X.env) :: starEach es Z.X.env := by first | assumption | rfl) (hpl : (backTo pos (starEach es Z.X.env)).any (·.1) = false := by first | assumption | rfl) : ES Z (.Call (.Name z p) (e :: es) [] pos) ρ own s := fun Hf σ H S E Q q =>
  wE.of (pe_callTy hc hg hm hv paW hn hdb hs hpl) (ha Hf σ H S E _ fun vs Hf1 H1 m1 S1 r1 => hr vs Hf1 H1 S1 r1 Q fun v Hf2 H2 m2 S2 r2 => q v Hf2 H2 (m1.trans m2) S2 r2)
theorem el_callTy {T : String} {z : Str} {ds : List PyData} {r : List V → Hp → VK → Prop} (hc : CallR Z.X (.type T) r) (hg : Gl Z.X z) (hm : Z.X.mg z = none) (hv : bootBuiltins z = some (.type T)) (ha : EA Z (e :: es) ρ own ss)
    (hr : ∀ vs Hf H, Sat Z.B Hf H own → SlotsR Hf vs ss → ∀ Q : VK, (∀ p Hf' H', Same Hf Hf' → Sat Z.B Hf' H' ((p, .lst ds) :: own) → Q (.ref p) H') → r vs H Q)
    (hn : z ≠ "__name__" := by decide) (hdb : (z == ("__debug__" : Str)) = false := by decide) (hs : starEach (e :: es) Z.X.env = (false, eval e Z.X.env) :: starEach es Z.X.env := by first | assumption | rfl) (hpl : (backTo pos (starEach es Z.X.env)).any (·.1) = false := by first | assumption | rfl) : EL Z (.Call (.Name z p) (e :: es) [] pos) ρ own ds := fun Hf σ H S E Q q =>
  wE.of (pe_callTy hc hg hm hv paW hn hdb hs hpl) (ha Hf σ H S E _ fun vs Hf1 H1 m1 S1 r1 => hr vs Hf1 H1 S1 r1 Q fun v Hf2 H2 m2 S2 => q v Hf2 H2 (m1.trans m2) S2)
theorem SlotsR.one {Hf : Hp} {vs : List V} (h : SlotsR Hf vs [s]) : ∃ v, vs = [v] ∧ SlotR Hf v s := by
  cases h with
  | cons a b => cases b; exact ⟨_, rfl, a⟩
theorem SlotsR.two {Hf : Hp} {vs : List V} (h : SlotsR Hf vs [s, t]) : ∃ v w, vs = [v, w] ∧ SlotR Hf v s ∧ SlotR Hf w t := by
  cases h with
  | cons a b =>
    obtain ⟨w, rfl, c⟩ := b.one
    exact ⟨_, w, rfl, a, c⟩
/-- len of a list -/
theorem ed_len {ds : List PyData} (hm : Z.X.mg "len" = none) (h : ES Z e ρ own s) (L : Lst own s ds) (hg : Gl Z.X "len" := by rfl) (hs : starEach [e] Z.X.env = (false, eval e Z.X.env) :: starEach [] Z.X.env := by rfl) : ED Z (.Call (.Name "len" p) [e] [] pos) ρ own (.int ds.length) :=
  es_callB call_len_seq hg hm PySem.boot_len (ea_cons h ea_nil hs) fun vs Hf H S r0 Q q => by
    obtain ⟨v, rfl, r⟩ := r0.one
    obtain ⟨p, vs, rfl, h1, h2⟩ := L.at S r
    exact ⟨p, vs, rfl, .inl (SqL.of h1), by rw [h2.length]; exact q _ Hf H (Same.refl _) S (.int _)⟩
theorem ed_lenT {ds : List PyData} (hm : Z.X.mg "len" = none) (h : ED Z e ρ own (.tuple ds)) (hg : Gl Z.X "len" := by rfl) (hs : starEach [e] Z.X.env = (false, eval e Z.X.env) :: starEach [] Z.X.env := by rfl) : ED Z (.Call (.Name "len" p) [e] [] pos) ρ own (.int ds.length) :=
  es_callB call_len_seq hg hm PySem.boot_len (ea_cons h ea_nil hs) fun vs Hf H S r0 Q q => by
    obtain ⟨v, rfl, r⟩ := r0.one
    cases (show Rep Hf v (.tuple ds) from r) with
    | tup h1 h2 => exact ⟨_, _, rfl, .inr (SqT.of (S.e1 _ _ h1)), by rw [h2.length]; exact q _ Hf H (Same.refl _) S (.int _)⟩
/-- sum of a list of ints -/
theorem ed_sum {ns : List Int} (g : Gd Z k) (hm : Z.X.mg "sum" = none) (h : ES Z e ρ own s) (L : Lst own s (ns.map PyData.int)) (hg : Gl Z.X "sum" := by rfl) (hs : starEach [e] Z.X.env = (false, eval e Z.X.env) :: starEach [] Z.X.env := by rfl) : ED Z (.Call (.Name "sum" p) [e] [] pos) ρ own (.int ns.sum) :=
  es_callB (cr_sum g.calm) hg hm (by decide +kernel) (ea_cons h ea_nil hs) fun vs Hf H S r0 Q q => by
    obtain ⟨v, rfl, r⟩ := r0.one
    obtain ⟨p, vs, rfl, h1, h2⟩ := L.at S r
    cases h2.of_ints
    exact ⟨p, ns, rfl, SqL.of h1, q _ Hf H (Same.refl _) S (.int _)⟩
theorem ed_abs (hm : Z.X.mg "abs" = none) (h : ED Z e ρ own (.int i)) (hg : Gl Z.X "abs" := by rfl) (hs : starEach [e] Z.X.env = (false, eval e Z.X.env) :: starEach [] Z.X.env := by rfl) : ED Z (.Call (.Name "abs" p) [e] [] pos) ρ own (.int (if i < 0 then -i else i)) :=
  es_callB call_abs hg hm (by decide +kernel) (ea_cons h ea_nil hs) fun vs Hf H S r0 Q q => by
    obtain ⟨v, rfl, r⟩ := r0.one
    cases r
    exact ⟨i, rfl, q _ Hf H (Same.refl _) S (.int _)⟩
theorem ed_min2 (g : Gd Z k) (hm : Z.X.mg "min" = none) (h1 : ED Z a ρ own (.int i)) (h2 : ED Z b ρ own (.int j)) (hg : Gl Z.X "min" := by rfl) (hs : starEach [a, b] Z.X.env = (false, eval a Z.X.env) :: starEach [b] Z.X.env := by rfl) (hs2 : starEach [b] Z.X.env = (false, eval b Z.X.env) :: starEach [] Z.X.env := by rfl) (hpl : (backTo pos (starEach [b] Z.X.env)).any (·.1) = false := by rfl) : ED Z (.Call (.Name "min" p) [a, b] [] pos) ρ own (.int (if j < i then j else i)) :=
  es_callB (call_min2 g.calm) hg hm (by decide +kernel) (ea_cons h1 (ea_cons h2 ea_nil hs2) hs) (fun vs Hf H S r0 Q q => by
    obtain ⟨v, w, rfl, r1, r2⟩ := r0.two
    cases r1; cases r2
    exact ⟨i, j, rfl, q _ Hf H (Same.refl _) S (.int _)⟩) (by decide) (by decide) hs hpl
theorem ed_all {ns : List Bool} (g : Gd Z k) (hm : Z.X.mg "all" = none) (h : ES Z e ρ own s) (L : Lst own s (ns.map PyData.bool)) (hg : Gl Z.X "all" := by rfl) (hs : starEach [e] Z.X.env = (false, eval e Z.X.env) :: starEach [] Z.X.env := by rfl) : ED Z (.Call (.Name "all" p) [e] [] pos) ρ own (.bool (ns.all id)) :=
  es_callB (cr_all g.calm) hg hm (by decide +kernel) (ea_cons h ea_nil hs) fun vs Hf H S r0 Q q => by
    obtain ⟨v, rfl, r⟩ := r0.one
    obtain ⟨p, vs, rfl, e1, e2⟩ := L.at S r
    cases e2.of_bls
    exact ⟨p, ns, rfl, SqL.of e1, q _ Hf H (Same.refl _) S (.bl _)⟩
theorem ed_tuple {ds : List PyData} (hm : Z.X.mg "tuple" = none) (h : ES Z e ρ own s) (L : Lst own s ds) (hg : Gl Z.X "tuple" := by rfl) (hs : starEach [e] Z.X.env = (false, eval e Z.X.env) :: starEach [] Z.X.env := by rfl) : ED Z (.Call (.Name "tuple" p) [e] [] pos) ρ own (.tuple ds) :=
  es_callTy call_tuple_of hg hm (by decide +kernel) (ea_cons h ea_nil hs) fun vs Hf H S r0 Q q => by
    obtain ⟨v, rfl, r⟩ := r0.one
    obtain ⟨p, vs, rfl, e1, e2⟩ := L.at S r
    exact ⟨p, vs, rfl, .inl ⟨SqL.of e1, fun l hl => q (.ref l) _ _ (S.new_same hl _) (S.new hl _) (.tup upd_same (e2.mono (S.new_same hl _)))⟩⟩
/-- isinstance of data -/
def tyD : PyData → String
  | .none => "NoneType"
  | .bool _ => "bool"
  | .int _ => "int"
  | .str _ => "str"
  | .list _ => "list"
  | .tuple _ => "tuple"
  | .dict _ => "dict"
theorem tyX_rep {K : PySem.W.Frag} {H : Hp} {v : V} {d : PyData} (r : Rep H v d) : TyX K H v (.type (tyD d)) := by
  cases r with
  | non => exact .base .non
  | bl b => exact .base (.bl b)
  | int i => exact .base (.int i)
  | str z => exact .base (.str z)
  | lst h _ => exact .base (.lst h)
  | tup h _ => exact .base (.tup h)
theorem ed_isi {T : String} {l : Bool} (hm : Z.X.mg "isinstance" = none) (h : ES Z a ρ own s) (d : Dat own s x) (hc : EV Z b ρ own (.ty T)) (hk : kitB (tyD x) T = some l) (hg : Gl Z.X "isinstance" := by rfl) (hs : starEach [a, b] Z.X.env = (false, eval a Z.X.env) :: starEach [b] Z.X.env := by rfl) (hs2 : starEach [b] Z.X.env = (false, eval b Z.X.env) :: starEach [] Z.X.env := by rfl) (hpl : (backTo pos (starEach [b] Z.X.env)).any (·.1) = false := by rfl) :
    ED Z (.Call (.Name "isinstance" p) [a, b] [] pos) ρ own (.bool l) :=
  es_callB call_isi hg hm (by decide +kernel) (ea_cons h (ea_cons hc ea_nil hs2) hs) (fun vs Hf H S r0 Q q => by
    obtain ⟨v, w, rfl, r1, r2⟩ := r0.two
    cases (show w = .ty T from r2)
    exact ⟨v, .ty T, .type (tyD x), .type T, l, rfl, .ty T, tyX_rep (d.at S r1), kit_ty hk, q _ Hf H (Same.refl _) S (.bl l)⟩) (by decide) (by decide) hs hpl
end

/-! ### targets -/
structure wG (X : Cx) (tg : Expr) (v : V) (σ : L2.St) (H : Hp) (Q : L2.St → Hp → Prop) : Prop where
  run : ∀ (pins : List (Addr × Obj)) (s : Shared) (u : Value), Inv X pins σ H s → RelV v u → wpAny (model X.prog X.w) X.A (assign tg X.env u) (fun _ s' => ∃ σ' H', Inv X pins σ' H' s' ∧ Q σ' H') X.xe s
structure wGs (X : Cx) (ts : List Expr) (vs : List V) (σ : L2.St) (H : Hp) (Q : L2.St → Hp → Prop) : Prop where
  run : ∀ (pins : List (Addr × Obj)) (s : Shared) (us : List Value), Inv X pins σ H s → Vals vs us → wpAny (model X.prog X.w) X.A (assignInOrder ((assignEach ts X.env).map (·.2)) us) (fun _ s' => ∃ σ' H', Inv X pins σ' H' s' ∧ Q σ' H') X.xe s
theorem pgW {X : Cx} {tg : Expr} : PG X tg (wG X tg) := ⟨fun pins s _ _ _ u _ I r h => h.run pins s u I r⟩
theorem pgsW {X : Cx} {ts : List Expr} : PGs X ts (wGs X ts) := ⟨fun pins s _ _ _ us _ I r h => h.run pins s us I r⟩
theorem wG.of {X : Cx} {tg : Expr} {g : TG} (h : PG X tg g) {v : V} {σ : L2.St} {H : Hp} {Q : L2.St → Hp → Prop} (q : g v σ H Q) : wG X tg v σ H Q := ⟨fun pins s u I r => h.run pins s σ H v u Q I r q⟩
theorem wGs.of {X : Cx} {ts : List Expr} {g : TGs} (h : PGs X ts g) {v : List V} {σ : L2.St} {H : Hp} {Q : L2.St → Hp → Prop} (q : g v σ H Q) : wGs X ts v σ H Q := ⟨fun pins s u I r => h.run pins s σ H v u Q I r q⟩
/-- σ' is σ but for the slots is -/
def But (is : List Nat) (σ σ' : L2.St) : Prop := σ'.length = σ.length ∧ ∀ i : Nat, i ∉ is → σ'[i]? = σ[i]?
def GT (Z : Ctx) (tg : Expr) (x : PyData) (ρ ρ' : List Slot) (is : List Nat) : Prop := ∀ own Hf σ H v, Sat Z.B Hf H own → EnvR Hf σ ρ → Rep Hf v x → ∀ Q : L2.St → Hp → Prop, (∀ σ', EnvR Hf σ' ρ' → But is σ σ' → Q σ' H) → wG Z.X tg v σ H Q
def GTs (Z : Ctx) (ts : List Expr) (xs : List PyData) (ρ ρ' : List Slot) (is : List Nat) : Prop := ∀ own Hf σ H vs, Sat Z.B Hf H own → EnvR Hf σ ρ → Reps Hf vs xs → ∀ Q : L2.St → Hp → Prop, (∀ σ', EnvR Hf σ' ρ' → But is σ σ' → Q σ' H) → wGs Z.X ts vs σ H Q
section
variable {Z : Ctx} {e : Expr} {es : List Expr} {ρ ρ' ρ'' : List Slot} {x : PyData} {xs : List PyData} {is js : List Nat} {pos : Pos}
theorem gt_name (i : Nat) {z : Str} (nd : Z.X.N.Nodup) (hi : Z.X.N[i]? = some z := by rfl) (hx : Loc Z.X.env.scope z := by first | exact Or.inl rfl | exact Or.inr rfl) (hf : Z.X.fn z = true ∨ Z.X.env.scope.names.lookup z = some .local := by first | exact .inl rfl | exact .inr rfl | assumption) : GT Z (.Name z pos) x ρ (ρ.set i (.d x)) [i] := fun own Hf σ H v S R r Q q =>
  wG.of (pg_name nd hi hx hf) (q _ (R.set (s := .d x) r i) ⟨by rw [List.length_set], fun j hj => by rw [List.getElem?_set_ne (fun z => hj (by simp [z]))]⟩)
theorem gts_nil : GTs Z [] [] ρ ρ [] := fun own Hf σ H v S R r Q q => wGs.of pgs_nil (by
  cases r
  exact ⟨rfl, q σ R ⟨rfl, fun _ _ => rfl⟩⟩)
theorem gts_cons (h1 : GT Z e x ρ ρ' is) (h2 : GTs Z es xs ρ' ρ'' js) (hs : (assignEach (e :: es) Z.X.env).map (·.2) = assign e Z.X.env :: (assignEach es Z.X.env).map (·.2) := by rfl) : GTs Z (e :: es) (x :: xs) ρ ρ'' (is ++ js) := fun own Hf σ H vs S R r Q q => wGs.of (pgs_cons pgW pgsW hs) (by
  cases r with
  | cons a b =>
    refine ⟨_, _, rfl, h1 own Hf σ H _ S R a _ fun σ1 R1 b1 => h2 own Hf σ1 H _ S R1 b Q fun σ2 R2 b2 => q σ2 R2 ⟨b2.1.trans b1.1, fun i hi => ?_⟩⟩
    rw [b2.2 i (fun z => hi (List.mem_append_right _ z)), b1.2 i (fun z => hi (List.mem_append_left _ z))])
theorem gt_tup {n : Nat} {kk : Nat} (hc : Z.X.calm = true) (h : GTs Z es xs ρ ρ' is) (hl : xs.length = n) (hn : (assignEach es Z.X.env).length = n := by rfl) (hst : (assignEach es Z.X.env).findIdx? (·.1) = none := by rfl) : GT Z (.Tuple es kk pos) (.tuple xs) ρ ρ' is := fun own Hf σ H v S R r Q q => wG.of (pg_tup hc pgsW hn hst) (by
  cases r with
  | tup h1 h2 => exact ⟨_, _, rfl, SqT.of (S.e1 _ _ h1), by rw [h2.length, hl], h own Hf σ H _ S R h2 Q q⟩)
end

/-! ### what is walked -/
structure Walk (B : Bs) (J : It) (Hf : Hp) (ys : List PyData) (Po : Own → Prop) : Prop where
  go : ∀ i Hf' H' own', Same Hf Hf' → Sat B Hf' H' own' → Po own' → i < ys.length → J.go i H'
  yld : ∀ i y Hf' H' own' x H2, Same Hf Hf' → Sat B Hf' H' own' → Po own' → ys[i]? = some y → J.yld i H' x H2 → ∃ Hf2, Same Hf' Hf2 ∧ Sat B Hf2 H2 own' ∧ Rep Hf2 x y
  stop : ∀ i Hf' H' own', Same Hf Hf' → Sat B Hf' H' own' → Po own' → ys.length ≤ i → J.stop i H'
def IT (Z : Ctx) (tg iter : Expr) (ρ : List Slot) (own : Own) (Po : Own → Prop) (ys : List PyData) : Prop := ∃ wi : TI, PI Z.X tg iter wi ∧ ∀ Hf σ H, Sat Z.B Hf H own → EnvR Hf σ ρ → ∀ R : It → Hp → Prop, (∀ J Hf' H', Same Hf Hf' → Sat Z.B Hf' H' own → Walk Z.B J Hf' ys Po → R J H') → wi σ H R
section
variable {Z : Ctx} {e tg a b c : Expr} {ρ : List Slot} {own : Own} {pos p : Pos} {i j : Int} {k : Nat} {s : Slot} {ds : List PyData}
theorem it_list (h : ED Z e ρ own (.list ds)) : IT Z tg e ρ own (fun _ => True) ds := ⟨_, pi_list peW, fun Hf σ H S E R q => h Hf σ H S E _ fun v Hf1 H1 m1 S1 r1 => by
  cases r1 with
  | @lst a xs _ h1 h2 =>
    refine ⟨a, rfl, ⟨xs, SqL.of (S1.e1 _ _ h1)⟩, q _ Hf1 H1 m1 S1 ⟨fun i Hf' H' own' m S' _ hi => ?_, fun i y Hf' H' own' x H2 m S' _ hy hx => ?_, fun i Hf' H' own' m S' _ hi => ?_⟩⟩
    · have hl : i < xs.length := by rw [h2.length]; exact hi
      exact ⟨xs, xs[i], SqL.of (S'.e1 _ _ (m _ _ h1)), List.getElem?_eq_getElem hl⟩
    · obtain ⟨rfl, hx⟩ := hx
      obtain ⟨v, h3, h4⟩ := h2.get hy
      have e1 := hx xs (SqL.of (S'.e1 _ _ (m _ _ h1)))
      rw [h3] at e1
      cases e1
      exact ⟨Hf', Same.refl _, S', h4.mono m⟩
    · exact ⟨xs, SqL.of (S'.e1 _ _ (m _ _ h1)), by rw [h2.length]; exact hi⟩⟩
theorem it_tup (h : ED Z e ρ own (.tuple ds)) : IT Z tg e ρ own (fun _ => True) ds := ⟨_, pi_tup peW, fun Hf σ H S E R q => h Hf σ H S E _ fun v Hf1 H1 m1 S1 r1 => by
  cases r1 with
  | @tup a xs _ h1 h2 =>
    refine ⟨a, rfl, ⟨xs, SqT.of (S1.e1 _ _ h1)⟩, q _ Hf1 H1 m1 S1 ⟨fun i Hf' H' own' m S' _ hi => ?_, fun i y Hf' H' own' x H2 m S' _ hy hx => ?_, fun i Hf' H' own' m S' _ hi => ?_⟩⟩
    · have hl : i < xs.length := by rw [h2.length]; exact hi
      exact ⟨xs, xs[i], SqT.of (S'.e1 _ _ (m _ _ h1)), List.getElem?_eq_getElem hl⟩
    · obtain ⟨rfl, hx⟩ := hx
      obtain ⟨v, h3, h4⟩ := h2.get hy
      have e1 := hx xs (SqT.of (S'.e1 _ _ (m _ _ h1)))
      rw [h3] at e1
      cases e1
      exact ⟨Hf', Same.refl _, S', h4.mono m⟩
    · exact ⟨xs, SqT.of (S'.e1 _ _ (m _ _ h1)), by rw [h2.length]; exact hi⟩⟩
/-- lo, lo + 1, .. as data -/
def rng (lo : Int) (n : Nat) : List PyData := (List.range n).map fun (k : Nat) => PyData.int (lo + (k : Int))
theorem rng_length (lo : Int) (n : Nat) : (rng lo n).length = n := by simp [rng]
theorem rng_get {lo : Int} {n k : Nat} {y : PyData} (h : (rng lo n)[k]? = some y) : k < n ∧ y = .int (lo + (k : Int)) := by
  unfold rng at h
  rw [List.getElem?_map] at h
  cases e : (List.range n)[k]? with
  | none => rw [e] at h; cases h
  | some m =>
    rw [e] at h
    obtain ⟨h1, h2⟩ := List.getElem?_eq_some_iff.mp e
    rw [List.getElem_range] at h2
    subst h2
    cases h
    exact ⟨by simpa using h1, rfl⟩
theorem walk_rng {B : Bs} {Hf : Hp} (lo : Int) (n : Nat) : Walk B (Itr lo n) Hf (rng lo n) (fun _ => True) where
  go := fun i _ _ _ _ _ _ hi => by rw [rng_length] at hi; exact hi
  yld := fun i y Hf' H' own' x H2 m S _ hy hx => by
    obtain ⟨rfl, rfl⟩ := hx
    obtain ⟨_, rfl⟩ := rng_get hy
    exact ⟨Hf', Same.refl _, S, .int _⟩
  stop := fun i _ _ _ _ _ _ hi => by rw [rng_length] at hi; exact hi
theorem it_range1 (hm : Z.X.mg "range" = none) (h : ED Z a ρ own (.int i)) (hi : -1000000 ≤ i ∧ i ≤ 1000000) (hg : Gl Z.X "range" := by rfl) (hs : starEach [a] Z.X.env = [(false, eval a Z.X.env)] := by rfl) : IT Z tg (.Call (.Name "range" p) [a] [] pos) ρ own (fun _ => True) (rng 0 i.toNat) :=
  ⟨_, pi_range1 hg hm paW hs, fun Hf σ H S E R q => (ea_cons h ea_nil hs) Hf σ H S E _ fun vs Hf1 H1 m1 S1 r1 => by
    obtain ⟨v, rfl, r⟩ := r1.one
    cases r
    exact ⟨i, rfl, by omega, by omega, q _ Hf1 H1 m1 S1 (walk_rng 0 _)⟩⟩
theorem it_range2 (hm : Z.X.mg "range" = none) (h : ED Z a ρ own (.int i)) (h' : ED Z b ρ own (.int j)) (hi : -1000000 ≤ i ∧ i ≤ 1000000 ∧ -1000000 ≤ j ∧ j ≤ 1000000) (hg : Gl Z.X "range" := by rfl) (hs : starEach [a, b] Z.X.env = [(false, eval a Z.X.env), (false, eval b Z.X.env)] := by rfl) (hs2 : starEach [b] Z.X.env = [(false, eval b Z.X.env)] := by rfl) : IT Z tg (.Call (.Name "range" p) [a, b] [] pos) ρ own (fun _ => True) (rng i (j - i).toNat) :=
  ⟨_, pi_range2 hg hm paW hs hs2, fun Hf σ H S E R q => (ea_cons h (ea_cons h' ea_nil hs2) (by rw [hs, hs2])) Hf σ H S E _ fun vs Hf1 H1 m1 S1 r0 => by
    obtain ⟨v, w, rfl, r1, r2⟩ := r0.two
    cases r1; cases r2
    exact ⟨i, j, rfl, by omega, q _ Hf1 H1 m1 S1 (walk_rng i _)⟩⟩
/-- lo, lo - 1, .. -/
def rngD (lo : Int) (n : Nat) : List PyData := (List.range n).map fun (k : Nat) => PyData.int (lo - (k : Int))
theorem rngD_get {lo : Int} {n k : Nat} {y : PyData} (h : (rngD lo n)[k]? = some y) : k < n ∧ y = .int (lo - (k : Int)) := by
  unfold rngD at h
  rw [List.getElem?_map] at h
  cases e : (List.range n)[k]? with
  | none => rw [e] at h; cases h
  | some m =>
    rw [e] at h
    obtain ⟨h1, h2⟩ := List.getElem?_eq_some_iff.mp e
    rw [List.getElem_range] at h2
    subst h2
    cases h
    exact ⟨by simpa using h1, rfl⟩
theorem it_range3 (hm : Z.X.mg "range" = none) (h : ED Z a ρ own (.int i)) (h' : ED Z b ρ own (.int j)) (h'' : ED Z c ρ own (.int (-1))) (hi : -1000000 ≤ i ∧ i ≤ 1000000 ∧ -1000000 ≤ j ∧ j ≤ 1000000) (hg : Gl Z.X "range" := by rfl) (hs : starEach [a, b, c] Z.X.env = (false, eval a Z.X.env) :: starEach [b, c] Z.X.env := by rfl) (hs2 : starEach [b, c] Z.X.env = (false, eval b Z.X.env) :: starEach [c] Z.X.env := by rfl) (hs3 : starEach [c] Z.X.env = (false, eval c Z.X.env) :: starEach [] Z.X.env := by rfl) (hpl : (backTo pos (starEach [b, c] Z.X.env)).any (·.1) = false := by rfl) : IT Z tg (.Call (.Name "range" p) [a, b, c] [] pos) ρ own (fun _ => True) (rngD i (i - j).toNat) :=
  ⟨_, pi_range3 hg hm paW hs hpl, fun Hf σ H S E R q => (ea_cons h (ea_cons h' (ea_cons h'' ea_nil hs3) hs2) hs) Hf σ H S E _ fun vs Hf1 H1 m1 S1 r1 => by
    cases r1 with
    | cons a1 b1 =>
      obtain ⟨v, w, rfl, r1, r2⟩ := b1.two
      cases a1; cases r1; cases r2
      refine ⟨i, j, -1, (i - j).toNat, rfl, RgC.neg (by omega) (by omega) (by omega) (by omega), q _ Hf1 H1 m1 S1 ⟨fun i _ _ _ _ _ _ hi => ?_, fun k y Hf' H' own' x H2 m S _ hy hx => ?_, fun i _ _ _ _ _ _ hi => ?_⟩⟩
      · simp [rngD] at hi; exact (show _ < _ by omega)
      · obtain ⟨rfl, rfl⟩ := hx
        obtain ⟨_, rfl⟩ := rngD_get hy
        refine ⟨Hf', Same.refl _, S, ?_⟩
        rw [show i + (k : Int) * -1 = i - (k : Int) by omega]
        exact .int _
      · simp [rngD] at hi; exact (show _ ≤ _ by omega)⟩
end

/-! ### loops -/
section
variable {Z : Ctx} {D : DE} {ρ : List Slot} {own : Own} {pos : Pos} {body : List Stmt} {tg iter c : Expr} {ys : List PyData} {Po : Own → Prop} {k : Nat}
theorem sd_for (g : Gd Z k) (it : IT Z tg iter ρ own Po ys) (I : Nat → List Slot → Own → Prop) (h0 : I 0 ρ own) (hp : ∀ i ρ own, I i ρ own → Po own)
    (step : ∀ i y ρ1 own1, ys[i]? = some y → I i ρ1 own1 → ∃ ρ2 is, GT Z tg y ρ1 ρ2 is ∧ SDs Z body { D with nx := I (i + 1), ct := I (i + 1), bk := D.nx } ρ2 own1) (hd : ∀ ρ1 own1, I ys.length ρ1 own1 → D.nx ρ1 own1)
    (hs : ∀ x, foldedSetIterable iter Z.X.env x = pure x := by intro _; rfl) : SD Z (.For tg iter body [] pos) D ρ own := by
  obtain ⟨wi, hi, hw⟩ := it
  refine fun H0 Hf σ H m0 S E => wS.of (ps_for g.po g.calm hi pgW pssW hs) (hw Hf σ H S E _ fun J Hf1 H1 m1 S1 W => ?_)
  refine ⟨fun i m σ' H' => m = ys.length - i ∧ i ≤ ys.length ∧ ∃ Hf' ρ' own', Same Hf1 Hf' ∧ Sat Z.B Hf' H' own' ∧ EnvR Hf' σ' ρ' ∧ I i ρ' own', ⟨ys.length, by omega, by omega, Hf1, ρ, own, Same.refl _, S1, E.mono m1, h0⟩, ?_⟩
  rintro i m σ' H' ⟨rfl, hi, Hf', ρ', own', m', S', E', q⟩
  by_cases hlt : i < ys.length
  · refine .inr ⟨W.go i Hf' H' own' m' S' (hp _ _ _ q) hlt, fun σ2 H2 => ∃ Hf2 ρ2 own2, Same Hf1 Hf2 ∧ Sat Z.B Hf2 H2 own2 ∧ EnvR Hf2 σ2 ρ2 ∧ I (i + 1) ρ2 own2, fun σ2 H2 ⟨Hf2, ρ2, own2, m2, S2, E2, q2⟩ => ⟨ys.length - (i + 1), by omega, rfl, hlt, Hf2, ρ2, own2, m2, S2, E2, q2⟩, fun x H2 hx => ?_⟩
    obtain ⟨Hf2, m2, S2, r2⟩ := W.yld i _ Hf' H' own' x H2 m' S' (hp _ _ _ q) (List.getElem?_eq_getElem hlt) hx
    obtain ⟨ρ2, is, gt, sb⟩ := step i _ ρ' own' (List.getElem?_eq_getElem hlt) q
    refine gt own' Hf2 σ' H2 x S2 (E'.mono m2) r2 _ fun σ3 E3 _ => ?_
    refine wSs.imp (sb Hf1 Hf2 σ3 H2 (m'.trans m2) S2 E3) (fun _ _ q => q) (fun v H3 ⟨a1, a2, a3, a4, a5⟩ => ⟨a1, a2, a3, (m0.trans m1).trans a4, a5⟩) (fun v H3 ⟨a1, a2, a3, a4, a5⟩ => ⟨a1, a2, a3, (m0.trans m1).trans a4, a5⟩) (fun _ _ q => q)
  · have e : i = ys.length := by omega
    subst e
    exact .inl ⟨W.stop _ Hf' H' own' m' S' (hp _ _ _ q) (Nat.le_refl _), Hf', ρ', own', (m0.trans m1).trans m', S', E', hd _ _ q⟩
end
end Sd


namespace Sd
open PySem PySem.Spec PyProof.Rows L2
/-! ### promises of defs, over data -/
inductive Out where
  | ret (s : Slot) (own : Own)
  | exc (C : Addr) (own : Own)
abbrev Pr := List Slot → Own → (Out → Prop) → Prop
def spG (Pre : Pr) : Sp := fun vs H Q E => ∃ Hf HB ss own post, Sat ⟨Hf, HB⟩ Hf H own ∧ SlotsR Hf vs ss ∧ Pre ss own post ∧ (∀ s own' v Hf' H', post (.ret s own') → Sat ⟨Hf, HB⟩ Hf' H' own' → SlotR Hf' v s → s ≠ .un → Q v H') ∧
  (∀ C own' Hf' H', post (.exc C own') → Sat ⟨Hf, HB⟩ Hf' H' own' → E (.ref C) none H')
/-- the heap without some addresses -/
def less (H : Hp) (l : List Addr) : Hp := fun p => if p ∈ l then none else H p
theorem less_out {H : Hp} {l : List Addr} {p : Addr} (h : p ∉ l) : less H l p = H p := by unfold less; rw [if_neg h]
theorem less_in {H : Hp} {l : List Addr} {p : Addr} (h : p ∈ l) : less H l p = none := by unfold less; rw [if_pos h]
theorem less_none {H : Hp} {l : List Addr} {p : Addr} (h : less H l p = none) : p ∈ l ∨ H p = none := by
  by_cases hp : p ∈ l
  · exact .inl hp
  · rw [less_out hp] at h; exact .inr h
/-- into a callee with part of what is owned, and back -/
theorem Sat.into {B : Bs} {Hf H : Hp} {oa o1 ob : Own} (S : Sat B Hf H (oa ++ o1 ++ ob)) : Sat ⟨Hf, less H (o1.map (·.1))⟩ Hf H o1 := by
  have nd := S.nd
  rw [List.map_append, List.map_append] at nd
  refine ⟨Same.refl _, S.e1, fun p o h => ?_, fun p o h hb => ?_, fun q hq => ?_, (List.nodup_append.mp (List.nodup_append.mp nd).1).2.1, S.tp⟩
  · have h : less H (o1.map (·.1)) p = some o := h
    by_cases hp : p ∈ o1.map (·.1)
    · rw [show less H (o1.map (·.1)) p = none from less_in hp] at h; cases h
    · rw [← less_out (H := H) hp]; exact h
  · rw [show Hf p = none from hb] at h; cases h
  · obtain ⟨a, b, c⟩ := S.ow q (by simp [hq])
    exact ⟨a, less_in (List.mem_map.mpr ⟨q, hq, rfl⟩), c⟩
theorem Sat.back {B : Bs} {Hf H Hf' H' : Hp} {oa o1 o1' ob : Own} (S : Sat B Hf H (oa ++ o1 ++ ob)) (S' : Sat ⟨Hf, less H (o1.map (·.1))⟩ Hf' H' o1') : Sat B Hf' H' (oa ++ o1' ++ ob) := by
  have nd := S.nd
  rw [List.map_append, List.map_append] at nd
  obtain ⟨nd12, nd3, d3⟩ := List.nodup_append.mp nd
  obtain ⟨nd1, nd2, d1⟩ := List.nodup_append.mp nd12
  have b1 : ∀ p, p ∈ o1.map (·.1) → B.HB p = none := fun p hp => by
    obtain ⟨q, hq, rfl⟩ := List.mem_map.mp hp
    exact (S.ow q (by simp [hq])).2.1
  have other : ∀ q, q ∈ oa ∨ q ∈ ob → q ∈ oa ++ o1 ++ ob ∧ q.1 ∉ o1.map (·.1) := fun q hq => by
    rcases hq with h | h
    · exact ⟨by simp [h], fun z => d1 _ (List.mem_map.mpr ⟨q, h, rfl⟩) _ z rfl⟩
    · exact ⟨by simp [h], fun z => d3 _ (List.mem_append_right _ z) _ (List.mem_map.mpr ⟨q, h, rfl⟩) rfl⟩
  have there : ∀ q, q ∈ oa ∨ q ∈ ob → ∃ u, less H (o1.map (·.1)) q.1 = some u ∧ H q.1 = some u := fun q hq => by
    obtain ⟨hm, hn⟩ := other q hq
    obtain ⟨u, hu⟩ := (S.ow q hm).2.2.there
    exact ⟨u, by rw [less_out hn]; exact hu, hu⟩
  have keyO : ∀ q, q ∈ oa ∨ q ∈ ob → Hf' q.1 = none ∧ B.HB q.1 = none ∧ OwnOk Hf' H' q.1 q.2 := fun q hq => by
    obtain ⟨hm, hn⟩ := other q hq
    obtain ⟨a, b, c⟩ := S.ow q hm
    obtain ⟨u, h1, h2⟩ := there q hq
    refine ⟨?_, b, c.mono S'.e0 fun u' hu' => S'.eb _ _ (by show less H _ q.1 = _; rw [less_out hn]; exact hu')⟩
    cases e : Hf' q.1 with
    | none => rfl
    | some o =>
      have z := S'.fr q.1 o e a
      have z' : less H (o1.map (·.1)) q.1 = none := z
      rw [h1] at z'; cases z'
  refine ⟨S.e0.trans S'.e0, S'.e1, fun p o h => ?_, fun p o h hb => ?_, fun q hq => ?_, ?_, S'.tp⟩
  · refine S'.eb p o ?_
    show less H _ p = some o
    rw [less_out (fun z => by rw [b1 p z] at h; cases h)]
    exact S.eb p o h
  · cases e : Hf p with
    | some u => exact S.fr p u e hb
    | none =>
      have z : less H (o1.map (·.1)) p = none := S'.fr p o h e
      rcases less_none z with z | z
      · exact b1 p z
      · exact S.eb.free z
  · rcases List.mem_append.mp hq with h | h
    · rcases List.mem_append.mp h with h | h
      · exact keyO q (.inl h)
      · obtain ⟨a, b, c⟩ := S'.ow q h
        refine ⟨a, ?_, c⟩
        rcases less_none (show less H (o1.map (·.1)) q.1 = none from b) with z | z
        · exact b1 _ z
        · exact S.eb.free z
    · exact keyO q (.inr h)
  · have dj : ∀ q q', (q ∈ oa ∨ q ∈ ob) → q' ∈ o1' → q.1 ≠ q'.1 := fun q q' hq hq' e => by
      obtain ⟨u, h1, _⟩ := there q hq
      have z : less H (o1.map (·.1)) q'.1 = none := (S'.ow q' hq').2.1
      rw [← e, h1] at z; cases z
    rw [List.map_append, List.map_append]
    refine List.nodup_append.mpr ⟨List.nodup_append.mpr ⟨nd1, S'.nd, fun x hx y hy => ?_⟩, nd3, fun x hx y hy => ?_⟩
    · obtain ⟨q, hq, rfl⟩ := List.mem_map.mp hx
      obtain ⟨q', hq', rfl⟩ := List.mem_map.mp hy
      exact dj q q' (.inl hq) hq'
    · obtain ⟨q', hq', rfl⟩ := List.mem_map.mp hy
      rcases List.mem_append.mp hx with hx | hx
      · exact d3 _ (List.mem_append_left _ hx) _ (List.mem_map.mpr ⟨q', hq', rfl⟩)
      · obtain ⟨q, hq, rfl⟩ := List.mem_map.mp hx
        exact fun e => dj q' q (.inr hq') hq e.symm

/-! ### a def keeps its promise -/
section
variable {P : Program} {w : World} {K : PySem.W.Frag} {mg : Str → Option Value} {base : Heap}
theorem SlotsR.env {Hf : Hp} : ∀ {vs : List V} {ss : List Slot}, SlotsR Hf vs ss → ∀ n : Nat, EnvR Hf (vs.map some ++ List.replicate n none) (ss ++ List.replicate n .un)
  | _, _, .nil, n => ⟨by simp, fun i s h => .inl (by
      have h' : (List.replicate n Slot.un)[i]? = some s := h
      rw [List.getElem?_replicate] at h'
      split at h'
      · cases h'; rfl
      · cases h')⟩
  | _, _, .cons (s := s₀) a b, n => by
    have ih := SlotsR.env b n
    refine ⟨by simpa using ih.len, fun i s h => ?_⟩
    cases i with
    | zero =>
      have e : s₀ = s := by simpa using h
      subst e
      exact .inr ⟨_, rfl, a⟩
    | succ i => exact ih.at_ i s (by simpa using h)
/-- the context of a def's body -/
abbrev ctxOf (P : Program) (w : World) (K : PySem.W.Frag) (mg : Str → Option Value) (base : Heap) (N : List Str) (qual : Str) (st : Stmt) (f : Addr) (cdv : Value) (A : Around) (outer : List Env) (s : Shared) (H : Hp) (E : XK) (B : Bs) (ex : Addr → List Slot → Own → Prop) : Ctx :=
  ⟨cxOf (L2.CX P w) P w K mg base N qual (defScope st) f cdv A outer s H E, B, ex⟩
/-- what a body may lean on: the module's facts, the def's names -/
structure Bd (Z : Ctx) (P : Program) (w : World) (K : PySem.W.Frag) (mg : Str → Option Value) (base : Heap) : Prop where
  p : Z.X.prog = P
  w_ : Z.X.w = w
  k : Z.X.K = K
  mg : Z.X.mg = mg
  b : Z.X.base = base
theorem okG {x qual : Str} {st : Stmt} {f : Addr} {fd : FuncData} {N ps : List Str} {k : Nat} {Pre : Pr} (F : Fun K x qual st f fd) (S : FnScope N ps (defScope st)) (len : ∀ ss own post, Pre ss own post → ss.length = ps.length)
    (hbody : ∀ (ss : List Slot) (own : Own) (post : Out → Prop), Pre ss own post → ∀ (cdv : Value) (A : Around) (outer : List Env) (s : Shared) (H : Hp) (E : XK) (B : Bs), Gd (ctxOf P w K mg base N qual st f cdv A outer s H E B (fun C _ own => post (.exc C own))) k →
      SDs (ctxOf P w K mg base N qual st f cdv A outer s H E B (fun C _ own => post (.exc C own))) (defBody st) { nx := fun _ own => post (.ret (.d .none) own), rt := fun s own => post (.ret s own) } (ss ++ List.replicate (N.length - ss.length) .un) own) :
    FnOk P w K mg base (L2.CX P w) (k + 1) f fd ps (spG Pre) := by
  refine F.okX S (fun vs H Q E h => ?_) (fun cdv A outer s H vs Q E hr h => ?_)
  · obtain ⟨Hf, HB, ss, own, post, _, r, h, _⟩ := h
    rw [r.length]
    exact len _ _ _ h
  · obtain ⟨Hf, HB, ss, own, post, S0, r, h, q1, q2⟩ := h
    refine ⟨_, pssW, ?_⟩
    have g : Gd (ctxOf P w K mg base N qual st f cdv A outer s H E ⟨Hf, HB⟩ (fun C _ own => post (.exc C own))) k := by
      refine ⟨?_, passes_of rfl, rfl, S.nd, hr⟩
      refine Takes.imp (takes_of (E := E) rfl rfl rfl rfl) fun c d σ H' hw => ?_
      obtain ⟨C, Hf', ρ, own', rfl, rfl, S', _, hx⟩ := hw
      exact q2 C own' Hf' H' hx S'
    have z := hbody ss own post h cdv A outer s H E ⟨Hf, HB⟩ g Hf Hf (L2.start N vs) H (Same.refl _) S0 (by unfold L2.start; rw [r.length]; exact r.env _)
    refine wSs.imp z (fun σ H' hz => ?_) (fun v H' hz => ?_) (fun _ _ hz => ?_) (fun _ _ hz => ?_)
    · obtain ⟨Hf', ρ, own', _, S', _, hp⟩ := hz
      exact q1 _ own' _ Hf' H' hp S' (Rep.non) (fun z => nomatch z)
    · obtain ⟨Hf', t, own', _, S', r', hu, hp⟩ := hz
      exact q1 t own' v Hf' H' hp S' r' hu
    · obtain ⟨_, _, _, _, _, _, hp⟩ := hz
      exact hp.elim
    · obtain ⟨_, _, _, _, _, _, hp⟩ := hz
      exact hp.elim
end

/-! ### calls of defs -/
/-- all that a call of the def named z wants -/
structure Fn (K : PySem.W.Frag) (mg : Str → Option Value) (P : Program) (w : World) (base : Heap) (z : Str) (ps : List Str) (k : Nat) (Pre : Pr) : Prop where
  ex : ∃ f fd, FnOk P w K mg base (L2.CX P w) k f fd ps (spG Pre) ∧ mg z = some (.ref f) ∧ PySem.W.keepIn K (.ref f) = true ∧ Binds K fd ps []
section
variable {Z : Ctx} {e a b c : Expr} {es : List Expr} {ρ : List Slot} {own oa o1 ob : Own} {pos p : Pos} {x y : PyData} {s t u : Slot} {k j : Nat} {ss : List Slot} {z : Str} {ps : List Str} {Pre : Pr} {post : Out → Prop} {R : Slot → Own → Prop}
theorem eg_call (F : Fn Z.X.K Z.X.mg Z.X.prog Z.X.w Z.X.base z ps j Pre) (g : Gd Z k) (hj : j ≤ k) (ha : EA Z (e :: es) ρ (oa ++ o1 ++ ob) ss) (hp : Pre ss o1 post) (h1 : ∀ s o1', post (.ret s o1') → R s (oa ++ o1' ++ ob)) (h2 : ∀ C o1', post (.exc C o1') → Z.ex C ρ (oa ++ o1' ++ ob))
    (hg : Gl Z.X z := by rfl) (hdb : (z == ("__debug__" : Str)) = false := by decide) (he : starEach (e :: es) Z.X.env = (false, eval e Z.X.env) :: starEach es Z.X.env := by rfl) (hpl : (backTo pos (starEach es Z.X.env)).any (·.1) = false := by rfl) :
    EG Z (.Call (.Name z p) (e :: es) [] pos) ρ (oa ++ o1 ++ ob) R := by
  obtain ⟨f, fd, ok, hm, hk, hb⟩ := F.ex
  refine fun Hf σ H S E Q q => wE.of (pe_callS (E := WE (Wish Z)) ok (g.hr.mono hj) hg hm hk hb (fun σ => passAt g.tk σ) paW hdb he hpl) (ha Hf σ H S E _ fun vs Hf1 H1 m1 S1 r1 => ?_)
  refine ⟨Hf1, less H1 (o1.map (·.1)), ss, o1, post, S1.into, r1, hp, fun s own' v Hf' H' hq S' r' hs => ?_, fun C own' Hf' H' hq S' => ?_⟩
  · exact q v Hf' H' s _ (m1.trans S'.e0) (S1.back S') r' hs (h1 s own' hq)
  · exact ⟨C, Hf', ρ, _, rfl, rfl, S1.back S', E.mono (m1.trans S'.e0), h2 C own' hq⟩
/-- a def called upon data, that gives data -/
theorem es_call (F : Fn Z.X.K Z.X.mg Z.X.prog Z.X.w Z.X.base z ps j Pre) (g : Gd Z k) (hj : j ≤ k) (ha : EA Z (e :: es) ρ own ss) (hp : Pre ss [] (fun o => o = .ret (.d x) []))
    (hg : Gl Z.X z := by rfl) (hdb : (z == ("__debug__" : Str)) = false := by decide) (he : starEach (e :: es) Z.X.env = (false, eval e Z.X.env) :: starEach es Z.X.env := by rfl) (hpl : (backTo pos (starEach es Z.X.env)).any (·.1) = false := by rfl) : ED Z (.Call (.Name z p) (e :: es) [] pos) ρ own x := by
  have := eg_call (p := p) (oa := []) (o1 := []) (ob := own) (R := fun t o => t = .d x ∧ o = own) F g hj ha hp (fun s o1' h => by cases h; exact ⟨rfl, rfl⟩) (fun C o1' h => nomatch h) hg hdb he hpl
  exact EG.toES this
/-- .. that raises C -/
theorem ex_call {C : Addr} (F : Fn Z.X.K Z.X.mg Z.X.prog Z.X.w Z.X.base z ps j Pre) (g : Gd Z k) (hj : j ≤ k) (ha : EA Z (e :: es) ρ own ss) (hp : Pre ss [] (fun o => o = .exc C [])) (hx : Z.ex C ρ own)
    (hg : Gl Z.X z := by rfl) (hdb : (z == ("__debug__" : Str)) = false := by decide) (he : starEach (e :: es) Z.X.env = (false, eval e Z.X.env) :: starEach es Z.X.env := by rfl) (hpl : (backTo pos (starEach es Z.X.env)).any (·.1) = false := by rfl) : EX Z (.Call (.Name z p) (e :: es) [] pos) ρ own := by
  have := eg_call (p := p) (oa := []) (o1 := []) (ob := own) (R := fun _ _ => False) F g hj ha hp (fun s o1' h => nomatch h) (fun C' o1' h => by cases h; exact hx) hg hdb he hpl
  exact fun Hf σ H S E Q => this Hf σ H S E Q fun v Hf' H' s own' _ _ _ _ h => h.elim
/-- .. that gives a new list -/
theorem el_call {ds : List PyData} (F : Fn Z.X.K Z.X.mg Z.X.prog Z.X.w Z.X.base z ps j Pre) (g : Gd Z k) (hj : j ≤ k) (ha : EA Z (e :: es) ρ own ss) (hp : Pre ss [] (fun o => ∃ p, o = .ret (.raw (.ref p)) [(p, .lst ds)]))
    (hg : Gl Z.X z := by rfl) (hdb : (z == ("__debug__" : Str)) = false := by decide) (he : starEach (e :: es) Z.X.env = (false, eval e Z.X.env) :: starEach es Z.X.env := by rfl) (hpl : (backTo pos (starEach es Z.X.env)).any (·.1) = false := by rfl) : EL Z (.Call (.Name z p) (e :: es) [] pos) ρ own ds := by
  have := eg_call (p := p) (oa := []) (o1 := []) (ob := own) (R := fun t o => ∃ p, t = .raw (.ref p) ∧ o = (p, .lst ds) :: own) F g hj ha hp (fun s o1' h => by obtain ⟨p, h⟩ := h; cases h; exact ⟨p, rfl, rfl⟩) (fun C o1' h => by obtain ⟨p, h⟩ := h; cases h) hg hdb he hpl
  exact EG.toEL this
end

/-! ### statements with a change of what is owned -/
section
variable {Z : Ctx} {D : DE} {ρ : List Slot} {own : Own} {pos : Pos} {e : Expr} {R : Slot → Own → Prop}
theorem sd_setG (i : Nat) {z : Str} {pos' : Pos} (hN : Z.X.N.Nodup) (he : EG Z e ρ own R) (h : ∀ s own', R s own' → D.nx (ρ.set i s) own') (hi : Z.X.N[i]? = some z := by rfl) (hx : Loc Z.X.env.scope z := by first | exact Or.inl rfl | exact Or.inr rfl) (hs : swapsWith e (some (.Name z pos')) pos.line Z.X.env = pure false := by rfl)
    (hf : Z.X.fn z = true ∨ Z.X.env.scope.names.lookup z = some .local := by first | exact .inl rfl | exact .inr rfl | assumption) : SD Z (.Assign [.Name z pos'] e pos) D ρ own := fun H0 Hf σ H m0 S E => wS.of (ps_set hN hi hx peW hs hf) (he Hf σ H S E _ fun v Hf1 H1 s own' m1 S1 r1 _ q => ⟨Hf1, _, own', m0.trans m1, S1, (E.mono m1).set r1 i, h s own' q⟩)
theorem sd_retG (he : EG Z e ρ own R) (h : ∀ s own', R s own' → D.rt s own') : SD Z (.Return (some e) pos) D ρ own := fun H0 Hf σ H m0 S E => wS.of (ps_ret peW) (he Hf σ H S E _ fun v Hf1 H1 s own' m1 S1 r1 hs q => ⟨Hf1, s, own', m0.trans m1, S1, r1, hs, h s own' q⟩)
end

/-! ### raise -/
section
variable {Z : Ctx} {D : DE} {ρ : List Slot} {own : Own} {pos p p2 pos' : Pos} {k : Nat}
/-- a class of errors of the program -/
structure ErrC (K : PySem.W.Frag) (mg : Str → Option Value) (z : Str) (C : Addr) : Prop where
  g : mg z = some (.ref C)
  x : PySem.W.excIn K C [.type "ValueError", .type "Exception", .type "BaseException", .type "object"] "ValueError.__new__" = true
  k : PySem.W.keepIn K (.ref C) = true
  b : PySem.W.subIn K (.ref C) (.type "BaseException") = some true
  t : PySem.W.typeIn K (.ref C) = some (.type "type")
theorem sd_raise {z m : Str} {C : Addr} {j : Nat} (g : Gd Z k) (T : ErrC Z.X.K Z.X.mg z C) (h : Z.ex C ρ own) (hg : Gl Z.X z := by rfl) (hdb : (z == ("__debug__" : Str)) = false := by decide) : SD Z (.Raise (some (.Call (.Name z p) [.Constant (.str m) j p2] [] pos')) none pos) D ρ own := fun H0 Hf σ H m0 S E =>
  wS.of (ps_raise g.calm g.tk (pmk_own PySem.F.excBase_ValueError T.x T.g T.k (raises_own T.b T.t) hg hdb)) ⟨C, Hf, ρ, own, rfl, rfl, S, E, h⟩
end

/-! ### while, augmented assignments, items stored, append -/
section
variable {Z : Ctx} {D : DE} {ρ : List Slot} {own oa ob : Own} {pos tpos : Pos} {body : List Stmt} {c e a b : Expr} {k : Nat} {i j : Int} {s t : Slot} {ds : List PyData} {x : PyData}
theorem sd_while (g : Gd Z k) (I : Nat → List Slot → Own → Prop) (m : Nat) (h0 : I m ρ own)
    (step : ∀ m ρ1 own1, I m ρ1 own1 → ∃ l, ET Z c ρ1 own1 l ∧ (l = true → SDs Z body { D with nx := fun ρ2 own2 => ∃ m', m' < m ∧ I m' ρ2 own2, ct := fun ρ2 own2 => ∃ m', m' < m ∧ I m' ρ2 own2, bk := D.nx } ρ1 own1) ∧ (l = false → D.nx ρ1 own1)) : SD Z (.While c body [] pos) D ρ own := by
  refine fun H0 Hf σ H m0 S E => wS.of (ps_while g.po ptW pssW) ?_
  refine ⟨fun m σ' H' => ∃ Hf' ρ' own', Same H0 Hf' ∧ Sat Z.B Hf' H' own' ∧ EnvR Hf' σ' ρ' ∧ I m ρ' own', ⟨m, Hf, ρ, own, m0, S, E, h0⟩, ?_⟩
  rintro m σ' H' ⟨Hf', ρ', own', m', S', E', q⟩
  obtain ⟨l, ht, h1, h2⟩ := step m ρ' own' q
  refine ht Hf' σ' H' S' E' _ fun Hf2 H2 m2 S2 => ?_
  cases l with
  | true =>
    refine iteT ⟨fun σ3 H3 => ∃ Hf3 ρ3 own3, Same H0 Hf3 ∧ Sat Z.B Hf3 H3 own3 ∧ EnvR Hf3 σ3 ρ3 ∧ ∃ m', m' < m ∧ I m' ρ3 own3, fun σ3 H3 ⟨Hf3, ρ3, own3, m3, S3, E3, m', hm, q3⟩ => ⟨m', hm, Hf3, ρ3, own3, m3, S3, E3, q3⟩, ?_⟩
    exact wSs.imp (h1 rfl H0 Hf2 σ' H2 (m'.trans m2) S2 (E'.mono m2)) (fun _ _ q => q) (fun _ _ q => q) (fun _ _ q => q) (fun _ _ q => q)
  | false => exact iteF ⟨Hf2, ρ', own', m'.trans m2, S2, E'.mono m2, h2 rfl⟩
/-- x op= e for ints -/
theorem sd_aug (n : Nat) {z : Str} {op : Operator} {C : Int → Int → Prop} {f : Int → Int → Int} {pos' : Pos} (ho : OpR Z.X (inplaceOp op) (rI C fun i j => .int (f i j))) (hN : Z.X.N.Nodup) (hv : ρ[n]? = some (.d (.int i))) (he : ED Z e ρ own (.int j)) (hc : C i j) (h : D.nx (ρ.set n (.d (.int (f i j)))) own)
    (hi : Z.X.N[n]? = some z := by rfl) (hx : Loc Z.X.env.scope z := by first | exact Or.inl rfl | exact Or.inr rfl) (hf : Z.X.fn z = true ∨ Z.X.env.scope.names.lookup z = some .local := by first | exact .inl rfl | exact .inr rfl | assumption) : SD Z (.AugAssign (.Name z pos') op e pos) D ρ own := fun H0 Hf σ H m0 S E => wS.of (ps_aug hN hi hx peW ho hf) (by
  obtain ⟨v, hv1, hv2⟩ := E.d hv
  cases hv2
  refine ⟨.int i, hv1, he Hf σ H S E _ fun w Hf1 H1 m1 S1 r1 => ?_⟩
  cases r1
  exact ⟨i, j, rfl, rfl, hc, Hf1, _, own, m0.trans m1, S1, (E.mono m1).set (s := .d (.int (f i j))) (Rep.int _) n, h⟩)
theorem iop_addC {X : Cx} : OpR X (inplaceOp .Add) (rI (fun _ _ => True) fun i j => .int (i + j)) := opI fun _ _ _ _ _ _ _ _ q => iadd_int q
theorem iop_mulW {X : Cx} : OpR X (inplaceOp .Mult) (rI CMulW fun i j => .int (i * j)) := opI fun _ _ _ _ _ _ _ hc q => imul_int q hc.ok
/-- xs[i] = e, xs one's own -/
theorem sd_setitem {p : Addr} {n : Nat} (he : ED Z e ρ (oa ++ (p, .lst ds) :: ob) x) (ha : EV Z a ρ (oa ++ (p, .lst ds) :: ob) (.ref p)) (hb : ED Z b ρ (oa ++ (p, .lst ds) :: ob) (.int i)) (hi : ixN ds.length i = some n) (h : D.nx ρ (oa ++ (p, .lst (ds.set n x)) :: ob))
    (hs : swapsWithSole [.Subscript a b tpos] e pos.line Z.X.env = pure false := by rfl) (hw : swappedStores [.Subscript a b tpos] e Z.X.env = pure none := by rfl) (h1 : (assignEach [.Subscript a b tpos] Z.X.env).map (·.2) = [assign (.Subscript a b tpos) Z.X.env] := by rfl)
    (hq : ∀ v, assign (.Subscript a b tpos) Z.X.env v = (do
      let ov ← holding [v] (eval a Z.X.env)
      let iv ← holding [v, ov] (eval b Z.X.env)
      standAt tpos
      holding [v, ov, iv] (setItem ov iv v)
      release [v, ov, iv] []) := by intro _; rfl) : SD Z (.Assign [.Subscript a b tpos] e pos) D ρ (oa ++ (p, .lst ds) :: ob) := fun H0 Hf σ H m0 S E => wS.of (ps_asg peW (pg_sub peW peW set_list hq) hs hw h1) (he Hf σ H S E _ fun v Hf1 H1 m1 S1 r1 => ha Hf1 σ H1 S1 (E.mono m1) _ fun w Hf2 H2 m2 S2 r2 =>
  hb Hf2 σ H2 S2 (E.mono (m1.trans m2)) _ fun z Hf3 H3 m3 S3 r3 => by
    cases r3
    cases (show w = .ref p from r2)
    obtain ⟨_, _, vs, g1, g2⟩ := S3.at (p := p) (oo := .lst ds) (by simp)
    refine ⟨p, vs, i, n, rfl, rfl, g1, by rw [g2.length]; exact hi, Hf3, ρ, _, ((m0.trans m1).trans m2).trans m3, S3.write (oo' := .lst (ds.set n x)) ⟨_, upd_same, g2.set ((show Rep Hf1 v x from r1).mono (m2.trans m3)) n⟩, E.mono ((m1.trans m2).trans m3), h⟩)
/-- xs.append(e), xs one's own -/
theorem sd_append {p : Addr} {apos cpos : Pos} (ha : EV Z a ρ (oa ++ (p, .lst ds) :: ob) (.ref p)) (he : ED Z e ρ (oa ++ (p, .lst ds) :: ob) x) (hl : ds.length < 100000) (h : D.nx ρ (oa ++ (p, .lst (ds ++ [x])) :: ob))
    (hs0 : swapsWith (.Call (.Attribute a "append" apos) [e] [] cpos) none pos.line Z.X.env = pure false := by rfl) (hbase : attributeBase a "append" Z.X.env (eval a Z.X.env) = eval a Z.X.env := by rfl)
    (hfew : ((backTo cpos (starEach [e] Z.X.env)).all (fun x => !x.1) && (backToKw cpos (keywordEach [] Z.X.env)).all (fun x => x.1.isSome)
      && decide ([e].length + ([] : List Keyword).length + (if ([] : List Keyword).isEmpty then 0 else 1) < 30)) = true := by rfl)
    (hline : (apos.endLine == cpos.line) = true := by rfl) (hs : starEach [e] Z.X.env = (false, eval e Z.X.env) :: starEach [] Z.X.env := by rfl) (hplain : (backTo cpos (starEach [] Z.X.env)).any (·.1) = false := by rfl) :
    SD Z (.Expr (.Call (.Attribute a "append" apos) [e] [] cpos) pos) D ρ (oa ++ (p, .lst ds) :: ob) := fun H0 Hf σ H m0 S E => wS.of (ps_expr (pe_bm PySem.F.plainAttrs_list PySem.F.slot_list_append PySem.F.type_list_append mt_append peW (pa_cons peW pa_nil hs) hbase hfew hline hs hplain) hs0)
  (ha Hf σ H S E _ fun v Hf1 H1 m1 S1 r1 => by
    cases (show v = .ref p from r1)
    obtain ⟨_, _, vs, g1, g2⟩ := S1.at (p := p) (oo := .lst ds) (by simp)
    refine ⟨.inl ⟨rfl, _, SqL.of g1⟩, he Hf1 σ H1 S1 (E.mono m1) _ fun w Hf2 H2 m2 S2 r2 => ?_⟩
    obtain ⟨_, _, vs, g1, g2⟩ := S2.at (p := p) (oo := .lst ds) (by simp)
    refine ⟨p, vs, w, rfl, rfl, g1, by rw [g2.length]; exact Nat.lt_of_lt_of_le hl (by decide), Hf2, ρ, _, (m0.trans m1).trans m2, S2.write (oo' := .lst (ds ++ [x])) ⟨_, upd_same, g2.append (.cons r2 .nil)⟩, E.mono (m1.trans m2), h⟩)
/-- xs[i], by values -/
theorem get_list {X : Cx} : PGet X (rIxL X.K) := by
  intro pins s σ H x y v u Q I rx ry h
  obtain ⟨p, xs, i, z, rfl, rfl, hq, he, q⟩ := h
  cases (show v = Value.ref p from rx)
  obtain ⟨t, rfl⟩ := ry
  obtain ⟨its, r, pl, hz⟩ := I.list hq
  obtain ⟨j, h1, h2, h3, h4, h5⟩ := atI_get he
  obtain ⟨w, ew, rw'⟩ := r.get h2
  have hl := r.length
  have hn := line63
  have fin : EP X pins σ Q w s := ⟨z, H, I, rw', q⟩
  by_cases h0 : 0 ≤ i
  · have hj : i.toNat = j := by
      rw [seqIndex_of h0 h5] at h1
      exact Option.some.inj h1
    exact wpAny_getItem_list pl.isList h0 (by omega) (by rw [hj]; simpa using ew) fin
  · have hj : (i + (its.toArray.size : Int)).toNat = j := by
      rw [seqIndex_neg (by omega) h4] at h1
      rw [List.size_toArray, ← hl]
      exact Option.some.inj h1
    exact wpAny_getItem_list_neg pl.isList (by omega) (by rw [List.size_toArray] <;> omega) (by omega) (by rw [hj]; simpa using ew) fin
theorem atI_ixN {α : Type} {xs : List α} {i : Int} {n : Nat} {v : α} (h : ixN xs.length i = some n) (hv : xs[n]? = some v) : atI xs i = some v := by
  unfold atI
  rw [h]
  exact hv
/-- xs[i] op= e, ints, xs one's own -/
theorem sd_augitem {p : Addr} {n : Nat} {op : Operator} {C : Int → Int → Prop} {f : Int → Int → Int} {y z : Int} (ho : OpR Z.X (inplaceOp op) (rI C fun i j => .int (f i j))) (ha : EV Z a ρ (oa ++ (p, .lst ds) :: ob) (.ref p)) (hb : ED Z b ρ (oa ++ (p, .lst ds) :: ob) (.int i)) (he : ED Z e ρ (oa ++ (p, .lst ds) :: ob) (.int z))
    (hi : ixN ds.length i = some n) (hy : ds[n]? = some (.int y)) (hc : C y z) (h : D.nx ρ (oa ++ (p, .lst (ds.set n (.int (f y z)))) :: ob))
    (hq : ∀ ov iv new, augStore b ov iv new = (do holding [new, ov, iv] (setItem ov iv new); release [new, ov, iv] []; pure .next) := by intros; rfl) : SD Z (.AugAssign (.Subscript a b tpos) op e pos) D ρ (oa ++ (p, .lst ds) :: ob) := fun H0 Hf σ H m0 S E => wS.of (ps_augS peW peW get_list peW ho set_list hq)
  (ha Hf σ H S E _ fun w Hf1 H1 m1 S1 r1 => hb Hf1 σ H1 S1 (E.mono m1) _ fun w2 Hf2 H2 m2 S2 r2 => by
    cases r2
    cases (show w = .ref p from r1)
    obtain ⟨_, _, vs, g1, g2⟩ := S2.at (p := p) (oo := .lst ds) (by simp)
    obtain ⟨u, g3, g4⟩ := g2.get hy
    cases g4
    refine ⟨p, vs, i, .int y, rfl, rfl, SqL.of g1, atI_ixN (by rw [g2.length]; exact hi) g3, he Hf2 σ H2 S2 (E.mono (m1.trans m2)) _ fun w3 Hf3 H3 m3 S3 r3 => ?_⟩
    cases r3
    obtain ⟨_, _, vs, g1, g2⟩ := S3.at (p := p) (oo := .lst ds) (by simp)
    exact ⟨y, z, rfl, rfl, hc, p, vs, i, n, rfl, rfl, g1, by rw [g2.length]; exact hi, Hf3, ρ, _, ((m0.trans m1).trans m2).trans m3, S3.write (oo' := .lst (ds.set n (.int (f y z)))) ⟨_, upd_same, g2.set (.int _) n⟩, E.mono ((m1.trans m2).trans m3), h⟩)
/-- a, b = x, y with plain local names -/
theorem sd_par (n m : Nat) {x y : Str} {px py pt pt2 : Pos} {kt k2 : Nat} {s t : Slot} (g : Gd Z k) (ha : EA Z [a, b] ρ own [s, t]) (h : D.nx ((ρ.set n s).set m t) own) (hi : Z.X.N[n]? = some x := by rfl) (hj : Z.X.N[m]? = some y := by rfl) (hij : n ≠ m := by decide)
    (hx : Z.X.env.scope.names.lookup x = some .local := by rfl) (hy : Z.X.env.scope.names.lookup y = some .local := by rfl)
    (hw : swappedStores [.Tuple [.Name x px, .Name y py] kt pt] (.Tuple [a, b] k2 pt2) Z.X.env = pure (some [x, y]) := by rfl)
    (hs : swapsWithSole [.Tuple [.Name x px, .Name y py] kt pt] (.Tuple [a, b] k2 pt2) pos.line Z.X.env = pure false := by rfl) : SD Z (.Assign [.Tuple [.Name x px, .Name y py] kt pt] (.Tuple [a, b] k2 pt2) pos) D ρ own := fun H0 Hf σ H m0 S E => wS.of (ps_par g.calm g.nd hi hj hij hx hy paW hw hs)
  (ha Hf σ H S E _ fun vs Hf1 H1 m1 S1 r1 => by
    obtain ⟨v, w, rfl, r1, r2⟩ := r1.two
    exact ⟨v, w, rfl, Hf1, _, own, m0.trans m1, S1, ((E.mono m1).set r1 n).set r2 m, h⟩)
end
end Sd


namespace Sd
open PySem PySem.Spec PyProof.Rows L2
/-! ### comprehensions -/
abbrev blkZ (Z : Ctx) (scope : Scope) (s : Shared) (H : Hp) (C : Addr) (cl : List (Str × Addr)) (fp : List Addr) : Ctx := ⟨Z.X.blk s H scope (compEnvC scope cl C Z.X.env) fp, Z.B, fun _ _ _ => False⟩
structure wTs (X : Cx) (ifs : List Expr) (σ : L2.St) (H : Hp) (Q : Bool → Hp → Prop) : Prop where
  run : ∀ (pins : List (Addr × Obj)) (s : Shared), Inv X pins σ H s → wpAny (model X.prog X.w) X.A (forIn ifs true fun c r => if r = true then do let ok ← isTrue c X.env (eval c X.env); pure (ForInStep.yield ok) else pure (ForInStep.yield r)) (TP X pins σ Q) X.xe s
theorem wTs.of {X : Cx} {ifs : List Expr} {t : TT} (h : PTs X ifs t) {σ : L2.St} {H : Hp} {Q : Bool → Hp → Prop} (q : t σ H Q) : wTs X ifs σ H Q := ⟨fun pins s I => h.run pins s σ H Q I q⟩
def ETs (Z : Ctx) (ifs : List Expr) (ρ : List Slot) (own : Own) (b : Bool) : Prop := ∀ Hf σ H, Sat Z.B Hf H own → EnvR Hf σ ρ → ∀ Q : Bool → Hp → Prop, (∀ Hf' H', Same Hf Hf' → Sat Z.B Hf' H' own → Q b H') → wTs Z.X ifs σ H Q
theorem ets_nil {Z : Ctx} {ρ : List Slot} {own : Own} : ETs Z [] ρ own true := fun Hf σ H S R Q q => wTs.of pts_nil (q Hf H (Same.refl _) S)
theorem ets_one {Z : Ctx} {c : Expr} {ρ : List Slot} {own : Own} {l : Bool} (h : ET Z c ρ own l) : ETs Z [c] ρ own l := fun Hf σ H S R Q q => wTs.of (pts_one ptW) (h Hf σ H S R Q q)
theorem Gd.blk {Z : Ctx} {k : Nat} (g : Gd Z k) (scope : Scope) (s : Shared) (H : Hp) (C : Addr) (cl : List (Str × Addr)) (fp : List Addr) : Gd (blkZ Z scope s H C cl fp) k :=
  ⟨Takes.imp takes0 fun _ _ _ _ ⟨_, _, _, _, _, _, _, _, h⟩ => h, PassesOwn.never, g.calm, g.nd, g.hr⟩
theorem wipe_get {σ : L2.St} {i : Nat} : ∀ {vs : List Nat}, (wipe σ vs)[i]? = if i ∈ vs then (σ[i]?).map (fun _ => none) else σ[i]?
  | [] => by simp [wipe]
  | v :: vs => by
    unfold wipe
    by_cases hi : v = i
    · subst hi
      rw [if_pos (by simp)]
      by_cases hl : v < σ.length
      · rw [List.getElem?_set_self (by rw [wipe_length]; exact hl), List.getElem?_eq_getElem hl]
        rfl
      · rw [List.getElem?_eq_none (by rw [List.length_set, wipe_length]; omega), List.getElem?_eq_none (by omega)]
        rfl
    · rw [List.getElem?_set_ne hi, wipe_get]
      by_cases h2 : i ∈ vs
      · rw [if_pos h2, if_pos (List.mem_cons_of_mem _ h2)]
      · rw [if_neg h2, if_neg (by simp only [List.mem_cons, not_or]; exact ⟨fun e => hi e.symm, h2⟩)]
theorem wipe_but {σ σ2 : L2.St} {is vs : List Nat} (hb : But is (wipe σ vs) σ2) (hi : ∀ i ∈ is, i ∈ vs) : wipe σ2 vs = wipe σ vs := by
  refine List.ext_getElem? fun i => ?_
  rw [wipe_get, wipe_get]
  by_cases h : i ∈ vs
  · rw [if_pos h, if_pos h]
    have hl : σ2.length = σ.length := by rw [hb.1, wipe_length]
    by_cases hn : i < σ.length
    · rw [List.getElem?_eq_getElem hn, List.getElem?_eq_getElem (by omega)]
      rfl
    · rw [List.getElem?_eq_none (by omega), List.getElem?_eq_none (by omega)]
  · rw [if_neg h, if_neg h, hb.2 i (fun z => h (hi i z)), wipe_get, if_neg h]
/-- a comprehension: what it needs, and what its list may be at the end -/
def CP (Z : Ctx) (elt tg iter : Expr) (ifs : List Expr) (scope : Scope) (ρ : List Slot) (own : Own) (Fin : List PyData → Own → Prop) : Prop :=
  ∃ (wi : TI) (g : TG) (tt : TT) (te : TE) (on : List (Str × Nat)), PI Z.X tg iter wi ∧ BlkOk Z.X.N Z.X.env.scope scope on ∧ (∀ (s : Shared) (H : Hp) (C : Addr) (cl : List (Str × Addr)) (fp : List Addr), PG (Z.X.blk s H scope (compEnvC scope cl C Z.X.env) fp) tg g) ∧
    (∀ (s : Shared) (H : Hp) (C : Addr) (cl : List (Str × Addr)) (fp : List Addr), PTs (Z.X.blk s H scope (compEnvC scope cl C Z.X.env) fp) ifs tt) ∧ (∀ (s : Shared) (H : Hp) (C : Addr) (cl : List (Str × Addr)) (fp : List Addr), PE (Z.X.blk s H scope (compEnvC scope cl C Z.X.env) fp) elt te) ∧
    ∀ Hf σ H, Sat Z.B Hf H own → EnvR Hf σ ρ → ∀ Q : VK, (∀ p Hf' H' ds own', Same Hf Hf' → Sat Z.B Hf' H' ((p, .lst ds) :: own') → Fin ds own' → Q (.ref p) H') → tLc wi g tt te (on.map (·.2)) σ H Q
section
variable {Z : Ctx} {elt tg iter : Expr} {ifs : List Expr} {scope : Scope} {ρ : List Slot} {own : Own} {Fin : List PyData → Own → Prop} {k : Nat} {Po : Own → Prop} {ys : List PyData} {pos : Pos} {D : DE}
theorem comp (g : Gd Z k) (it : IT Z tg iter ρ own Po ys) (on : List (Str × Nat)) (ok : BlkOk Z.X.N Z.X.env.scope scope on) (I : Nat → List PyData → Own → Prop) (h0 : I 0 [] own) (hpo : ∀ i acc o D, I i acc o → Po ((D, .lst acc) :: o)) (hlen : ∀ i acc o, I i acc o → acc.length < 100000)
    (step : ∀ i y acc o D, ys[i]? = some y → I i acc o → ∃ ρ2 is l, (∀ i ∈ is, i ∈ on.map (·.2)) ∧ (∀ s H C cl fp, GT (blkZ Z scope s H C cl fp) tg y (wipeR ρ (on.map (·.2))) ρ2 is) ∧ (∀ s H C cl fp, ETs (blkZ Z scope s H C cl fp) ifs ρ2 ((D, .lst acc) :: o) l) ∧
      (l = true → ∀ s H C cl fp, EG (blkZ Z scope s H C cl fp) elt ρ2 ((D, .lst acc) :: o) (fun t o2 => ∃ d o', t = .d d ∧ o2 = (D, .lst acc) :: o' ∧ I (i + 1) (acc ++ [d]) o')) ∧ (l = false → I (i + 1) acc o)) :
    CP Z elt tg iter ifs scope ρ own (fun ds o => I ys.length ds o) := by
  obtain ⟨wi, hi, hw⟩ := it
  refine ⟨wi, fun v σ H Q => ∀ s' H' C cl fp, wG (Z.X.blk s' H' scope (compEnvC scope cl C Z.X.env) fp) tg v σ H Q, fun σ H Q => ∀ s' H' C cl fp, wTs (Z.X.blk s' H' scope (compEnvC scope cl C Z.X.env) fp) ifs σ H Q, fun σ H Q => ∀ s' H' C cl fp, wE (Z.X.blk s' H' scope (compEnvC scope cl C Z.X.env) fp) elt σ H Q, on, hi, ok,
    fun s' H' C cl fp => ⟨fun pins s σ H v u Q I r h => (h s' H' C cl fp).run pins s u I r⟩, fun s' H' C cl fp => ⟨fun pins s σ H Q I h => (h s' H' C cl fp).run pins s I⟩, fun s' H' C cl fp => ⟨fun pins s σ H Q I h => (h s' H' C cl fp).run pins s I⟩, fun Hf σ H S E Q q => ?_⟩
  refine hw Hf σ H S E _ fun J Hf1 H1 m1 S1 W D hD => ?_
  refine ⟨fun i m H' => m = ys.length - i ∧ i ≤ ys.length ∧ ∃ Hf' acc o, Same Hf1 Hf' ∧ Sat Z.B Hf' H' ((D, .lst acc) :: o) ∧ I i acc o, ⟨ys.length, by omega, by omega, Hf1, [], own, Same.refl _, S1.newOwn hD ⟨[], upd_same, .nil⟩, h0⟩, ?_⟩
  rintro i m H' ⟨rfl, hil, Hf', acc, o, m', S', q'⟩
  by_cases hlt : i < ys.length
  · refine .inr ⟨W.go i Hf' H' _ m' S' (hpo i acc o D q') hlt, fun H2 => ∃ Hf2 acc2 o2, Same Hf1 Hf2 ∧ Sat Z.B Hf2 H2 ((D, .lst acc2) :: o2) ∧ I (i + 1) acc2 o2, fun H2 ⟨Hf2, acc2, o2, m2, S2, q2⟩ => ⟨ys.length - (i + 1), by omega, rfl, hlt, Hf2, acc2, o2, m2, S2, q2⟩, fun x H2 hx => ?_⟩
    obtain ⟨Hf2, m2, S2, r2⟩ := W.yld i _ Hf' H' _ x H2 m' S' (hpo i acc o D q') (List.getElem?_eq_getElem hlt) hx
    obtain ⟨ρ2, is, l, hin, gt, et, h1, h2⟩ := step i _ acc o D (List.getElem?_eq_getElem hlt) q'
    have E2 : EnvR Hf2 (wipe σ (on.map (·.2))) (wipeR ρ (on.map (·.2))) := (E.mono ((m1.trans m').trans m2)).wipe _
    intro s' H'' C cl fp
    refine gt s' H'' C cl fp _ Hf2 _ H2 x S2 E2 r2 _ fun σ3 E3 b3 => ⟨wipe_but b3 hin, ?_⟩
    intro s' H'' C cl fp
    refine et s' H'' C cl fp Hf2 σ3 H2 S2 E3 _ fun Hf3 H3 m3 S3 => ?_
    cases l with
    | false => exact iteF ⟨Hf3, acc, o, (m'.trans m2).trans m3, S3, h2 rfl⟩
    | true =>
      refine iteT ?_
      intro s' H'' C cl fp
      refine h1 rfl s' H'' C cl fp Hf3 σ3 H3 S3 (E3.mono m3) _ fun v Hf4 H4 t o2 m4 S4 r4 _ hq => ?_
      obtain ⟨d, o', rfl, rfl, hI⟩ := hq
      obtain ⟨_, _, vs, g1, g2⟩ := S4.at (p := D) (oo := .lst acc) (by simp)
      exact ⟨vs, g1, by rw [g2.length]; exact Nat.lt_of_lt_of_le (hlen _ _ _ q') (by decide), Hf4, acc ++ [d], o', ((m'.trans m2).trans m3).trans m4, S4.write (oa := []) (oo' := .lst (acc ++ [d])) ⟨_, upd_same, g2.append (.cons r4 .nil)⟩, hI⟩
  · have e : i = ys.length := by omega
    subst e
    exact .inl ⟨W.stop _ Hf' H' _ m' S' (hpo _ _ _ _ q') (Nat.le_refl _), q D Hf' H' acc o (m1.trans m') S' q'⟩
theorem eg_comp (g : Gd Z k) (h : CP Z elt tg iter ifs scope ρ own Fin) (hs : ∀ x, foldedSetIterable iter Z.X.env x = pure x := by intro _; rfl) : EG Z (.ListComp elt [⟨tg, iter, ifs, 0⟩] scope pos) ρ own (fun s o => ∃ p ds o', s = .raw (.ref p) ∧ o = (p, .lst ds) :: o' ∧ Fin ds o') := by
  obtain ⟨wi, gg, tt, te, on, hi, ok, hg, ht, he, hq⟩ := h
  exact fun Hf σ H S E Q q => wE.of (pe_lc g.calm g.nd hi ok hg ht he hs) (hq Hf σ H S E Q fun p Hf' H' ds own' m S' hf => q _ Hf' H' (.raw (.ref p)) _ m S' rfl (fun z => nomatch z) ⟨p, ds, own', rfl, rfl, hf⟩)
theorem el_comp {ds : List PyData} (g : Gd Z k) (h : CP Z elt tg iter ifs scope ρ own (fun xs o => xs = ds ∧ o = own)) (hs : ∀ x, foldedSetIterable iter Z.X.env x = pure x := by intro _; rfl) : EL Z (.ListComp elt [⟨tg, iter, ifs, 0⟩] scope pos) ρ own ds :=
  EG.toEL ((eg_comp g h hs).imp fun s o ⟨p, xs, o', e1, e2, e3, e4⟩ => ⟨p, e1, by rw [e2, e3, e4]⟩)
/-- name = [..] on one line -/
theorem sd_setC (n : Nat) {y : Str} {py spos : Pos} (g : Gd Z k) (h : CP Z elt tg iter ifs scope ρ own Fin) (hn : ∀ p ds o', Fin ds o' → D.nx (ρ.set n (.raw (.ref p))) ((p, .lst ds) :: o'))
    (hsw : swapsWith (.ListComp elt [⟨tg, iter, ifs, 0⟩] scope pos) (some (.Name y py)) spos.line Z.X.env = pure true) (hy : Z.X.N[n]? = some y := by rfl) (hyl : Z.X.env.scope.names.lookup y = some .local := by rfl) (hs : ∀ x, foldedSetIterable iter Z.X.env x = pure x := by intro _; rfl) :
    SD Z (.Assign [.Name y py] (.ListComp elt [⟨tg, iter, ifs, 0⟩] scope pos) spos) D ρ own := by
  obtain ⟨wi, gg, tt, te, on, hi, ok, hg, ht, he, hq⟩ := h
  exact fun H0 Hf σ H m0 S E => wS.of (ps_setLc g.calm g.nd hy hyl hsw hi ok hg ht he hs) (hq Hf σ H S E _ fun p Hf' H' ds own' m S' hf => ⟨Hf', _, _, m0.trans m, S', (E.mono m).set (s := .raw (.ref p)) rfl n, hn p ds own' hf⟩)
/-- .. whose elements change nothing -/
theorem compP {α : Type} (g : Gd Z k) (it : IT Z tg iter ρ own Po ys) (on : List (Str × Nat)) (ok : BlkOk Z.X.N Z.X.env.scope scope on) (xs : List α) (enc : α → PyData) (hy : ys = xs.map enc) (F : α → Option PyData) (ρ2 : α → List Slot) (is : List Nat)
    (his : ∀ i ∈ is, i ∈ on.map (·.2)) (hl : xs.length < 100000) (hpo : ∀ acc D, Po ((D, .lst acc) :: own)) (gt : ∀ a ∈ xs, ∀ s H C cl fp, Gd (blkZ Z scope s H C cl fp) k → GT (blkZ Z scope s H C cl fp) tg (enc a) (wipeR ρ (on.map (·.2))) (ρ2 a) is)
    (et : ∀ a ∈ xs, ∀ s H C cl fp o, Gd (blkZ Z scope s H C cl fp) k → ETs (blkZ Z scope s H C cl fp) ifs (ρ2 a) o (F a).isSome) (ed : ∀ a ∈ xs, ∀ d, F a = some d → ∀ s H C cl fp o, Gd (blkZ Z scope s H C cl fp) k → ED (blkZ Z scope s H C cl fp) elt (ρ2 a) o d) :
    CP Z elt tg iter ifs scope ρ own (fun ds o => ds = xs.filterMap F ∧ o = own) := by
  subst hy
  have := comp (Po := Po) (ys := xs.map enc) (elt := elt) (ifs := ifs) (scope := scope) g it on ok (fun i acc o => acc = (xs.take i).filterMap F ∧ o = own ∧ i ≤ xs.length) ⟨rfl, rfl, Nat.zero_le _⟩ (fun i acc o D h => by rw [h.2.1]; exact hpo acc D) (fun i acc o h => by
    rw [h.1]
    have h1 := List.length_filterMap_le F (xs.take i)
    rw [List.length_take] at h1
    omega) (fun i y acc o D hy h => by
      obtain ⟨rfl, rfl, hi⟩ := h
      rw [List.getElem?_map] at hy
      cases ea : xs[i]? with
      | none => rw [ea] at hy; cases hy
      | some a =>
        rw [ea] at hy
        cases hy
        have hm : a ∈ xs := List.mem_of_getElem? ea
        have hlt : i < xs.length := (List.getElem?_eq_some_iff.mp ea).1
        have tk : (xs.take (i + 1)).filterMap F = (xs.take i).filterMap F ++ (F a).toList := by
          rw [List.take_add_one, ea, List.filterMap_append]
          cases hF : F a <;> simp [hF]
        refine ⟨ρ2 a, is, (F a).isSome, his, fun s H C cl fp => gt a hm s H C cl fp (g.blk ..), fun s H C cl fp => et a hm s H C cl fp _ (g.blk ..), fun hs s H C cl fp => ?_, fun hs => ?_⟩
        · obtain ⟨d, hd⟩ := Option.isSome_iff_exists.mp hs
          exact ES.toEG (ed a hm d hd s H C cl fp _ (g.blk ..)) (fun z => nomatch z) ⟨d, o, rfl, rfl, by rw [tk, hd]; rfl, rfl, hlt⟩
        · refine ⟨?_, rfl, hlt⟩
          rw [tk]
          cases hF : F a with
          | none => simp
          | some d => rw [hF] at hs; cases hs)
  obtain ⟨a1, a2, a3, a4, a5, b1, b2, b3, b4, b5, b6⟩ := this
  refine ⟨a1, a2, a3, a4, a5, b1, b2, b3, b4, b5, fun Hf σ H S E Q q => b6 Hf σ H S E Q fun p Hf' H' ds own' m S' hf => q p Hf' H' ds own' m S' ⟨?_, hf.2.1⟩⟩
  rw [hf.1, List.length_map, List.take_length]
end

/-! ### more values -/
section
variable {Z : Ctx} {D : DE} {e a b : Expr} {ρ : List Slot} {own oa ob : Own} {pos p1 p2 p3 : Pos} {s t : Slot} {k j : Nat} {ds ys : List PyData}
theorem c_notB {x y : Bool} : CmpB Z .IsNot own (.d (.bool x)) (.d (.bool y)) (!decide (x = y)) := ⟨_, op_notBl, fun v w Hf H S r1 r2 Q q => by cases r1; cases r2; exact ⟨x, y, rfl, rfl, q⟩⟩
/-- xs[::-1] -/
theorem el_rev (h : ES Z e ρ own s) (L : Lst own s ds) : EL Z (.Subscript e (.Slice none none (some (.UnaryOp .USub (.Constant (.int 1) k p1) p2)) p3) pos) ρ own ds.reverse := fun Hf σ H S E Q q => wE.of (pe_revL peW) (h Hf σ H S E _ fun v Hf1 H1 m1 S1 r1 => by
  obtain ⟨p, vs, rfl, h1, g1⟩ := L.at S1 r1
  exact ⟨p, vs, rfl, SqL.of h1, fun l hl => q l Hf1 _ m1 (S1.newOwn hl ⟨_, upd_same, g1.reverse⟩)⟩)
/-- xs += ys -/
theorem sd_ext (n : Nat) {z : Str} {p : Addr} {pos' : Pos} (hN : Z.X.N.Nodup) (hv : ρ[n]? = some (.raw (.ref p))) (he : ES Z e ρ (oa ++ (p, .lst ds) :: ob) t) (L : Lst (oa ++ (p, .lst ds) :: ob) t ys) (hl : ds.length + ys.length ≤ 100000) (h : D.nx ρ (oa ++ (p, .lst (ds ++ ys)) :: ob))
    (hi : Z.X.N[n]? = some z := by rfl) (hx : Loc Z.X.env.scope z := by first | exact Or.inl rfl | exact Or.inr rfl) (hf : Z.X.fn z = true ∨ Z.X.env.scope.names.lookup z = some .local := by first | exact .inl rfl | exact .inr rfl | assumption) : SD Z (.AugAssign (.Name z pos') .Add e pos) D ρ (oa ++ (p, .lst ds) :: ob) := fun H0 Hf σ H m0 S E => wS.of (ps_aug hN hi hx peW iop_ext hf) (by
  have hv1 := E.raw hv
  refine ⟨.ref p, hv1, he Hf σ H S E _ fun w Hf1 H1 m1 S1 r1 => ?_⟩
  obtain ⟨q, vs, rfl, h1, g1⟩ := L.at S1 r1
  obtain ⟨_, _, us, h2, g2⟩ := S1.at (p := p) (oo := .lst ds) (by simp)
  refine ⟨p, q, us, vs, rfl, rfl, h2, h1, by rw [g1.length, g2.length]; exact Nat.le_trans hl (by decide), Hf1, ρ, _, m0.trans m1, S1.write (oo' := .lst (ds ++ ys)) ⟨_, upd_same, g2.append g1⟩, ?_, h⟩
  have R' := (E.mono m1).set (v := .ref p) (s := .raw (.ref p)) rfl n
  have e : ρ.set n (.raw (.ref p)) = ρ := by
    refine List.ext_getElem? fun j => ?_
    by_cases hj : n = j
    · subst hj
      have hl : n < ρ.length := (List.getElem?_eq_some_iff.mp hv).1
      rw [List.getElem?_set_self hl, hv]
    · rw [List.getElem?_set_ne hj]
  rw [e] at R'
  exact R')
end
end Sd


namespace Sd
open PySem PySem.Spec PyProof.Rows L2
/-! ### lists of values, one's own (raw); items with a change of what is owned -/
section
variable {Z : Ctx} {D : DE} {e a b c : Expr} {es : List Expr} {ρ : List Slot} {own oa ob : Own} {pos tpos p : Pos} {i j : Int} {s t : Slot} {k : Nat} {ds : List PyData} {x : PyData} {q : Addr} {vs : List V} {R : Slot → Own → Prop}
theorem es_ixR {v : V} (hq : (q, OO.raw (.lst vs)) ∈ own) (ha : EV Z a ρ own (.ref q)) (hb : ED Z b ρ own (.int i)) (h : atI vs i = some v) (hs : ∀ H, SlotR H v s) (hp : PlainIx b := by exact fun _ _ => rfl) : ES Z (.Subscript a b pos) ρ own s := fun Hf σ H S E Q k =>
  wE.of (pe_ix ix_list peW peW hp) (ha Hf σ H S E _ fun w Hf1 H1 m1 S1 r1 => hb Hf1 σ H1 S1 (E.mono m1) _ fun w2 Hf2 H2 m2 S2 r2 => by
    cases r2
    cases (show w = .ref q from r1)
    obtain ⟨_, _, g⟩ := S2.at hq
    exact ⟨q, vs, i, v, rfl, rfl, SqL.of g, h, k v Hf2 H2 (m1.trans m2) S2 (hs _)⟩)
theorem sd_setitemR {v : V} {n : Nat} (he : ES Z e ρ (oa ++ (q, .raw (.lst vs)) :: ob) s) (hv : ∀ H w, SlotR H w s → w = v) (ha : EV Z a ρ (oa ++ (q, .raw (.lst vs)) :: ob) (.ref q)) (hb : ED Z b ρ (oa ++ (q, .raw (.lst vs)) :: ob) (.int i)) (hi : ixN vs.length i = some n) (h : D.nx ρ (oa ++ (q, .raw (.lst (vs.set n v))) :: ob))
    (hs : swapsWithSole [.Subscript a b tpos] e pos.line Z.X.env = pure false := by rfl) (hw : swappedStores [.Subscript a b tpos] e Z.X.env = pure none := by rfl) (h1 : (assignEach [.Subscript a b tpos] Z.X.env).map (·.2) = [assign (.Subscript a b tpos) Z.X.env] := by rfl)
    (hq : ∀ v, assign (.Subscript a b tpos) Z.X.env v = (do
      let ov ← holding [v] (eval a Z.X.env)
      let iv ← holding [v, ov] (eval b Z.X.env)
      standAt tpos
      holding [v, ov, iv] (setItem ov iv v)
      release [v, ov, iv] []) := by intro _; rfl) : SD Z (.Assign [.Subscript a b tpos] e pos) D ρ (oa ++ (q, .raw (.lst vs)) :: ob) := fun H0 Hf σ H m0 S E => wS.of (ps_asg peW (pg_sub peW peW set_list hq) hs hw h1) (he Hf σ H S E _ fun v1 Hf1 H1 m1 S1 r1 => ha Hf1 σ H1 S1 (E.mono m1) _ fun w Hf2 H2 m2 S2 r2 =>
  hb Hf2 σ H2 S2 (E.mono (m1.trans m2)) _ fun z Hf3 H3 m3 S3 r3 => by
    cases r3
    cases (show w = .ref q from r2)
    cases hv _ _ r1
    obtain ⟨_, _, g⟩ := S3.at (p := q) (oo := .raw (.lst vs)) (by simp)
    exact ⟨q, vs, i, n, rfl, rfl, g, hi, Hf3, ρ, _, ((m0.trans m1).trans m2).trans m3, S3.write (oo' := .raw (.lst (vs.set n v))) upd_same, E.mono ((m1.trans m2).trans m3), h⟩)
/-- xs[..], the place with a change -/
theorem eg_ixL {P : Int → Own → Prop} (ha : ED Z a ρ own (.list ds)) (hb : EG Z b ρ own fun t o => ∃ i, t = .d (.int i) ∧ P i o) (h : ∀ i o, P i o → ∃ d, atI ds i = some d ∧ R (.d d) o) (hp : PlainIx b := by exact fun _ _ => rfl) : EG Z (.Subscript a b pos) ρ own R := fun Hf σ H S E Q k =>
  wE.of (pe_ix ix_list peW peW hp) (ha Hf σ H S E _ fun v Hf1 H1 m1 S1 r1 => hb Hf1 σ H1 S1 (E.mono m1) _ fun w Hf2 H2 t o m2 S2 r2 _ hq => by
    obtain ⟨i, rfl, hq⟩ := hq
    obtain ⟨d, h1, h2⟩ := h i o hq
    obtain ⟨p, vs, rfl, g1, g2⟩ := (Lst.d (own := o)).at S2 (r1.mono m2)
    cases r2
    obtain ⟨z, h3, h4⟩ := atI_rep g2 h1
    exact ⟨p, vs, i, z, rfl, rfl, SqL.of g1, h3, k z Hf2 H2 (.d d) o (m1.trans m2) S2 h4 (fun z => nomatch z) h2⟩)
/-- a new list turned into data -/
theorem EG.frz {P : List PyData → Own → Prop} (h : EG Z e ρ own fun s o => ∃ p ds o', s = .raw (.ref p) ∧ o = (p, .lst ds) :: o' ∧ P ds o') (hR : ∀ ds o, P ds o → R (.d (.list ds)) o) : EG Z e ρ own R := fun Hf σ H S E Q k => h Hf σ H S E Q fun v Hf1 H1 s o m1 S1 r1 hs hq => by
  obtain ⟨p, ds, o', rfl, rfl, hq⟩ := hq
  obtain ⟨Hf2, m2, S2, r2⟩ := Sat.freeze (oa := []) S1
  cases (show v = .ref p from r1)
  exact k _ Hf2 H1 (.d (.list ds)) o' (m1.trans m2) S2 r2 (fun z => nomatch z) (hR ds o' hq)
/-- arguments, the first with a change -/
def EAG (Z : Ctx) (es : List Expr) (ρ : List Slot) (own : Own) (R : List Slot → Own → Prop) : Prop := ∀ Hf σ H, Sat Z.B Hf H own → EnvR Hf σ ρ → ∀ Q : List V → Hp → Prop, (∀ vs Hf' H' ss own', Same Hf Hf' → Sat Z.B Hf' H' own' → SlotsR Hf' vs ss → R ss own' → Q vs H') → wA Z.X es σ H Q
theorem EA.toEAG {ss : List Slot} {R : List Slot → Own → Prop} (h : EA Z es ρ own ss) (q : R ss own) : EAG Z es ρ own R := fun Hf σ H S E Q k => h Hf σ H S E Q fun vs Hf' H' m S' r => k vs Hf' H' ss own m S' r q
theorem eag_cons {R : List Slot → Own → Prop} {P : Slot → Own → Prop} (h : EG Z e ρ own P) (hr : ∀ s o, P s o → s ≠ .un → EAG Z es ρ o (fun ss o' => R (s :: ss) o')) (hs : starEach (e :: es) Z.X.env = (false, eval e Z.X.env) :: starEach es Z.X.env := by rfl) : EAG Z (e :: es) ρ own R := fun Hf σ H S E Q k => wA.of (pa_cons peW paW hs) (h Hf σ H S E _ fun v Hf1 H1 s o m1 S1 r1 hu q1 =>
  hr s o q1 hu Hf1 σ H1 S1 (E.mono m1) _ fun vs Hf2 H2 ss o2 m2 S2 r2 q2 => k (v :: vs) Hf2 H2 (s :: ss) o2 (m1.trans m2) S2 (.cons (r1.mono m2) r2) q2)
/-- a call whose arguments change what is owned; the callee gets part of it -/
theorem eg_callG {z : Str} {ps : List Str} {j : Nat} {Pre : Pr} {RA : List Slot → Own → Prop} (F : Fn Z.X.K Z.X.mg Z.X.prog Z.X.w Z.X.base z ps j Pre) (g : Gd Z k) (hj : j ≤ k) (ha : EAG Z (e :: es) ρ own RA)
    (h : ∀ ss o, RA ss o → ∃ oa o1 ob post, o = oa ++ o1 ++ ob ∧ Pre ss o1 post ∧ (∀ s o1', post (.ret s o1') → R s (oa ++ o1' ++ ob)) ∧ (∀ C o1', post (.exc C o1') → Z.ex C ρ (oa ++ o1' ++ ob)))
    (hg : Gl Z.X z := by rfl) (hdb : (z == ("__debug__" : Str)) = false := by decide) (he : starEach (e :: es) Z.X.env = (false, eval e Z.X.env) :: starEach es Z.X.env := by rfl) (hpl : (backTo pos (starEach es Z.X.env)).any (·.1) = false := by rfl) :
    EG Z (.Call (.Name z p) (e :: es) [] pos) ρ own R := by
  obtain ⟨f, fd, ok, hm, hk, hb⟩ := F.ex
  refine fun Hf σ H S E Q q => wE.of (pe_callS (E := WE (Wish Z)) ok (g.hr.mono hj) hg hm hk hb (fun σ => passAt g.tk σ) paW hdb he hpl) (ha Hf σ H S E _ fun vs Hf1 H1 ss o m1 S1 r1 hq => ?_)
  obtain ⟨oa, o1, ob, post, rfl, hp, h1, h2⟩ := h ss o hq
  refine ⟨Hf1, less H1 (o1.map (·.1)), ss, o1, post, S1.into, r1, hp, fun s own' v Hf' H' hq S' r' hs => ?_, fun C own' Hf' H' hq S' => ?_⟩
  · exact q v Hf' H' s _ (m1.trans S'.e0) (S1.back S') r' hs (h1 s own' hq)
  · exact ⟨C, Hf', ρ, _, rfl, rfl, S1.back S', E.mono (m1.trans S'.e0), h2 C own' hq⟩
/-- displays whose items change what is owned -/
theorem eg_lst {P : List PyData → Own → Prop} (h : EAG Z es ρ own fun ss o => ∃ ds, ss = ds.map Slot.d ∧ ds.length ≤ 1000 ∧ P ds o) : EG Z (.List es pos) ρ own (fun s o => ∃ p ds o', s = .raw (.ref p) ∧ o = (p, .lst ds) :: o' ∧ P ds o') := fun Hf σ H S E Q q => wE.of (pe_lst paW) (h Hf σ H S E _ fun vs Hf1 H1 ss o m1 S1 r1 hq => by
  obtain ⟨ds, rfl, hl, hq⟩ := hq
  have r := r1.data
  refine ⟨Nat.le_trans (by rw [r.length]; exact hl) (by decide), fun p hp => q _ _ _ (.raw (.ref p)) _ m1 (S1.newOwn (oo := .lst ds) hp ⟨_, upd_same, r⟩) rfl (fun z => nomatch z) ⟨p, ds, o, rfl, rfl, hq⟩⟩)
end
/-! ### a range whose end changes what is owned, walked by a comprehension -/
section
variable {Z : Ctx} {elt tg iter a : Expr} {ifs : List Expr} {scope : Scope} {ρ : List Slot} {own : Own} {k : Nat} {pos p : Pos}
end
/-! ### a def of the text as the top has left it -/
structure Df (K : PySem.W.Frag) (mg : Str → Option Value) (z : Str) (st : Stmt) (ps : List Str) : Prop where
  ex : ∃ f fd, Fun K z z st f fd ∧ mg z = some (.ref f) ∧ ∀ us : List Value, us.length = ps.length → bindArgs fd ⟨us, []⟩ = pure (ps.zip us)
theorem Df.fn {K : PySem.W.Frag} {mg : Str → Option Value} {P : Program} {w : World} {base : Heap} {z : Str} {st : Stmt} {ps : List Str} {k : Nat} {Pre : Pr} (D : Df K mg z st ps) (h : ∀ f fd, Fun K z z st f fd → FnOk P w K mg base (L2.CX P w) k f fd ps (spG Pre)) : Fn K mg P w base z ps k Pre := by
  obtain ⟨f, fd, F, hm, hb⟩ := D.ex
  exact ⟨f, fd, h f fd F, hm, F.kp, Binds.all hb⟩
theorem df_mk {K : PySem.W.Frag} {mg : Str → Option Value} {h : Heap} {z : Str} {st : Stmt} {ps : List Str} {f : Addr} {oc : Value} {od an : Option Addr} {sl : Array (Option Value)} {kV dc pm cd ct : Value} (X : K.In h) (G : h.Ns mainGlobals mg)
    (hb : ∀ (kV doc pm : Value) (an : Option Addr) (cdv ct : Value) (us : List Value), us.length = ps.length → bindArgs (PySem.W.fnOf z z (defArgs st) (defBody st) (defScope st) .none kV doc pm an cdv ct) ⟨us, []⟩ = pure (ps.zip us))
    (a : PySem.W.nsIn K mainGlobals z = some (some (.ref f))) (l : K.lookup f = some ⟨oc, od, .func (PySem.W.fnOf z z (defArgs st) (defBody st) (defScope st) .none kV dc pm an cd ct), sl⟩) (c : PySem.W.codeIn K cd z = true) (k : PySem.W.keepIn K (.ref f) = true) : Df K mg z st ps :=
  have F := fun_mk (st := st) l c k
  ⟨f, _, F, PySem.W.mg_of X G a, fun us hl => hb _ _ _ _ _ _ us hl⟩
theorem err_mk {K : PySem.W.Frag} {mg : Str → Option Value} {h : Heap} {z : Str} {C : Addr} (X : K.In h) (G : h.Ns mainGlobals mg) (a : PySem.W.nsIn K mainGlobals z = some (some (.ref C)))
    (x : PySem.W.excIn K C [.type "ValueError", .type "Exception", .type "BaseException", .type "object"] "ValueError.__new__" = true) (k : PySem.W.keepIn K (.ref C) = true) (b : PySem.W.subIn K (.ref C) (.type "BaseException") = some true) (t : PySem.W.typeIn K (.ref C) = some (.type "type")) : ErrC K mg z C := ⟨PySem.W.mg_of X G a, x, k, b, t⟩
/-- the classes of the program -/
structure Cl where
  DayError : Addr
  BadYear : Addr
  BadDay : Addr
  BadNumber : Addr
  BadShare : Addr
  BadText : Addr
  NotFound : Addr
  Calendar : Addr
end Sd


/-! fractions as data, sizes -/
namespace Sd
open PySem PySem.Spec PyProof.Rows L2
def fr (q : Rat) : PyData := .tuple [.int q.num, .int (q.den : Int)]
theorem low_eq (a b : Int) (hb : 0 < b) : ((a : Rat) / b).num = a / (Int.gcd a b) ∧ (((a : Rat) / b).den : Int) = b / (Int.gcd a b) := by
  rw [← Rat.divInt_eq_div]
  refine ⟨?_, ?_⟩
  · rw [Rat.num_divInt, Int.sign_eq_one_of_pos hb, Int.one_mul, Int.gcd_comm]
  · rw [Rat.den_divInt, if_neg (by omega), Int.gcd_comm, Int.natCast_ediv, Int.natAbs_of_nonneg (by omega)]
theorem fr_low (a b : Int) (hb : 0 < b) : PyData.tuple [.int (a / (Int.gcd a b : Nat)), .int (b / (Int.gcd a b : Nat))] = fr ((a : Rat) / b) := by
  unfold fr
  rw [(low_eq a b hb).1, (low_eq a b hb).2]
theorem den_pos (q : Rat) : (0 : Int) < (q.den : Int) := by
  have := q.den_nz
  omega
theorem num_den (q : Rat) : (q.num : Rat) / ((q.den : Int) : Rat) = q := by
  rw [← Rat.divInt_eq_div, Rat.num_divInt_den]
theorem den_ne (q : Rat) : ((q.den : Int) : Rat) ≠ 0 := by
  intro h
  have : (q.den : Int) = 0 := by exact_mod_cast h
  have := den_pos q
  omega
theorem num_eq (q : Rat) : (q.num : Rat) = q * ((q.den : Int) : Rat) := by
  have h := num_den q
  have h2 := den_ne q
  grind
theorem eqv_fr (p q : Rat) : PyData.eqv (fr p) (fr q) = decide (p = q) := by
  have e : PyData.eqv (fr p) (fr q) = (decide (p.num = q.num) && decide ((p.den : Int) = (q.den : Int))) := by
    simp [fr, PyData.eqv, PyData.eqvAll, Bool.beq_eq_decide_eq]
  rw [e, Bool.eq_iff_iff]
  simp only [Bool.and_eq_true, decide_eq_true_eq]
  constructor
  · rintro ⟨h1, h2⟩
    exact Rat.ext h1 (by omega)
  · rintro rfl
    exact ⟨rfl, rfl⟩
/-! shapes -/
def Shp (n : Nat) (d : PyData) : Prop := d.canLay0 = true ∧ d.depth ≤ n
theorem Shp.shaped {n : Nat} {d : PyData} (h : Shp n d) (hn : n ≤ 64) : SeqAt.shaped d = true := by
  unfold SeqAt.shaped
  rw [h.1, decide_eq_true (Nat.le_trans h.2 hn)]
  rfl
theorem depthAll_le {n : Nat} : ∀ {ds : List PyData}, (∀ d ∈ ds, d.depth ≤ n) → PyData.depthAll ds ≤ n
  | [], _ => Nat.zero_le _
  | d :: ds, h => by
    unfold PyData.depthAll
    exact Nat.max_le.mpr ⟨h d (by simp), depthAll_le fun x hx => h x (by simp [hx])⟩
theorem canAll_of : ∀ {ds : List PyData}, (∀ d ∈ ds, d.canLay0 = true) → PyData.canLayAll0 ds = true
  | [], _ => by simp [PyData.canLayAll0]
  | d :: ds, h => by
    unfold PyData.canLayAll0
    rw [h d (by simp), canAll_of fun x hx => h x (by simp [hx])]
    rfl
theorem shp_int (i : Int) : Shp 0 (.int i) := ⟨by simp [PyData.canLay0], by simp [PyData.depth]⟩
theorem shp_bool (i : Bool) : Shp 0 (.bool i) := ⟨by simp [PyData.canLay0], by simp [PyData.depth]⟩
theorem shp_str {z : Str} (h : PyData.strOk z = true) : Shp 0 (.str z) := ⟨by simp [PyData.canLay0, h], by simp [PyData.depth]⟩
theorem shp_list {n : Nat} {ds : List PyData} (h : ∀ d ∈ ds, Shp n d) : Shp (n + 1) (.list ds) := ⟨by unfold PyData.canLay0; exact canAll_of fun d hd => (h d hd).1, by unfold PyData.depth; have := depthAll_le (n := n) fun d hd => (h d hd).2; omega⟩
theorem shp_tup {n : Nat} {ds : List PyData} (h : ∀ d ∈ ds, Shp n d) : Shp (n + 1) (.tuple ds) := ⟨by unfold PyData.canLay0; exact canAll_of fun d hd => (h d hd).1, by unfold PyData.depth; have := depthAll_le (n := n) fun d hd => (h d hd).2; omega⟩
theorem shp_fr (q : Rat) : Shp 1 (fr q) := shp_tup fun d hd => by
  simp only [List.mem_cons, List.not_mem_nil, or_false] at hd
  rcases hd with rfl | rfl <;> exact shp_int _
theorem shp_ints (ns : List Int) : Shp 1 (.list (ns.map PyData.int)) := shp_list fun d hd => by
  obtain ⟨n, _, rfl⟩ := List.mem_map.mp hd
  exact shp_int n
theorem sh_int (i : Int) : SeqAt.shaped (.int i) = true := (shp_int i).shaped (by decide)
theorem sh_fr (q : Rat) : SeqAt.shaped (fr q) = true := (shp_fr q).shaped (by decide)
theorem sh_ints (ns : List Int) : SeqAt.shaped (.list (ns.map PyData.int)) = true := (shp_ints ns).shaped (by decide)
def Sz (n : Nat) (i : Int) : Prop := i.natAbs < 2 ^ n
def Sq (n : Nat) (q : Rat) : Prop := q.num.natAbs < 2 ^ n ∧ q.den < 2 ^ n
theorem pow_le {m n : Nat} (h : m ≤ n) : 2 ^ m ≤ 2 ^ n := Nat.pow_le_pow_right (by decide) h
theorem Sz.mono {m n : Nat} {i : Int} (h : Sz m i) (hn : m ≤ n) : Sz n i := Nat.lt_of_lt_of_le h (pow_le hn)
theorem Sq.mono {m n : Nat} {q : Rat} (h : Sq m q) (hn : m ≤ n) : Sq n q := ⟨Nat.lt_of_lt_of_le h.1 (pow_le hn), Nat.lt_of_lt_of_le h.2 (pow_le hn)⟩
theorem Sz.mul {m n : Nat} {i j : Int} (h : Sz m i) (h' : Sz n j) : Sz (m + n) (i * j) := wide_lt h h'
theorem Sz.add {m n : Nat} {i j : Int} (h : Sz m i) (h' : Sz n j) : Sz (max m n + 1) (i + j) := by
  have h1 := (h.mono (Nat.le_max_left m n))
  have h2 := (h'.mono (Nat.le_max_right m n))
  unfold Sz at *
  rw [Nat.pow_succ]
  omega
theorem Sz.neg {m : Nat} {i : Int} (h : Sz m i) : Sz m (-i) := by unfold Sz at *; rw [Int.natAbs_neg]; exact h
theorem Sz.sub {m n : Nat} {i j : Int} (h : Sz m i) (h' : Sz n j) : Sz (max m n + 1) (i - j) := by rw [Int.sub_eq_add_neg]; exact h.add h'.neg
theorem Sq.num {m : Nat} {q : Rat} (h : Sq m q) : Sz m q.num := h.1
theorem Sq.den {m : Nat} {q : Rat} (h : Sq m q) : Sz m (q.den : Int) := by unfold Sz; rw [Int.natAbs_natCast]; exact h.2
theorem cmul_of {a b : Nat} {i j : Int} (ha : Sz a i) (hb : Sz b j) (h : a + b ≤ 999998) : CMulW i j := wide_mul (a := a + 1) (b := b + 1) (ha.mono (by omega)) (hb.mono (by omega)) (by omega) (by omega) (by omega)
theorem cdiv_of {b : Nat} {i j : Int} (h : 0 < j) (hb : Sz b j) (h9 : b ≤ 8999) : CDivW i j := wide_div (b := b + 1) h (hb.mono (by omega)) (by omega) (by omega)
theorem ediv_le_natAbs (a : Int) (g : Nat) (hd : (g : Int) ∣ a) : (a / (g : Int)).natAbs ≤ a.natAbs := by
  rw [Int.natAbs_ediv_of_dvd hd]
  exact Nat.div_le_self _ _
theorem Sq.of_div {n : Nat} {a b : Int} (hb : 0 < b) (h1 : Sz n a) (h2 : Sz n b) : Sq n ((a : Rat) / b) := by
  obtain ⟨e1, e2⟩ := low_eq a b hb
  constructor
  · rw [e1]
    exact Nat.lt_of_le_of_lt (ediv_le_natAbs a _ (Int.gcd_dvd_left a b)) h1
  · have h3 := ediv_le_natAbs b _ (Int.gcd_dvd_right a b)
    rw [← e2] at h3
    rw [Int.natAbs_natCast] at h3
    exact Nat.lt_of_le_of_lt h3 h2
theorem plus_eq (p q : Rat) : ((p.num * (q.den : Int) + q.num * (p.den : Int) : Int) : Rat) / ((p.den : Int) * (q.den : Int) : Int) = p + q := by
  have h1 := num_eq p
  have h2 := num_eq q
  have h3 := den_ne p
  have h4 := den_ne q
  push_cast at *
  rw [h1, h2]
  grind
theorem minus_eq (p q : Rat) : ((p.num * (q.den : Int) - q.num * (p.den : Int) : Int) : Rat) / ((p.den : Int) * (q.den : Int) : Int) = p - q := by
  have h1 := num_eq p
  have h2 := num_eq q
  have h3 := den_ne p
  have h4 := den_ne q
  push_cast at *
  rw [h1, h2]
  grind
theorem Sq.add {m n : Nat} {p q : Rat} (h : Sq m p) (h' : Sq n q) : Sq (m + n + 1) (p + q) := by
  rw [← plus_eq]
  refine Sq.of_div (Int.mul_pos (den_pos p) (den_pos q)) ?_ ((h.den.mul h'.den).mono (by omega))
  exact ((h.num.mul h'.den).add (h'.num.mul h.den)).mono (by omega)
theorem Sq.sub {m n : Nat} {p q : Rat} (h : Sq m p) (h' : Sq n q) : Sq (m + n + 1) (p - q) := by
  rw [← minus_eq]
  refine Sq.of_div (Int.mul_pos (den_pos p) (den_pos q)) ?_ ((h.den.mul h'.den).mono (by omega))
  exact ((h.num.mul h'.den).sub (h'.num.mul h.den)).mono (by omega)
theorem le_fr (p q : Rat) : (p.num * (q.den : Int) ≤ q.num * (p.den : Int)) ↔ p ≤ q := (Rat.le_iff p q).symm
theorem gcd_step (a b : Int) (ha : 0 ≤ a) (hb : 0 < b) : Int.gcd b (a % b) = Int.gcd a b := by
  have e : (a % b).natAbs = a.natAbs % b.natAbs := by
    rw [Int.natAbs_emod_of_nonneg ha]
  unfold Int.gcd
  rw [e, Nat.gcd_comm b.natAbs, ← Nat.gcd_rec, Nat.gcd_comm]
/-! no data is a dict -/
theorem Rep.nd {H : Hp} {v : V} {x : PyData} (h : Rep H v x) : ∀ kvs, x ≠ .dict kvs := fun kvs e => by
  subst e
  cases h
theorem Reps.nd {H : Hp} : ∀ {vs : List V} {ds : List PyData}, Reps H vs ds → ∀ d ∈ ds, ∀ kvs, d ≠ .dict kvs
  | _, _, .nil, _, h => nomatch h
  | _, _, .cons a b, d, h => by
    rcases List.mem_cons.mp h with rfl | h
    · exact a.nd
    · exact b.nd d h
def NoD (x : PyData) : Prop := (∀ kvs, x ≠ .dict kvs) ∧ ∀ ds, x = .list ds ∨ x = .tuple ds → ∀ d ∈ ds, ∀ kvs, d ≠ .dict kvs
theorem Rep.noD {H : Hp} {v : V} {x : PyData} (h : Rep H v x) : NoD x := ⟨h.nd, fun ds e => by
  rcases e with rfl | rfl
  · cases h with
    | lst _ r => exact r.nd
  · cases h with
    | tup _ r => exact r.nd⟩
theorem sds_nd {Z : Ctx} {sts : List Stmt} {D : DE} {ρ : List Slot} {own : Own} (i : Nat) {x : PyData} (hi : ρ[i]? = some (.d x)) (k : NoD x → SDs Z sts D ρ own) : SDs Z sts D ρ own := fun H0 Hf σ H m0 S E => by
  obtain ⟨v, _, r⟩ := E.d hi
  exact k r.noD H0 Hf σ H m0 S E
/-! years -/
def isInt (x : PyData) (lo hi : Int) : Bool := match x with
  | .int i => decide (lo ≤ i) && decide (i ≤ hi)
  | _ => false
def isYear (x : PyData) : Bool := match x with
  | .list ds => decide (1 ≤ (ds.length : Int)) && decide ((ds.length : Int) ≤ 8) && (ds.map fun d => isInt d 1 20).all id
  | _ => false
/-- a year of ints -/
structure Yr (ys : List Int) : Prop where
  lo : 1 ≤ ys.length
  hi : ys.length ≤ 8
  it : ∀ y ∈ ys, 1 ≤ y ∧ y ≤ 20
abbrev li (ns : List Int) : PyData := .list (ns.map PyData.int)
theorem Yr.is {ys : List Int} (h : Yr ys) : isYear (li ys) = true := by
  have e : isYear (li ys) = (decide (1 ≤ ((ys.map PyData.int).length : Int)) && decide (((ys.map PyData.int).length : Int) ≤ 8) && ((ys.map PyData.int).map fun d => isInt d 1 20).all id) := rfl
  have h1 := h.lo
  have h2 := h.hi
  rw [e, List.length_map, decide_eq_true (by omega), decide_eq_true (by omega), List.map_map]
  simp only [Bool.and_self, Bool.true_and, List.all_eq_true, List.mem_map]
  rintro x ⟨y, hy, rfl⟩
  have := h.it y hy
  simp [isInt, this.1, this.2]
theorem Sz.pow {k : Nat} {b : Int} (h : Sz k b) : ∀ n : Nat, Sz (k * n + 1) (b ^ n)
  | 0 => by unfold Sz; simp
  | n + 1 => by
    rw [Int.pow_succ]
    exact ((Sz.pow h n).mul h).mono (by rw [Nat.mul_succ]; omega)
/-! binomials -/
def bin : Nat → Nat → Nat
  | _, 0 => 1
  | 0, _ + 1 => 0
  | n + 1, k + 1 => bin n k + bin n (k + 1)
theorem bin_zero (n : Nat) : bin n 0 = 1 := by cases n <;> rfl
theorem bin_succ (n k : Nat) : bin (n + 1) (k + 1) = bin n k + bin n (k + 1) := rfl
theorem sum_le_mul {b : Int} : ∀ {ys : List Int}, (∀ y ∈ ys, y ≤ b) → ys.sum ≤ b * ys.length
  | [], _ => by simp
  | y :: ys, h => by
    have h1 := sum_le_mul (ys := ys) fun z hz => h z (by simp [hz])
    have h2 := h y (by simp)
    rw [List.sum_cons, List.length_cons]
    push_cast
    rw [Int.mul_add]
    omega
theorem sum_ge_mul {b : Int} : ∀ {ys : List Int}, (∀ y ∈ ys, b ≤ y) → b * ys.length ≤ ys.sum
  | [], _ => by simp
  | y :: ys, h => by
    have h1 := sum_ge_mul (ys := ys) fun z hz => h z (by simp [hz])
    have h2 := h y (by simp)
    rw [List.sum_cons, List.length_cons]
    push_cast
    rw [Int.mul_add]
    omega
theorem Yr.sum_lo {ys : List Int} (h : Yr ys) : 1 ≤ ys.sum := by
  have h1 := sum_ge_mul (b := 1) fun y hy => (h.it y hy).1
  have := h.lo
  omega
theorem Yr.sum_hi {ys : List Int} (h : Yr ys) : ys.sum ≤ 160 := by
  have h1 := sum_le_mul (b := 20) fun y hy => (h.it y hy).2
  have := h.hi
  omega
theorem Yr.szW {ys : List Int} (h : Yr ys) : Sz 8 ys.sum := by
  have h1 := h.sum_lo
  have h2 := h.sum_hi
  unfold Sz
  omega
theorem Yr.posP {ys : List Int} (h : Yr ys) (n : Nat) : 0 < ys.sum ^ n := Int.pow_pos (by have := h.sum_lo; omega)
theorem Sz.one : Sz 1 1 := by unfold Sz; decide
theorem fr_zero : fr 0 = .tuple [.int 0, .int 1] := rfl
theorem Sq.one : Sq 1 1 := ⟨by decide, by decide⟩
theorem getI {ys : List Int} {j : Nat} {y : Int} (h : ys[j]? = some y) : atI (ys.map PyData.int) (j : Int) = some (.int y) := atI_nat (by rw [List.getElem?_map, h]; rfl)
def maxL (ys : List Int) : Int := ys.foldl max 0
theorem maxL_aux : ∀ (ys : List Int) (a : Int), a ≤ ys.foldl max a ∧ (∀ y ∈ ys, y ≤ ys.foldl max a) ∧ (ys.foldl max a = a ∨ ys.foldl max a ∈ ys)
  | [], a => ⟨Int.le_refl _, by simp, .inl rfl⟩
  | y :: ys, a => by
    obtain ⟨h1, h2, h3⟩ := maxL_aux ys (max a y)
    rw [List.foldl_cons]
    refine ⟨by omega, fun z hz => ?_, ?_⟩
    · rcases List.mem_cons.mp hz with rfl | hz
      · omega
      · exact h2 z hz
    · rcases h3 with h3 | h3
      · rw [h3]
        by_cases h : a ≤ y
        · right
          rw [Int.max_eq_right h]
          simp
        · left
          exact Int.max_eq_left (by omega)
      · exact .inr (by simp [h3])
theorem Yr.max_le {ys : List Int} (h : Yr ys) : ∀ y ∈ ys, y ≤ maxL ys := (maxL_aux ys 0).2.1
/-- a list of numbers for the days -/
structure Ct (ys : List Int) (cs : List Nat) : Prop where
  len : cs.length = ys.length
  sum : cs.sum ≤ 12
end Sd


/-! the script, the draws -/
namespace Sd
open PySem PySem.Spec PyProof.Rows L2
def ScrAt (K : PySem.W.Frag) (own : Own) (a : Addr) (xs : List Int) : Prop := ∀ (Hf H : Hp), (∀ q ∈ own, OwnOk Hf H q.1 q.2) → SqL K H a (xs.map V.int)
theorem ScrAt.at {K : PySem.W.Frag} {own : Own} {a : Addr} {xs : List Int} {B : Bs} {Hf H : Hp} (h : ScrAt K own a xs) (S : Sat B Hf H own) : SqL K H a (xs.map V.int) := h Hf H fun q hq => (S.ow q hq).2.2
theorem dp_ints {K : PySem.W.Frag} {H : Hp} : ∀ xs : List Int, DpAll K H (xs.map V.int) (xs.map PyData.int)
  | [] => .nil
  | x :: xs => .cons (.int x) (dp_ints xs)
section
variable {Z : Ctx} {e a b c : Expr} {ρ : List Slot} {own : Own} {pos p : Pos} {i : Int} {k : Nat} {q : Addr} {xs : List Int}
theorem c_neScr (g : Gd Z k) (h : ScrAt Z.X.K own q xs) : CmpB Z .NotEq own (.raw (.ref q)) (.d (.list [])) (!decide (xs = [])) := ⟨_, op_neD g.hr.units, fun v w Hf H S r1 r2 Q k => by
  cases (show v = .ref q from r1)
  refine ⟨.list (xs.map PyData.int), .list [], .lst (h.at S) (dp_ints xs), (Rep.mono S.e1 r2).dp, sh_ints xs, (shp_list (n := 0) (ds := []) (fun d hd => absurd hd (by simp))).shaped (by decide), ?_⟩
  have e : PyData.eqv (.list (xs.map PyData.int)) (.list []) = decide (xs = []) := by
    cases xs <;> simp [PyData.eqv, PyData.eqvAll]
  rw [e]
  exact k⟩
theorem el_listScr (hm : Z.X.mg "list" = none) (h : EV Z e ρ own (.ref q)) (hs' : ScrAt Z.X.K own q xs) (hg : Gl Z.X "list" := by rfl) (hs : starEach [e] Z.X.env = (false, eval e Z.X.env) :: starEach [] Z.X.env := by rfl) : EL Z (.Call (.Name "list" p) [e] [] pos) ρ own (xs.map PyData.int) :=
  el_callTy call_list_of hg hm (by decide +kernel) (ea_cons h ea_nil hs) fun vs Hf H S r0 Q k => by
    obtain ⟨v, rfl, r⟩ := r0.one
    cases (show v = .ref q from r)
    exact ⟨q, _, rfl, .inl (hs'.at S), fun l hl => k l Hf _ (Same.refl _) (S.newOwn (oo := .lst (xs.map PyData.int)) hl ⟨_, upd_same, Reps.ints xs⟩)⟩
/-- [a, i], the first a value with a change -/
theorem eg_lst2 {P : V → Own → Prop} (h1 : EG Z a ρ own fun s o => ∃ v, s = .raw v ∧ P v o) (h2 : ∀ v o, P v o → ED Z b ρ o (.int i)) (hs : starEach [a, b] Z.X.env = (false, eval a Z.X.env) :: starEach [b] Z.X.env := by rfl) (hs2 : starEach [b] Z.X.env = (false, eval b Z.X.env) :: starEach [] Z.X.env := by rfl) :
    EG Z (.List [a, b] pos) ρ own (fun s o => ∃ q v o', s = .raw (.ref q) ∧ o = (q, .raw (.lst [v, .int i])) :: o' ∧ P v o') := fun Hf σ H S E Q k => wE.of (pe_lst paW)
  ((eag_cons (R := fun ss o => ∃ v, ss = [.raw v, .d (.int i)] ∧ P v o) h1 (fun s o hq _ => by
      obtain ⟨v, rfl, hq⟩ := hq
      exact EA.toEAG (ea_cons (h2 v o hq) ea_nil hs2) ⟨v, rfl, hq⟩) hs) Hf σ H S E _ fun vs Hf1 H1 ss o m1 S1 r1 hq => by
    obtain ⟨v, rfl, hq⟩ := hq
    obtain ⟨v1, v2, rfl, r2, r3⟩ := r1.two
    cases (show v1 = v from r2)
    cases r3
    exact ⟨by show 2 ≤ sizeLine; decide, fun p hp => k _ Hf1 _ (.raw (.ref p)) _ m1 (S1.newOwn (oo := .raw (.lst [v, .int i])) hp upd_same) rfl (fun z => nomatch z) ⟨p, v, o, rfl, rfl, hq⟩⟩)
end
/-- what the draws are: a list of a list of ints and a count -/
def drw (d n : Addr) (cells : List Int) (cnt : Int) : Own := [(d, .raw (.lst [.ref n, .int cnt])), (n, .lst (cells.map PyData.int))]
theorem cx_no {P : Program} {w : World} {H : Hp} {s : Shared} {e : Value} {s' : Shared} (h : L2.CX P w [] H s (fun _ _ _ => False) e s') : False := by
  obtain ⟨_, _, _, _, _, _, _, _, _, _, _, _, z⟩ := h
  exact z
def pre_law (K : PySem.W.Frag) : Pr := fun ss own post => ∃ (a : Addr) (ns : List Int), ss = [.raw (.ref a)] ∧ ScrAt K own a ns ∧ ns.length ≤ 63 ∧ post = fun o => ∃ own', o = .ret (.d (.bool true)) own'
theorem law_in {K : PySem.W.Frag} {H : Hp} {a : Addr} {ns : List Int} (hl : ns.length ≤ 63) (hO : Only H) (hS : SqL K H a (ns.map V.int)) : spG (pre_law K) [.ref a] H (fun v _ => v = .bl true) (fun _ _ _ => False) := by
  have fin : ∀ (own : Own) (HB : Hp), Sat ⟨fun _ => none, HB⟩ (fun _ => none) H own → ScrAt K own a ns → spG (pre_law K) [.ref a] H (fun v _ => v = .bl true) (fun _ _ _ => False) := fun own HB S hs =>
    ⟨fun _ => none, HB, [.raw (.ref a)], own, _, S, .cons rfl .nil, ⟨a, ns, rfl, hs, hl, rfl⟩, fun s own' v Hf' H' hq S' r hu => by
      obtain ⟨o, hq⟩ := hq
      cases hq
      cases r
      rfl, fun C own' Hf' H' hq S' => by
      obtain ⟨o, hq⟩ := hq
      cases hq⟩
  have nt : ∀ (p : Addr) (xs : List V), H p = some (.tup xs) → (none : Option HO) = some (.tup xs) := fun p xs h => by
    rcases hO p with z | ⟨o, ys, z⟩
    · rw [z] at h; cases h
    · rw [z] at h; cases h
  rcases hS with (h | ⟨o, h⟩) | h
  · rcases hO a with z | ⟨o, xs, z⟩
    · rw [z] at h; cases h
    · rw [z] at h; cases h
  · refine fin [(a, .raw (.frz o (.lst (ns.map V.int))))] (less H [a]) ⟨fun _ _ h => h, fun _ _ h => (by cases h), fun p u h => ?_, fun p u h => (by cases h), fun q hq => ?_, by simp, nt⟩ (fun Hf H' hq => ?_)
    · by_cases hp : p ∈ [a]
      · have h : less H [a] p = some u := h
        rw [less_in hp] at h; cases h
      · have h : less H [a] p = some u := h
        rw [less_out hp] at h; exact h
    · have e : q = (a, .raw (.frz o (.lst (ns.map V.int)))) := by simpa using hq
      subst e
      exact ⟨rfl, less_in (by simp), h⟩
    · have h' := hq (a, .raw (.frz o (.lst (ns.map V.int)))) (by simp)
      exact .inl (.inr ⟨o, h'⟩)
  · exact fin [] H ⟨fun _ _ h => h, fun _ _ h => (by cases h), fun _ _ h => h, fun p u h => (by cases h), fun q hq => (nomatch hq), by simp, nt⟩ (fun Hf H' _ => .inr h)
end Sd


/-! more statements -/
namespace Sd
open PySem PySem.Spec PyProof.Rows L2
section
variable {Z : Ctx} {D : DE} {e a b c tg : Expr} {es : List Expr} {ρ : List Slot} {own oa ob : Own} {pos tpos p : Pos} {i j : Int} {s t : Slot} {k : Nat} {ds : List PyData} {x : PyData} {q : Addr} {R : Slot → Own → Prop}
theorem eg_tup {x1 : Nat} {P : List PyData → Own → Prop} (h : EAG Z es ρ own fun ss o => ∃ ds, ss = ds.map Slot.d ∧ ds.length ≤ 1000 ∧ P ds o) : EG Z (.Tuple es x1 pos) ρ own (fun s o => ∃ ds, s = .d (.tuple ds) ∧ P ds o) := fun Hf σ H S E Q q => wE.of (pe_tup paW) (h Hf σ H S E _ fun vs Hf1 H1 ss o m1 S1 r1 hq => by
  obtain ⟨ds, rfl, hl, hq⟩ := hq
  have r := r1.data
  exact ⟨Nat.le_trans (by rw [r.length]; exact hl) (by decide), fun p hp => q _ _ _ (.d (.tuple ds)) o (m1.trans (S1.new_same hp _)) (S1.new hp _) (Rep.tup upd_same (r.mono (S1.new_same hp _))) (fun z => nomatch z) ⟨ds, rfl, hq⟩⟩)
theorem sd_asgG {P : PyData → Own → Prop} (he : EG Z e ρ own fun s o => ∃ x, s = .d x ∧ P x o) (h : ∀ x o, P x o → ∃ ρ' is, GT Z tg x ρ ρ' is ∧ D.nx ρ' o) (hs : swapsWithSole [tg] e pos.line Z.X.env = pure false := by rfl) (hw : swappedStores [tg] e Z.X.env = pure none := by rfl)
    (h1 : (assignEach [tg] Z.X.env).map (·.2) = [assign tg Z.X.env] := by rfl) : SD Z (.Assign [tg] e pos) D ρ own := fun H0 Hf σ H m0 S E => wS.of (ps_asg peW pgW hs hw h1)
  (he Hf σ H S E _ fun v Hf1 H1 s o m1 S1 r1 _ hq => by
    obtain ⟨x, rfl, hq⟩ := hq
    obtain ⟨ρ', is, hg, hn⟩ := h x o hq
    exact hg o Hf1 σ H1 v S1 (E.mono m1) r1 _ fun σ' E' _ => ⟨Hf1, ρ', o, m0.trans m1, S1, E', hn⟩)
/-- sorted of ints -/
theorem el_sorted {ns res : List Int} (hm : Z.X.mg "sorted" = none) (h : ES Z e ρ own s) (L : Lst own s (ns.map PyData.int)) (hl : ns.length < 64) (hr : ∀ ns' : List Int, ns'.Perm ns → ns'.Pairwise (· ≤ ·) → ns' = res) (hg : Gl Z.X "sorted" := by rfl) (hs : starEach [e] Z.X.env = (false, eval e Z.X.env) :: starEach [] Z.X.env := by rfl) : EL Z (.Call (.Name "sorted" p) [e] [] pos) ρ own (res.map PyData.int) :=
  el_callB cr_sorted hg hm (by decide +kernel) (ea_cons h ea_nil hs) fun vs Hf H S r0 Q k => by
    obtain ⟨v, rfl, r⟩ := r0.one
    obtain ⟨q, vs, rfl, e1, e2⟩ := L.at S r
    cases e2.of_ints
    refine ⟨q, ns, rfl, SqL.of e1, hl, fun ns' l hp ho hn => ?_⟩
    rw [hr ns' hp ho]
    exact k l Hf _ (Same.refl _) (S.newOwn (oo := .lst (res.map PyData.int)) hn ⟨_, upd_same, Reps.ints res⟩)
end
section
variable {Z : Ctx} {e : Expr} {es : List Expr} {ρ : List Slot} {o1 : Own} {pos p : Pos} {k j : Nat} {ss : List Slot} {z : Str} {ps : List Str} {Pre : Pr} {post : Out → Prop} {R : Slot → Own → Prop}
/-- a def that gets all that is owned -/
theorem eg_callW (F : Fn Z.X.K Z.X.mg Z.X.prog Z.X.w Z.X.base z ps j Pre) (g : Gd Z k) (hj : j ≤ k) (ha : EA Z (e :: es) ρ o1 ss) (hp : Pre ss o1 post) (h1 : ∀ s o1', post (.ret s o1') → R s o1') (h2 : ∀ C o1', post (.exc C o1') → Z.ex C ρ o1')
    (hg : Gl Z.X z := by rfl) (hdb : (z == ("__debug__" : Str)) = false := by decide) (he : starEach (e :: es) Z.X.env = (false, eval e Z.X.env) :: starEach es Z.X.env := by rfl) (hpl : (backTo pos (starEach es Z.X.env)).any (·.1) = false := by rfl) :
    EG Z (.Call (.Name z p) (e :: es) [] pos) ρ o1 R := by
  have e0 : ∀ o : Own, [] ++ o ++ [] = o := fun o => by rw [List.nil_append, List.append_nil]
  have := eg_call (p := p) (R := R) (oa := []) (o1 := o1) (ob := []) F g hj (by rw [e0]; exact ha) hp (fun s o h => by rw [e0]; exact h1 s o h) (fun C o h => by rw [e0]; exact h2 C o h) hg hdb he hpl
  rw [e0] at this
  exact this
end
theorem eqv_self {n : Nat} {d : PyData} (h : Shp n d) : PyData.eqv d d = true := SeqAt.eqv_refl d h.1
end Sd


/-! still more rules -/
namespace Sd
open PySem PySem.Spec PyProof.Rows L2
section
variable {Z : Ctx} {D : DE} {e a b c tg : Expr} {es : List Expr} {ρ : List Slot} {own oa ob : Own} {pos tpos p : Pos} {i j : Int} {s t : Slot} {k : Nat} {ds : List PyData} {x y : PyData} {q : Addr} {R : Slot → Own → Prop}
theorem c_isND : CmpB Z .Is own (.d x) (.d .none) (isNone (.d x)) := c_isN (fun z => nomatch z)
theorem c_isNR {v : V} : CmpB Z .Is own (.raw v) (.d .none) (isNone (.raw v)) := c_isN (fun z => nomatch z)
/-- a test that fails: nothing happens -/
theorem sd_ifF {A : List Stmt} (hc : ET Z c ρ own false) (h : D.nx ρ own) : SD Z (.If c A [] pos) D ρ own := sd_if hc (fun e => nomatch e) fun _ => sds_nil h
end
theorem eqvAll_ints : ∀ a b : List Int, PyData.eqvAll (a.map PyData.int) (b.map PyData.int) = decide (a = b)
  | [], [] => by simp [PyData.eqvAll]
  | [], b :: bs => by simp [PyData.eqvAll]
  | a :: as, [] => by simp [PyData.eqvAll]
  | a :: as, b :: bs => by
    rw [List.map_cons, List.map_cons, PyData.eqvAll, eqvAll_ints as bs, Bool.eq_iff_iff]
    simp [PyData.eqv]
theorem eqv_ints (a b : List Int) : PyData.eqv (li a) (li b) = decide (a = b) := by rw [PyData.eqv, eqvAll_ints]
theorem eqvAll_lis : ∀ a b : List (List Int), PyData.eqvAll (a.map li) (b.map li) = decide (a = b)
  | [], [] => by simp [PyData.eqvAll]
  | [], b :: bs => by simp [PyData.eqvAll]
  | a :: as, [] => by simp [PyData.eqvAll]
  | a :: as, b :: bs => by
    rw [List.map_cons, List.map_cons, PyData.eqvAll, eqvAll_lis as bs, eqv_ints, Bool.eq_iff_iff]
    simp
theorem eqv_lis (a b : List (List Int)) : PyData.eqv (.list (a.map li)) (.list (b.map li)) = decide (a = b) := by rw [PyData.eqv, eqvAll_lis]
theorem shp_lis (a : List (List Int)) : Shp 2 (.list (a.map li)) := shp_list (n := 1) fun d hd => by
  obtain ⟨y, _, rfl⟩ := List.mem_map.mp hd
  exact shp_ints _
theorem sh_lis (a : List (List Int)) : SeqAt.shaped (.list (a.map li)) = true := (shp_lis a).shaped (by decide)
theorem sh_bool (a : Bool) : SeqAt.shaped (.bool a) = true := (shp_bool a).shaped (by decide)
end Sd


/-! an exception that is caught and kept in a name -/
namespace Sd
open PySem PySem.Spec PyProof.Rows L2
/-- an exception of the class cls stands at a -/
def ExK (cls : Value) (a : Addr) : HO := .ext fun h => ∃ (oe : Obj) (vs : Array Value), h.get? a = some oe ∧ Zc cls none oe ∧ oe.data = .fields vs
section
variable {X : Cx} {pins : List (Addr × Obj)} {σ : L2.St} {H : Hp} {s : Shared}
/-- an object of ours that is not tracked yet, and was not there at the entry, is tracked from here on -/
theorem inv_track {a : Addr} {φ : Heap → Prop} (I : Inv X pins σ H s) (na : H a = none) (n0 : X.s_0.heap.get? a = none) (nL : a ≠ X.env.locals) (nC : ∀ x c, X.env.cells.lookup x = some c → c ≠ a) (nP : ∀ p ∈ X.pn ++ pins, p.1 ≠ a) (ok : ObjOk X.prog X.w (upd H a (.ext φ)) s.heap a (.ext φ)) : Inv X pins σ (upd H a (.ext φ)) s := by
  have ne0 : ∀ b o, X.s_0.heap.get? b = some o → b ≠ a := fun b o q z => by rw [z, n0] at q; cases q
  have B := I.base
  refine { ok := I.ok, os := I.os, bare := I.bare, loc := I.loc, cell := I.cell, len := I.len, base := { keep := B.keep, slot := B.slot, there := B.there, free := ?_, tups := ?_, frzs := ?_, tbls := ?_ }, free := ?_, freeC := ?_, pin := ?_, hok := ?_ }
  · intro b o q n x
    rw [upd_ne (ne0 b o q)]
    exact B.free b o q n x
  · intro b xs q
    have q' := B.tups b xs q
    rw [upd_ne (ne_of_none q' na)]
    exact q'
  · intro b o u q
    have q' := B.frzs b o u q
    rw [upd_ne (ne_of_none q' na)]
    exact q'
  · intro b ps q
    obtain ⟨m, q'⟩ := B.tbls b ps q
    exact ⟨m, by rw [upd_ne (ne_of_none q' na)]; exact q'⟩
  · rw [upd_ne nL.symm]
    exact I.free
  · intro x c q
    rw [upd_ne (nC x c q)]
    exact I.freeC x c q
  · intro p hp
    obtain ⟨p1, p2, p3⟩ := I.pin p hp
    exact ⟨p1, by rw [upd_ne (nP p hp)]; exact p2, p3⟩
  · intro b o q
    by_cases hb : b = a
    · subst hb
      rw [upd_same] at q
      cases q
      exact ok
    · rw [upd_ne hb] at q
      exact (I.hok b o q).stay (fun c u _ r => r) (fun c r => by rw [upd_ne (ne_of_none r na)]; exact r) fun c xs r => by rw [upd_ne (ne_of_none r na)]; exact r
end
/-- the body of a try -/
abbrev trZ (Z : Ctx) (pn : List (Addr × Obj)) (xe : Value → Shared → Prop) (B' : Bs) (ex' : Addr → List Slot → Own → Prop) : Ctx := ⟨Z.X.tr pn xe, B', ex'⟩
section
variable {Z : Ctx} {D : DE} {ρ : List Slot} {own : Own} {k : Nat} {x n z : Str} {c : Value} {body : List Stmt} {np pos pos' p1 p2 p3 : Pos}
/-- try: body; except x as n: z = n. An exception that the body lets out is of a class that x names, and it is z's from then on -/
theorem sd_try_keep (ie ic : Nat) (g : Gd Z k) (hc : Names Z.X x c)
    (hb : ∀ pn xe B', Gd (trZ Z pn xe B' fun C ρ' o' => PySem.W.exmOne Z.X.K (.ref C) c = some true ∧ ∀ a, D.nx (((ρ'.set ie (.raw (.ref a))).set ic (.raw (.ref a))).set ie .un) ((a, .raw (ExK (.ref C) a)) :: o')) k →
      SDs (trZ Z pn xe B' fun C ρ' o' => PySem.W.exmOne Z.X.K (.ref C) c = some true ∧ ∀ a, D.nx (((ρ'.set ie (.raw (.ref a))).set ic (.raw (.ref a))).set ie .un) ((a, .raw (ExK (.ref C) a)) :: o')) body D ρ own)
    (hs : Z.X.stack = Z.X.env :: Z.X.outer := by rfl) (hf : Z.X.env.frame = some Z.X.env.locals := by rfl) (hie : Z.X.N[ie]? = some n := by rfl) (hle : Z.X.env.kindOf n = some .local := by rfl) (hic : Z.X.N[ic]? = some z := by rfl) (hlc : Loc Z.X.env.scope z := by first | exact Or.inl rfl | exact Or.inr rfl)
    (hne : ie ≠ ic := by decide) (hvn : Vis Z.X.env.scope n := by first | exact Or.inl rfl | exact Or.inr (Or.inl rfl) | exact Or.inr (Or.inr rfl)) (hd : (n == ("__debug__" : Str)) = false := by decide) (hcd : (n == ("__classdict__" : Str)) = false := by decide) (hsw : swapsWith (.Name n p2) (some (.Name z p1)) p3.line Z.X.env = pure false := by rfl) (hxx : Z.X.ex = [] := by rfl)
    (hfz : Z.X.fn z = true ∨ Z.X.env.scope.names.lookup z = some .local := by first | exact .inl rfl | exact .inr rfl | assumption) :
    SD Z (.Try body [.ExceptHandler (some (.Name x np)) (some n) [.Assign [.Name z p1] (.Name n p2) p3] pos'] [] [] pos) D ρ own := by
  intro H0 Hf σ H m0 S E
  refine ⟨fun pins s I => ?_⟩
  have ok := I.ok
  have hfr : Z.X.A.frames = some (Z.X.env :: Z.X.outer) := ok.frames.trans (by rw [hs])
  have S0 : Sat Z.B Hf H ([] ++ own ++ []) := by rw [List.nil_append, List.append_nil]; exact S
  have bk : ∀ {Hf' H' : Hp} {o' : Own}, Sat ⟨Hf, less H (own.map (·.1))⟩ Hf' H' o' → Sat Z.B Hf' H' o' := fun {Hf' H' o'} S' => by
    have := S0.back S'
    rw [List.nil_append, List.append_nil] at this
    exact this
  obtain ⟨xe, hxe⟩ : ∃ xe : Value → Shared → Prop, xe = fun e t₁ => wpAny (model Z.X.prog Z.X.w) Z.X.A (noteFrame e Z.X.env) (fun _ t₂ => wpAny (model Z.X.prog Z.X.w) Z.X.A (setFlight e none) (fun _ t₃ => wpAny (model Z.X.prog Z.X.w) Z.X.A (handleBy e Z.X.env [.ExceptHandler (some (.Name x np)) (some n) [.Assign [.Name z p1] (.Name n p2) p3] pos']) (SP Z.X pins (lift Z.B H0 D)) Z.X.xe t₃) Z.X.xe t₂) Z.X.xe t₁ := ⟨_, rfl⟩
  refine wpAny_Try_except ?_
  have gB : Gd (trZ Z (Z.X.pn ++ pins) xe ⟨Hf, less H (own.map (·.1))⟩ fun C ρ' o' => PySem.W.exmOne Z.X.K (.ref C) c = some true ∧ ∀ a, D.nx (((ρ'.set ie (.raw (.ref a))).set ic (.raw (.ref a))).set ie .un) ((a, .raw (ExK (.ref C) a)) :: o')) k := by
    refine ⟨?_, by rw [hxe]; exact PassesOwn.looking, g.calm, g.nd, g.hr⟩
    intro u s' xx
    obtain ⟨a, B, sI, pins', σ', H', cls, d, rfl, J', nb, up, sky, na, os, ag, C, Hf', ρ', o', rfl, rfl, S', E', hex, hnx⟩ := xx
    rw [hxe]
    have J : Inv Z.X pins σ' H' sI := J'.ofTry ok
    have sky2 : Sky B (Z.X.env :: Z.X.outer) a (Zc (.ref C) none) Z.X.env.locals s'.heap := by rw [← hs]; exact sky
    refine Sky.land Zc.steady hfr hf sky2 fun h3 fl3 up3 => ?_
    have J3 : Inv Z.X pins σ' H' { s' with heap := h3 } := J.landed nb fl3.1 (up.trans up3) os ag
    obtain ⟨oe3, vs3, he3, hz3, hd3⟩ := fl3.there
    have aB : B.get? a = none := fl3.2.1
    have nfr : a ∉ frs (Z.X.env :: Z.X.outer) := fun hm => by
      obtain ⟨_, o2, q2, hnf⟩ := fl3.2.2.1.mem hm
      rw [he3] at q2
      cases q2
      exact hnf _ hd3
    have nL : a ≠ Z.X.env.locals := fun q => nfr (List.mem_filterMap.mpr ⟨Z.X.env, List.mem_cons_self, by rw [hf, q]⟩)
    have nF : a ∉ Z.X.fs := fun hm => by
      obtain ⟨e, he, q⟩ := List.mem_filterMap.mp hm
      exact nfr (List.mem_filterMap.mpr ⟨e, List.mem_cons_of_mem _ he, q⟩)
    have notI : ∀ o, sI.heap.get? a ≠ some o := fun o q => by
      rw [nb a o q (by rw [hs]; exact nfr)] at aB
      cases aB
    have n0 : Z.X.s_0.heap.get? a = none := by
      cases q : Z.X.s_0.heap.get? a with
      | none => rfl
      | some o =>
        obtain ⟨o2, q2⟩ := J.base.there a o q (by rw [hxx]; exact fun z => nomatch z)
        exact absurd q2 (notI o2)
    have nC : ∀ x c, Z.X.env.cells.lookup x = some c → c ≠ a := fun x c q e => by
      obtain ⟨v, o, q2, _⟩ := J.cell x c q
      rw [e] at q2
      exact notI o q2
    have nP : ∀ p ∈ Z.X.pn ++ pins, p.1 ≠ a := fun p hp e => by
      have q := (J.pin p hp).1
      rw [e] at q
      exact notI _ q
    have S3 := J3.suite he3 hd3 na nL nF
    refine wpAny_handleBy_cons (codeAny_handlers_test ?_) (by intro q; cases q)
    have LT : PySem.W.Looks (model Z.X.prog Z.X.w) h3 (typeOf (.ref a)) (.ref C) := fun A Q E s k q => wpAny_typeOf_ref (k _ _ he3) (by rw [hz3.1]; exact q)
    have LM := PySem.W.exm_one (M := model Z.X.prog Z.X.w) J3.kIn LT hex
    have test : ∀ {Q : Value → Shared → Prop} {E : Value → Shared → Prop}, Q c { s' with heap := h3 } → wpAny (model Z.X.prog Z.X.w) (Z.X.A.mark (some (.ref a))) (eval (.Name x np) Z.X.env) Q E { s' with heap := h3 } := by
      intro Q E q
      obtain ⟨hg, hdbg, hm | ⟨hm, hv, hnn⟩⟩ := hc
      · exact ld_glob (X := Z.X.suite a ((a, oe3) :: (Z.X.pn ++ pins))) S3 hg hm q hdbg
      · exact ld_blt (X := Z.X.suite a ((a, oe3) :: (Z.X.pn ++ pins))) S3 hg hm hv q hnn hdbg
    refine test (LM.here ?_)
    refine codeAny_handlers_suite_as (HandSPX.lands_againZ fl3 fun h4 fl4 up4 => ?_)
    have J4 : Inv Z.X pins σ' H' { s' with heap := h4 } := J.landed nb fl4.1 ((up.trans up3).trans up4) os ag
    obtain ⟨oe4, vs4, he4, hz4, hd4⟩ := fl4.there
    have S4 := J4.suite he4 hd4 na nL nF
    have hln : σ'.length = Z.X.N.length := J.len
    have hiel : ie < σ'.length := by rw [hln]; exact (List.getElem?_eq_some_iff.mp hie).1
    refine store_ok (X := Z.X.suite a ((a, oe4) :: (Z.X.pn ++ pins))) (v := .ref a) S4 g.nd hie (.inl hle) rfl (fun s5 S5 => ?_) (.inr hle)
    have suite : PSs (Z.X.suite a ((a, oe4) :: (Z.X.pn ++ pins))) [.Assign [.Name z p1] (.Name n p2) p3] _ := pss_one (ps_set g.nd hic hlc (pe_var hie hvn hd hcd) hsw hfz)
    refine wpAny_mono (suite.run [] s5 _ H' { nx := fun σ6 H6 => σ6 = (σ'.set ie (some (.ref a))).set ic (some (.ref a)) ∧ H6 = H', rt := fun _ _ => False, bk := fun _ _ => False, ct := fun _ _ => False } S5 ⟨.ref a, List.getElem?_set_self hiel, rfl, rfl⟩) (fun f s6 hsp => ?_) (fun _ _ z => False.elim z)
    cases f with
    | brk => obtain ⟨_, _, _, q⟩ := hsp; exact q.elim
    | cont => obtain ⟨_, _, _, q⟩ := hsp; exact q.elim
    | ret u => obtain ⟨_, _, _, _, _, q⟩ := hsp; exact q.elim
    | next =>
      obtain ⟨σ6, H6, S6, rfl, rfl⟩ := hsp
      have U6 := S6.unsuite ok
      have J6 : Inv Z.X ((a, oe4) :: pins) ((σ'.set ie (some (.ref a))).set ic (some (.ref a))) H6 s6 := { U6 with pin := fun p hp => S6.pin p (by
        rw [List.append_nil]
        rcases List.mem_append.mp hp with h | h
        · exact List.mem_cons_of_mem _ (List.mem_append_left _ h)
        · rcases List.mem_cons.mp h with h | h
          · rw [h]; exact List.mem_cons_self
          · exact List.mem_cons_of_mem _ (List.mem_append_right _ h)) }
      refine gone_ok J6 g.nd hie hle fun s7 J7 => ?_
      obtain ⟨ha7, _⟩ := J7.pin (a, oe4) (by simp)
      have J7' : Inv Z.X pins (((σ'.set ie (some (.ref a))).set ic (some (.ref a))).set ie none) H6 s7 := { J7 with pin := fun p hp => J7.pin p (by
        rcases List.mem_append.mp hp with h | h
        · exact List.mem_append_left _ h
        · exact List.mem_append_right _ (List.mem_cons_of_mem _ h)) }
      have J8 := inv_track (a := a) J7' (φ := fun h => ∃ (oe : Obj) (vs : Array Value), h.get? a = some oe ∧ Zc (.ref C) none oe ∧ oe.data = .fields vs) na n0 nL nC nP ⟨⟨oe4, vs4, ha7, hz4, hd4⟩, ⟨oe4, ha7⟩, fun h1 h2 ⟨oe, vs, q1, q2, q3⟩ hh => ⟨oe, vs, hh oe q1, q2, q3⟩⟩
      refine ⟨_, _, J8, Hf', _, (a, .raw (ExK (.ref C) a)) :: o', m0.trans S'.e0, (bk S').newOwn na upd_same, ?_, hnx a⟩
      exact ((E'.set (v := .ref a) (s := .raw (.ref a)) rfl ie).set (v := .ref a) (s := .raw (.ref a)) rfl ic).unset ie none
  refine wpAny_mono ((hb _ xe _ gB Hf Hf σ H (Same.refl _) S0.into E).run [] s (I.toTry _)) (fun f s1 hsp => ?_) (fun e s1 he => by rw [hxe] at he; exact he)
  cases f with
  | next =>
    obtain ⟨σ', H', J', Hf', ρ', o', m', S', E', q⟩ := hsp
    exact wpAny_execs_nil ⟨σ', H', J'.ofTry ok, Hf', ρ', o', m0.trans m', bk S', E', q⟩
  | brk =>
    obtain ⟨σ', H', J', Hf', ρ', o', m', S', E', q⟩ := hsp
    exact ⟨σ', H', J'.ofTry ok, Hf', ρ', o', m0.trans m', bk S', E', q⟩
  | cont =>
    obtain ⟨σ', H', J', Hf', ρ', o', m', S', E', q⟩ := hsp
    exact ⟨σ', H', J'.ofTry ok, Hf', ρ', o', m0.trans m', bk S', E', q⟩
  | ret u =>
    obtain ⟨v, σ', H', J', r, Hf', t, o', m', S', r', hu, q⟩ := hsp
    exact ⟨v, σ', H', J'.ofTry ok, r, Hf', t, o', m0.trans m', bk S', r', hu, q⟩
end
/-! ### isinstance of a kept exception -/
theorem call_isX {X : Cx} {a D : Addr} (C : ExcC X.K D) : CallR X (.builtin "isinstance") (fun xs H Q => ∃ (c : V) (cv : Value) (l : Bool), xs = [.ref a, c] ∧ H a = some (ExK (.ref D) a) ∧ (∀ u, RelV c u → u = cv) ∧ PySem.W.kitOne X.K (.ref D) cv = some l ∧ Q (.bl l) H) := by
  intro pins s σ H xs us Q I r h
  obtain ⟨c, cv, l, rfl, ha, hcv, hk, q⟩ := h
  obtain ⟨u1, u2, rfl, r1, r2⟩ := vals2 r
  cases (show u1 = Value.ref a from r1)
  cases hcv u2 r2
  obtain ⟨⟨oe, vs, g1, g2, g3⟩, _⟩ := I.hok a _ ha
  have J : PySem.W.InstAt s.heap a oe D none := by
    obtain ⟨oc, od, oda, osl⟩ := oe
    obtain ⟨z1, z2⟩ := g2
    cases z1
    cases z2
    cases g3
    exact ⟨g1, rfl, rfl, trivial⟩
  exact PySem.W.kia_one (PySem.W.handS_kitx_exc C.hg C.hk C.hs C.hd C.ha C.hn C.ht C.hm) I.kIn J hk (fun z => nomatch z) fun tk => ⟨.bl l, H, I.tok tk, rfl, q⟩
section
variable {Z : Ctx} {a b o e : Expr} {ρ : List Slot} {own : Own} {pos p cpos apos : Pos} {k : Nat} {q D : Addr} {s t : Slot} {ds : List PyData} {x : PyData}
theorem ed_isX {l : Bool} {cv : Value} {cV : V} (C : ExcC Z.X.K D) (hm : Z.X.mg "isinstance" = none) (hq : (q, OO.raw (ExK (.ref D) q)) ∈ own) (h : EV Z a ρ own (.ref q)) (hc : EV Z b ρ own cV) (hcv : ∀ u, RelV cV u → u = cv) (hk : PySem.W.kitOne Z.X.K (.ref D) cv = some l) (hg : Gl Z.X "isinstance" := by rfl) (hs : starEach [a, b] Z.X.env = (false, eval a Z.X.env) :: starEach [b] Z.X.env := by rfl) (hs2 : starEach [b] Z.X.env = (false, eval b Z.X.env) :: starEach [] Z.X.env := by rfl) (hpl : (backTo pos (starEach [b] Z.X.env)).any (·.1) = false := by rfl) :
    ED Z (.Call (.Name "isinstance" p) [a, b] [] pos) ρ own (.bool l) :=
  es_callB (call_isX (a := q) C) hg hm (by decide +kernel) (ea_cons h (ea_cons hc ea_nil hs2) hs) (fun vs Hf H S r0 Q k => by
    obtain ⟨v, w, rfl, r1, r2⟩ := r0.two
    cases (show v = .ref q from r1)
    cases (show w = cV from r2)
    obtain ⟨_, _, g⟩ := S.at hq
    exact ⟨cV, cv, l, rfl, g, hcv, hk, k _ Hf H (Same.refl _) S (.bl l)⟩) (by decide) (by decide) hs hpl
/-! ### xs.count(x), xs.index(x) of data -/
theorem mt_countD {X : Cx} (hu : X.A.units + 65 < cLine) : MtR X "list.count" (fun x xs H Q => ∃ (a : Addr) (y : V) (d : PyData) (ds : List PyData), x = V.ref a ∧ xs = [y] ∧ Dp X.K H (V.ref a) (.list ds) ∧ Dp X.K H y d ∧ PyData.plainAll ds = true ∧ d.plain = true ∧ d.depth ≤ 64 ∧ Q (.int (ds.countP (fun z => PyData.eqv z d) : Nat)) H) := by
  intro pins s σ H x xs v us Q I rx rxs h
  obtain ⟨a, y, d, ds, rfl, rfl, hl, hy, h1, h2, h3, q⟩ := h
  cases rx
  obtain ⟨uy, rfl, ry⟩ := rxs.one
  obtain ⟨bs, r1⟩ := Dp.reads I d y uy hy ry
  cases hl with
  | lst hs ha =>
    obtain ⟨its, rv, ⟨⟨cls, dd, data, sls⟩, n, ho, hc, hdn, hdt⟩, hlen⟩ := I.list hs
    obtain ⟨as, h4⟩ := Dp.readsAll I ds _ its ha rv
    exact SeqAt.count_list_data (vs := its.toArray) ⟨_, ho, hc, n, hdt⟩ h4 r1 h1 h2 (by omega) ⟨.int _, H, I.tok _, ⟨s.toks, rfl⟩, q⟩
theorem ed_count (g : Gd Z (k + 1)) (ho : ES Z o ρ own s) (L : Lst own s ds) (he : ED Z e ρ own x) (h1 : PyData.plainAll ds = true) (h2 : x.plain = true) (h3 : x.depth ≤ 64)
    (hbase : attributeBase o "count" Z.X.env (eval o Z.X.env) = eval o Z.X.env := by rfl)
    (hfew : ((backTo cpos (starEach [e] Z.X.env)).all (fun x => !x.1) && (backToKw cpos (keywordEach [] Z.X.env)).all (fun x => x.1.isSome)
      && decide ([e].length + ([] : List Keyword).length + (if ([] : List Keyword).isEmpty then 0 else 1) < 30)) = true := by rfl)
    (hline : (apos.endLine == cpos.line) = true := by rfl) (hs : starEach [e] Z.X.env = (false, eval e Z.X.env) :: starEach [] Z.X.env := by rfl) (hplain : (backTo cpos (starEach [] Z.X.env)).any (·.1) = false := by rfl) :
    ED Z (.Call (.Attribute o "count" apos) [e] [] cpos) ρ own (.int (ds.countP (fun z => PyData.eqv z x) : Nat)) := fun Hf σ H S E Q q => wE.of (pe_bm PySem.F.plainAttrs_list PySem.F.slot_list_count PySem.F.type_list_count (mt_countD (by have := g.hr.un; omega)) peW (pa_cons peW pa_nil hs) hbase hfew hline hs hplain)
  (ho Hf σ H S E _ fun v Hf1 H1 m1 S1 r1 => by
    obtain ⟨p, vs, rfl, g1, _⟩ := L.at S1 r1
    refine ⟨.inl ⟨rfl, _, SqL.of g1⟩, he Hf1 σ H1 S1 (E.mono m1) _ fun w Hf2 H2 m2 S2 r2 => ?_⟩
    obtain ⟨p', vs', e', g1, g2⟩ := L.at S2 (r1.mono m2)
    cases e'
    exact ⟨p, w, x, ds, rfl, rfl, (Rep.lst g1 (g2.mono S2.e1)).dp, (Rep.mono S2.e1 r2).dp, h1, h2, h3, q _ Hf2 H2 (m1.trans m2) S2 (.int _)⟩)
theorem ed_index {j : Nat} {z : PyData} (g : Gd Z (k + 1)) (ho : ES Z o ρ own s) (L : Lst own s ds) (he : ED Z e ρ own x) (h1 : SeqAt.shaped (.list ds) = true) (h2 : SeqAt.shaped x = true) (hj : ds[j]? = some z) (hz : PyData.eqv z x = true) (hno : ∀ (m : Nat) (z' : PyData), m < j → ds[m]? = some z' → PyData.eqv z' x = false)
    (hbase : attributeBase o "index" Z.X.env (eval o Z.X.env) = eval o Z.X.env := by rfl)
    (hfew : ((backTo cpos (starEach [e] Z.X.env)).all (fun x => !x.1) && (backToKw cpos (keywordEach [] Z.X.env)).all (fun x => x.1.isSome)
      && decide ([e].length + ([] : List Keyword).length + (if ([] : List Keyword).isEmpty then 0 else 1) < 30)) = true := by rfl)
    (hline : (apos.endLine == cpos.line) = true := by rfl) (hs : starEach [e] Z.X.env = (false, eval e Z.X.env) :: starEach [] Z.X.env := by rfl) (hplain : (backTo cpos (starEach [] Z.X.env)).any (·.1) = false := by rfl) :
    ED Z (.Call (.Attribute o "index" apos) [e] [] cpos) ρ own (.int (j : Nat)) := fun Hf σ H S E Q q => wE.of (pe_bm PySem.F.plainAttrs_list PySem.F.slot_list_index PySem.F.type_list_index (mt_indexD (by have := g.hr.un; omega)) peW (pa_cons peW pa_nil hs) hbase hfew hline hs hplain)
  (ho Hf σ H S E _ fun v Hf1 H1 m1 S1 r1 => by
    obtain ⟨p, vs, rfl, g1, _⟩ := L.at S1 r1
    refine ⟨.inl ⟨rfl, _, SqL.of g1⟩, he Hf1 σ H1 S1 (E.mono m1) _ fun w Hf2 H2 m2 S2 r2 => ?_⟩
    obtain ⟨p', vs', e', g1, g2⟩ := L.at S2 (r1.mono m2)
    cases e'
    exact ⟨p, w, x, ds, j, z, rfl, rfl, (Rep.lst g1 (g2.mono S2.e1)).dp, (Rep.mono S2.e1 r2).dp, h1, h2, hj, hz, hno, q _ Hf2 H2 (m1.trans m2) S2 (.int _)⟩)
end
/-- what is known of a class of errors beside the others -/
structure ErrK (K : PySem.W.Frag) (C y d n s t o D : Addr) (by_ bd bn bs bt bo : Bool) : Prop where
  xc : ExcC K C
  y : PySem.W.kitOne K (.ref C) (.ref y) = some by_
  d : PySem.W.kitOne K (.ref C) (.ref d) = some bd
  n : PySem.W.kitOne K (.ref C) (.ref n) = some bn
  s : PySem.W.kitOne K (.ref C) (.ref s) = some bs
  t : PySem.W.kitOne K (.ref C) (.ref t) = some bt
  o : PySem.W.kitOne K (.ref C) (.ref o) = some bo
  de : PySem.W.kitOne K (.ref C) (.ref D) = some true
  ve : PySem.W.kitOne K (.ref C) (.type "ValueError") = some true
  ex : PySem.W.exmOne K (.ref C) (.ref D) = some true
end Sd


/-! sets of ints -/
namespace Sd
open PySem PySem.Spec PyProof.Rows L2
theorem ixN_of {n j : Nat} (hj : j < n) : ixN n (j : Int) = some j := by
  unfold ixN
  rw [if_pos (by omega), if_pos (by omega)]
  rfl
section
variable {X : Cx}
end
section
variable {Z : Ctx} {e : Expr} {ρ : List Slot} {own : Own} {pos p p2 q : Pos} {k : Nat} {s : Slot}
end
theorem Sat.nil {B : Bs} {Hf H : Hp} {own : Own} (S : Sat B Hf H own) : Sat B Hf H [] := ⟨S.e0, S.e1, S.eb, S.fr, (fun q hq => nomatch hq), by simp, S.tp⟩
section
variable {Z : Ctx} {D : DE} {ρ : List Slot} {own : Own} {sts : List Stmt} {a b c : Expr} {pos : Pos} {R : Slot → Own → Prop}
theorem sds_rtdrop (h : SDs Z sts { D with rt := fun s _ => D.rt s [] } ρ own) : SDs Z sts D ρ own := fun H0 Hf σ H m0 S E => wSs.imp (h H0 Hf σ H m0 S E) (fun _ _ q => q) (fun v H' ⟨Hf', s, o, m, S', r, hs, q⟩ => ⟨Hf', s, [], m, S'.nil, r, hs, q⟩) (fun _ _ q => q) (fun _ _ q => q)
theorem eg_if {k : Bool} (h : ET Z c ρ own k) (h1 : k = true → EG Z a ρ own R) (h2 : k = false → EG Z b ρ own R) : EG Z (.IfExp c a b pos) ρ own R := fun Hf σ H S E Q q => wE.of (pe_ifExp ptW peW peW) (h Hf σ H S E _ fun Hf1 H1 m1 S1 => by
  cases k with
  | true => exact iteT (h1 rfl Hf1 σ H1 S1 (E.mono m1) Q fun v Hf2 H2 s o m2 S2 r2 hs z => q v Hf2 H2 s o (m1.trans m2) S2 r2 hs z)
  | false => exact iteF (h2 rfl Hf1 σ H1 S1 (E.mono m1) Q fun v Hf2 H2 s o m2 S2 r2 hs z => q v Hf2 H2 s o (m1.trans m2) S2 r2 hs z))
end
/-! ### one class of errors beside another -/
theorem kit_ref {K : PySem.W.Frag} {C D : Addr} {l : Bool} (hd : PySem.W.hasDictIn K D = true) (ht : PySem.W.typeIn K (.ref D) = some (.type "type")) (hs : PySem.W.subIn K (.ref C) (.ref D) = some l) (h0 : PySem.W.subIn K (.ref C) (.ref C) = some true) : PySem.W.kitOne K (.ref C) (.ref D) = some l := by
  unfold PySem.W.kitOne
  split
  · rename_i h
    have e : C = D := Value.ref.inj (beq_iff_eq.mp h)
    subst e
    rw [h0] at hs
    exact hs
  · obtain ⟨cd, hc, _⟩ := PySem.W.any_some hd
    show (if ((PySem.W.clsIn K D).isSome && PySem.W.typeIn K (.ref D) == some (.type "type")) = true then PySem.W.subIn K (.ref C) (.ref D) else none) = some l
    rw [if_pos (by rw [hc, ht]; rfl)]
    exact hs
theorem kit_ve {K : PySem.W.Frag} {C : Addr} (hs : PySem.W.subIn K (.ref C) (.type "ValueError") = some true) : PySem.W.kitOne K (.ref C) (.type "ValueError") = some true := by
  unfold PySem.W.kitOne
  split
  · rfl
  · show (if PySem.W.kitMeta "ValueError" = true then PySem.W.subIn K (.ref C) (.type "ValueError") else none) = some true
    rw [if_pos (by decide +kernel)]
    exact hs
end Sd


/-! sorted of pairs of ints -/
namespace Sd
open PySem PySem.Spec PyProof.Rows L2
theorem Reps.mem {H : Hp} : ∀ {vs : List V} {ds : List PyData}, Reps H vs ds → ∀ v ∈ vs, ∃ d ∈ ds, Rep H v d
  | _, _, .nil, _, h => nomatch h
  | _, _, .cons a b, v, h => by
    rcases List.mem_cons.mp h with e | h
    · rw [e]; exact ⟨_, by simp, a⟩
    · obtain ⟨d, hd, r⟩ := Reps.mem b v h
      exact ⟨d, by simp [hd], r⟩
section
variable {Z : Ctx} {e : Expr} {ρ : List Slot} {own : Own} {pos p : Pos} {s : Slot}
end
end Sd


/-! texts -/
namespace Sd
open PySem PySem.Spec PyProof.Rows L2
section
variable {Z : Ctx} {e o a b tg : Expr} {ρ : List Slot} {own : Own} {pos p apos cpos : Pos} {s : Slot} {i n : Int} {z y : Str} {k : Nat}
end
end Sd


namespace Sd
open PySem PySem.Spec PyProof.Rows L2
/-! sums over ints, lists given by functions -/
def sumN (f : Nat → Int) : Nat → Int
  | 0 => 0
  | n + 1 => sumN f n + f n
/-- f 0, f 1, .. as data -/
def tabZ (f : Nat → Int) (n : Nat) : List PyData := (List.range n).map fun (k : Nat) => PyData.int (f k)
theorem tabZ_len (f : Nat → Int) (n : Nat) : (tabZ f n).length = n := by simp [tabZ]
theorem tabZ_get {f : Nat → Int} {n i : Nat} (h : i < n) : (tabZ f n)[i]? = some (.int (f i)) := by
  unfold tabZ
  rw [List.getElem?_map, List.getElem?_range h]
  rfl
theorem tabZ_congr {f g : Nat → Int} {n : Nat} (h : ∀ k, k < n → f k = g k) : tabZ f n = tabZ g n := by
  unfold tabZ
  refine List.map_congr_left fun k hk => ?_
  rw [h k (List.mem_range.mp hk)]
theorem tabZ_set (f : Nat → Int) (n i : Nat) (z : Int) : (tabZ f n).set i (.int z) = tabZ (fun k => if k = i then z else f k) n := by
  refine List.ext_getElem? fun j => ?_
  by_cases hj : j < n
  · rw [tabZ_get hj]
    by_cases e : i = j
    · subst e
      rw [List.getElem?_set_self (by rw [tabZ_len]; exact hj), if_pos rfl]
    · rw [List.getElem?_set_ne e, tabZ_get hj, if_neg (fun z => e z.symm)]
  · rw [List.getElem?_eq_none (by rw [List.length_set, tabZ_len]; omega), List.getElem?_eq_none (by rw [tabZ_len]; omega)]
theorem tabZ_const (z : Int) (n : Nat) : (List.replicate n [PyData.int z]).flatten = tabZ (fun _ => z) n := by
  induction n with
  | zero => rfl
  | succ n ih =>
    rw [List.replicate_succ', List.flatten_append, ih]
    unfold tabZ
    rw [List.range_succ, List.map_append]
    rfl
theorem tabZ_unit (n : Nat) : [PyData.int 1] ++ (List.replicate n [PyData.int 0]).flatten = tabZ (fun k => if k = 0 then 1 else 0) (n + 1) := by
  rw [tabZ_const]
  unfold tabZ
  rw [List.range_succ_eq_map, List.map_cons, List.map_map]
  rfl
theorem tabZ_at {f : Nat → Int} {n i : Nat} (h : i < n) : atI (tabZ f n) (i : Int) = some (.int (f i)) := atI_nat (tabZ_get h)
section
variable {Z : Ctx} {elt tg iter : Expr} {scope : Scope} {ρ : List Slot} {own : Own} {k : Nat} {Po : Own → Prop} {ys : List PyData} {pos : Pos} {D : DE}
end
end Sd


/-! list(range(..)), tuple(range(..)), sorted of a tuple of ints -/
namespace Sd
open PySem PySem.Spec PyProof.Rows L2
section
variable {Z : Ctx} {a b e : Expr} {ρ : List Slot} {own : Own} {pos p p2 q : Pos} {k : Nat} {i j : Int}
end
end Sd


/-! dicts with tuples of ints as keys -/
namespace Sd
open PySem PySem.Spec PyProof.Rows L2
/-! ### walking d.items() -/
section
variable {X : Cx} {pins : List (Addr × Obj)} {σ : L2.St} {H : Hp} {s : Shared}
end

/-! ### a display of one pair -/
def getT {κ α : Type} [DecidableEq κ] (tb : List (κ × α)) (k : κ) : Option α := (tb.find? fun e => decide (e.1 = k)).map (·.2)
def putT {κ α : Type} [DecidableEq κ] (tb : List (κ × α)) (k : κ) (v : α) : List (κ × α) :=
  if (tb.any fun e => decide (e.1 = k)) = true then tb.map (fun e => if e.1 = k then (e.1, v) else e) else tb ++ [(k, v)]
theorem inl_inj : ∀ {a b : List Int}, (a.map Sum.inl : List Key) = b.map Sum.inl → a = b
  | [], [], _ => rfl
  | [], _ :: _, h => nomatch h
  | _ :: _, [], h => nomatch h
  | x :: a, y :: b, h => by
    rw [List.map_cons, List.map_cons] at h
    injection h with h1 h2
    injection h1 with h1
    rw [h1, inl_inj h2]
theorem DtOk.nil {Hf : Hp} : DtOk Hf [] [] := ⟨rfl, .nil⟩
theorem DtOk.inv {Hf : Hp} {kvs : List (List Key × V)} {e : List Int × PyData} {tb : List (List Int × PyData)} (h : DtOk Hf kvs (e :: tb)) : ∃ v r, kvs = (e.1.map Sum.inl, v) :: r ∧ Rep Hf v e.2 ∧ DtOk Hf r tb := by
  obtain ⟨h1, h2⟩ := h
  match kvs, h1, h2 with
  | [], h1, _ => exact nomatch h1
  | (k, v) :: r, h1, h2 =>
    rw [List.map_cons, List.map_cons] at h1
    injection h1 with h3 h4
    cases h2 with
    | cons a b => exact ⟨v, r, by rw [← h3], a, h4, b⟩
theorem DtOk.inv0 {Hf : Hp} {kvs : List (List Key × V)} (h : DtOk Hf kvs []) : kvs = [] := by
  have := h.ks
  simpa using this
theorem DtOk.cons {Hf : Hp} {r : List (List Key × V)} {e : List Int × PyData} {tb : List (List Int × PyData)} {v : V} (a : Rep Hf v e.2) (h : DtOk Hf r tb) : DtOk Hf ((e.1.map Sum.inl, v) :: r) (e :: tb) :=
  ⟨by rw [List.map_cons, List.map_cons, h.ks], .cons a h.vs⟩
theorem DtOk.length {Hf : Hp} {kvs : List (List Key × V)} {tb : List (List Int × PyData)} (h : DtOk Hf kvs tb) : kvs.length = tb.length := by
  have := congrArg List.length h.ks
  simpa using this
theorem DtOk.any {Hf : Hp} (k : List Int) : ∀ {tb : List (List Int × PyData)} {kvs : List (List Key × V)}, DtOk Hf kvs tb → (kvs.any fun kv => decide (kv.1 = k.map Sum.inl)) = tb.any fun e => decide (e.1 = k)
  | [], kvs, h => by rw [h.inv0]; rfl
  | e :: tb, kvs, h => by
    obtain ⟨v, r, rfl, _, h2⟩ := h.inv
    rw [List.any_cons, List.any_cons, DtOk.any k h2]
    congr 1
    refine decide_eq_decide.mpr ⟨fun z => inl_inj z, fun z => by rw [z]⟩
theorem DtOk.get {Hf : Hp} (k : List Int) : ∀ {tb : List (List Int × PyData)} {kvs : List (List Key × V)}, DtOk Hf kvs tb → (getT tb k = none → valV kvs (k.map Sum.inl) = none) ∧ ∀ d, getT tb k = some d → ∃ v, valV kvs (k.map Sum.inl) = some v ∧ Rep Hf v d
  | [], kvs, h => by rw [h.inv0]; exact ⟨fun _ => rfl, fun d z => nomatch z⟩
  | e :: tb, kvs, h => by
    obtain ⟨v, r, rfl, hv, h2⟩ := h.inv
    have ih := DtOk.get k h2
    by_cases hk : e.1 = k
    · have g : getT (e :: tb) k = some e.2 := by simp [getT, List.find?_cons, hk]
      rw [g]
      refine ⟨(fun z => nomatch z), fun d z => ?_⟩
      cases z
      exact ⟨v, valV_pos (by rw [hk]), hv⟩
    · have g : getT (e :: tb) k = getT tb k := by simp [getT, List.find?_cons, hk]
      rw [g, valV_neg (fun z => hk (inl_inj z))]
      exact ih
theorem DtOk.at {Hf : Hp} : ∀ {tb : List (List Int × PyData)} {kvs : List (List Key × V)} {i : Nat} {k : List Key} {v : V}, DtOk Hf kvs tb → kvs[i]? = some (k, v) → ∃ e, tb[i]? = some e ∧ k = e.1.map Sum.inl ∧ Rep Hf v e.2
  | [], kvs, i, k, v, h, q => by rw [h.inv0] at q; simp at q
  | e :: tb, kvs, 0, k, v, h, q => by
    obtain ⟨v', r, rfl, hv, h2⟩ := h.inv
    simp at q
    obtain ⟨rfl, rfl⟩ := q
    exact ⟨e, rfl, rfl, hv⟩
  | e :: tb, kvs, i + 1, k, v, h, q => by
    obtain ⟨v', r, rfl, hv, h2⟩ := h.inv
    exact DtOk.at (i := i) h2 (by simpa using q)
section
variable {Z : Ctx} {D : DE} {e f o a : Expr} {ρ : List Slot} {own oa ob : Own} {pos p tpos apos cpos : Pos} {q : Addr} {tb : List (List Int × PyData)} {k : List Int} {d d0 x : PyData} {n : Nat} {R : Slot → Own → Prop}
end
/-! ### what is not needed any more -/
theorem Sat.sub {B : Bs} {Hf H : Hp} {o o' : Own} (h : o'.Sublist o) (S : Sat B Hf H o) : Sat B Hf H o' := ⟨S.e0, S.e1, S.eb, S.fr, fun q hq => S.ow q (h.subset hq), (h.map Prod.fst).nodup S.nd, S.tp⟩
end Sd


/-! a list of one's own, lent: data while an expression runs -/
namespace Sd
open PySem PySem.Spec PyProof.Rows L2
/-- no list within -/
inductive Fre : PyData → Prop
  | non : Fre .none
  | bl (b : Bool) : Fre (.bool b)
  | int (i : Int) : Fre (.int i)
  | str (z : Str) : Fre (.str z)
  | tup {ds : List PyData} : (∀ d ∈ ds, Fre d) → Fre (.tuple ds)
section
variable {Z : Ctx} {D : DE} {e : Expr} {ρ : List Slot} {own : Own} {p : Addr} {ds : List PyData} {R R' : Slot → Own → Prop}
end
/-! ### a def without parameters -/
end Sd


/-! sorted(d), d a dict with tuples of ints as keys -/
namespace Sd
open PySem PySem.Spec PyProof.Rows L2
section
variable {X : Cx}
end
end Sd
namespace Sd
open PySem PySem.Spec PyProof.Rows L2
section
variable {Z : Ctx} {e : Expr} {ρ : List Slot} {own : Own} {pos p : Pos} {s : Slot} {k : Nat}
end
end Sd
namespace Sd
open PySem PySem.Spec PyProof.Rows L2
/-! a comprehension whose elements read what is owned -/
section
variable {Z : Ctx} {elt tg iter : Expr} {ifs : List Expr} {scope : Scope} {ρ : List Slot} {own : Own} {Fin : List PyData → Own → Prop} {k : Nat} {Po : Own → Prop} {ys : List PyData} {pos : Pos} {D : DE}
end

/-! x in a tuple of ints -/
section
variable {Z : Ctx} {own : Own}
end
end Sd


/-! dicts with int keys -/
namespace Sd
open PySem PySem.Spec PyProof.Rows L2
theorem DkOk.nil {Hf : Hp} : DkOk Hf [] [] := ⟨rfl, .nil⟩
theorem DkOk.inv {Hf : Hp} {kvs : List (Key × V)} {e : Int × PyData} {tb : List (Int × PyData)} (h : DkOk Hf kvs (e :: tb)) : ∃ v r, kvs = ((Sum.inl e.1 : Key), v) :: r ∧ Rep Hf v e.2 ∧ DkOk Hf r tb := by
  obtain ⟨h1, h2⟩ := h
  match kvs, h1, h2 with
  | [], h1, _ => exact nomatch h1
  | (k, v) :: r, h1, h2 =>
    rw [List.map_cons, List.map_cons] at h1
    injection h1 with h3 h4
    cases h2 with
    | cons a b => exact ⟨v, r, by rw [← h3], a, h4, b⟩
theorem DkOk.inv0 {Hf : Hp} {kvs : List (Key × V)} (h : DkOk Hf kvs []) : kvs = [] := by
  have := h.ks
  simpa using this
theorem DkOk.cons {Hf : Hp} {r : List (Key × V)} {e : Int × PyData} {tb : List (Int × PyData)} {v : V} (a : Rep Hf v e.2) (h : DkOk Hf r tb) : DkOk Hf (((Sum.inl e.1 : Key), v) :: r) (e :: tb) :=
  ⟨by rw [List.map_cons, List.map_cons, h.ks], .cons a h.vs⟩
theorem DkOk.length {Hf : Hp} {kvs : List (Key × V)} {tb : List (Int × PyData)} (h : DkOk Hf kvs tb) : kvs.length = tb.length := by
  have := congrArg List.length h.ks
  simpa using this
theorem DkOk.any {Hf : Hp} (k : Int) : ∀ {tb : List (Int × PyData)} {kvs : List (Key × V)}, DkOk Hf kvs tb → (kvs.any fun kv => decide (kv.1 = Sum.inl k)) = tb.any fun e => decide (e.1 = k)
  | [], kvs, h => by rw [h.inv0]; rfl
  | e :: tb, kvs, h => by
    obtain ⟨v, r, rfl, _, h2⟩ := h.inv
    rw [List.any_cons, List.any_cons, DkOk.any k h2]
    congr 1
    refine decide_eq_decide.mpr ⟨fun z => Sum.inl.inj z, fun z => by rw [z]⟩
theorem DkOk.get {Hf : Hp} (k : Int) : ∀ {tb : List (Int × PyData)} {kvs : List (Key × V)}, DkOk Hf kvs tb → (getT tb k = none → valV kvs (Sum.inl k) = none) ∧ ∀ d, getT tb k = some d → ∃ v, valV kvs (Sum.inl k) = some v ∧ Rep Hf v d
  | [], kvs, h => by rw [h.inv0]; exact ⟨fun _ => rfl, fun d z => nomatch z⟩
  | e :: tb, kvs, h => by
    obtain ⟨v, r, rfl, hv, h2⟩ := h.inv
    have ih := DkOk.get k h2
    by_cases hk : e.1 = k
    · have g : getT (e :: tb) k = some e.2 := by simp [getT, List.find?_cons, hk]
      rw [g]
      refine ⟨(fun z => nomatch z), fun d z => ?_⟩
      cases z
      exact ⟨v, valV_pos (by rw [hk]), hv⟩
    · have g : getT (e :: tb) k = getT tb k := by simp [getT, List.find?_cons, hk]
      rw [g, valV_neg (fun z => hk (Sum.inl.inj z))]
      exact ih
section
variable {Z : Ctx} {D : DE} {e f o a : Expr} {ρ : List Slot} {own oa ob : Own} {pos p tpos apos cpos : Pos} {q : Addr} {tb : List (Int × PyData)} {k : Int} {d d0 x : PyData} {n : Nat} {R : Slot → Own → Prop}
end
end Sd


namespace Sd
open PySem PySem.Spec PyProof.Rows L2
/-! displays of constants: the step over a constant is proved once, for any constant (quick) -/
section
variable {Z : Sd.Ctx} {ρ : List Slot} {own : Own} {es : List Expr} {s : Slot} {ss : List Slot} {p pos : Pos} {x1 : Nat}
theorem eb_k {x : Const} {j : Nat} (h : ES Z (.Constant x j p) ρ own s) (hr : EA Z es ρ own ss) : EA Z (.Constant x j p :: es) ρ own (s :: ss) := ea_cons h hr
theorem ed_lstB {ds : List PyData} (h : EA Z es ρ own ss) (e : ss = ds.map Slot.d) (hl : ds.length ≤ 1000) : ED Z (.List es pos) ρ own (.list ds) := ed_lst (ds := ds) (e ▸ h) hl
theorem ed_lb1 {x : PyData} (h : EA Z es ρ own [.d x]) : ED Z (.List es pos) ρ own (.list [x]) := ed_lst (ds := [x]) h
theorem ed_tb2 {x y : PyData} (h : EA Z es ρ own [.d x, .d y]) : ED Z (.Tuple es x1 pos) ρ own (.tuple [x, y]) := ed_tup (ds := [x, y]) h
theorem ed_k2 {i i' : Int} {j j' : Nat} {p' : Pos} : ED Z (.Tuple [.Constant (.int i) j p, .Constant (.int i') j' p'] x1 pos) ρ own (.tuple [.int i, .int i']) := by with_reducible exact ed_tb2 (eb_k ed_int (eb_k ed_int ea_nil))
theorem ed_k1 {i : Int} {j : Nat} : ED Z (.List [.Constant (.int i) j p] pos) ρ own (.list [.int i]) := by with_reducible exact ed_lb1 (eb_k ed_int ea_nil)
end
end Sd


/-! sorted of a list of lists of ints, len(set(..)) of a list of tuples of ints -/
namespace Sd
open PySem PySem.Spec PyProof.Rows L2
theorem alike_li (a b : List Int) : PySem.W.alike (li a) (li b) = true := by
  show PySem.W.alike (.list (a.map PyData.int)) (.list (b.map PyData.int)) = true
  simp only [PySem.W.alike]
  exact PySem.W.alike_ints a b
theorem each_rel {Pz : V → List Int → Prop} : ∀ {vs : List V} {its : List Value} {bs : List (List Int)}, Vals vs its → PySem.W.EachIs Pz vs bs → PySem.W.EachIs (fun v b => ∃ x, RelV x v ∧ Pz x b) its bs
  | _, _, _, .nil, .nil => .nil
  | _, _, _, .cons r t, .cons h u => .cons ⟨_, r, h⟩ (each_rel t u)
theorem rel_each {Pz : V → List Int → Prop} : ∀ {its : List Value} {bs : List (List Int)}, PySem.W.EachIs (fun v b => ∃ x, RelV x v ∧ Pz x b) its bs → ∃ vs, Vals vs its ∧ PySem.W.EachIs Pz vs bs
  | _, _, .nil => ⟨[], .nil, .nil⟩
  | _, _, .cons ⟨x, r, h⟩ t => by
    obtain ⟨vs, r1, h1⟩ := rel_each t
    exact ⟨x :: vs, .cons r r1, .cons h h1⟩
theorem cr_sortedLL {X : Cx} (hu : X.A.units + 64 < cLine) : CallR X (.builtin "sorted") (fun xs H Q => ∃ (a : Addr) (vs : List V) (bs : List (List Int)) (Pz : V → List Int → Prop), xs = [V.ref a] ∧ SqL X.K H a vs ∧ DpAll X.K H vs (bs.map li) ∧ PySem.W.EachIs Pz vs bs ∧ bs.length ≤ 1000 ∧ ∀ (vs' : List V) (p : Addr), PySem.W.EachIs Pz vs' (bs.mergeSort fun p q => decide (p ≤ q)) → H p = none → Q (.ref p) (upd H p (.lst vs'))) := by
  intro pins s σ H xs us Q I r h
  obtain ⟨a, vs, bs, Pz, rfl, hs, hd, hp, hlen, q⟩ := h
  obtain ⟨its, rv, pl, hz⟩ := I.list hs
  rw [Vals.ref1 r]
  obtain ⟨as, hr⟩ := Dp.readsAll I _ _ _ hd rv
  have er := PySem.W.readsAll_each li hr
  have hle : PySem.W.dataLe false li = fun p q => decide (p ≤ q) := PySem.W.dataLe_rows (β := List Int) id
  refine PySem.W.sorted_data (R := fun v b => ∃ x, RelV x v ∧ Pz x b) (enc := li) pl.isList (each_rel rv hp) er (PySem.W.AllAlike.of alike_li) (PySem.W.Sortable.others fun b => ⟨(by intro z; cases z), (by intro xs z; cases z)⟩) (Nat.le_trans hlen (by decide)) (fun b _ => ?_) fun out hol ho => ?_
  · have : (li b).depth = 1 := by
      show PyData.depth (.list (b.map PyData.int)) = 1
      rw [PyData.depth, PySem.W.depth_ints]
    omega
  · rw [hle] at ho
    obtain ⟨vs', r', h'⟩ := rel_each ho
    obtain ⟨ep, he'⟩ := PyProof.Rows.sortedAll_at s.heap its out.toArray
    have hlen' : vs'.length ≤ sizeLine := by rw [r'.length, hol]; exact Nat.le_trans hlen (by decide)
    exact ⟨.ref _, upd H (s.heap.objs.size + 1) (.lst vs'), I.laid (t' := s.toks) (fun _ _ => PyProof.Rows.sortedAll_old) (Nat.le_succ _) ⟨hlen', out, ep, r', he'⟩, rfl, q vs' _ h' (I.hok.fresh (Nat.le_succ _))⟩
theorem each_reps {H : Hp} : ∀ {vs : List V} {bs : List (List Int)}, Reps H vs (bs.map li) → PySem.W.EachIs (fun x b => Rep H x (li b)) vs bs
  | [], [], .nil => .nil
  | v :: vs, b :: bs, .cons h t => .cons h (each_reps t)
theorem reps_each {H : Hp} : ∀ {vs : List V} {bs : List (List Int)}, PySem.W.EachIs (fun x b => Rep H x (li b)) vs bs → Reps H vs (bs.map li)
  | _, _, .nil => .nil
  | _, _, .cons h t => .cons h (reps_each t)
section
variable {Z : Ctx} {e : Expr} {ρ : List Slot} {own : Own} {pos p p2 q : Pos} {k : Nat} {s : Slot}
theorem el_sortedLL {bs res : List (List Int)} (g : Gd Z k) (hm : Z.X.mg "sorted" = none) (h : ED Z e ρ own (.list (bs.map li))) (hl : bs.length ≤ 1000) (hr : (bs.mergeSort fun p q => decide (p ≤ q)) = res) (hg : Gl Z.X "sorted" := by rfl) (hs : starEach [e] Z.X.env = (false, eval e Z.X.env) :: starEach [] Z.X.env := by rfl) : EL Z (.Call (.Name "sorted" p) [e] [] pos) ρ own (res.map li) :=
  el_callB (cr_sortedLL g.hr.units) hg hm (by decide +kernel) (ea_cons h ea_nil hs) fun vs Hf H S r0 Q k => by
    obtain ⟨v, rfl, r⟩ := r0.one
    cases (show Rep Hf v (.list (bs.map li)) from r) with
    | @lst a xs _ h1 h2 =>
      refine ⟨a, xs, bs, fun x b => Rep Hf x (li b), rfl, SqL.of (S.e1 _ _ h1), ?_, each_reps h2, hl, fun vs' p h' hn => ?_⟩
      · have key : ∀ {vs : List V} {ds : List PyData}, Reps Hf vs ds → DpAll Z.X.K H vs ds := fun {vs ds} r => by
          induction ds generalizing vs with
          | nil => cases r; exact .nil
          | cons d ds ih =>
            cases r with
            | cons a b => exact .cons ((a.mono S.e1).dp) (ih b)
        exact key h2
      · rw [hr] at h'
        exact k p Hf _ (Same.refl _) (S.newOwn hn ⟨_, upd_same, reps_each h'⟩)
/-- len(set(xs)), xs tuples of ints, no two alike -/
theorem pe_lenST {X : Cx} {a : Expr} {ta : TE} (hc : X.calm = true) (hu : X.A.units + 64 < cLine) (hg : Gl X "len") (hm : X.mg "len" = none) (hg2 : Gl X "set") (hm2 : X.mg "set" = none) (ha : PE X a ta)
    (na : starEach [a] X.env = (false, eval a X.env) :: starEach [] X.env := by rfl) : PE X (.Call (.Name "len" p) [.Call (.Name "set" p2) [a] [] q] [] pos) (fun σ H Q => ta σ H fun x H1 => ∃ (l : Addr) (ks : List (Addr × List Int)), x = V.ref l ∧ SqL X.K H1 l (ks.map fun p => V.ref p.1) ∧ (∀ p ∈ ks, SqT X.K H1 p.1 (p.2.map V.int)) ∧ ks.length < 64 ∧ (ks.map (·.2)).Nodup ∧ Q (.int (ks.length : Nat)) H1) := by
  refine ⟨fun pins s σ H Q I h => Call_ (ld_blt I hg hm boot_len (PyProof.Rows.callWith_builtin1 (PyProof.Rows.args_cons (Call_ (ld_blt I hg2 hm2 boot_set (PyProof.Rows.callWith_type1 (PyProof.Rows.args_cons (thn (ha.run pins s σ H _ I h) fun v t hq => PyProof.Rows.args_nil ?_) na) na rfl))) rfl) rfl rfl))⟩
  obtain ⟨x, H1, J, r, l, ks, rfl, hl, hk, hf, hnd, hQ⟩ := hq
  cases r
  obtain ⟨its, rv, pl, _⟩ := J.list hl
  refine L2.call_set_tups (P := X.prog) (w := X.w) ks (J.ok.hd hc) pl.isList (by simpa using refs_of_vals rv) (fun p hp => J.isT (hk p hp)) hf (by omega) fun h' tk L es ep t' R g k => ?_
  have J2 : Inv X pins σ H1 { t with heap := h', toks := tk } := J.kept k
  obtain ⟨o, ho, hex, hd⟩ := R.ob
  have hes : es.size = L.length := by
    have := congrArg List.length R.rows
    unfold L2.rowsOf at this
    simpa using this
  have hLk : L.length = ks.length := by
    have h1 : L.length ≤ ks.length := g.len
    have h2 : ∀ {a b : List (List Int)}, a.Nodup → (∀ x ∈ a, x ∈ b) → a.length ≤ b.length := fun {a} => by
      induction a with
      | nil => intro b _ _; exact Nat.zero_le _
      | cons x a ih =>
        intro b hn hs
        rw [List.nodup_cons] at hn
        have hx := hs x List.mem_cons_self
        have := ih (b := b.erase x) hn.2 fun y hy => (List.mem_erase_of_ne (fun z => hn.1 (by rw [← z]; exact hy))).mpr (hs y (List.mem_cons_of_mem _ hy))
        rw [List.length_erase_of_mem hx] at this
        have := List.length_pos_of_mem hx
        rw [List.length_cons]
        omega
    have h3 := h2 hnd fun x hx => by
      obtain ⟨p, hp, rfl⟩ := List.mem_map.mp hx
      exact g.all p (by rw [List.take_length]; exact hp)
    rw [List.length_map, List.length_map] at h3
    omega
  exact PyProof.Rows.args_nil (call_len_set ho hex hd (L2.SetTR.fits (s := { t with heap := h', toks := tk }) R) (by omega) ⟨.int (ks.length : Nat), H1, J2.tok _, ⟨_, by rw [hes, hLk]⟩, hQ⟩)
theorem reps_ks {H : Hp} : ∀ {vs : List V} {ts : List (List Int)}, Reps H vs (ts.map fun t => PyData.tuple (t.map PyData.int)) → ∃ ks : List (Addr × List Int), vs = ks.map (fun p => V.ref p.1) ∧ ks.map (·.2) = ts ∧ ∀ p ∈ ks, H p.1 = some (.tup (p.2.map V.int))
  | [], [], .nil => ⟨[], rfl, rfl, fun p h => nomatch h⟩
  | v :: vs, t :: ts, .cons h r => by
    obtain ⟨ks, e1, e2, e3⟩ := reps_ks r
    cases h with
    | @tup a xs _ h1 h2 =>
      cases h2.of_ints
      exact ⟨(a, t) :: ks, by rw [e1]; rfl, by rw [List.map_cons, e2], fun p hp => by
        rcases List.mem_cons.mp hp with rfl | hp
        · exact h1
        · exact e3 p hp⟩
theorem ed_lensetT {ts : List (List Int)} (g : Gd Z k) (hm : Z.X.mg "len" = none) (hm2 : Z.X.mg "set" = none) (h : ED Z e ρ own (.list (ts.map fun t => PyData.tuple (t.map PyData.int)))) (hn : ts.length < 64) (hd : ts.Nodup) (hg : Gl Z.X "len" := by rfl) (hg2 : Gl Z.X "set" := by rfl) (hs : starEach [e] Z.X.env = (false, eval e Z.X.env) :: starEach [] Z.X.env := by rfl) :
    ED Z (.Call (.Name "len" p) [.Call (.Name "set" p2) [e] [] q] [] pos) ρ own (.int (ts.length : Nat)) := fun Hf σ H S E Q k => wE.of (pe_lenST g.calm g.hr.units hg hm hg2 hm2 peW hs) (h Hf σ H S E _ fun v Hf1 H1 m1 S1 r1 => by
  cases (show Rep Hf1 v (.list (ts.map fun t => PyData.tuple (t.map PyData.int))) from r1) with
  | @lst a xs _ h1 h2 =>
    obtain ⟨ks, rfl, e2, e3⟩ := reps_ks h2
    have el : ks.length = ts.length := by rw [← e2, List.length_map]
    refine ⟨a, ks, rfl, SqL.of (S1.e1 _ _ h1), fun p hp => SqT.of (S1.e1 _ _ (e3 p hp)), by omega, by rw [e2]; exact hd, ?_⟩
    rw [el]
    exact k _ Hf1 H1 m1 S1 (.int _))
end
end Sd


/-! plain defs (no defaults): what the binder makes, once for all -/
namespace Sd
open PySem PySem.Spec PyProof.Rows L2
def plainA (a : Arguments) (ps : List Str) : Bool := a.posonlyargs.isEmpty && (a.args.map (·.arg) == ps && (a.vararg.isNone && (a.kwonlyargs.isEmpty && (a.kwarg.isNone && decide ps.Nodup))))
theorem lookz_bind : ∀ {ps : List Str} {us : List Value}, us.length = ps.length → ∀ n ∈ ps, (List.lookup n (ps.zip us)).isSome = true
  | [], _, _, n, h => nomatch h
  | p :: ps, [], hl, _, _ => nomatch hl
  | p :: ps, u :: us, hl, n, h => by
    rw [List.zip_cons_cons, List.lookup_cons]
    split
    · rfl
    · rename_i hne
      rcases List.mem_cons.mp h with rfl | h
      · simp at hne
      · exact lookz_bind (by simpa using hl) n h
theorem fmc_bind {α β : Type} {f g : α → Option β} : ∀ {l : List α}, (∀ x ∈ l, f x = g x) → l.filterMap f = l.filterMap g
  | [], _ => rfl
  | x :: l, h => by rw [List.filterMap_cons, List.filterMap_cons, h x (.head _), fmc_bind fun y hy => h y (.tail _ hy)]
theorem mapz_bind : ∀ {ps : List Str} {us : List Value}, us.length = ps.length → ps.Nodup → ps.filterMap (fun n => (List.lookup n (ps.zip us)).map (Prod.mk n)) = ps.zip us
  | [], _, _, _ => rfl
  | p :: ps, [], hl, _ => nomatch hl
  | p :: ps, u :: us, hl, nd => by
    rw [List.nodup_cons] at nd
    rw [List.zip_cons_cons, List.filterMap_cons, List.lookup_cons]
    simp only [beq_self_eq_true, Option.map_some]
    congr 1
    refine Eq.trans ?_ (mapz_bind (ps := ps) (us := us) (by simpa using hl) nd.2)
    refine fmc_bind fun n hn => ?_
    rw [List.lookup_cons, beq_eq_false_iff_ne.mpr (show n ≠ p from fun e => nd.1 (by rw [← e]; exact hn))]
theorem bind_plain {fd : FuncData} {ps : List Str} {us : List Value} (h : plainA fd.params ps = true) (hd : fd.defaults = .none) (hl : us.length = ps.length) : bindArgs fd ⟨us, []⟩ = pure (ps.zip us) := by
  simp only [plainA, Bool.and_eq_true, List.isEmpty_iff, beq_iff_eq, Option.isNone_iff_eq_none, decide_eq_true_eq] at h
  obtain ⟨h1, h2, h3, h4, h5, nd⟩ := h
  have hm : (ps.filter fun n => (List.lookup n (ps.zip us)).isNone) = [] := List.filter_eq_nil_iff.mpr fun n hn => by
    have := lookz_bind hl n hn
    cases h : List.lookup n (ps.zip us) <;> simp_all
  have hz := mapz_bind hl nd
  have hq : seqItems? Value.none = pure none := rfl
  have hg : decide (us.length > ps.length) = false := decide_eq_false (by omega)
  unfold bindArgs
  simp only [h1, h2, h3, h4, h5, hd, hq, hg, List.map_nil, List.nil_append, List.append_nil, List.forIn_nil, pure_bind, Option.getD_none, List.drop_nil, List.length_nil, Nat.sub_zero, List.take_length, List.drop_length, List.zip_nil_right, hm, List.isEmpty_nil, Bool.not_true, Bool.false_and, Bool.false_eq_true, if_false]
  exact congrArg pure hz
theorem df_mk2 {K : PySem.W.Frag} {mg : Str → Option Value} {h : Heap} {z : Str} {st : Stmt} {ps : List Str} {f : Addr} {oc : Value} {od an : Option Addr} {sl : Array (Option Value)} {kV dc pm cd ct : Value} (X : K.In h) (G : h.Ns mainGlobals mg) (hb : plainA (defArgs st) ps = true)
    (a : PySem.W.nsIn K mainGlobals z = some (some (.ref f))) (l : K.lookup f = some ⟨oc, od, .func (PySem.W.fnOf z z (defArgs st) (defBody st) (defScope st) .none kV dc pm an cd ct), sl⟩) (c : PySem.W.codeIn K cd z = true) (k : PySem.W.keepIn K (.ref f) = true) : Df K mg z st ps :=
  df_mk X G (fun _ _ _ _ _ _ _ hl => bind_plain hb rfl hl) a l c k
end Sd


/-! sums, binomial laws -/
namespace Sd
end Sd


namespace Pg
open PySem PySem.Spec PyProof.Rows L2 Sd
def topS (i : Nat) : Stmt := PySem.Challenge.pw_samedays_k06_whole_reading.main.body.getD i (.Pass ⟨0, 0, 0, 0⟩)
abbrev s_is_int : Stmt := topS 9
theorem sc_is_int : FnScope ["value", "low", "high"] ["value", "low", "high"] (defScope s_is_int) := ⟨rfl, rfl, rfl, by decide +kernel, rfl, by decide +kernel, by decide +kernel⟩
theorem pa_is_int : plainA (defArgs s_is_int) ["value", "low", "high"] = true := by decide +kernel
abbrev s_common : Stmt := topS 10
theorem sc_common : FnScope ["one", "other"] ["one", "other"] (defScope s_common) := ⟨rfl, rfl, rfl, by decide +kernel, rfl, by decide +kernel, by decide +kernel⟩
theorem pa_common : plainA (defArgs s_common) ["one", "other"] = true := by decide +kernel
abbrev s_is_year : Stmt := topS 11
theorem sc_is_year : FnScope ["value", "one"] ["value"] (defScope s_is_year) := ⟨rfl, rfl, rfl, by decide +kernel, rfl, by decide +kernel, by decide +kernel⟩
theorem pa_is_year : plainA (defArgs s_is_year) ["value"] = true := by decide +kernel
abbrev s_is_share : Stmt := topS 12
theorem sc_is_share : FnScope ["value", "part"] ["value"] (defScope s_is_share) := ⟨rfl, rfl, rfl, by decide +kernel, rfl, by decide +kernel, by decide +kernel⟩
theorem pa_is_share : plainA (defArgs s_is_share) ["value"] = true := by decide +kernel
abbrev s_check_year : Stmt := topS 13
theorem sc_check_year : FnScope ["value"] ["value"] (defScope s_check_year) := ⟨rfl, rfl, rfl, by decide +kernel, rfl, by decide +kernel, by decide +kernel⟩
theorem pa_check_year : plainA (defArgs s_check_year) ["value"] = true := by decide +kernel
abbrev s_check_many : Stmt := topS 14
theorem sc_check_many : FnScope ["value"] ["value"] (defScope s_check_many) := ⟨rfl, rfl, rfl, by decide +kernel, rfl, by decide +kernel, by decide +kernel⟩
theorem pa_check_many : plainA (defArgs s_check_many) ["value"] = true := by decide +kernel
abbrev s_check_share : Stmt := topS 15
theorem sc_check_share : FnScope ["value"] ["value"] (defScope s_check_share) := ⟨rfl, rfl, rfl, by decide +kernel, rfl, by decide +kernel, by decide +kernel⟩
theorem pa_check_share : plainA (defArgs s_check_share) ["value"] = true := by decide +kernel
abbrev s_lowest : Stmt := topS 17
theorem sc_lowest : FnScope ["top", "below", "divisor"] ["top", "below"] (defScope s_lowest) := ⟨rfl, rfl, rfl, by decide +kernel, rfl, by decide +kernel, by decide +kernel⟩
theorem pa_lowest : plainA (defArgs s_lowest) ["top", "below"] = true := by decide +kernel
abbrev s_minus : Stmt := topS 18
theorem sc_minus : FnScope ["one", "other"] ["one", "other"] (defScope s_minus) := ⟨rfl, rfl, rfl, by decide +kernel, rfl, by decide +kernel, by decide +kernel⟩
theorem pa_minus : plainA (defArgs s_minus) ["one", "other"] = true := by decide +kernel
abbrev s_power : Stmt := topS 19
theorem sc_power : FnScope ["base", "exponent", "found", "turn"] ["base", "exponent"] (defScope s_power) := ⟨rfl, rfl, rfl, by decide +kernel, rfl, by decide +kernel, by decide +kernel⟩
theorem pa_power : plainA (defArgs s_power) ["base", "exponent"] = true := by decide +kernel
abbrev s_ordered : Stmt := topS 20
theorem sc_ordered : FnScope ["many", "found", "k"] ["many"] (defScope s_ordered) := ⟨rfl, rfl, rfl, by decide +kernel, rfl, by decide +kernel, by decide +kernel⟩
theorem pa_ordered : plainA (defArgs s_ordered) ["many"] = true := by decide +kernel
abbrev s_product_sums : Stmt := topS 21
theorem sc_product_sums : FnScope ["year", "found", "weight", "longer", "k"] ["year"] (defScope s_product_sums) := ⟨rfl, rfl, rfl, by decide +kernel, rfl, by decide +kernel, by decide +kernel⟩
theorem pa_product_sums : plainA (defArgs s_product_sums) ["year"] = true := by decide +kernel
abbrev s_root_of : Stmt := topS 23
theorem sc_root_of : FnScope ["number", "low", "high", "middle"] ["number"] (defScope s_root_of) := ⟨rfl, rfl, rfl, by decide +kernel, rfl, by decide +kernel, by decide +kernel⟩
theorem pa_root_of : plainA (defArgs s_root_of) ["number"] = true := by decide +kernel
abbrev s_two_days : Stmt := topS 24
theorem sc_two_days : FnScope ["chance", "top", "below", "whole", "first", "last", "high", "low", "pair"] ["chance"] (defScope s_two_days) := ⟨rfl, rfl, rfl, by decide +kernel, rfl, by decide +kernel, by decide +kernel⟩
theorem pa_two_days : plainA (defArgs s_two_days) ["chance"] = true := by decide +kernel
abbrev s_equal_days : Stmt := topS 25
theorem sc_equal_days : FnScope ["chance"] ["chance"] (defScope s_equal_days) := ⟨rfl, rfl, rfl, by decide +kernel, rfl, by decide +kernel, by decide +kernel⟩
theorem pa_equal_days : plainA (defArgs s_equal_days) ["chance"] = true := by decide +kernel
abbrev s_weights_with : Stmt := topS 26
theorem sc_weights_with : FnScope ["days", "whole"] ["days", "whole"] (defScope s_weights_with) := ⟨rfl, rfl, rfl, by decide +kernel, rfl, by decide +kernel, by decide +kernel⟩
theorem pa_weights_with : plainA (defArgs s_weights_with) ["days", "whole"] = true := by decide +kernel
abbrev s_rows_of : Stmt := topS 27
theorem sc_rows_of : FnScope ["days", "whole", "most", "found", "first", "rest"] ["days", "whole", "most"] (defScope s_rows_of) := ⟨rfl, rfl, rfl, by decide +kernel, rfl, by decide +kernel, by decide +kernel⟩
theorem pa_rows_of : plainA (defArgs s_rows_of) ["days", "whole", "most"] = true := by decide +kernel
abbrev s_unlike_of : Stmt := topS 29
theorem sc_unlike_of : FnScope ["year", "many", "sums"] ["year", "many"] (defScope s_unlike_of) := ⟨rfl, rfl, rfl, by decide +kernel, rfl, by decide +kernel, by decide +kernel⟩
theorem pa_unlike_of : plainA (defArgs s_unlike_of) ["year", "many"] = true := by decide +kernel
abbrev s_all_unlike : Stmt := topS 30
theorem sc_all_unlike : FnScope ["year", "many"] ["year", "many"] (defScope s_all_unlike) := ⟨rfl, rfl, rfl, by decide +kernel, rfl, by decide +kernel, by decide +kernel⟩
theorem pa_all_unlike : plainA (defArgs s_all_unlike) ["year", "many"] = true := by decide +kernel
abbrev s_some_same : Stmt := topS 31
theorem sc_some_same : FnScope ["year", "many"] ["year", "many"] (defScope s_some_same) := ⟨rfl, rfl, rfl, by decide +kernel, rfl, by decide +kernel, by decide +kernel⟩
theorem pa_some_same : plainA (defArgs s_some_same) ["year", "many"] = true := by decide +kernel
abbrev s_plain : Stmt := topS 33
theorem sc_plain : FnScope ["year", "divisor", "weight"] ["year"] (defScope s_plain) := ⟨rfl, rfl, rfl, by decide +kernel, rfl, by decide +kernel, by decide +kernel⟩
theorem pa_plain : plainA (defArgs s_plain) ["year"] = true := by decide +kernel
abbrev s_law_start : Stmt := topS 35
theorem sc_law_start : FnScope ["script"] ["script"] (defScope s_law_start) := ⟨rfl, rfl, rfl, by decide +kernel, rfl, by decide +kernel, by decide +kernel⟩
theorem pa_law_start : plainA (defArgs s_law_start) ["script"] = true := by decide +kernel
abbrev s_law_draw : Stmt := topS 36
theorem sc_law_draw : FnScope ["draws", "limit", "numbers", "at", "cell", "mixed"] ["draws", "limit"] (defScope s_law_draw) := ⟨rfl, rfl, rfl, by decide +kernel, rfl, by decide +kernel, by decide +kernel⟩
theorem pa_law_draw : plainA (defArgs s_law_draw) ["draws", "limit"] = true := by decide +kernel
abbrev s_law_pick : Stmt := topS 37
theorem sc_law_pick : FnScope ["draws", "choices"] ["draws", "choices"] (defScope s_law_pick) := ⟨rfl, rfl, rfl, by decide +kernel, rfl, by decide +kernel, by decide +kernel⟩
theorem pa_law_pick : plainA (defArgs s_law_pick) ["draws", "choices"] = true := by decide +kernel
abbrev s_law_error : Stmt := topS 38
theorem sc_law_error : FnScope ["caught", "kinds"] ["caught"] (defScope s_law_error) := ⟨rfl, rfl, rfl, by decide +kernel, rfl, by decide +kernel, by decide +kernel⟩
theorem pa_law_error : plainA (defArgs s_law_error) ["caught"] = true := by decide +kernel
abbrev s_law_low : Stmt := topS 39
theorem sc_law_low : FnScope ["top", "under", "one", "other"] ["top", "under"] (defScope s_law_low) := ⟨rfl, rfl, rfl, by decide +kernel, rfl, by decide +kernel, by decide +kernel⟩
theorem pa_law_low : plainA (defArgs s_law_low) ["top", "under"] = true := by decide +kernel
abbrev s_law_call : Stmt := topS 40
theorem sc_law_call : FnScope ["kind", "chance_here", "found", "caught", "e"] ["kind", "chance_here"] (defScope s_law_call) := ⟨rfl, rfl, rfl, by decide +kernel, rfl, by decide +kernel, by decide +kernel⟩
theorem pa_law_call : plainA (defArgs s_law_call) ["kind", "chance_here"] = true := by decide +kernel
abbrev s_law : Stmt := topS 41
theorem sc_law : FnScope ["script", "draws", "under", "one", "weights", "chance_here", "good", "high", "low", "size", "days_here", "whole", "told", "known", "j", "fresh", "k", "year"] ["script"] (defScope s_law) := ⟨rfl, rfl, rfl, by decide +kernel, rfl, by decide +kernel, by decide +kernel⟩
theorem pa_law : plainA (defArgs s_law) ["script"] = true := by decide +kernel
structure Tx (K : PySem.W.Frag) (mg : Str → Option Value) (c : Cl) : Prop where
  e_DayError : ErrC K mg "DayError" c.DayError
  e_BadYear : ErrC K mg "BadYear" c.BadYear
  e_BadDay : ErrC K mg "BadDay" c.BadDay
  e_BadNumber : ErrC K mg "BadNumber" c.BadNumber
  e_BadShare : ErrC K mg "BadShare" c.BadShare
  e_BadText : ErrC K mg "BadText" c.BadText
  e_NotFound : ErrC K mg "NotFound" c.NotFound
  k_MOST_THINGS : ∃ t, mg "MOST_THINGS" = some (.int 12 t)
  d_is_int : Df K mg "is_int" s_is_int ["value", "low", "high"]
  d_common : Df K mg "common" s_common ["one", "other"]
  d_is_year : Df K mg "is_year" s_is_year ["value"]
  d_is_share : Df K mg "is_share" s_is_share ["value"]
  d_check_year : Df K mg "check_year" s_check_year ["value"]
  d_check_many : Df K mg "check_many" s_check_many ["value"]
  d_check_share : Df K mg "check_share" s_check_share ["value"]
  d_lowest : Df K mg "lowest" s_lowest ["top", "below"]
  d_minus : Df K mg "minus" s_minus ["one", "other"]
  d_power : Df K mg "power" s_power ["base", "exponent"]
  d_ordered : Df K mg "ordered" s_ordered ["many"]
  d_product_sums : Df K mg "product_sums" s_product_sums ["year"]
  d_root_of : Df K mg "root_of" s_root_of ["number"]
  d_two_days : Df K mg "two_days" s_two_days ["chance"]
  d_equal_days : Df K mg "equal_days" s_equal_days ["chance"]
  d_weights_with : Df K mg "weights_with" s_weights_with ["days", "whole"]
  d_rows_of : Df K mg "rows_of" s_rows_of ["days", "whole", "most"]
  d_unlike_of : Df K mg "unlike_of" s_unlike_of ["year", "many"]
  d_all_unlike : Df K mg "all_unlike" s_all_unlike ["year", "many"]
  d_some_same : Df K mg "some_same" s_some_same ["year", "many"]
  d_plain : Df K mg "plain" s_plain ["year"]
  d_law_start : Df K mg "_law_start" s_law_start ["script"]
  d_law_draw : Df K mg "_law_draw" s_law_draw ["draws", "limit"]
  d_law_pick : Df K mg "_law_pick" s_law_pick ["draws", "choices"]
  d_law_error : Df K mg "_law_error" s_law_error ["caught"]
  d_law_low : Df K mg "_law_low" s_law_low ["top", "under"]
  d_law_call : Df K mg "_law_call" s_law_call ["kind", "chance_here"]
  d_law : Df K mg "law" s_law ["script"]
  q_BadYear : ErrK K c.BadYear c.BadYear c.BadDay c.BadNumber c.BadShare c.BadText c.NotFound c.DayError true false false false false false
  q_BadDay : ErrK K c.BadDay c.BadYear c.BadDay c.BadNumber c.BadShare c.BadText c.NotFound c.DayError false true false false false false
  q_BadNumber : ErrK K c.BadNumber c.BadYear c.BadDay c.BadNumber c.BadShare c.BadText c.NotFound c.DayError false false true false false false
  q_BadShare : ErrK K c.BadShare c.BadYear c.BadDay c.BadNumber c.BadShare c.BadText c.NotFound c.DayError false false false true false false
  q_BadText : ErrK K c.BadText c.BadYear c.BadDay c.BadNumber c.BadShare c.BadText c.NotFound c.DayError false false false false true false
  q_NotFound : ErrK K c.NotFound c.BadYear c.BadDay c.BadNumber c.BadShare c.BadText c.NotFound c.DayError false false false false false true
  n_isinstance : mg "isinstance" = none
  n_int : mg "int" = none
  n_bool : mg "bool" = none
  n_all : mg "all" = none
  n_list : mg "list" = none
  n_len : mg "len" = none
  n_tuple : mg "tuple" = none
  n_abs : mg "abs" = none
  n_range : mg "range" = none
  n_min : mg "min" = none
  n_sum : mg "sum" = none
  n_ValueError : mg "ValueError" = none
  n_sorted : mg "sorted" = none
  n_set : mg "set" = none
end Pg

namespace Pg
open PySem PySem.Spec PyProof.Rows L2 Sd
section
variable {P : Program} {w : World} {K : PySem.W.Frag} {mg : Str → Option Value} {base : Heap} {c : Cl}
def pre_is_int : Pr := fun ss own post => ∃ x lo hi, ss = [.d x, .d (.int lo), .d (.int hi)] ∧ own = [] ∧ post = fun o => o = .ret (.d (.bool (isInt x lo hi))) []
theorem fn_is_int (T : Tx K mg c) : Fn K mg P w base "is_int" ["value", "low", "high"] 1 pre_is_int := T.d_is_int.fn fun f fd F => okG (k := 0) F sc_is_int (by rintro ss own post ⟨x, lo, hi, rfl, _⟩; rfl) (by
  rintro ss own post ⟨x, lo, hi, rfl, rfl, rfl⟩ cdv A outer s H E B g
  refine sds_nd 0 rfl fun hx => ?_
  have hx := hx.1
  refine sds_one (sd_retD (x := .bool (isInt x lo hi)) (ES.is (ed_and (l := isInt x lo hi) (ed_isi (x := x) (l := (kitB (tyD x) "int").getD false) T.n_isinstance (ed_v 0) .d (ev_ty (T := "int") rfl T.n_int (by decide +kernel)) ?_) fun hk => ?_) ?_) rfl)
  · cases x <;> first | rfl | exact absurd rfl (hx _)
  · refine ES.is (ed_and (l := isInt x lo hi) (ed_not (ed_isi (x := x) (l := (kitB (tyD x) "bool").getD false) T.n_isinstance (ed_v 0) .d (ev_ty (T := "bool") rfl T.n_bool (by decide +kernel)) ?_)) fun hk2 => ed_one ?_) ?_
    · cases x <;> first | rfl | exact absurd rfl (hx _)
    · cases x with
      | int i => exact ed_chain c_le c_le (ed_v 1) (ed_v 0) (ed_v 2)
      | bool b => exact nomatch (show false = true from hk2)
      | none => exact nomatch (show false = true from hk)
      | str z => exact nomatch (show false = true from hk)
      | list z => exact nomatch (show false = true from hk)
      | tuple z => exact nomatch (show false = true from hk)
      | dict z => exact absurd rfl (hx z)
    · cases x <;> first | rfl | exact nomatch (show false = true from hk) | exact absurd rfl (hx _)
  · cases x <;> first | rfl | exact absurd rfl (hx _))
end
end Pg

namespace Pg
open PySem PySem.Spec PyProof.Rows L2 Sd
section
variable {P : Program} {w : World} {K : PySem.W.Frag} {mg : Str → Option Value} {base : Heap} {c : Cl}
def pre_check_many (c : Cl) : Pr := fun ss own post => ∃ x : PyData, ss = [.d x] ∧ own = [] ∧ post = fun o => o = if isInt x 0 12 = true then .ret (.d .none) [] else .exc c.BadNumber []
theorem fn_check_many (T : Tx K mg c) : Fn K mg P w base "check_many" ["value"] 2 (pre_check_many c) := T.d_check_many.fn fun f fd F => okG (k := 1) F sc_check_many (by rintro ss own post ⟨x, rfl, _⟩; rfl) (by
  rintro ss own post ⟨x, rfl, rfl, rfl⟩ cdv A outer s H E B g
  obtain ⟨t, hm⟩ := T.k_MOST_THINGS
  refine sds_one (sd_if (et_not (et_val (es_call (fn_is_int T) g (by decide) (ea_cons (ed_v 0) (ea_cons ed_int (ea_cons (ed_glob rfl hm) ea_nil))) ⟨x, _, _, rfl, rfl, rfl⟩))) (fun h => ?_) fun h => ?_)
  · refine sds_one (sd_raise g T.e_BadNumber ?_)
    show Out.exc c.BadNumber [] = _
    rw [if_neg (by simpa using h)]
  · refine sds_nil ?_
    show Out.ret (.d .none) [] = _
    rw [if_pos (by simpa using h)])
theorem ok_many {c : Cl} {n : Int} (h : 0 ≤ n ∧ n ≤ 12) : pre_check_many c [.d (.int n)] [] (fun o => o = .ret (.d .none) []) := ⟨.int n, rfl, rfl, by
  rw [if_pos]
  simp [Sd.isInt, h.1, h.2]⟩
end
end Pg

namespace Pg
open PySem PySem.Spec PyProof.Rows L2 Sd
section
variable {P : Program} {w : World} {K : PySem.W.Frag} {mg : Str → Option Value} {base : Heap} {c : Cl}
def pre_is_year : Pr := fun ss own post => ∃ x, ss = [.d x] ∧ own = [] ∧ post = fun o => o = .ret (.d (.bool (isYear x))) []
theorem fn_is_year (T : Tx K mg c) : Fn K mg P w base "is_year" ["value"] 2 pre_is_year := T.d_is_year.fn fun f fd F => okG (k := 1) F sc_is_year (by rintro ss own post ⟨x, rfl, _⟩; rfl) (by
  rintro ss own post ⟨x, rfl, rfl, rfl⟩ cdv A outer s H E B g
  refine sds_nd 0 rfl fun hx => ?_
  have hx := hx.1
  by_cases hl : ∃ ds, x = .list ds
  · obtain ⟨ds, rfl⟩ := hl
    refine sds_cons (sd_if (l := !(decide (1 ≤ (ds.length : Int)) && decide ((ds.length : Int) ≤ 8))) (ET.is (EW.et (ew_or (et_not (et_val (ed_isi (x := .list ds) (l := true) T.n_isinstance (ed_v 0) .d (ev_ty (T := "list") rfl T.n_list (by decide +kernel)) rfl))) fun _ => ew_or1 (et_not (et_chain c_le c_le ed_int (ed_len T.n_len (ed_v 0) .d) ed_int)))) (by simp)) (fun h => ?_) fun h => ?_)
    · refine sds_one (sd_retD ed_bl ?_)
      have : isYear (.list ds) = false := by
        unfold isYear
        simp only [Bool.not_eq_true', Bool.and_eq_false_iff] at h ⊢
        exact .inl h
      rw [this]
    · have h : (decide (1 ≤ (ds.length : Int)) && decide ((ds.length : Int) ≤ 8)) = true := by simpa using h
      have hlen : ds.length ≤ 8 := by simp at h; omega
      refine sds_nil (sds_one (sd_retD (ed_all (ns := ds.map fun d => isInt d 1 20) g T.n_all (EL.ed (ds := (ds.map fun d => isInt d 1 20).map PyData.bool) (EL.is (el_comp g (compP g (it_list (ed_v 0)) [("one", 1)] (blkOk_by (N := ["value", "one"]) (sc := defScope s_is_year) (by decide +kernel)) ds id (by simp) (fun d => some (.bool (isInt d 1 20))) (fun d => [.d (.list ds), .d d]) [1] (by simp) (by omega) (fun _ _ => trivial)
        (fun d _ s H C cl fp g' => gt_name 1 g'.nd) (fun d _ s H C cl fp o g' => ets_nil) (fun d _ x hx s H C cl fp o g' => ?_))) ?_)) .d) ?_))
      · cases hx
        exact es_call (fn_is_int T) g' (by decide) (ea_cons (ed_v 1) (ea_cons ed_int (ea_cons ed_int ea_nil))) ⟨d, 1, 20, rfl, rfl, rfl⟩
      · rw [List.map_map]
        exact List.filterMap_eq_map' .. |>.symm ▸ rfl
      · show Out.ret (.d (.bool ((ds.map fun d => isInt d 1 20).all id))) [] = Out.ret (.d (.bool (isYear (.list ds)))) []
        have e : isYear (.list ds) = (decide (1 ≤ (ds.length : Int)) && decide ((ds.length : Int) ≤ 8) && (ds.map fun d => isInt d 1 20).all id) := rfl
        rw [e, h, Bool.true_and]
  · have hk : kitB (tyD x) "list" = some false := by
      cases x <;> first | rfl | exact absurd ⟨_, rfl⟩ hl | exact absurd rfl (hx _)
    refine sds_cons (sd_if (l := true) (EW.et (ew_or (k := true) (l := true) (et_not (k := false) (et_val (ed_isi (x := x) (l := false) T.n_isinstance (ed_v 0) .d (ev_ty (T := "list") rfl T.n_list (by decide +kernel)) hk))) fun h => nomatch h)) (fun h => ?_) fun h => nomatch h)
    refine sds_one (sd_retD ed_bl ?_)
    cases x <;> first | rfl | exact absurd ⟨_, rfl⟩ hl)
end
end Pg

namespace Pg
open PySem PySem.Spec PyProof.Rows L2 Sd
section
variable {P : Program} {w : World} {K : PySem.W.Frag} {mg : Str → Option Value} {base : Heap} {c : Cl}
def pre_check_year (c : Cl) : Pr := fun ss own post => ∃ x, ss = [.d x] ∧ own = [] ∧ post = fun o => o = if isYear x = true then .ret (.d .none) [] else .exc c.BadYear []
theorem fn_check_year (T : Tx K mg c) : Fn K mg P w base "check_year" ["value"] 3 (pre_check_year c) := T.d_check_year.fn fun f fd F => okG (k := 2) F sc_check_year (by rintro ss own post ⟨x, rfl, _⟩; rfl) (by
  rintro ss own post ⟨x, rfl, rfl, rfl⟩ cdv A outer s H E B g
  refine sds_one (sd_if (et_not (et_val (es_call (fn_is_year T) g (by decide) (ea_cons (ed_v 0) ea_nil) ⟨x, rfl, rfl, rfl⟩))) (fun h => ?_) fun h => ?_)
  · refine sds_one (sd_raise g T.e_BadYear ?_)
    show Out.exc c.BadYear [] = _
    rw [if_neg (by simpa using h)]
  · refine sds_nil ?_
    show Out.ret (.d .none) [] = _
    rw [if_pos (by simpa using h)])
/-- a year is checked -/
theorem ok_year {c : Cl} {ys : List Int} (h : Yr ys) : pre_check_year c [.d (li ys)] [] (fun o => o = .ret (.d .none) []) := ⟨li ys, rfl, rfl, by rw [if_pos h.is]⟩
end
end Pg

namespace Pg
open PySem PySem.Spec PyProof.Rows L2 Sd
section
variable {P : Program} {w : World} {K : PySem.W.Frag} {mg : Str → Option Value} {base : Heap} {c : Cl}
def pre_common : Pr := fun ss own post => ∃ a b : Int, ss = [.d (.int a), .d (.int b)] ∧ own = [] ∧ 0 ≤ a ∧ 0 ≤ b ∧ post = fun o => o = .ret (.d (.int (Int.gcd a b : Nat))) []
theorem fn_common (T : Tx K mg c) : Fn K mg P w base "common" ["one", "other"] 1 pre_common := T.d_common.fn fun f fd F => okG (k := 0) F sc_common (by rintro ss own post ⟨a, b, rfl, _⟩; rfl) (by
  rintro ss own post ⟨a, b, rfl, rfl, ha, hb, rfl⟩ cdv A outer s H E B g
  refine sds_cons (sd_while g (fun m ρ own => ∃ x y : Int, 0 ≤ x ∧ 0 ≤ y ∧ ρ = [.d (.int x), .d (.int y)] ∧ own = [] ∧ Int.gcd x y = Int.gcd a b ∧ m = y.toNat) b.toNat ⟨a, b, ha, hb, rfl, rfl, rfl, rfl⟩ ?_)
  rintro m ρ1 own1 ⟨x, y, hx, hy, rfl, rfl, e, rfl⟩
  refine ⟨_, et_cmp c_neI (ed_v 1) ed_int, fun h => ?_, fun h => ?_⟩
  · have h0 : 0 < y := by
      have : y ≠ 0 := fun z => by subst z; simp at h
      omega
    refine sds_one (sd_par 0 1 g (ea_cons (ed_v 1) (ea_cons (ed_mod (ed_v 0) (ed_v 1) h0) ea_nil)) ?_)
    have h1 := Int.emod_nonneg x (Int.ne_of_gt h0)
    have h2 := Int.emod_lt_of_pos x h0
    exact ⟨(x % y).toNat, by omega, y, x % y, hy, h1, rfl, rfl, (gcd_step x y hx h0).trans e, rfl⟩
  · have h0 : y = 0 := by simpa using h
    subst h0
    refine sds_one (sd_retD (ed_v 0) ?_)
    show Out.ret (.d (.int x)) [] = Out.ret (.d (.int (Int.gcd a b : Nat))) []
    rw [← e, Int.gcd_zero_right, Int.natAbs_of_nonneg hx])
end
end Pg

namespace Pg
open PySem PySem.Spec PyProof.Rows L2 Sd
section
variable {P : Program} {w : World} {K : PySem.W.Frag} {mg : Str → Option Value} {base : Heap} {c : Cl}
def pre_lowest : Pr := fun ss own post => ∃ a b : Int, ss = [.d (.int a), .d (.int b)] ∧ own = [] ∧ 0 < b ∧ Sz 8999 b ∧ post = fun o => o = .ret (.d (fr ((a : Rat) / b))) []
theorem fn_lowest (T : Tx K mg c) : Fn K mg P w base "lowest" ["top", "below"] 2 pre_lowest := T.d_lowest.fn fun f fd F => okG (k := 1) F sc_lowest (by rintro ss own post ⟨a, b, rfl, _⟩; rfl) (by
  rintro ss own post ⟨a, b, rfl, rfl, hb, hz, rfl⟩ cdv A outer s H E B g
  have eg : Int.gcd (if a < 0 then -a else a) b = Int.gcd a b := by
    split
    · rw [Int.gcd_comm, Int.gcd_neg, Int.gcd_comm]
    · rfl
  refine sds_cons (sd_set 2 g.nd (es_call (fn_common T) g (by decide) (ea_cons (ed_abs T.n_abs (ed_v 0)) (ea_cons (ed_v 1) ea_nil)) ⟨_, _, rfl, rfl, by split <;> omega, by omega, rfl⟩) ?_)
  rw [eg]
  have g0 : (0 : Int) < (Int.gcd a b : Nat) := by
    have := Int.gcd_pos_of_ne_zero_right a (show b ≠ 0 by omega)
    omega
  have gz : Sz 8999 (Int.gcd a b : Nat) := by
    have := Int.gcd_le_natAbs_right (a := a) (show b ≠ 0 by omega)
    unfold Sz at *
    rw [Int.natAbs_natCast]
    omega
  refine sds_one (sd_retD (ed_tup (ds := [_, _]) (ea_cons (ed_fdiv (ed_v 0) (ed_v 2) (cdiv_of g0 gz (by decide))) (ea_cons (ed_fdiv (ed_v 1) (ed_v 2) (cdiv_of g0 gz (by decide))) ea_nil))) ?_)
  show Out.ret (.d (.tuple [.int (a / (Int.gcd a b : Nat)), .int (b / (Int.gcd a b : Nat))])) [] = _
  rw [fr_low a b hb])
end
end Pg

namespace Pg
open PySem PySem.Spec PyProof.Rows L2 Sd
section
variable {P : Program} {w : World} {K : PySem.W.Frag} {mg : Str → Option Value} {base : Heap} {c : Cl}
def fac : Nat → Nat
  | 0 => 1
  | n + 1 => (n + 1) * fac n
theorem fac_sz : ∀ n : Nat, n ≤ 12 → Sz 30 (fac n : Nat) := by
  have h : ∀ n : Nat, n ≤ 12 → fac n < 2 ^ 30 := by decide
  intro n hn
  unfold Sz
  rw [Int.natAbs_natCast]
  exact h n hn
def pre_ordered : Pr := fun ss own post => ∃ n : Nat, ss = [.d (.int (n : Int))] ∧ own = [] ∧ n ≤ 12 ∧ post = fun o => o = .ret (.d (.int (fac n : Nat))) []
theorem fn_ordered (T : Tx K mg c) : Fn K mg P w base "ordered" ["many"] 1 pre_ordered := T.d_ordered.fn fun f fd F => okG (k := 0) F sc_ordered (by rintro ss own post ⟨n, rfl, _⟩; rfl) (by
  rintro ss own post ⟨n, rfl, rfl, hn, rfl⟩ cdv A outer s H E B g
  refine sds_cons (sd_set 1 g.nd ed_int ?_)
  refine sds_cons (sd_for g (it_range2 T.n_range ed_int (ed_add (ed_v 0) ed_int) ⟨by omega, by omega, by omega, by omega⟩) (fun i ρ own => own = [] ∧ ∃ t, ρ = [.d (.int (n : Int)), .d (.int (fac (i + 1) : Nat)), t]) ⟨rfl, _, rfl⟩ (fun _ _ _ _ => trivial) ?_ ?_)
  · rintro i y ρ1 own1 hy ⟨rfl, t, rfl⟩
    obtain ⟨hi, rfl⟩ := rng_get hy
    have hi : i + 1 < n := by omega
    refine ⟨_, _, gt_name 2 g.nd, sds_one (sd_aug 1 iop_mulW g.nd rfl (ed_v 2) (cmul_of (fac_sz (i + 1) (by omega)) (b := 4) (by unfold Sz; omega) (by decide)) ?_)⟩
    refine ⟨rfl, .d (.int (2 + (i : Int))), ?_⟩
    have e : ((fac (i + 1) : Nat) : Int) * (2 + (i : Int)) = (fac (i + 1 + 1) : Nat) := by
      show _ = (((i + 1 + 1) * fac (i + 1) : Nat) : Int)
      rw [Int.natCast_mul, Int.mul_comm]
      congr 1
      omega
    rw [e]
    rfl
  · rintro ρ1 own1 ⟨rfl, t, rfl⟩
    rw [rng_length]
    refine sds_one (sd_retD (ed_v 1) ?_)
    show Out.ret (.d (.int (fac (((n : Int) + 1 - 2).toNat + 1) : Nat))) [] = _
    have e : fac (((n : Int) + 1 - 2).toNat + 1) = fac n := by
      cases n with
      | zero => rfl
      | succ m =>
        rw [show (((m + 1 : Nat) : Int) + 1 - 2).toNat = m by omega]
    rw [e])
end
end Pg

namespace Pg
open PySem PySem.Spec PyProof.Rows L2 Sd
section
variable {P : Program} {w : World} {K : PySem.W.Frag} {mg : Str → Option Value} {base : Heap} {c : Cl}
def pre_power : Pr := fun ss own post => ∃ (b : Int) (n k : Nat), ss = [.d (.int b), .d (.int (n : Int))] ∧ own = [] ∧ Sz k b ∧ n ≤ 1000 ∧ k ≤ 100 ∧ post = fun o => o = .ret (.d (.int (b ^ n))) []
theorem fn_power (T : Tx K mg c) : Fn K mg P w base "power" ["base", "exponent"] 1 pre_power := T.d_power.fn fun f fd F => okG (k := 0) F sc_power (by rintro ss own post ⟨b, n, k, rfl, _⟩; rfl) (by
  rintro ss own post ⟨b, n, k, rfl, rfl, hb, hn, hk, rfl⟩ cdv A outer s H E B g
  refine sds_cons (sd_set 2 g.nd ed_int ?_)
  refine sds_cons (sd_for g (it_range1 T.n_range (ed_v 1) ⟨by omega, by omega⟩) (fun i ρ own => own = [] ∧ ∃ t, ρ = [.d (.int b), .d (.int (n : Int)), .d (.int (b ^ i)), t]) ⟨rfl, _, by rw [Int.pow_zero]; rfl⟩ (fun _ _ _ _ => trivial) ?_ ?_)
  · rintro i y ρ1 own1 hy ⟨rfl, t, rfl⟩
    obtain ⟨hi, rfl⟩ := rng_get hy
    have hi : i < n := by omega
    refine ⟨_, _, gt_name 3 g.nd, sds_one (sd_aug 2 iop_mulW g.nd rfl (ed_v 0) (cmul_of (hb.pow i) hb ?_) ?_)⟩
    · have : k * i ≤ 100 * 1000 := Nat.mul_le_mul hk (by omega)
      omega
    · exact ⟨rfl, _, by rw [Int.pow_succ]; rfl⟩
  · rintro ρ1 own1 ⟨rfl, t, rfl⟩
    rw [rng_length]
    refine sds_one (sd_retD (ed_v 2) ?_)
    show Out.ret (.d (.int (b ^ (n : Int).toNat))) [] = _
    rw [Int.toNat_natCast])
end
end Pg

namespace Pg
open PySem PySem.Spec PyProof.Rows L2 Sd
section
variable {P : Program} {w : World} {K : PySem.W.Frag} {mg : Str → Option Value} {base : Heap} {c : Cl}
def psK (f : List Int) (y : Int) : Nat → List Int
  | 0 => f ++ [0]
  | k + 1 => (psK f y k).set (k + 1) ((psK f y k).getD (k + 1) 0 + f.getD k 0 * y)
def psS (f : List Int) (y : Int) : List Int := psK f y f.length
def psums (ys : List Int) : List Int := ys.foldl psS [1]
theorem psK_len (f : List Int) (y : Int) : ∀ k, (psK f y k).length = f.length + 1
  | 0 => by simp [psK]
  | k + 1 => by rw [psK, List.length_set, psK_len f y k]
theorem fold_len : ∀ (ys f : List Int), (ys.foldl psS f).length = f.length + ys.length
  | [], f => rfl
  | y :: ys, f => by
    rw [List.foldl_cons, fold_len ys, psS, psK_len, List.length_cons]
    omega
theorem psums_len (ys : List Int) : (psums ys).length = ys.length + 1 := by
  rw [psums, fold_len]
  simp
  omega
theorem psums_take {ys : List Int} {i : Nat} {y : Int} (h : ys[i]? = some y) : psums (ys.take (i + 1)) = psS (psums (ys.take i)) y := by
  unfold psums
  rw [List.take_add_one, h, List.foldl_append]
  rfl
def pre_product_sums : Pr := fun ss own post => ∃ ys : List Int, ss = [.d (li ys)] ∧ own = [] ∧ Yr ys ∧ post = fun o => o = .ret (.d (li (psums ys))) []
theorem fn_product_sums (T : Tx K mg c) : Fn K mg P w base "product_sums" ["year"] 1 pre_product_sums := T.d_product_sums.fn fun f fd F => okG (k := 0) F sc_product_sums (by rintro ss own post ⟨n, rfl, _⟩; rfl) (by
  rintro ss own post ⟨ys, rfl, rfl, hY, rfl⟩ cdv A outer s H E B g
  have hl := hY.hi
  refine sds_cons (sd_setL 1 g.nd (el_lst (ds := [.int 1]) (ea_cons ed_int ea_nil)) fun p0 => ?_)
  refine sds_freeze 1 (oa := []) rfl ?_
  refine sds_cons (sd_for g (it_list (ed_v 0)) (fun i ρ own => own = [] ∧ ∃ t2 t3 t4, ρ = [.d (li ys), .d (li (psums (ys.take i))), t2, t3, t4]) ⟨rfl, _, _, _, rfl⟩ (fun _ _ _ _ => trivial) ?_ ?_)
  · rintro i y ρ1 own1 hy ⟨rfl, t2, t3, t4, rfl⟩
    rw [List.getElem?_map] at hy
    cases ea : ys[i]? with
    | none => rw [ea] at hy; cases hy
    | some y' =>
      rw [ea] at hy
      cases hy
      have hm : y' ∈ ys := List.mem_of_getElem? ea
      have hy := hY.it _ hm
      have hi := (List.getElem?_eq_some_iff.mp ea).1
      have hfl : (psums (ys.take i)).length ≤ 9 := by
        rw [psums_len, List.length_take]
        omega
      rw [psums_take ea]
      generalize psums (ys.take i) = f at hfl ⊢
      refine ⟨_, _, gt_name 2 g.nd, ?_⟩
      refine sds_cons (sd_setL 3 g.nd (el_cat (ed_v 1) (ed_k1 (i := 0)) .d .d (by simp; omega)) fun p => ?_)
      refine sds_cons (sd_for g (it_range1 T.n_range (ed_len T.n_len (ed_v 1) .d) ⟨by rw [List.length_map]; omega, by rw [List.length_map]; omega⟩) (fun j ρ own => own = [(p, .lst ((psK f y' j).map PyData.int))] ∧ ∃ t4, ρ = [.d (li ys), .d (li f), .d (.int y'), .raw (.ref p), t4]) ⟨by rw [psK, List.map_append]; rfl, _, rfl⟩ (fun _ _ _ _ => trivial) ?_ ?_)
      · rintro j yy ρ2 own2 hyy ⟨rfl, t4, rfl⟩
        obtain ⟨hj, rfl⟩ := rng_get hyy
        have hj : j < f.length := by
          rw [List.length_map] at hj
          omega
        have e1 : f[j]? = some (f.getD j 0) := by
          rw [List.getD_eq_getElem?_getD, List.getElem?_eq_getElem hj]
          rfl
        have hjk : j + 1 < (psK f y' j).length := by
          rw [psK_len]
          omega
        have e2 : (psK f y' j)[j + 1]? = some ((psK f y' j).getD (j + 1) 0) := by
          rw [List.getD_eq_getElem?_getD, List.getElem?_eq_getElem hjk]
          rfl
        have e0 : (0 : Int) + (j : Int) = (j : Int) := by omega
        rw [e0]
        refine ⟨_, _, gt_name 4 g.nd, sds_one (sd_augitem (oa := []) (ob := []) (n := j + 1) iop_addC (ev_v 3) (ed_add (ed_v 4) ed_int) (ed_mulS (ed_ixL (ed_v 1) (ed_v 4) .d (getI e1)) (ed_v 2) (.inr ⟨by omega, by omega⟩)) ?_ (by rw [List.getElem?_map, e2]; rfl) trivial ?_)⟩
        · unfold ixN
          rw [List.length_map, if_pos (by omega), if_pos (by omega)]
          congr 1
        · refine ⟨?_, _, rfl⟩
          rw [psK, List.map_set]
          rfl
      · rintro ρ2 own2 ⟨rfl, t4, rfl⟩
        rw [rng_length, Int.toNat_natCast, List.length_map]
        refine sds_cons (sd_set 1 g.nd (ev_v 3) ?_)
        refine sds_freeze 1 (oa := []) rfl ?_
        exact sds_nil ⟨rfl, _, _, _, rfl⟩
  · rintro ρ1 own1 ⟨rfl, t2, t3, t4, rfl⟩
    rw [List.length_map, List.take_length]
    exact sds_one (sd_retD (ed_v 1) rfl))
end
end Pg

namespace Pg
open PySem PySem.Spec PyProof.Rows L2 Sd
section
variable {P : Program} {w : World} {K : PySem.W.Frag} {mg : Str → Option Value} {base : Heap} {c : Cl}
def unl (ys : List Int) (n : Nat) : Rat := ((((fac n : Nat) * (psums ys).getD n 0 : Int) : Rat) / ((ys.sum ^ n : Int) : Rat))
def pre_unlike_of : Pr := fun ss own post => ∃ (ys : List Int) (n : Nat), ss = [.d (li ys), .d (.int (n : Int))] ∧ own = [] ∧ Yr ys ∧ n ≤ 12 ∧ post = fun o => o = .ret (.d (fr (unl ys n))) []
theorem fn_unlike_of (T : Tx K mg c) : Fn K mg P w base "unlike_of" ["year", "many"] 3 pre_unlike_of := T.d_unlike_of.fn fun f fd F => okG (k := 2) F sc_unlike_of (by rintro ss own post ⟨ys, n, rfl, _⟩; rfl) (by
  rintro ss own post ⟨ys, n, rfl, rfl, hY, hn, rfl⟩ cdv A outer s H E B g
  have hl := psums_len ys
  refine sds_cons (sd_set 2 g.nd (es_call (fn_product_sums T) g (by decide) (ea_cons (ed_v 0) ea_nil) ⟨ys, rfl, rfl, hY, rfl⟩) ?_)
  refine sds_cons (sd_if (l := decide (((psums ys).length : Int) ≤ (n : Int))) (et_cmp (c_ge (i := n) (j := (psums ys).length)) (ed_v 1) (ES.is (ed_len T.n_len (ed_v 2) .d) (by rw [List.length_map]))) (fun h => ?_) fun h => sds_nil ?_)
  · have h : (psums ys).length ≤ n := by simpa using h
    refine sds_one (sd_retD (ed_k2 (i := 0) (i' := 1)) ?_)
    have e : unl ys n = 0 := by
      unfold unl
      rw [List.getD_eq_getElem?_getD, List.getElem?_eq_none h]
      simp
      exact Rat.zero_mul _
    rw [e]
    rfl
  · have h : n < (psums ys).length := by simpa using h
    have e1 : (psums ys)[n]? = some ((psums ys).getD n 0) := by
      rw [List.getD_eq_getElem?_getD, List.getElem?_eq_getElem h]
      rfl
    have z := fac_sz n hn
    unfold Sz at z
    have h2 : Sz 97 (ys.sum ^ n) := (hY.szW.pow n).mono (by omega)
    exact sds_one (sd_retD (es_call (fn_lowest T) g (by decide) (ea_cons (ed_mulS (es_call (fn_ordered T) g (by decide) (ea_cons (ed_v 1) ea_nil) ⟨n, rfl, rfl, hn, rfl⟩) (ed_ixL (ed_v 2) (ed_v 1) .d (getI e1)) (.inl ⟨by omega, by omega⟩)) (ea_cons (es_call (fn_power T) g (by decide) (ea_cons (ed_sum g T.n_sum (ed_v 0) .d) (ea_cons (ed_v 1) ea_nil)) ⟨_, n, 8, rfl, rfl, hY.szW, by omega, by decide, rfl⟩) ea_nil)) ⟨_, _, rfl, rfl, hY.posP n, h2.mono (by decide), rfl⟩) rfl))
end
end Pg

namespace Pg
open PySem PySem.Spec PyProof.Rows L2 Sd
section
variable {P : Program} {w : World} {K : PySem.W.Frag} {mg : Str → Option Value} {base : Heap} {c : Cl}
def pre_all_unlike : Pr := fun ss own post => ∃ (ys : List Int) (n : Nat), ss = [.d (li ys), .d (.int (n : Int))] ∧ own = [] ∧ Yr ys ∧ n ≤ 12 ∧ post = fun o => o = .ret (.d (fr (unl ys n))) []
theorem fn_all_unlike (T : Tx K mg c) : Fn K mg P w base "all_unlike" ["year", "many"] 4 pre_all_unlike := T.d_all_unlike.fn fun f fd F => okG (k := 3) F sc_all_unlike (by rintro ss own post ⟨ys, n, rfl, _⟩; rfl) (by
  rintro ss own post ⟨ys, n, rfl, rfl, hY, hn, rfl⟩ cdv A outer s H E B g
  refine sds_cons (sd_expr (es_call (fn_check_year T) g (by decide) (ea_cons (ed_v 0) ea_nil) (ok_year hY)) ?_)
  refine sds_cons (sd_expr (es_call (fn_check_many T) g (by decide) (ea_cons (ed_v 1) ea_nil) (ok_many ⟨by omega, by omega⟩)) ?_)
  exact sds_one (sd_retD (es_call (fn_unlike_of T) g (by decide) (ea_cons (ed_v 0) (ea_cons (ed_v 1) ea_nil)) ⟨ys, n, rfl, rfl, hY, hn, rfl⟩) rfl))
end
end Pg

namespace Pg
open PySem PySem.Spec PyProof.Rows L2 Sd
section
variable {P : Program} {w : World} {K : PySem.W.Frag} {mg : Str → Option Value} {base : Heap} {c : Cl}
end
end Pg

namespace Pg
open PySem PySem.Spec PyProof.Rows L2 Sd
section
variable {P : Program} {w : World} {K : PySem.W.Frag} {mg : Str → Option Value} {base : Heap} {c : Cl}
def insI (x : Int) : List Int → List Int
  | [] => [x]
  | y :: ys => if x ≤ y then x :: y :: ys else y :: insI x ys
def srt : List Int → List Int
  | [] => []
  | x :: xs => insI x (srt xs)
theorem insI_perm (x : Int) : ∀ l : List Int, (insI x l).Perm (x :: l)
  | [] => .refl _
  | y :: l => by
    unfold insI
    split
    · exact .refl _
    · exact (List.Perm.cons y (insI_perm x l)).trans (.swap x y l)
theorem srt_perm : ∀ l : List Int, (srt l).Perm l
  | [] => .refl _
  | x :: l => (insI_perm x (srt l)).trans (.cons x (srt_perm l))
theorem insI_sorted (x : Int) : ∀ l : List Int, l.Pairwise (· ≤ ·) → (insI x l).Pairwise (· ≤ ·)
  | [], _ => by simp [insI]
  | y :: l, h => by
    have h1 := List.pairwise_cons.mp h
    unfold insI
    split
    · rename_i hxy
      refine List.pairwise_cons.mpr ⟨fun z hz => ?_, h⟩
      rcases List.mem_cons.mp hz with rfl | hz
      · exact hxy
      · exact Int.le_trans hxy (h1.1 z hz)
    · rename_i hxy
      refine List.pairwise_cons.mpr ⟨fun z hz => ?_, insI_sorted x l h1.2⟩
      rcases List.mem_cons.mp ((insI_perm x l).mem_iff.mp hz) with rfl | hz
      · omega
      · exact h1.1 z hz
theorem srt_sorted : ∀ l : List Int, (srt l).Pairwise (· ≤ ·)
  | [] => .nil
  | x :: l => insI_sorted x _ (srt_sorted l)
theorem perm_srt {a b : List Int} (h : a.Perm b) (ha : a.Pairwise (· ≤ ·)) : a = srt b :=
  List.Perm.eq_of_pairwise (fun x y _ _ h1 h2 => Int.le_antisymm h1 h2) ha (srt_sorted b) (h.trans (srt_perm b).symm)
end
end Pg

namespace Pg
open PySem PySem.Spec PyProof.Rows L2 Sd
section
variable {P : Program} {w : World} {K : PySem.W.Frag} {mg : Str → Option Value} {base : Heap} {c : Cl}
end
end Pg

namespace Pg
open PySem PySem.Spec PyProof.Rows L2 Sd
section
variable {P : Program} {w : World} {K : PySem.W.Frag} {mg : Str → Option Value} {base : Heap} {c : Cl}
end
end Pg

namespace Pg
open PySem PySem.Spec PyProof.Rows L2 Sd
section
variable {P : Program} {w : World} {K : PySem.W.Frag} {mg : Str → Option Value} {base : Heap} {c : Cl}
/-! elementary symmetric sums -/
def esI : List Int → Nat → Int
  | _, 0 => 1
  | [], _ + 1 => 0
  | a :: l, n + 1 => esI l (n + 1) + a * esI l n
theorem esI_zero (l : List Int) : esI l 0 = 1 := by cases l <;> rfl
theorem esI_cons (a : Int) (l : List Int) (n : Nat) : esI (a :: l) (n + 1) = esI l (n + 1) + a * esI l n := rfl
theorem esI_perm {l l' : List Int} (h : l.Perm l') : ∀ n, esI l n = esI l' n := by
  induction h with
  | nil => intro n; rfl
  | cons x _ ih =>
    intro n
    cases n with
    | zero => rfl
    | succ n => rw [esI_cons, esI_cons, ih, ih]
  | swap x y l =>
    intro n
    cases n with
    | zero => rfl
    | succ n =>
      cases n with
      | zero => simp only [esI_cons, esI_zero]; grind
      | succ n => simp only [esI_cons]; grind
  | trans _ _ h1 h2 => intro n; rw [h1, h2]
theorem psK_get (f : List Int) (y : Int) : ∀ k, k ≤ f.length → ∀ n, (psK f y k).getD n 0 = f.getD n 0 + (if 1 ≤ n ∧ n ≤ k then f.getD (n - 1) 0 * y else 0)
  | 0, _, n => by
    rw [psK, if_neg (by omega)]
    simp only [List.getD_eq_getElem?_getD]
    by_cases h : n < f.length
    · rw [List.getElem?_append_left h]; omega
    · rw [List.getElem?_append_right (by omega), List.getElem?_eq_none (l := f) (by omega)]
      by_cases e : n = f.length
      · subst e; simp
      · rw [List.getElem?_eq_none (by simp; omega)]; rfl
  | k + 1, hk, n => by
    have ih := psK_get f y k (by omega)
    rw [psK]
    by_cases e : n = k + 1
    · subst e
      rw [List.getD_eq_getElem?_getD, List.getElem?_set_self (by rw [psK_len]; omega), Option.getD_some, ih, if_neg (by omega), if_pos (by omega)]
      simp
    · rw [List.getD_eq_getElem?_getD, List.getElem?_set_ne (by omega), ← List.getD_eq_getElem?_getD, ih]
      by_cases h : 1 ≤ n ∧ n ≤ k
      · rw [if_pos h, if_pos (by omega)]
      · rw [if_neg h, if_neg (by omega)]
theorem psS_zero (f : List Int) (y : Int) : (psS f y).getD 0 0 = f.getD 0 0 := by
  rw [psS, psK_get f y _ (Nat.le_refl _), if_neg (by omega)]; omega
theorem psS_succ (f : List Int) (y : Int) (n : Nat) : (psS f y).getD (n + 1) 0 = f.getD (n + 1) 0 + f.getD n 0 * y := by
  rw [psS, psK_get f y _ (Nat.le_refl _)]
  by_cases h : n + 1 ≤ f.length
  · rw [if_pos (by omega)]; rfl
  · rw [if_neg (by omega), show f.getD n 0 = 0 by rw [List.getD_eq_getElem?_getD, List.getElem?_eq_none (by omega)]; rfl]
    simp
theorem foldr_es : ∀ (zs : List Int) (n : Nat), (zs.foldr (fun y f => psS f y) [1]).getD n 0 = esI zs n
  | [], 0 => rfl
  | [], n + 1 => by simp [esI]
  | z :: zs, 0 => by rw [List.foldr_cons, psS_zero, foldr_es zs 0, esI_zero, esI_zero]
  | z :: zs, n + 1 => by rw [List.foldr_cons, psS_succ, foldr_es zs, foldr_es zs, esI_cons, Int.mul_comm]
theorem psums_es (ys : List Int) (n : Nat) : (psums ys).getD n 0 = esI ys n := by
  have e : psums ys = ys.reverse.foldr (fun y f => psS f y) [1] := by rw [psums, List.foldr_reverse]
  rw [e, foldr_es, esI_perm (List.reverse_perm ys)]
theorem esI_out : ∀ (l : List Int) (n : Nat), l.length < n → esI l n = 0
  | [], n + 1, _ => rfl
  | a :: l, n + 1, h => by
    simp only [List.length_cons] at h
    rw [esI_cons, esI_out l (n + 1) (by omega), esI_out l n (by omega)]; simp
theorem esI_one : ∀ l : List Int, esI l 1 = l.sum
  | [] => rfl
  | a :: l => by rw [esI_cons, esI_one l, esI_zero, List.sum_cons]; omega
theorem esI_nonneg : ∀ (l : List Int) (n : Nat), (∀ x ∈ l, 0 ≤ x) → 0 ≤ esI l n
  | l, 0, _ => by rw [esI_zero]; decide
  | [], n + 1, _ => by simp [esI]
  | a :: l, n + 1, h => by
    have h1 := esI_nonneg l (n + 1) fun x hx => h x (by simp [hx])
    have h2 := esI_nonneg l n fun x hx => h x (by simp [hx])
    have h3 := Int.mul_nonneg (h a (by simp)) h2
    rw [esI_cons]; omega
theorem unl_es (ys : List Int) (n : Nat) : unl ys n = (((fac n : Nat) * esI ys n : Int) : Rat) / ((ys.sum ^ n : Int) : Rat) := by rw [unl, psums_es]
/-- over the rationals -/
def es : List Rat → Nat → Rat
  | _, 0 => 1
  | [], _ + 1 => 0
  | a :: l, n + 1 => es l (n + 1) + a * es l n
theorem esI_le : ∀ (l : List Int) (n : Nat), (∀ x ∈ l, 0 ≤ x) → esI l n ≤ l.sum ^ n
  | l, 0, _ => by rw [esI_zero]; simp
  | [], n + 1, _ => by rw [List.sum_nil, Int.zero_pow (by omega)]; exact Int.le_refl _
  | a :: l, n + 1, h => by
    have hl : ∀ x ∈ l, 0 ≤ x := fun x hx => h x (by simp [hx])
    have h1 := esI_le l (n + 1) hl
    have h2 := esI_le l n hl
    have ha := h a (by simp)
    have hs : 0 ≤ l.sum := by
      have := sum_ge_mul (b := 0) (ys := l) hl
      simpa using this
    rw [esI_cons, List.sum_cons, Int.pow_succ]
    rw [Int.pow_succ] at h1
    have h3 := Int.mul_le_mul_of_nonneg_left h2 ha
    have h4 : l.sum ^ n ≤ (a + l.sum) ^ n := by
      have : ∀ m : Nat, l.sum ^ m ≤ (a + l.sum) ^ m := fun m => by
        induction m with
        | zero => simp
        | succ m ih =>
          rw [Int.pow_succ, Int.pow_succ]
          exact Int.mul_le_mul ih (by omega) hs (Int.pow_nonneg (by omega))
      exact this n
    have h5 := Int.mul_le_mul_of_nonneg_right h4 (show 0 ≤ a + l.sum by omega)
    have e : l.sum ^ n * l.sum + a * l.sum ^ n = l.sum ^ n * (a + l.sum) := by grind
    omega
theorem unl_sq {ys : List Int} (h : Yr ys) {n : Nat} (hn : n ≤ 12) : Sq 200 (unl ys n) := by
  rw [unl_es]
  have h1 : Sz 97 (ys.sum ^ n) := (h.szW.pow n).mono (by omega)
  have h0 : ∀ x ∈ ys, 0 ≤ x := fun x hx => by have := h.it x hx; omega
  have h2 := esI_le ys n h0
  have h3 := esI_nonneg ys n h0
  have h4 : Sz 97 (esI ys n) := by unfold Sz at *; omega
  exact Sq.of_div (h.posP n) (((fac_sz n hn).mul h4).mono (by decide)) (h1.mono (by decide))
end
end Pg

namespace Pg
open PySem PySem.Spec PyProof.Rows L2 Sd
section
variable {P : Program} {w : World} {K : PySem.W.Frag} {mg : Str → Option Value} {base : Heap} {c : Cl}
/-- a share as data -/
structure Shr (q : Rat) : Prop where
  lo : 0 ≤ q
  hi : q ≤ 1
theorem shr_num {q : Rat} (h : Shr q) : 0 ≤ q.num ∧ q.num ≤ (q.den : Int) := by
  have h1 := h.lo
  have h2 := h.hi
  refine ⟨Rat.num_nonneg.mpr h1, ?_⟩
  have := (le_fr q 1).mpr h2
  simpa using this
end
end Pg

namespace Pg
open PySem PySem.Spec PyProof.Rows L2 Sd
section
variable {P : Program} {w : World} {K : PySem.W.Frag} {mg : Str → Option Value} {base : Heap} {c : Cl}
/-- is it a share, whatever it is -/
def isI : PyData → Bool
  | .int _ => true
  | _ => false
def isShr : PyData → Bool
  | .tuple [.int a, .int b] => decide (0 < b) && ((decide (0 ≤ a) && decide (a ≤ b)) && decide (Int.gcd a b = 1))
  | _ => false
theorem fr_isShr {q : Rat} (h : Shr q) : isShr (fr q) = true := by
  obtain ⟨h1, h2⟩ := shr_num h
  have h3 := den_pos q
  show (decide (0 < (q.den : Int)) && ((decide (0 ≤ q.num) && decide (q.num ≤ (q.den : Int))) && decide (Int.gcd q.num (q.den : Int) = 1))) = true
  have hg : Int.gcd q.num (q.den : Int) = 1 := q.reduced
  rw [hg, decide_eq_true h3, decide_eq_true h1, decide_eq_true h2]
  rfl
def pre_is_share_t : Pr := fun ss own post => ∃ x, ss = [.d x] ∧ own = [] ∧ post = fun o => o = .ret (.d (.bool (isShr x))) []
theorem fn_is_share_t (T : Tx K mg c) : Fn K mg P w base "is_share" ["value"] 2 pre_is_share_t := T.d_is_share.fn fun f fd F => okG (k := 1) F sc_is_share (by rintro ss own post ⟨x, rfl, _⟩; rfl) (by
  rintro ss own post ⟨x, rfl, rfl, rfl⟩ cdv A outer s H E B g
  refine sds_nd 0 rfl fun hx => ?_
  by_cases ht : ∃ ds, x = .tuple ds
  · obtain ⟨ds, rfl⟩ := ht
    have hnd := hx.2 ds (.inr rfl)
    refine sds_cons (sd_if (l := !decide ((ds.length : Int) = 2)) (ET.is (EW.et (ew_or (et_not (et_val (ed_isi (x := .tuple ds) (l := true) T.n_isinstance (ed_v 0) .d (ev_ty (T := "tuple") rfl T.n_tuple (by decide +kernel)) rfl))) fun _ => ew_or1 (et_cmp c_neI (ed_lenT T.n_len (ed_v 0)) ed_int))) (by simp)) (fun h => ?_) fun h => sds_nil ?_)
    · refine sds_one (sd_retD ed_bl ?_)
      have h : ds.length ≠ 2 := by simp at h; omega
      have : isShr (.tuple ds) = false := by
        unfold isShr
        split
        · rename_i e
          cases e
          exact absurd rfl h
        · rfl
      rw [this]
    · have h : ds.length = 2 := by simp at h; omega
      match ds, h with
      | [a, b], _ =>
        refine sds_cons (sd_if (l := !(isI a && (isI b && true))) (ET.is (et_not (et_val (ed_all (ns := [a, b].map isI) g T.n_all (EL.ed (EL.is (el_comp g (compP g (it_tup (ed_v 0)) [("part", 1)] (blkOk_by (N := ["value", "part"]) (sc := defScope s_is_share) (by decide +kernel)) [a, b] id rfl (fun d => some (.bool (isI d))) (fun d => [.d (.tuple [a, b]), .d d]) [1] (by simp) (by simp) (fun _ _ => trivial)
            (fun d _ s H C cl fp g' => gt_name 1 g'.nd) (fun d _ s H C cl fp o g' => ets_nil) (fun d hd x hx s H C cl fp o g' => ?_))) rfl)) .d))) rfl) (fun h => ?_) fun h => sds_nil ?_)
        · cases hx
          have nd := hnd d hd
          refine ES.is (ed_and (l := isI d) (ed_isi (x := d) (l := (kitB (tyD d) "int").getD false) T.n_isinstance (ed_v 1) .d (ev_ty (T := "int") rfl T.n_int (by decide +kernel)) ?_) fun hk => ed_one (ES.is (ed_not (ed_isi (x := d) (l := (kitB (tyD d) "bool").getD false) T.n_isinstance (ed_v 1) .d (ev_ty (T := "bool") rfl T.n_bool (by decide +kernel)) ?_)) ?_)) ?_
          · cases d <;> first | rfl | exact absurd rfl (nd _)
          · cases d <;> first | rfl | exact absurd rfl (nd _)
          · cases d <;> first | rfl | exact nomatch (show false = true from hk) | exact absurd rfl (nd _)
          · cases d <;> first | rfl | exact absurd rfl (nd _)
        · refine sds_one (sd_retD ed_bl ?_)
          have : isShr (.tuple [a, b]) = false := by
            cases a <;> first | rfl | (cases b <;> first | rfl | exact nomatch (show false = true from h))
          rw [this]
        · obtain ⟨i, rfl⟩ : ∃ i, a = .int i := by
            cases a <;> first | exact ⟨_, rfl⟩ | exact nomatch (show true = false from h)
          obtain ⟨j, rfl⟩ : ∃ j, b = .int j := by
            cases b <;> first | exact ⟨_, rfl⟩ | exact nomatch (show true = false from h)
          refine sds_one (sd_retD (x := .bool (isShr (.tuple [.int i, .int j]))) (ed_and (k := decide (0 < j)) (ed_cmp c_gt (ed_ixT (ed_v 0) ed_int rfl) ed_int) fun h1 => ed_and (ed_chain c_le c_le ed_int (ed_ixT (ed_v 0) ed_int rfl) (ed_ixT (ed_v 0) ed_int rfl)) fun h2 => ed_one (ES.is (ed_cmp c_eqI (es_call (fn_common T) g (by decide) (ea_cons (ed_ixT (ed_v 0) ed_int rfl) (ea_cons (ed_ixT (ed_v 0) ed_int rfl) ea_nil)) ⟨i, j, rfl, rfl, ?_, ?_, rfl⟩) ed_int) ?_)) rfl)
          · simp only [Bool.and_eq_true, decide_eq_true_eq] at h2
            exact h2.1
          · have := of_decide_eq_true h1
            omega
          · congr 1
            refine decide_eq_decide.mpr ?_
            omega
  · have hk : kitB (tyD x) "tuple" = some false := by
      cases x <;> first | rfl | exact absurd ⟨_, rfl⟩ ht | exact absurd rfl (hx.1 _)
    refine sds_cons (sd_if (l := true) (EW.et (ew_or (k := true) (l := true) (et_not (k := false) (et_val (ed_isi (x := x) (l := false) T.n_isinstance (ed_v 0) .d (ev_ty (T := "tuple") rfl T.n_tuple (by decide +kernel)) hk))) fun h => nomatch h)) (fun h => ?_) fun h => nomatch h)
    refine sds_one (sd_retD ed_bl ?_)
    cases x <;> first | rfl | exact absurd ⟨_, rfl⟩ ht)
end
end Pg

namespace Pg
open PySem PySem.Spec PyProof.Rows L2 Sd
section
variable {P : Program} {w : World} {K : PySem.W.Frag} {mg : Str → Option Value} {base : Heap} {c : Cl}
def pre_check_share_t (c : Cl) : Pr := fun ss own post => ∃ x, ss = [.d x] ∧ own = [] ∧ post = fun o => o = if isShr x = true then .ret (.d .none) [] else .exc c.BadShare []
theorem fn_check_share_t (T : Tx K mg c) : Fn K mg P w base "check_share" ["value"] 3 (pre_check_share_t c) := T.d_check_share.fn fun f fd F => okG (k := 2) F sc_check_share (by rintro ss own post ⟨x, rfl, _⟩; rfl) (by
  rintro ss own post ⟨x, rfl, rfl, rfl⟩ cdv A outer s H E B g
  refine sds_one (sd_if (et_not (et_val (es_call (fn_is_share_t T) g (by decide) (ea_cons (ed_v 0) ea_nil) ⟨x, rfl, rfl, rfl⟩))) (fun h => ?_) fun h => ?_)
  · refine sds_one (sd_raise g T.e_BadShare ?_)
    show Out.exc c.BadShare [] = _
    rw [if_neg (by simpa using h)]
  · refine sds_nil ?_
    show Out.ret (.d .none) [] = _
    rw [if_pos (by simpa using h)])
theorem ok_shareT {c : Cl} {x : PyData} (h : isShr x = true) : pre_check_share_t c [.d x] [] (fun o => o = .ret (.d .none) []) := ⟨x, rfl, rfl, by rw [if_pos h]⟩
theorem no_shareT {c : Cl} {x : PyData} (h : isShr x = false) : pre_check_share_t c [.d x] [] (fun o => o = .exc c.BadShare []) := ⟨x, rfl, rfl, by rw [if_neg (by rw [h]; decide)]⟩
end
end Pg

namespace Pg
open PySem PySem.Spec PyProof.Rows L2 Sd
section
variable {P : Program} {w : World} {K : PySem.W.Frag} {mg : Str → Option Value} {base : Heap} {c : Cl}
def eqdO (c : Cl) (x : PyData) : Out := if isShr x = true then (match x with
  | .tuple [.int a, .int b] => if a = 1 ∧ b ≤ 8 then .ret (.d (.int b)) [] else .exc c.NotFound []
  | _ => .exc c.BadShare []) else .exc c.BadShare []
def pre_equal_days (c : Cl) : Pr := fun ss own post => ∃ x, ss = [.d x] ∧ own = [] ∧ post = fun o => o = eqdO c x
theorem fn_equal_days (T : Tx K mg c) : Fn K mg P w base "equal_days" ["chance"] 4 (pre_equal_days c) := T.d_equal_days.fn fun f fd F => okG (k := 3) F sc_equal_days (by rintro ss own post ⟨x, rfl, _⟩; rfl) (by
  rintro ss own post ⟨x, rfl, rfl, rfl⟩ cdv A outer s H E B g
  by_cases hs : isShr x = true
  · refine sds_cons (sd_expr (es_call (fn_check_share_t T) g (by decide) (ea_cons (ed_v 0) ea_nil) (ok_shareT hs)) ?_)
    have hx : ∃ a b, x = .tuple [.int a, .int b] ∧ 0 < b := by
      unfold isShr at hs
      split at hs
      · simp only [Bool.and_eq_true, decide_eq_true_eq] at hs
        exact ⟨_, _, rfl, hs.1⟩
      · cases hs
    obtain ⟨a, b, rfl, hb⟩ := hx
    have e : eqdO c (.tuple [.int a, .int b]) = if a = 1 ∧ b ≤ 8 then .ret (.d (.int b)) [] else .exc c.NotFound [] := by
      unfold eqdO
      rw [if_pos hs]
    refine sds_cons (sd_if (l := !decide (a = 1 ∧ b ≤ 8)) (ET.is (EW.et (ew_or (et_cmp c_neI (ed_ixT (ed_v 0) ed_int rfl) ed_int) fun _ => ew_or1 (et_not (et_val (es_call (fn_is_int T) g (by decide) (ea_cons (ed_ixT (ed_v 0) ed_int rfl) (ea_cons ed_int (ea_cons ed_int ea_nil))) ⟨_, _, _, rfl, rfl, rfl⟩))))) ?_) (fun h => ?_) fun h => sds_nil ?_)
    · have : (1 : Int) ≤ b := by omega
      simp [Sd.isInt, this]
    · refine sds_one (sd_raise g T.e_NotFound ?_)
      show Out.exc c.NotFound [] = eqdO c _
      rw [e, if_neg (by simp at h; omega)]
    · refine sds_one (sd_retD (ed_ixT (ed_v 0) ed_int rfl) ?_)
      show Out.ret (.d (.int b)) [] = eqdO c _
      rw [e, if_pos (by simpa using h)]
  · have hs : isShr x = false := by simpa using hs
    refine sds_cons (sd_exprX (ex_call (fn_check_share_t T) g (by decide) (ea_cons (ed_v 0) ea_nil) (no_shareT hs) ?_))
    unfold eqdO
    rw [hs]
    rfl)
end
end Pg

namespace Pg
open PySem PySem.Spec PyProof.Rows L2 Sd
section
variable {P : Program} {w : World} {K : PySem.W.Frag} {mg : Str → Option Value} {base : Heap} {c : Cl}
end
end Pg

namespace Pg
open PySem PySem.Spec PyProof.Rows L2 Sd
section
variable {P : Program} {w : World} {K : PySem.W.Frag} {mg : Str → Option Value} {base : Heap} {c : Cl}
/-! dicts as lists of pairs -/
theorem getT_put {κ α : Type} [DecidableEq κ] (tb : List (κ × α)) (k j : κ) (v : α) : getT (putT tb k v) j = if j = k then some v else getT tb j := by
  unfold putT
  by_cases h : (tb.any fun e => decide (e.1 = k)) = true
  · rw [if_pos h]
    induction tb with
    | nil => cases h
    | cons e tb ih =>
      rw [List.map_cons]
      by_cases he : e.1 = k
      · rw [if_pos he]
        by_cases hj : j = k
        · subst hj
          simp [getT, List.find?_cons, he]
        · have hne : ¬ k = j := fun z => hj z.symm
          have e1 : getT ((e.1, v) :: tb.map fun e => if e.1 = k then (e.1, v) else e) j = getT (tb.map fun e => if e.1 = k then (e.1, v) else e) j := by simp [getT, List.find?_cons, he, hne]
          have e2 : getT (e :: tb) j = getT tb j := by simp [getT, List.find?_cons, he, hne]
          rw [e1, e2, if_neg hj]
          clear ih h
          induction tb with
          | nil => rfl
          | cons a tb ih2 =>
            rw [List.map_cons]
            by_cases ha : a.1 = k
            · rw [if_pos ha]
              have e3 : getT ((a.1, v) :: tb.map fun e => if e.1 = k then (e.1, v) else e) j = getT (tb.map fun e => if e.1 = k then (e.1, v) else e) j := by simp [getT, List.find?_cons, ha, hne]
              have e4 : getT (a :: tb) j = getT tb j := by simp [getT, List.find?_cons, ha, hne]
              rw [e3, e4]
              exact ih2 (by simp [getT, List.find?_cons, he, hne]) (by simp [getT, List.find?_cons, he, hne])
            · rw [if_neg ha]
              by_cases haj : a.1 = j
              · simp [getT, List.find?_cons, haj]
              · have e3 : getT (a :: tb.map fun e => if e.1 = k then (e.1, v) else e) j = getT (tb.map fun e => if e.1 = k then (e.1, v) else e) j := by simp [getT, List.find?_cons, haj]
                have e4 : getT (a :: tb) j = getT tb j := by simp [getT, List.find?_cons, haj]
                rw [e3, e4]
                exact ih2 (by simp [getT, List.find?_cons, he, hne]) (by simp [getT, List.find?_cons, he, hne])
      · rw [if_neg he]
        have h' : (tb.any fun e => decide (e.1 = k)) = true := by
          rw [List.any_cons] at h
          simpa [he] using h
        by_cases hej : e.1 = j
        · have hjk : ¬ j = k := fun z => he (hej.trans z)
          rw [if_neg hjk]
          simp [getT, List.find?_cons, hej]
        · have e3 : getT (e :: tb.map fun e => if e.1 = k then (e.1, v) else e) j = getT (tb.map fun e => if e.1 = k then (e.1, v) else e) j := by simp [getT, List.find?_cons, hej]
          have e4 : getT (e :: tb) j = getT tb j := by simp [getT, List.find?_cons, hej]
          rw [e3, e4]
          exact ih h'
  · rw [if_neg h]
    have h : ∀ e ∈ tb, e.1 ≠ k := fun e he z => h (List.any_eq_true.mpr ⟨e, he, decide_eq_true z⟩)
    unfold getT
    rw [List.find?_append]
    by_cases hj : j = k
    · subst hj
      rw [if_pos rfl, List.find?_eq_none.mpr (fun e he z => h e he (of_decide_eq_true z))]
      simp
    · have hne : ¬ k = j := fun z => hj z.symm
      rw [if_neg hj]
      cases tb.find? (fun e => decide (e.1 = j)) with
      | none => simp [hne]
      | some e => rfl
theorem putT_keys {κ α : Type} [DecidableEq κ] (tb : List (κ × α)) (k : κ) (v : α) : (putT tb k v).map (·.1) = if k ∈ tb.map (·.1) then tb.map (·.1) else tb.map (·.1) ++ [k] := by
  unfold putT
  by_cases h : (tb.any fun e => decide (e.1 = k)) = true
  · have hm : k ∈ tb.map (·.1) := by
      obtain ⟨e, he, hd⟩ := List.any_eq_true.mp h
      exact List.mem_map.mpr ⟨e, he, of_decide_eq_true hd⟩
    rw [if_pos h, if_pos hm, List.map_map]
    refine List.map_congr_left fun e _ => ?_
    show (if e.1 = k then (e.1, v) else e).1 = e.1
    split <;> rfl
  · have hm : k ∉ tb.map (·.1) := fun z => by
      obtain ⟨e, he, rfl⟩ := List.mem_map.mp z
      exact h (List.any_eq_true.mpr ⟨e, he, decide_eq_true rfl⟩)
    rw [if_neg h, if_neg hm, List.map_append]
    rfl
theorem putT_nodup {κ α : Type} [DecidableEq κ] {tb : List (κ × α)} (h : (tb.map (·.1)).Nodup) (k : κ) (v : α) : ((putT tb k v).map (·.1)).Nodup := by
  rw [putT_keys]
  split
  · exact h
  · rename_i hn
    refine List.nodup_append.mpr ⟨h, by simp, fun a ha b hb z => ?_⟩
    have : b = k := by simpa using hb
    rw [z, this] at ha
    exact hn ha
theorem getT_mem {κ α : Type} [DecidableEq κ] {tb : List (κ × α)} (h : (tb.map (·.1)).Nodup) {k : κ} {v : α} : (k, v) ∈ tb ↔ getT tb k = some v := by
  induction tb with
  | nil => simp [getT]
  | cons e tb ih =>
    rw [List.map_cons, List.nodup_cons] at h
    have ih := ih h.2
    by_cases he : e.1 = k
    · have e1 : getT (e :: tb) k = some e.2 := by simp [getT, List.find?_cons, he]
      rw [e1]
      constructor
      · intro hm
        rcases List.mem_cons.mp hm with rfl | hm
        · rfl
        · exact absurd (List.mem_map.mpr ⟨(k, v), hm, he.symm⟩) h.1
      · intro z
        cases z
        rw [← he]
        exact List.mem_cons_self
    · have e1 : getT (e :: tb) k = getT tb k := by simp [getT, List.find?_cons, he]
      rw [e1, ← ih]
      constructor
      · intro hm
        rcases List.mem_cons.mp hm with rfl | hm
        · exact absurd rfl he
        · exact hm
      · exact fun hm => List.mem_cons_of_mem _ hm
theorem nodup_lt : ∀ (n : Nat) (l : List Nat), l.Nodup → (∀ x ∈ l, x < n) → l.length ≤ n
  | 0, [], _, _ => Nat.le_refl _
  | 0, a :: l, _, h => absurd (h a List.mem_cons_self) (by omega)
  | n + 1, l, hn, h => by
    have h1 := nodup_lt n (l.erase n) (hn.erase n) fun x hx => by
      have h2 := h x (List.mem_of_mem_erase hx)
      have h3 : x ≠ n := fun z => (hn.mem_erase_iff.mp hx).1 z
      omega
    have := List.length_erase_le (a := n) (l := l)
    by_cases hm : n ∈ l
    · have := List.length_erase_of_mem hm
      have : 0 < l.length := List.length_pos_of_mem hm
      omega
    · rw [List.erase_of_not_mem hm] at h1
      omega
theorem keys_box {α : Type} {A B : Nat} {tb : List ((Nat × Nat) × α)} (hn : (tb.map (·.1)).Nodup) (h : ∀ e ∈ tb, e.1.1 < A ∧ e.1.2 < B) : tb.length ≤ A * B := by
  have h1 := nodup_lt (A * B) ((tb.map (·.1)).map fun k => k.1 * B + k.2) (by
    refine List.nodup_iff_pairwise_ne.mpr (List.pairwise_map.mpr (List.Pairwise.imp_of_mem ?_ (List.nodup_iff_pairwise_ne.mp hn)))
    · intro a b ha hb hab z
      obtain ⟨e, he, rfl⟩ := List.mem_map.mp ha
      obtain ⟨f, hf, rfl⟩ := List.mem_map.mp hb
      obtain ⟨a1, a2⟩ := h e he
      obtain ⟨b1, b2⟩ := h f hf
      have d1 : (e.1.1 * B + e.1.2) / B = e.1.1 := by rw [Nat.mul_comm, Nat.mul_add_div (by omega), Nat.div_eq_of_lt a2]; rfl
      have d2 : (f.1.1 * B + f.1.2) / B = f.1.1 := by rw [Nat.mul_comm, Nat.mul_add_div (by omega), Nat.div_eq_of_lt b2]; rfl
      have z : e.1.1 * B + e.1.2 = f.1.1 * B + f.1.2 := z
      rw [z, d2] at d1
      rw [← d1] at z
      exact hab (Prod.ext d1.symm (by omega))) fun x hx => by
    obtain ⟨k, hk, rfl⟩ := List.mem_map.mp hx
    obtain ⟨e, he, rfl⟩ := List.mem_map.mp hk
    obtain ⟨a1, a2⟩ := h e he
    have := Nat.mul_le_mul_right B (show e.1.1 + 1 ≤ A from a1)
    rw [Nat.add_mul] at this
    omega
  simpa using h1
abbrev PwT := List ((Nat × Nat) × Int)
def addT (f : PwT) (k : Nat × Nat) (z : Int) : PwT := putT f k ((getT f k).getD 0 + z)
/-- keys in a box, each once, values below s times C -/
structure PwOk (m B s C : Nat) (f : PwT) : Prop where
  nd : (f.map (·.1)).Nodup
  bx : ∀ e ∈ f, e.1.1 < m + 1 ∧ e.1.2 < B
  vl : ∀ e ∈ f, e.2.natAbs ≤ s * C
theorem PwOk.len {m B s C : Nat} {f : PwT} (h : PwOk m B s C f) : f.length ≤ (m + 1) * B := keys_box h.nd h.bx
theorem getT_le {f : PwT} {k : Nat × Nat} {n : Nat} (h : ∀ e ∈ f, e.2.natAbs ≤ n) : ((getT f k).getD 0).natAbs ≤ n := by
  cases hg : getT f k with
  | none => exact Nat.zero_le _
  | some v =>
    unfold getT at hg
    obtain ⟨e, he, rfl⟩ := Option.map_eq_some_iff.mp hg
    exact h e (List.mem_of_find?_eq_some he)
theorem PwOk.add {m B s C : Nat} {f : PwT} (h : PwOk m B s C f) {k : Nat × Nat} {z : Int} (h1 : k.1 < m + 1) (h2 : k.2 < B) (hz : z.natAbs ≤ C) : PwOk m B (s + 1) C (addT f k z) := by
  have hv : ((getT f k).getD 0 + z).natAbs ≤ (s + 1) * C := by
    have := getT_le (k := k) h.vl
    rw [Nat.add_mul]
    omega
  have key : ∀ e ∈ addT f k z, e.1 = k ∧ e.2 = (getT f k).getD 0 + z ∨ e ∈ f := by
    intro e he
    unfold addT putT at he
    split at he
    · obtain ⟨e', he', rfl⟩ := List.mem_map.mp he
      by_cases hk : e'.1 = k
      · rw [if_pos hk]
        exact .inl ⟨hk, rfl⟩
      · rw [if_neg hk]
        exact .inr he'
    · rcases List.mem_append.mp he with he | he
      · exact .inr he
      · have : e = (k, (getT f k).getD 0 + z) := by simpa using he
        rw [this]
        exact .inl ⟨rfl, rfl⟩
  refine ⟨putT_nodup h.nd _ _, fun e he => ?_, fun e he => ?_⟩
  · rcases key e he with ⟨e1, _⟩ | he
    · rw [e1]; exact ⟨h1, h2⟩
    · exact h.bx e he
  · rcases key e he with ⟨_, e2⟩ | he
    · rw [e2]; exact hv
    · have := h.vl e he
      rw [Nat.add_mul]
      omega
end
end Pg

namespace Pg
open PySem PySem.Spec PyProof.Rows L2 Sd
section
variable {P : Program} {w : World} {K : PySem.W.Frag} {mg : Str → Option Value} {base : Heap} {c : Cl}
/-! tables summed against a function -/
def addV {κ : Type} [DecidableEq κ] (tb : List (κ × Int)) (k : κ) (z : Int) : List (κ × Int) := putT tb k ((getT tb k).getD 0 + z)
def tS {κ : Type} (tb : List (κ × Int)) (f : κ → Int) : Int := (tb.map fun e => e.2 * f e.1).sum
theorem tS_put {κ : Type} [DecidableEq κ] (f : κ → Int) (k : κ) (z : Int) : ∀ {tb : List (κ × Int)}, (tb.map (·.1)).Nodup → tS (addV tb k z) f = tS tb f + z * f k
  | [], _ => by simp [addV, tS, putT, getT]
  | e :: tb, h => by
    rw [List.map_cons, List.nodup_cons] at h
    have ih := tS_put f k z h.2
    by_cases he : e.1 = k
    · subst he
      have e1 : addV (e :: tb) e.1 z = (e.1, e.2 + z) :: tb := by
        unfold addV putT
        rw [if_pos (by simp)]
        have e2 : getT (e :: tb) e.1 = some e.2 := by simp [getT]
        rw [e2, List.map_cons, if_pos rfl]
        congr 1
        refine (List.map_congr_left fun a ha => ?_).trans (List.map_id _)
        rw [if_neg (fun z => h.1 (List.mem_map.mpr ⟨a, ha, z⟩))]
        rfl
      rw [e1]
      simp only [tS, List.map_cons, List.sum_cons, Int.add_mul]
      omega
    · have e1 : addV (e :: tb) k z = e :: addV tb k z := by
        have e2 : getT (e :: tb) k = getT tb k := by simp [getT, List.find?_cons, he]
        unfold addV
        rw [e2]
        unfold putT
        have e3 : ((e :: tb).any fun e => decide (e.1 = k)) = tb.any fun e => decide (e.1 = k) := by simp [he]
        rw [e3]
        split
        · rw [List.map_cons, if_neg he]
        · rfl
      rw [e1]
      simp only [tS, List.map_cons, List.sum_cons] at ih ⊢
      omega
theorem addV_nodup {κ : Type} [DecidableEq κ] {tb : List (κ × Int)} (h : (tb.map (·.1)).Nodup) (k : κ) (z : Int) : ((addV tb k z).map (·.1)).Nodup := putT_nodup h k _
theorem addV_key {κ : Type} [DecidableEq κ] {tb : List (κ × Int)} {k : κ} {z : Int} {x : κ} (h : x ∈ (addV tb k z).map (·.1)) : x = k ∨ x ∈ tb.map (·.1) := by
  unfold addV at h
  rw [putT_keys] at h
  split at h
  · exact .inr h
  · rcases List.mem_append.mp h with h | h
    · exact .inr h
    · exact .inl (by simpa using h)
theorem addV_nonneg {κ : Type} [DecidableEq κ] {tb : List (κ × Int)} {k : κ} {z : Int} (hz : 0 ≤ z) (hn : (tb.map (·.1)).Nodup) (h : ∀ e ∈ tb, 0 ≤ e.2) : ∀ e ∈ addV tb k z, 0 ≤ e.2 := by
  intro e he
  have h1 := (getT_mem (addV_nodup hn k z) (k := e.1) (v := e.2)).mp he
  unfold addV at h1
  rw [getT_put] at h1
  split at h1
  · have h2 : 0 ≤ (getT tb k).getD 0 := by
      cases hg : getT tb k with
      | none => simp
      | some v => exact h _ ((getT_mem hn).mpr hg)
    have := Option.some.inj h1
    omega
  · exact h _ ((getT_mem hn).mpr h1)
end
end Pg

namespace Pg
open PySem PySem.Spec PyProof.Rows L2 Sd
section
variable {P : Program} {w : World} {K : PySem.W.Frag} {mg : Str → Option Value} {base : Heap} {c : Cl}
/-! all ways in which things fall -/
def inc : List Nat → Nat → List Nat
  | [], _ => []
  | a :: c, 0 => (a + 1) :: c
  | a :: c, d + 1 => a :: inc c d
theorem inc_len : ∀ (c : List Nat) (d : Nat), (inc c d).length = c.length
  | [], _ => rfl
  | _ :: _, 0 => rfl
  | a :: c, d + 1 => by simp [inc, inc_len c d]
theorem inc_sum : ∀ (c : List Nat) (d : Nat), d < c.length → (inc c d).sum = c.sum + 1
  | [], _, h => by simp at h
  | a :: c, 0, _ => by simp [inc]; omega
  | a :: c, d + 1, h => by
    have := inc_sum c d (by simpa using h)
    simp only [inc, List.sum_cons, this]
    omega
def Gf : List Int → Nat → (List Nat → Int) → Int
  | [], 0, f => f []
  | [], _ + 1, _ => 0
  | w :: ys, m, f => sumN (fun o => ((bin m o : Nat) : Int) * w ^ o * Gf ys (m - o) (fun c => f (o :: c))) (m + 1)
/-- one thing more -/
def stF (ys : List Int) (f : List Nat → Int) (c : List Nat) (n : Nat) : Int := sumN (fun d => ys.getD d 0 * f (inc c d)) n
abbrev TabN := List (List Nat × Int)
structure Kt (ys : List Int) (m : Nat) (k : List Nat) : Prop where
  len : k.length = ys.length
  sum : k.sum = m
structure Fl (ys : List Int) (m : Nat) (kn : TabN) : Prop where
  nd : (kn.map (·.1)).Nodup
  ks : ∀ e ∈ kn, Kt ys m e.1
  nn : ∀ e ∈ kn, 0 ≤ e.2
  su : ∀ f, tS kn f = Gf ys m f
structure FiN (ys : List Int) (m : Nat) (kn : TabN) (j : Nat) (fr : TabN) : Prop where
  nd : (fr.map (·.1)).Nodup
  ks : ∀ k ∈ fr.map (·.1), Kt ys (m + 1) k
  nn : ∀ e ∈ fr, 0 ≤ e.2
  su : ∀ f, tS fr f = tS (kn.take j) (fun c => stF ys f c ys.length)
structure FjN (ys : List Int) (m : Nat) (kn : TabN) (j : Nat) (e : List Nat × Int) (n : Nat) (fr : TabN) : Prop where
  nd : (fr.map (·.1)).Nodup
  ks : ∀ k ∈ fr.map (·.1), Kt ys (m + 1) k
  nn : ∀ e ∈ fr, 0 ≤ e.2
  su : ∀ f, tS fr f = tS (kn.take j) (fun c => stF ys f c ys.length) + e.2 * stF ys f e.1 n
theorem FjN.add {ys : List Int} {m : Nat} {kn fr : TabN} {j n : Nat} {e : List Nat × Int} (hy : ∀ y ∈ ys, 0 ≤ y) (hn : n < ys.length) (he : Kt ys m e.1) (hv : 0 ≤ e.2) (h : FjN ys m kn j e n fr) : FjN ys m kn j e (n + 1) (addV fr (inc e.1 n) (e.2 * ys.getD n 0)) := by
  have hw : 0 ≤ ys.getD n 0 := by
    rw [List.getD_eq_getElem?_getD, List.getElem?_eq_getElem hn]
    exact hy _ (List.getElem_mem hn)
  refine ⟨addV_nodup h.nd _ _, fun k hk => ?_, addV_nonneg (Int.mul_nonneg hv hw) h.nd h.nn, fun f => ?_⟩
  · rcases addV_key hk with rfl | hk
    · exact ⟨by rw [inc_len]; exact he.len, by rw [inc_sum _ _ (by rw [he.len]; exact hn), he.sum]⟩
    · exact h.ks k hk
  · rw [tS_put _ _ _ h.nd, h.su f]
    show _ = _ + e.2 * (stF ys f e.1 n + ys.getD n 0 * f (inc e.1 n))
    grind
end
end Pg

namespace Pg
open PySem PySem.Spec PyProof.Rows L2 Sd
section
variable {P : Program} {w : World} {K : PySem.W.Frag} {mg : Str → Option Value} {base : Heap} {c : Cl}
end
end Pg

namespace Pg
open PySem PySem.Spec PyProof.Rows L2 Sd
section
variable {P : Program} {w : World} {K : PySem.W.Frag} {mg : Str → Option Value} {base : Heap} {c : Cl}
/-! sums over the falls: lists, and one day alone -/
theorem fm_if {α β : Type} (p : α → Bool) (g : α → β) : ∀ l : List α, (l.filterMap fun x => if p x = true then some (g x) else none) = (l.filter p).map g
  | [] => rfl
  | x :: l => by
    rw [List.filterMap_cons, List.filter_cons, fm_if p g l]
    by_cases h : p x = true
    · rw [if_pos h, if_pos h]; rfl
    · rw [if_neg h, if_neg h]
end
end Pg

namespace Pg
open PySem PySem.Spec PyProof.Rows L2 Sd
section
variable {P : Program} {w : World} {K : PySem.W.Frag} {mg : Str → Option Value} {base : Heap} {c : Cl}
end
end Pg

namespace Pg
open PySem PySem.Spec PyProof.Rows L2 Sd
section
variable {P : Program} {w : World} {K : PySem.W.Frag} {mg : Str → Option Value} {base : Heap} {c : Cl}
/-! two days read from a chance -/
structure Two (q : Rat) (h l : Nat) : Prop where
  lo : 1 ≤ l
  le : l ≤ h
  hi : h ≤ 20
  co : Nat.gcd h l = 1
  eq : 2 * (h : Rat) * (l : Rat) = q * ((h : Rat) + l) * ((h : Rat) + l)
theorem natQ_pos {n : Nat} (h : 1 ≤ n) : (0 : Rat) < (n : Rat) := by exact_mod_cast h
theorem sqf {x : Rat} {a b : Int} (hb : 0 < b) (hg : Int.gcd a b = 1) (h : x * b = a) : x.num = a ∧ (x.den : Int) = b := by
  have hb' : (b : Rat) ≠ 0 := by
    have : (0 : Rat) < b := by exact_mod_cast hb
    grind
  have e : x = (a : Rat) / b := by grind
  obtain ⟨h1, h2⟩ := low_eq a b hb
  rw [e, h1, h2, hg]
  simp
theorem gcd_sq {a b : Int} (h : Int.gcd a b = 1) : Int.gcd (a * a) (b * b) = 1 := by
  have h' : Nat.Coprime a.natAbs b.natAbs := h
  show Nat.gcd (a * a).natAbs (b * b).natAbs = 1
  rw [Int.natAbs_mul, Int.natAbs_mul]
  exact Nat.Coprime.mul_left (Nat.Coprime.mul_right h' h') (Nat.Coprime.mul_right h' h')
/-- what is there has roots -/
theorem two_roots {q x : Rat} (hx : x = 1 - 2 * q) {h l : Nat} (T : Two q h l) : 0 ≤ x ∧ q ≠ 0 ∧ ∃ r s : Nat, x.num = ((r * r : Nat) : Int) ∧ x.den = s * s := by
  have h1 := natQ_pos T.lo
  have h2 := natQ_pos (Nat.le_trans T.lo T.le)
  have e := T.eq
  have hs : (0 : Rat) < (h : Rat) + l := by grind
  obtain ⟨t, ht⟩ : ∃ t : Rat, t = ((h : Rat) - l) / ((h : Rat) + l) := ⟨_, rfl⟩
  have hts : t * ((h : Rat) + l) = (h : Rat) - l := by
    rw [ht]
    grind
  have hxx : x = t * t := by
    have : (x - t * t) * (((h : Rat) + l) * ((h : Rat) + l)) = 0 := by grind
    have h0 : ((h : Rat) + l) * ((h : Rat) + l) ≠ 0 := by
      have := Rat.mul_pos hs hs
      grind
    rcases Rat.mul_eq_zero.mp this with z | z
    · grind
    · exact absurd z h0
  have hle : (l : Rat) ≤ (h : Rat) := by exact_mod_cast T.le
  have ht0 : 0 ≤ t := by
    rcases Rat.le_total (a := 0) (b := t) with z | z
    · exact z
    · have := Rat.mul_le_mul_of_nonneg_right z (Rat.le_of_lt hs)
      have h0 : t * ((h : Rat) + l) = 0 := by grind
      rcases Rat.mul_eq_zero.mp h0 with w | w <;> grind
  refine ⟨by rw [hxx]; exact Rat.mul_nonneg ht0 ht0, fun z => ?_, t.num.toNat, t.den, ?_⟩
  · rw [z] at e
    have := Rat.mul_pos h1 h2
    grind
  · have hn := Rat.num_nonneg.mpr ht0
    have hg : Int.gcd t.num (t.den : Int) = 1 := t.reduced
    have hd := den_pos t
    obtain ⟨a1, a2⟩ := sqf (x := x) (a := t.num * t.num) (b := (t.den : Int) * t.den) (Int.mul_pos hd hd) (gcd_sq hg) (by
      have e1 := num_eq t
      push_cast at e1
      rw [hxx]
      push_cast
      rw [e1]
      grind)
    refine ⟨?_, ?_⟩
    · rw [a1]
      push_cast
      rw [Int.toNat_of_nonneg hn]
    · exact_mod_cast a2
/-- a ratio that fits -/
theorem two_of {q x : Rat} (hx : x = 1 - 2 * q) (hq : 0 < q) {r s : Nat} (h1 : x.num = ((r * r : Nat) : Int)) (h2 : x.den = s * s) : r < s ∧ ∀ y : Rat, y * ((s : Rat) - r) = (s : Rat) + r → (2 * y = q * (y + 1) * (y + 1)) ∧ 1 ≤ y := by
  have e := num_eq x
  rw [h1, h2] at e
  have es : (0 : Rat) < (s : Rat) := by
    rcases Nat.eq_zero_or_pos s with z | z
    · have := x.den_pos
      rw [h2, z] at this
      exact absurd this (by decide)
    · exact natQ_pos z
  have e' : (r : Rat) * r = x * (s * s) := by
    have := e
    push_cast at this
    exact this
  have hlt : r < s := by
    rcases Nat.lt_or_ge r s with h | h
    · exact h
    · exfalso
      have h' : (s : Rat) ≤ r := by exact_mod_cast h
      have h3 : (s : Rat) * s ≤ r * r := Rat.le_trans (Rat.mul_le_mul_of_nonneg_left h' (by grind)) (Rat.mul_le_mul_of_nonneg_right h' (by grind))
      have h4 := Rat.mul_pos hq (Rat.mul_pos es es)
      have h5 : (r : Rat) * r = s * s - 2 * (q * (s * s)) := by rw [e', hx]; grind
      grind
  refine ⟨hlt, fun y hy => ?_⟩
  have hd : (0 : Rat) < (s : Rat) - r := by
    have : (r : Rat) < s := by exact_mod_cast hlt
    grind
  have hr0 : (0 : Rat) ≤ (r : Rat) := by exact_mod_cast Nat.zero_le r
  constructor
  · have : (2 * y - q * (y + 1) * (y + 1)) * (((s : Rat) - r) * ((s : Rat) - r)) = 0 := by grind
    rcases Rat.mul_eq_zero.mp this with z | z
    · grind
    · have := Rat.mul_pos hd hd
      grind
  · rcases Rat.le_total (a := 1) (b := y) with h | h
    · exact h
    · have := Rat.mul_le_mul_of_nonneg_right h (Rat.le_of_lt hd)
      have h5 : (0 : Rat) ≤ r := hr0
      have h6 : (r : Rat) = 0 ∨ 0 < (r : Rat) := by
        rcases Nat.eq_zero_or_pos r with z | z
        · left; rw [z]; rfl
        · right; exact natQ_pos z
      rcases h6 with z | z
      · have : y * (s : Rat) = s := by grind
        have : (y - 1) * (s : Rat) = 0 := by grind
        rcases Rat.mul_eq_zero.mp this with w | w <;> grind
      · grind
theorem two_uniq {q y y' : Rat} (h : 2 * y = q * (y + 1) * (y + 1)) (h' : 2 * y' = q * (y' + 1) * (y' + 1)) (hy : 1 ≤ y) (hy' : 1 ≤ y') : y = y' := by
  have e : (y * y' - 1) * (y - y') * 2 = 0 := by grind
  have e2 : (y * y' - 1) * (y - y') = 0 := by grind
  rcases Rat.mul_eq_zero.mp e2 with z | z
  · have h1 := Rat.mul_le_mul_of_nonneg_left (c := y) hy' (by grind)
    have h2 := Rat.mul_le_mul_of_nonneg_left (c := y') hy (by grind)
    grind
  · grind
/-- the year of two days -/
theorem two_found {q y : Rat} (h : 2 * y = q * (y + 1) * (y + 1)) (hy : 1 ≤ y) : (∀ h' l', Two q h' l' → y.num = (h' : Int) ∧ y.den = l') ∧ (y.num ≤ 20 → Two q y.num.toNat y.den) := by
  have hd := den_pos y
  have hdq : (0 : Rat) < ((y.den : Int) : Rat) := by exact_mod_cast hd
  have hn := num_eq y
  constructor
  · intro h' l' T
    have a1 := natQ_pos T.lo
    obtain ⟨z, hz⟩ : ∃ z : Rat, z = (h' : Rat) / l' := ⟨_, rfl⟩
    have hzl : z * l' = h' := by rw [hz]; grind
    have hle : (l' : Rat) ≤ (h' : Rat) := by exact_mod_cast T.le
    have hz1 : 1 ≤ z := by
      rcases Rat.le_total (a := 1) (b := z) with w | w
      · exact w
      · have := Rat.mul_le_mul_of_nonneg_right w (Rat.le_of_lt a1)
        have : (z - 1) * (l' : Rat) = 0 := by grind
        rcases Rat.mul_eq_zero.mp this with v | v <;> grind
    have hze : 2 * z = q * (z + 1) * (z + 1) := by
      have e := T.eq
      have : (2 * z - q * (z + 1) * (z + 1)) * ((l' : Rat) * l') = 0 := by grind
      rcases Rat.mul_eq_zero.mp this with v | v
      · grind
      · have := Rat.mul_pos a1 a1
        grind
    have ey := two_uniq h hze hy hz1
    subst ey
    obtain ⟨b1, b2⟩ := sqf (x := y) (a := (h' : Int)) (b := (l' : Int)) (by have := T.lo; omega) (by
      show Nat.gcd _ _ = 1
      rw [Int.natAbs_natCast, Int.natAbs_natCast]
      exact T.co) (by push_cast; exact hzl)
    exact ⟨b1, by exact_mod_cast b2⟩
  · intro h20
    have h1 : (1 : Int) ≤ y.num ∧ (y.den : Int) ≤ y.num := by
      have := (le_fr 1 y).mpr hy
      simp at this
      omega
    have hc : ((y.num.toNat : Nat) : Rat) = (y.num : Rat) := by
      have : ((y.num.toNat : Nat) : Int) = y.num := by omega
      exact_mod_cast congrArg (fun i : Int => (i : Rat)) this
    have hdc : ((y.den : Nat) : Rat) = ((y.den : Int) : Rat) := by push_cast; rfl
    refine ⟨by have := y.den_pos; omega, by omega, by omega, ?_, ?_⟩
    · have := y.reduced
      rw [show y.num.toNat = y.num.natAbs by omega]
      exact this
    · rw [hc, hdc, hn]
      grind
end
end Pg

namespace Pg
open PySem PySem.Spec PyProof.Rows L2 Sd
section
variable {P : Program} {w : World} {K : PySem.W.Frag} {mg : Str → Option Value} {base : Heap} {c : Cl}
end
end Pg

namespace Pg
open PySem PySem.Spec PyProof.Rows L2 Sd
section
variable {P : Program} {w : World} {K : PySem.W.Frag} {mg : Str → Option Value} {base : Heap} {c : Cl}
def gcL (ys : List Int) : Nat := ys.foldl (fun g y => Int.gcd y (g : Int)) 0
theorem gcL_take {ys : List Int} {i : Nat} {y : Int} (h : ys[i]? = some y) : gcL (ys.take (i + 1)) = Int.gcd y (gcL (ys.take i) : Int) := by
  unfold gcL
  rw [List.take_add_one, h, List.foldl_append]
  rfl
theorem gcF_dvd : ∀ (l : List Int) (g : Nat), ((l.foldl (fun g y => Int.gcd y (g : Int)) g : Nat) : Int) ∣ (g : Int) ∧ ∀ y ∈ l, ((l.foldl (fun g y => Int.gcd y (g : Int)) g : Nat) : Int) ∣ y
  | [], g => ⟨Int.dvd_refl _, fun y hy => nomatch hy⟩
  | a :: l, g => by
    obtain ⟨h1, h2⟩ := gcF_dvd l (Int.gcd a (g : Int))
    rw [List.foldl_cons]
    refine ⟨Int.dvd_trans h1 (Int.gcd_dvd_right ..), fun y hy => ?_⟩
    rcases List.mem_cons.mp hy with rfl | hy
    · exact Int.dvd_trans h1 (Int.gcd_dvd_left ..)
    · exact h2 y hy
theorem gcL_dvd {l : List Int} {y : Int} (h : y ∈ l) : ((gcL l : Nat) : Int) ∣ y := (gcF_dvd l 0).2 y h
theorem gcL_pos {l : List Int} (h : ∃ y ∈ l, 0 < y) : 0 < gcL l := by
  obtain ⟨y, hy, h0⟩ := h
  rcases Nat.eq_zero_or_pos (gcL l) with z | z
  · have := gcL_dvd hy
    rw [z] at this
    have := Int.zero_dvd.mp this
    omega
  · exact z
def pln (ys : List Int) : List Int := ys.map (· / ((gcL ys : Nat) : Int))
def pre_plain : Pr := fun ss own post => ∃ (ys : List Int), ss = [.d (li ys)] ∧ own = [] ∧ Yr ys ∧ post = fun o => ∃ p, o = .ret (.raw (.ref p)) [(p, .lst ((pln ys).map PyData.int))]
theorem gcL_le {ys : List Int} (hY : Yr ys) : 0 < gcL ys ∧ gcL ys ≤ 20 := by
  have hl := hY.lo
  obtain ⟨y, hy⟩ : ∃ y, y ∈ ys := ⟨ys[0], List.getElem_mem _⟩
  have h20 := hY.it y hy
  refine ⟨gcL_pos ⟨y, hy, by omega⟩, ?_⟩
  have := Int.le_of_dvd (by omega) (gcL_dvd hy)
  omega
theorem fn_plain (T : Tx K mg c) : Fn K mg P w base "plain" ["year"] 4 pre_plain := T.d_plain.fn fun f fd F => okG (k := 3) F sc_plain (by rintro ss own post ⟨ys, rfl, _⟩; rfl) (by
  rintro ss own post ⟨ys, rfl, rfl, hY, rfl⟩ cdv A outer s H E B g
  have hl := hY.hi
  refine sds_cons (sd_expr (es_call (fn_check_year T) g (by decide) (ea_cons (ed_v 0) ea_nil) (ok_year hY)) ?_)
  refine sds_cons (sd_set 1 g.nd ed_int ?_)
  refine sds_cons (sd_for g (it_list (ed_v 0)) (fun i ρ own => own = [] ∧ ∃ t, ρ = [.d (li ys), .d (.int ((gcL (ys.take i) : Nat) : Int)), t]) ⟨rfl, _, rfl⟩ (fun _ _ _ _ => trivial) ?_ ?_)
  · rintro i y ρ1 own1 hy ⟨rfl, t, rfl⟩
    rw [List.getElem?_map] at hy
    cases ea : ys[i]? with
    | none => rw [ea] at hy; cases hy
    | some y' =>
      rw [ea] at hy
      cases hy
      have hy20 := hY.it _ (List.mem_of_getElem? ea)
      refine ⟨_, _, gt_name 2 g.nd, sds_one (sd_set 1 g.nd (es_call (fn_common T) g (by decide) (ea_cons (ed_v 2) (ea_cons (ed_v 1) ea_nil)) ⟨_, _, rfl, rfl, by omega, by omega, rfl⟩) ⟨rfl, .d (.int y'), ?_⟩)⟩
      rw [gcL_take ea]
      rfl
  · rintro ρ1 own1 ⟨rfl, t, rfl⟩
    rw [List.length_map, List.take_length]
    have hg := gcL_le hY
    refine sds_one (sd_retL (EL.is (el_comp g (compP g (it_list (ed_v 0)) [("weight", 2)] (blkOk_by (N := ["year", "divisor", "weight"]) (sc := defScope s_plain) (by decide +kernel)) ys PyData.int rfl (fun y => some (.int (y / ((gcL ys : Nat) : Int)))) (fun y => [.d (li ys), .d (.int ((gcL ys : Nat) : Int)), .d (.int y)]) [2] (by simp) (by omega) (fun _ _ => trivial)
      (fun d _ s H C cl fp g' => gt_name 2 g'.nd) (fun d _ s H C cl fp o g' => ets_nil) (fun n hn x hx s H C cl fp o g' => ?_))) (by rw [pln, List.map_map]; exact congrFun List.filterMap_eq_map' _)) fun p => ⟨p, rfl⟩)
    cases hx
    exact ed_fdivS (ed_v 2) (ed_v 1) (by omega))
end
end Pg

namespace Pg
open PySem PySem.Spec PyProof.Rows L2 Sd
section
variable {P : Program} {w : World} {K : PySem.W.Frag} {mg : Str → Option Value} {base : Heap} {c : Cl}
def rowsN : Nat → Nat → Nat → List (List Int)
  | 0, w, _ => if w = 0 then [[]] else []
  | d + 1, w, m => (List.range (min m (w - d))).flatMap fun i => (rowsN d (w - (min m (w - d) - i)) (min m (w - d) - i)).map (((min m (w - d) - i : Nat) : Int) :: ·)
def rowsP (d w m j : Nat) : List (List Int) := (List.range j).flatMap fun i => (rowsN d (w - (min m (w - d) - i)) (min m (w - d) - i)).map (((min m (w - d) - i : Nat) : Int) :: ·)
theorem rowsP_succ (d w m j : Nat) : rowsP d w m (j + 1) = rowsP d w m j ++ (rowsN d (w - (min m (w - d) - j)) (min m (w - d) - j)).map (((min m (w - d) - j : Nat) : Int) :: ·) := by
  unfold rowsP
  rw [List.range_succ, List.flatMap_append]
  simp
theorem rowsP_len (d w m : Nat) {j k : Nat} (h : j ≤ k) : (rowsP d w m j).length ≤ (rowsP d w m k).length := by
  induction k with
  | zero => rw [show j = 0 by omega]; exact Nat.le_refl _
  | succ k ih =>
    by_cases e : j = k + 1
    · rw [e]; exact Nat.le_refl _
    · rw [rowsP_succ, List.length_append]
      have := ih (by omega)
      omega
theorem bin_mono (k : Nat) : ∀ {m n : Nat}, m ≤ n → bin m k ≤ bin n k := by
  intro m n h
  induction n with
  | zero => rw [show m = 0 by omega]; exact Nat.le_refl _
  | succ n ih =>
    by_cases e : m = n + 1
    · rw [e]; exact Nat.le_refl _
    · have h1 := ih (by omega)
      cases k with
      | zero => rw [bin_zero, bin_zero]; exact Nat.le_refl _
      | succ k => rw [bin_succ]; omega
theorem rowsN_succ (d w m : Nat) : rowsN (d + 1) w m = rowsP d w m (min m (w - d)) := rfl
theorem rows_one (w m : Nat) : ∀ j : Nat, j ≤ min m (w - 0) → (rowsP 0 w m j).length ≤ if j = 0 then 0 else 1
  | 0, _ => by simp [rowsP]
  | j + 1, h => by
    have ih := rows_one w m j (by omega)
    rw [rowsP_succ, List.length_append, List.length_map, if_neg (by omega)]
    by_cases e : j = 0
    · subst e
      rw [if_pos rfl] at ih
      rw [Nat.le_zero.mp ih]
      unfold rowsN
      split <;> simp
    · rw [if_neg e] at ih
      unfold rowsN
      rw [if_neg (by omega)]
      simp
      omega
theorem rows_bin : ∀ (d w m : Nat), (rowsN (d + 1) w m).length ≤ bin (w - 1) d
  | 0, w, m => by
    have h := rows_one w m (min m (w - 0)) (Nat.le_refl _)
    rw [rowsN_succ, bin_zero]
    refine Nat.le_trans h ?_
    split <;> decide
  | d + 1, w, m => by
    rw [rowsN_succ]
    generalize ht : min m (w - (d + 1)) = t
    have key : ∀ j : Nat, j ≤ t → (rowsP (d + 1) w m j).length ≤ if j = 0 then 0 else bin (w - t + j - 1) (d + 1) := by
      intro j
      induction j with
      | zero => intro _; simp [rowsP]
      | succ j ih =>
        intro hj
        have ih := ih (by omega)
        have h1 := rows_bin d (w - (t - j)) (t - j)
        rw [rowsP_succ, List.length_append, List.length_map, if_neg (by omega), ht]
        rw [show w - (t - j) - 1 = w - t + j - 1 by omega] at h1
        rw [show w - t + (j + 1) - 1 = (w - t + j - 1) + 1 by omega, bin_succ]
        by_cases e : j = 0
        · rw [if_pos e] at ih
          omega
        · rw [if_neg e] at ih
          omega
    have h := key t (Nat.le_refl _)
    split at h
    · omega
    · rw [show w - t + t - 1 = w - 1 by omega] at h
      exact h
theorem bin19 : ∀ d : Nat, d < 8 → bin 19 d ≤ 51000 := by decide +kernel
theorem rows_len (d : Nat) (hd : d ≤ 8) (w : Nat) (hw : w ≤ 20) (m : Nat) (hm : m ≤ 20) : (rowsN d w m).length ≤ 51000 := by
  cases d with
  | zero => unfold rowsN; split <;> simp
  | succ d =>
    have h1 := rows_bin d w m
    have h2 := bin_mono d (show w - 1 ≤ 19 by omega)
    have h3 := bin19 d (by omega)
    omega
theorem rows_mem : ∀ (d w m : Nat) (r : List Int), r ∈ rowsN d w m → r.length = d
  | 0, w, m, r, h => by
    unfold rowsN at h
    split at h
    · rw [List.mem_singleton.mp h]; rfl
    · cases h
  | d + 1, w, m, r, h => by
    unfold rowsN at h
    obtain ⟨i, _, h⟩ := List.mem_flatMap.mp h
    obtain ⟨r', h', rfl⟩ := List.mem_map.mp h
    rw [List.length_cons, rows_mem d _ _ r' h']
def pre_rows_of (d : Nat) : Pr := fun ss own post => ∃ w m : Nat, ss = [.d (.int (d : Int)), .d (.int (w : Int)), .d (.int (m : Int))] ∧ own = [] ∧ w ≤ 20 ∧ m ≤ 20 ∧ post = fun o => ∃ p, o = .ret (.raw (.ref p)) [(p, .lst ((rowsN d w m).map li))]
theorem fn_rows_of (T : Tx K mg c) : ∀ d : Nat, d ≤ 8 → Fn K mg P w base "rows_of" ["days", "whole", "most"] (d + 1) (pre_rows_of d)
  | 0, _ => T.d_rows_of.fn fun f fd F => okG (k := 0) F sc_rows_of (by rintro ss own post ⟨w, m, rfl, _⟩; rfl) (by
    rintro ss own post ⟨w, m, rfl, rfl, hw, hm, rfl⟩ cdv A outer s H E B g
    refine sds_cons (sd_if (l := true) (ET.is (et_cmp c_eqI (ed_v 0) ed_int) rfl) (fun _ => ?_) fun h => nomatch h)
    refine sds_one (sd_retL (ds := (rowsN 0 w m).map li) (el_if (k := decide ((w : Int) = 0)) (et_cmp c_eqI (ed_v 1) ed_int) (fun h => ?_) fun h => ?_) fun p => ⟨p, rfl⟩)
    · have h : w = 0 := by
        have := of_decide_eq_true h
        omega
      subst h
      exact el_lst (ds := [li []]) (ea_cons (ed_lst (ds := []) ea_nil) ea_nil)
    · have h : w ≠ 0 := by
        have := of_decide_eq_false h
        omega
      exact EL.is (el_lst (ds := []) ea_nil) (by rw [rowsN, if_neg h]; rfl))
  | d + 1, hd => T.d_rows_of.fn fun f fd F => okG (k := d + 1) F sc_rows_of (by rintro ss own post ⟨w, m, rfl, _⟩; rfl) (by
    rintro ss own post ⟨w, m, rfl, rfl, hw, hm, rfl⟩ cdv A outer s H E B g
    refine sds_cons (sd_if (l := false) (ET.is (et_cmp c_eqI (ed_v 0) ed_int) (by simp; omega)) (fun h => nomatch h) fun _ => sds_nil ?_)
    refine sds_cons (sd_setL 3 g.nd (el_lst (ds := []) ea_nil) fun p => ?_)
    obtain ⟨t, ht⟩ : ∃ t : Nat, t = min m (w - d) := ⟨_, rfl⟩
    have em : (if (w : Int) - ((d + 1 : Nat) : Int) + 1 < (m : Int) then (w : Int) - ((d + 1 : Nat) : Int) + 1 else (m : Int)) = (t : Int) ∨ ((if (w : Int) - ((d + 1 : Nat) : Int) + 1 < (m : Int) then (w : Int) - ((d + 1 : Nat) : Int) + 1 else (m : Int)) ≤ 0 ∧ t = 0) := by split <;> omega
    have hlen := rows_len (d + 1) hd w hw m hm
    have hfull : rowsN (d + 1) w m = rowsP d w m t := by rw [ht]; rfl
    refine sds_cons (sd_for g (it_range3 T.n_range (ed_min2 g T.n_min (ed_v 2) (ed_add (ed_sub (ed_v 1) (ed_v 0)) ed_int)) ed_int (ed_neg ed_int) ⟨by split <;> omega, by split <;> omega, by omega, by omega⟩) (fun i ρ own => own = [(p, .lst ((rowsP d w m i).map li))] ∧ ∃ t4 t5, ρ = [.d (.int ((d + 1 : Nat) : Int)), .d (.int (w : Int)), .d (.int (m : Int)), .raw (.ref p), t4, t5]) ⟨rfl, _, _, rfl⟩ (fun _ _ _ _ => trivial) ?_ ?_)
    · rintro i y ρ1 own1 hy ⟨rfl, t4, t5, rfl⟩
      obtain ⟨hi, rfl⟩ := rngD_get hy
      obtain ⟨hi1, e1⟩ : i < t ∧ (if (w : Int) - ((d + 1 : Nat) : Int) + 1 < (m : Int) then (w : Int) - ((d + 1 : Nat) : Int) + 1 else (m : Int)) = (t : Int) := by
        rcases em with e | ⟨e, e'⟩
        · rw [e] at hi
          exact ⟨by omega, e⟩
        · omega
      rw [e1]
      obtain ⟨f, hf⟩ : ∃ f : Nat, f = t - i := ⟨_, rfl⟩
      have e2 : (t : Int) - (i : Int) = (f : Int) := by omega
      rw [e2]
      have hl2 := rows_len d (by omega) (w - f) (by omega) f (by omega)
      have hs := rowsP_succ d w m i
      rw [← ht, ← hf] at hs
      have hlt := rowsP_len d w m (show i + 1 ≤ t by omega)
      rw [← hfull] at hlt
      rw [hs, List.length_append, List.length_map] at hlt
      refine ⟨_, _, gt_name 4 g.nd, ?_⟩
      refine sds_one (sd_ext 3 (oa := []) (ob := []) (ds := (rowsP d w m i).map li) (ys := ((rowsN d (w - f) f).map ((f : Int) :: ·)).map li) g.nd rfl (EL.ed (EL.is (el_comp g (compP g (it_list (EL.ed (el_call (ds := (rowsN d (w - f) f).map li) (fn_rows_of T d (by omega)) g (Nat.le_refl _) (ea_cons (ES.is (y := .int (d : Int)) (ed_sub (ed_v 0) ed_int) ?_) (ea_cons (ES.is (y := .int ((w - f : Nat) : Int)) (ed_sub (ed_v 1) (ed_v 4)) ?_) (ea_cons (ed_v 4) ea_nil))) ⟨w - f, f, rfl, rfl, by omega, by omega, rfl⟩))) [("rest", 5)] (blkOk_by (N := ["days", "whole", "most", "found", "first", "rest"]) (sc := defScope s_rows_of) (by decide +kernel)) (rowsN d (w - f) f) li rfl (fun r => some (li ((f : Int) :: r))) (fun r => [.d (.int ((d + 1 : Nat) : Int)), .d (.int (w : Int)), .d (.int (m : Int)), .raw (.ref p), .d (.int (f : Int)), .d (li r)]) [5] (by simp) (by omega) (fun _ _ => trivial) (fun r _ s H C cl fp g' => gt_name 5 g'.nd) (fun r _ s H C cl fp o g' => ets_nil) (fun r hr x hx s H C cl fp o g' => ?_))) ?_)) .d ?_ ?_)
      · congr 1; omega
      · congr 1; omega
      · cases hx
        have := rows_mem _ _ _ _ hr
        exact EL.ed (EL.is (el_cat (ed_lst (ds := [.int (f : Int)]) (ea_cons (ed_v 4) ea_nil)) (ed_v 5) .d .d (by simp; omega)) rfl)
      · rw [List.map_map]
        exact congrFun List.filterMap_eq_map' _
      · simp only [List.length_map]
        omega
      · refine ⟨?_, _, _, rfl⟩
        rw [hs, List.map_append]
        rfl
    · rintro ρ1 own1 ⟨rfl, t4, t5, rfl⟩
      have e : rowsP d w m (rngD (if (w : Int) - ((d + 1 : Nat) : Int) + 1 < (m : Int) then (w : Int) - ((d + 1 : Nat) : Int) + 1 else (m : Int)) ((if (w : Int) - ((d + 1 : Nat) : Int) + 1 < (m : Int) then (w : Int) - ((d + 1 : Nat) : Int) + 1 else (m : Int)) - 0).toNat).length = rowsN (d + 1) w m := by
        rw [hfull]
        congr 1
        unfold rngD
        rw [List.length_map, List.length_range]
        rcases em with e | ⟨e, e'⟩
        · rw [e]; omega
        · omega
      rw [e]
      exact sds_one (sd_ret (ev_v 3) (fun z => nomatch z) ⟨p, rfl⟩))
end
end Pg

namespace Pg
open PySem PySem.Spec PyProof.Rows L2 Sd
section
variable {P : Program} {w : World} {K : PySem.W.Frag} {mg : Str → Option Value} {base : Heap} {c : Cl}
def pre_minus : Pr := fun ss own post => ∃ (p q : Rat) (m n : Nat), ss = [.d (fr p), .d (fr q)] ∧ own = [] ∧ Sq m p ∧ Sq n q ∧ m + n ≤ 8990 ∧ post = fun o => o = .ret (.d (fr (p - q))) []
theorem fn_minus (T : Tx K mg c) : Fn K mg P w base "minus" ["one", "other"] 3 pre_minus := T.d_minus.fn fun f fd F => okG (k := 2) F sc_minus (by rintro ss own post ⟨p, q, m, n, rfl, _⟩; rfl) (by
  rintro ss own post ⟨p, q, m, n, rfl, rfl, hp, hq, hmn, rfl⟩ cdv A outer s H E B g
  refine sds_one (sd_retD (es_call (fn_lowest T) g (by decide) (ea_cons (ed_sub (ed_mul (ed_ixT (ed_v 0) ed_int rfl) (ed_ixT (ed_v 1) ed_int rfl) (cmul_of hp.num hq.den (by omega))) (ed_mul (ed_ixT (ed_v 1) ed_int rfl) (ed_ixT (ed_v 0) ed_int rfl) (cmul_of hq.num hp.den (by omega))))
    (ea_cons (ed_mul (ed_ixT (ed_v 0) ed_int rfl) (ed_ixT (ed_v 1) ed_int rfl) (cmul_of hp.den hq.den (by omega))) ea_nil)) ⟨_, _, rfl, rfl, Int.mul_pos (den_pos p) (den_pos q), (hp.den.mul hq.den).mono (by omega), rfl⟩) ?_)
  rw [minus_eq])
end
end Pg

namespace Pg
open PySem PySem.Spec PyProof.Rows L2 Sd
section
variable {P : Program} {w : World} {K : PySem.W.Frag} {mg : Str → Option Value} {base : Heap} {c : Cl}
def pre_some_same : Pr := fun ss own post => ∃ (ys : List Int) (n : Nat), ss = [.d (li ys), .d (.int (n : Int))] ∧ own = [] ∧ Yr ys ∧ n ≤ 12 ∧ post = fun o => o = .ret (.d (fr (1 - unl ys n))) []
theorem fn_some_same (T : Tx K mg c) : Fn K mg P w base "some_same" ["year", "many"] 4 pre_some_same := T.d_some_same.fn fun f fd F => okG (k := 3) F sc_some_same (by rintro ss own post ⟨ys, n, rfl, _⟩; rfl) (by
  rintro ss own post ⟨ys, n, rfl, rfl, hY, hn, rfl⟩ cdv A outer s H E B g
  refine sds_cons (sd_expr (es_call (fn_check_year T) g (by decide) (ea_cons (ed_v 0) ea_nil) (ok_year hY)) ?_)
  refine sds_cons (sd_expr (es_call (fn_check_many T) g (by decide) (ea_cons (ed_v 1) ea_nil) (ok_many ⟨by omega, by omega⟩)) ?_)
  exact sds_one (sd_retD (es_call (fn_minus T) g (by decide) (ea_cons (ed_k2 (i := 1) (i' := 1)) (ea_cons (es_call (fn_unlike_of T) g (by decide) (ea_cons (ed_v 0) (ea_cons (ed_v 1) ea_nil)) ⟨ys, n, rfl, rfl, hY, hn, rfl⟩) ea_nil)) ⟨1, _, 1, 200, rfl, rfl, .one, unl_sq hY hn, by decide, rfl⟩) rfl))
end
end Pg

namespace Pg
open PySem PySem.Spec PyProof.Rows L2 Sd
section
variable {P : Program} {w : World} {K : PySem.W.Frag} {mg : Str → Option Value} {base : Heap} {c : Cl}
/-- the whole part of a root -/
def isq : Nat → Nat
  | 0 => 0
  | n + 1 => if (isq n + 1) * (isq n + 1) ≤ n + 1 then isq n + 1 else isq n
theorem isq_sq : ∀ n : Nat, isq n * isq n ≤ n ∧ n < (isq n + 1) * (isq n + 1)
  | 0 => ⟨Nat.le_refl _, by decide⟩
  | n + 1 => by
    obtain ⟨h1, h2⟩ := isq_sq n
    unfold isq
    split
    · rename_i h
      refine ⟨h, ?_⟩
      have : (isq n + 1 + 1) * (isq n + 1 + 1) = (isq n + 1) * (isq n + 1) + 2 * (isq n + 1) + 1 := by simp only [Nat.add_mul, Nat.mul_add]; omega
      omega
    · omega
theorem isq_uniq {r n : Nat} (h1 : r * r ≤ n) (h2 : n < (r + 1) * (r + 1)) : r = isq n := by
  obtain ⟨h3, h4⟩ := isq_sq n
  rcases Nat.lt_trichotomy r (isq n) with h | h | h
  · have := Nat.mul_le_mul (show r + 1 ≤ isq n from h) (show r + 1 ≤ isq n from h)
    omega
  · exact h
  · have := Nat.mul_le_mul (show isq n + 1 ≤ r from h) (show isq n + 1 ≤ r from h)
    omega
theorem isq_self (r : Nat) : isq (r * r) = r := (isq_uniq (Nat.le_refl _) (Nat.mul_lt_mul_of_lt_of_le (by omega) (by omega) (by omega))).symm
def rtD (n : Nat) : PyData := if isq n * isq n = n then .int (isq n : Int) else .none
def pre_root_of : Pr := fun ss own post => ∃ (n : Nat), ss = [.d (.int (n : Int))] ∧ own = [] ∧ Sz 4000 (n : Int) ∧ post = fun o => o = .ret (.d (rtD n)) []
theorem fn_root_of (T : Tx K mg c) : Fn K mg P w base "root_of" ["number"] 1 pre_root_of := T.d_root_of.fn fun f fd F => okG (k := 0) F sc_root_of (by rintro ss own post ⟨n, rfl, _⟩; rfl) (by
  rintro ss own post ⟨n, rfl, rfl, hz, rfl⟩ cdv A outer s H E B g
  refine sds_cons (sd_par 1 2 g (ea_cons ed_int (ea_cons (ed_add (ed_v 0) ed_int) ea_nil)) ?_)
  refine sds_cons (sd_while g (fun m ρ own => ∃ (l h : Nat) (t : Slot), l < h ∧ h ≤ n + 1 ∧ l * l ≤ n ∧ n < h * h ∧ ρ = [.d (.int (n : Int)), .d (.int (l : Int)), .d (.int (h : Int)), t] ∧ own = [] ∧ m = h - l) (n + 1 - 0) ⟨0, n + 1, .un, by omega, Nat.le_refl _, by omega, ?_, ?_, rfl, rfl⟩ ?_)
  · rw [Nat.add_mul, Nat.mul_add]
    omega
  · rw [show ((n + 1 : Nat) : Int) = (n : Int) + 1 by omega]
    rfl
  rintro m ρ1 own1 ⟨l, h, t, h1, h2, h3, h4, rfl, rfl, rfl⟩
  refine ⟨_, et_cmp c_gt (ed_sub (ed_v 2) (ed_v 1)) ed_int, fun hd => ?_, fun hd => ?_⟩
  · have hd : l + 1 < h := by
      have := of_decide_eq_true hd
      omega
    have em : ((l : Int) + (h : Int)) / 2 = (((l + h) / 2 : Nat) : Int) := by omega
    obtain ⟨md, hmd⟩ : ∃ md, md = (l + h) / 2 := ⟨_, rfl⟩
    have hm1 : l < md ∧ md < h := by omega
    refine sds_cons (sd_set 3 g.nd (ES.is (y := .int (md : Int)) (ed_fdivS (ed_add (ed_v 1) (ed_v 2)) ed_int (by omega)) (by rw [em, hmd])) ?_)
    have zm : Sz 4001 (md : Int) := by
      unfold Sz at hz ⊢
      rw [Int.natAbs_natCast] at hz ⊢
      rw [Nat.pow_succ]
      omega
    refine sds_one (sd_if (l := decide (md * md ≤ n)) (ET.is (et_cmp c_le (ed_mul (ed_v 3) (ed_v 3) (cmul_of zm zm (by decide))) (ed_v 0)) ?_) (fun hc => ?_) fun hc => ?_)
    · refine decide_eq_decide.mpr ?_
      rw [← Int.natCast_mul]
      omega
    · have hc := of_decide_eq_true hc
      refine sds_one (sd_set 1 g.nd (ed_v 3) ?_)
      exact ⟨h - md, by omega, md, h, _, hm1.2, h2, hc, h4, rfl, rfl, rfl⟩
    · have hc := of_decide_eq_false hc
      refine sds_one (sd_set 2 g.nd (ed_v 3) ?_)
      exact ⟨md - l, by omega, l, md, _, hm1.1, by omega, h3, by omega, rfl, rfl, rfl⟩
  · have hd : h = l + 1 := by
      have := of_decide_eq_false hd
      omega
    subst hd
    have zl : Sz 4001 (l : Int) := by
      unfold Sz at hz ⊢
      rw [Int.natAbs_natCast] at hz ⊢
      rw [Nat.pow_succ]
      omega
    refine sds_one (sd_retD (x := if l * l = n then .int (l : Int) else .none) (es_if (k := decide (l * l = n)) (ET.is (et_cmp c_eqI (ed_mul (ed_v 1) (ed_v 1) (cmul_of zl zl (by decide))) (ed_v 0)) ?_) (fun hc => ES.is (ed_v 1) ?_) fun hc => ES.is ed_non ?_) ?_)
    · refine decide_eq_decide.mpr ?_
      rw [← Int.natCast_mul]
      omega
    · exact (if_pos (of_decide_eq_true hc)).symm
    · exact (if_neg (of_decide_eq_false hc)).symm
    · rw [rtD, ← isq_uniq h3 h4])
end
end Pg

namespace Pg
open PySem PySem.Spec PyProof.Rows L2 Sd
section
variable {P : Program} {w : World} {K : PySem.W.Frag} {mg : Str → Option Value} {base : Heap} {c : Cl}
def pre_two_days (c : Cl) : Pr := fun ss own post => ∃ q : Rat, ss = [.d (fr q)] ∧ own = [] ∧ Shr q ∧ Sq 1000 q ∧ post = fun o => (∃ h l : Nat, Two q h l ∧ ∃ p, o = .ret (.raw (.ref p)) [(p, .lst [.int (h : Int), .int (l : Int)])]) ∨ ((∀ h l, ¬ Two q h l) ∧ o = .exc c.NotFound [])
theorem fn_two_days (T : Tx K mg c) : Fn K mg P w base "two_days" ["chance"] 4 (pre_two_days c) := T.d_two_days.fn fun f fd F => okG (k := 3) F sc_two_days (by rintro ss own post ⟨q, rfl, _⟩; rfl) (by
  rintro ss own post ⟨q, rfl, rfl, hq, hz, rfl⟩ cdv A outer s H E B g
  have hd := den_pos q
  obtain ⟨n1, n2⟩ := shr_num hq
  have zn := hz.num
  have zd := hz.den
  refine sds_cons (sd_expr (es_call (fn_check_share_t T) g (by decide) (ea_cons (ed_v 0) ea_nil) (ok_shareT (fr_isShr hq))) ?_)
  refine sds_cons (sd_par 1 2 g (ea_cons (ed_sub (ed_ixT (ed_v 0) ed_int rfl) (ed_mul ed_int (ed_ixT (ed_v 0) ed_int rfl) (cmul_of (a := 2) (by unfold Sz; decide) zn (by decide)))) (ea_cons (ed_ixT (ed_v 0) ed_int rfl) ea_nil)) ?_)
  obtain ⟨x, hx⟩ : ∃ x : Rat, x = 1 - 2 * q := ⟨_, rfl⟩
  have ex : (((q.den : Int) - 2 * q.num : Int) : Rat) / ((q.den : Int) : Rat) = x := by
    have e1 := num_eq q
    have e2 := den_ne q
    rw [hx]
    push_cast at e1 e2 ⊢
    rw [e1]
    grind
  have x0 : x < 0 ↔ (q.den : Int) - 2 * q.num < 0 := by
    have h0 : (0 : Rat) < ((q.den : Int) : Rat) := by exact_mod_cast hd
    have e3 : x * ((q.den : Int) : Rat) = (((q.den : Int) - 2 * q.num : Int) : Rat) := by rw [← ex, Rat.div_mul_cancel (den_ne q)]
    constructor
    · intro h
      have h2 := Rat.mul_pos (show (0 : Rat) < -x by grind) h0
      have h3 : (((q.den : Int) - 2 * q.num : Int) : Rat) < 0 := by rw [← e3]; grind
      exact_mod_cast h3
    · intro h
      have h1 : (((q.den : Int) - 2 * q.num : Int) : Rat) < 0 := by exact_mod_cast h
      rw [← e3] at h1
      rcases Rat.le_total (a := 0) (b := x) with z | z
      · have := Rat.mul_nonneg z (Rat.le_of_lt h0)
        grind
      · rcases Rat.le_iff_lt_or_eq.mp z with z | z
        · exact z
        · rw [z] at h1
          grind
  have q0 : q = 0 ↔ q.num = 0 := Rat.num_eq_zero.symm
  have bad : ((q.den : Int) - 2 * q.num < 0 ∨ q.num = 0) → ∀ h l, ¬ Two q h l := by
    intro hb h l W
    obtain ⟨w1, w2, _⟩ := two_roots hx W
    rcases hb with hb | hb
    · have := x0.mpr hb
      grind
    · exact w2 (q0.mpr hb)
  refine sds_cons (sd_if (l := decide ((q.den : Int) - 2 * q.num < 0 ∨ q.num = 0)) (ET.is (EW.et (ew_or (et_cmp c_lt (ed_v 1) ed_int) fun _ => ew_or1 (et_cmp c_eqI (ed_ixT (ed_v 0) ed_int rfl) ed_int))) (by rw [Bool.decide_or])) (fun h => ?_) fun h => sds_nil ?_)
  · exact sds_one (sd_raise g T.e_NotFound (.inr ⟨bad (of_decide_eq_true h), rfl⟩))
  have hg := of_decide_eq_false h
  have hqp : 0 < q := by
    have := hq.lo
    have : q ≠ 0 := fun z => hg (.inr (q0.mp z))
    grind
  have hxn : 0 ≤ x := by
    rcases Rat.le_total (a := 0) (b := x) with z | z
    · exact z
    · rcases Rat.le_iff_lt_or_eq.mp z with z | z
      · exact absurd (.inl (x0.mp z)) hg
      · grind
  have hxs : Sq 1003 x := by
    rw [← ex]
    refine Sq.of_div hd ?_ (zd.mono (by decide))
    exact (zd.sub ((show Sz 2 (2 : Int) by unfold Sz; decide).mul zn)).mono (by decide)
  refine sds_cons (sd_set 3 g.nd (s := .d (fr x)) (es_if (et_cmp c_gt (ed_v 1) ed_int) (fun h => ES.is (es_call (fn_lowest T) g (by decide) (ea_cons (ed_v 1) (ea_cons (ed_v 2) ea_nil)) ⟨_, _, rfl, rfl, hd, zd.mono (by decide), rfl⟩) (by rw [ex])) fun h => ES.is (ed_k2 (i := 0) (i' := 1)) ?_) ?_)
  · have h := of_decide_eq_false h
    have e0 : (q.den : Int) - 2 * q.num = 0 := by omega
    have : x = 0 := by
      rw [← ex, e0]
      exact Rat.zero_mul _
    rw [this, fr_zero]
  obtain ⟨xn, hxnn⟩ : ∃ xn : Nat, x.num = (xn : Int) := ⟨x.num.toNat, by have := Rat.num_nonneg.mpr hxn; omega⟩
  have zn2 : Sz 4000 (xn : Int) := by rw [← hxnn]; exact hxs.num.mono (by decide)
  have zd2 : Sz 4000 (x.den : Int) := hxs.den.mono (by decide)
  refine sds_cons (sd_par 4 5 g (ea_cons (es_call (fn_root_of T) g (by decide) (ea_cons (ES.is (ed_ixT (ed_v 3) ed_int rfl) (by rw [hxnn])) ea_nil) ⟨xn, rfl, rfl, zn2, rfl⟩) (ea_cons (es_call (fn_root_of T) g (by decide) (ea_cons (ed_ixT (ed_v 3) ed_int rfl) ea_nil) ⟨x.den, rfl, rfl, zd2, rfl⟩) ea_nil)) ?_)
  have isn : ∀ n : Nat, isNone (.d (rtD n)) = !decide (isq n * isq n = n) := fun n => by
    unfold rtD
    by_cases h : isq n * isq n = n
    · rw [if_pos h, decide_eq_true h]; rfl
    · rw [if_neg h, decide_eq_false h]; rfl
  refine sds_cons (sd_if (l := !(decide (isq xn * isq xn = xn) && decide (isq x.den * isq x.den = x.den))) (ET.is (EW.et (ew_or (et_cmp c_isND (ed_v 4) ed_non) fun _ => ew_or1 (et_cmp c_isND (ed_v 5) ed_non))) (by rw [isn, isn, Bool.not_and])) (fun h => ?_) fun h => sds_nil ?_)
  · refine sds_one (sd_raise g T.e_NotFound (.inr ⟨fun h' l' W => ?_, rfl⟩))
    obtain ⟨_, _, r, s, w1, w2⟩ := two_roots hx W
    have e1 : xn = r * r := by rw [hxnn] at w1; exact_mod_cast w1
    rw [e1, w2, isq_self, isq_self] at h
    simp at h
  have h : isq xn * isq xn = xn ∧ isq x.den * isq x.den = x.den := by simpa using h
  obtain ⟨h1, h2⟩ := h
  obtain ⟨r, hr⟩ : ∃ r, r = isq xn := ⟨_, rfl⟩
  obtain ⟨t, ht⟩ : ∃ t, t = isq x.den := ⟨_, rfl⟩
  have er : rtD xn = .int (r : Int) := by rw [rtD, if_pos h1, hr]
  have et : rtD x.den = .int (t : Int) := by rw [rtD, if_pos h2, ht]
  rw [er, et]
  rw [← hr] at h1
  rw [← ht] at h2
  obtain ⟨hlt, hy⟩ := two_of hx hqp (by rw [hxnn, h1]) h2.symm
  have zr : Sz 4000 (t : Int) := by
    have : t ≤ t * t := by
      rcases Nat.eq_zero_or_pos t with z | z
      · omega
      · exact Nat.le_mul_of_pos_left t z
    unfold Sz at zd2 ⊢
    omega
  refine sds_cons (sd_par 6 7 g (ea_cons (ed_add (ed_v 5) (ed_v 4)) (ea_cons (ed_sub (ed_v 5) (ed_v 4)) ea_nil)) ?_)
  have zt : Sz 8999 ((t : Int) - r) := by
    unfold Sz at zr ⊢
    refine Nat.lt_of_le_of_lt ?_ (Nat.lt_of_lt_of_le zr (Nat.pow_le_pow_right (by decide) (by decide)))
    omega
  refine sds_cons (sd_set 8 g.nd (es_call (fn_lowest T) g (by decide) (ea_cons (ed_v 6) (ea_cons (ed_v 7) ea_nil)) ⟨(t : Int) + r, (t : Int) - r, rfl, rfl, by omega, zt, rfl⟩) ?_)
  obtain ⟨y, hyy⟩ : ∃ y : Rat, y = (((t : Int) + r : Int) : Rat) / (((t : Int) - r : Int) : Rat) := ⟨_, rfl⟩
  rw [← hyy]
  have hye : y * ((t : Rat) - r) = (t : Rat) + r := by
    have h0 : (((t : Int) - r : Int) : Rat) ≠ 0 := by
      have : (0 : Rat) < (((t : Int) - r : Int) : Rat) := by exact_mod_cast (show (0 : Int) < (t : Int) - r by omega)
      grind
    have := Rat.div_mul_cancel (a := (((t : Int) + r : Int) : Rat)) h0
    rw [← hyy] at this
    push_cast at this
    exact this
  obtain ⟨y1, y2⟩ := hy y hye
  obtain ⟨f1, f2⟩ := two_found y1 y2
  refine sds_cons (sd_if (et_cmp c_gt (ed_ixT (ed_v 8) ed_int rfl) ed_int) (fun h => ?_) fun h => sds_nil ?_)
  · have h := of_decide_eq_true h
    refine sds_one (sd_raise g T.e_NotFound (.inr ⟨fun h' l' W => ?_, rfl⟩))
    have a1 := (f1 h' l' W).1
    have a2 := W.hi
    omega
  · have h := of_decide_eq_false h
    have W := f2 (by omega)
    refine sds_one (sd_retL (el_lst (ds := [.int y.num, .int (y.den : Int)]) (ea_cons (ed_ixT (ed_v 8) ed_int rfl) (ea_cons (ed_ixT (ed_v 8) ed_int rfl) ea_nil))) fun p => .inl ⟨_, _, W, p, ?_⟩)
    have : ((y.num.toNat : Nat) : Int) = y.num := by
      have := Rat.num_nonneg.mpr (show 0 ≤ y by grind)
      omega
    rw [this])
end
end Pg

namespace Pg
open PySem PySem.Spec PyProof.Rows L2 Sd
section
variable {P : Program} {w : World} {K : PySem.W.Frag} {mg : Str → Option Value} {base : Heap} {c : Cl}
theorem ms_rev {R : List (List Int)} (h : R.reverse.Pairwise (· ≤ ·)) : (R.mergeSort fun p q => decide (p ≤ q)) = R.reverse := by
  have h1 : (R.mergeSort fun p q => decide (p ≤ q)).Pairwise (fun p q => decide (p ≤ q) = true) := by
    refine List.pairwise_mergeSort (le := fun p q => decide (p ≤ q)) (fun a b c hab hbc => ?_) (fun a b => ?_) R
    · exact decide_eq_true (List.le_trans (of_decide_eq_true hab) (of_decide_eq_true hbc))
    · rw [Bool.or_eq_true, decide_eq_true_eq, decide_eq_true_eq]
      exact List.le_total a b
  exact List.Perm.eq_of_pairwise (fun x y _ _ h1 h2 => List.le_antisymm h1 h2) (h1.imp fun h => of_decide_eq_true h) h ((List.mergeSort_perm R _).trans (List.reverse_perm R).symm)
/-- how many years there are -/
def pkF (T : Nat → Int) (j : Nat) : Nat → Nat → Int
  | 0, _ => 0
  | f + 1, k => if k = 0 then 0 else T (k - 1) + if j ≤ k then pkF T j f (k - j) else 0
def pK : Nat → Nat → Int
  | 0 => fun k => if k = 0 then 1 else 0
  | j + 1 => fun k => pkF (pK j) (j + 1) (k + 1) k
theorem pkF_fuel {T : Nat → Int} {j : Nat} (hj : 1 ≤ j) : ∀ (f f' k : Nat), k < f → k < f' → pkF T j f k = pkF T j f' k
  | 0, _, k, h, _ => by omega
  | _ + 1, 0, k, _, h => by omega
  | f + 1, f' + 1, k, h, h' => by
    unfold pkF
    by_cases hk : k = 0
    · rw [if_pos hk, if_pos hk]
    · rw [if_neg hk, if_neg hk]
      by_cases hjk : j ≤ k
      · rw [if_pos hjk, if_pos hjk, pkF_fuel hj f f' (k - j) (by omega) (by omega)]
      · rw [if_neg hjk, if_neg hjk]
theorem pK_zero (j : Nat) : pK (j + 1) 0 = 0 := rfl
theorem pK_succ (j k : Nat) (hk : 1 ≤ k) : pK (j + 1) k = pK j (k - 1) + if j + 1 ≤ k then pK (j + 1) (k - (j + 1)) else 0 := by
  show pkF (pK j) (j + 1) (k + 1) k = _
  unfold pkF
  rw [if_neg (by omega)]
  by_cases h : j + 1 ≤ k
  · rw [if_pos h, if_pos h, pkF_fuel (by omega) k (k - (j + 1) + 1) (k - (j + 1)) (by omega) (by omega)]
    rfl
  · rw [if_neg h, if_neg h]
structure Ro (d w : Nat) (R : List (List Int)) : Prop where
  len : R.length < 64
  cnt : (R.length : Int) = pK d w
  nd : R.Nodup
  pw : R.reverse.Pairwise (· ≤ ·)
  ea : ∀ r ∈ R, isYear (li r) = true ∧ r.sum = (w : Int) ∧ r.length = d ∧ (srt r).reverse = r
def roB (d w : Nat) : Bool := decide ((rowsN d w w).length < 64) && decide (((rowsN d w w).length : Int) = pK d w) && decide ((rowsN d w w).Nodup) && decide ((rowsN d w w).reverse.Pairwise (· ≤ ·)) && (rowsN d w w).all fun r => isYear (li r) && decide (r.sum = (w : Int)) && decide (r.length = d) && decide ((srt r).reverse = r)
theorem roB_all : ∀ d, d < 4 → ∀ w, w < 12 → roB (d + 1) (w + 1) = true := by decide +kernel
theorem ro_ok {d w : Nat} (hd : d < 4) (hw : w < 12) : Ro (d + 1) (w + 1) (rowsN (d + 1) (w + 1) (w + 1)) := by
  have h := roB_all d hd w hw
  unfold roB at h
  simp only [Bool.and_eq_true, decide_eq_true_eq, List.all_eq_true] at h
  exact ⟨h.1.1.1.1, h.1.1.1.2, h.1.1.2, h.1.2, fun r hr => ⟨(h.2 r hr).1.1.1, (h.2 r hr).1.1.2, (h.2 r hr).1.2, (h.2 r hr).2⟩⟩
/-- two days -/
theorem unl_pair {a b : Int} : unl [a, b] 2 = ((2 * (a * b) : Int) : Rat) / (((a + b) * (a + b) : Int) : Rat) := by
  rw [unl_es]
  have e1 : ((fac 2 : Nat) : Int) * esI [a, b] 2 = 2 * (a * b) := by
    show (2 : Int) * (esI [b] 2 + a * esI [b] 1) = _
    rw [esI_one, esI_out [b] 2 (by simp)]
    simp
  have e2 : [a, b].sum ^ 2 = (a + b) * (a + b) := by
    have : [a, b].sum = a + b := by simp
    rw [this, Int.pow_succ, Int.pow_succ, Int.pow_zero, Int.one_mul]
  rw [e1, e2]
theorem two_iff {q : Rat} {a b : Nat} (h1 : 1 ≤ b) (h2 : b ≤ a) (h3 : a ≤ 20) (hg : Nat.gcd a b = 1) : Two q a b ↔ unl [(a : Int), (b : Int)] 2 = q := by
  rw [unl_pair]
  have hs : (0 : Rat) < (a : Rat) + b := by
    have h4 := natQ_pos h1
    have h5 := natQ_pos (Nat.le_trans h1 h2)
    grind
  have hs0 : (a : Rat) + b ≠ 0 := by grind
  have c1 : ((2 * ((a : Int) * (b : Int)) : Int) : Rat) = 2 * (a : Rat) * b := by push_cast; grind
  have c2 : ((((a : Int) + (b : Int)) * ((a : Int) + (b : Int)) : Int) : Rat) = ((a : Rat) + b) * ((a : Rat) + b) := by push_cast; rfl
  rw [c1, c2]
  constructor
  · intro T
    rw [T.eq]
    generalize (a : Rat) + b = S at *
    grind
  · intro h
    refine ⟨h1, h2, h3, hg, ?_⟩
    rw [← h]
    generalize (a : Rat) + b = S at *
    grind
theorem two_y {q : Rat} {a b : Nat} (T : Two q a b) : ∃ y : Rat, 2 * y = q * (y + 1) * (y + 1) ∧ 1 ≤ y ∧ y = (a : Rat) / b := by
  have h1 := natQ_pos T.lo
  have hb : (b : Rat) ≠ 0 := by grind
  have hle : (b : Rat) ≤ (a : Rat) := by exact_mod_cast T.le
  refine ⟨(a : Rat) / b, ?_, ?_, rfl⟩
  · have e := T.eq
    have hy : (a : Rat) = (a : Rat) / b * b := by grind
    generalize (a : Rat) / b = y at *
    rw [hy] at e
    have : (2 * y - q * (y + 1) * (y + 1)) * (b * b) = 0 := by grind
    rcases Rat.mul_eq_zero.mp this with z | z
    · grind
    · exact absurd z (by
        have := Rat.mul_pos h1 h1
        grind)
  · rw [Rat.div_def]
    have := Rat.mul_le_mul_of_nonneg_right hle (Rat.le_of_lt (Rat.inv_pos.mpr h1))
    rwa [Rat.mul_inv_cancel _ hb] at this
theorem two_same {q : Rat} {a b a' b' : Nat} (T : Two q a b) (T' : Two q a' b') : a = a' ∧ b = b' := by
  obtain ⟨y, h1, h2, _⟩ := two_y T
  have f := (two_found h1 h2).1
  have e1 := f a b T
  have e2 := f a' b' T'
  refine ⟨?_, by rw [← e1.2, ← e2.2]⟩
  have : (a : Int) = (a' : Int) := by rw [← e1.1, ← e2.1]
  omega
def row2 (i : Nat) (n : Nat) : List (Nat × Nat) := (List.range n).map fun j => (i + 1, j + 1)
def prs2 (n : Nat) : List (Nat × Nat) := (List.range n).flatMap fun i => row2 i (i + 1)
def is2 (q : Rat) (x : Nat × Nat) : Bool := decide (Nat.gcd x.1 x.2 = 1) && decide (unl [(x.1 : Int), (x.2 : Int)] 2 = q)
theorem prs2_mem {x : Nat × Nat} : x ∈ prs2 20 ↔ 1 ≤ x.2 ∧ x.2 ≤ x.1 ∧ x.1 ≤ 20 := by
  unfold prs2 row2
  rw [List.mem_flatMap]
  constructor
  · rintro ⟨i, hi, hx⟩
    obtain ⟨j, hj, rfl⟩ := List.mem_map.mp hx
    have := List.mem_range.mp hi
    have := List.mem_range.mp hj
    show 1 ≤ j + 1 ∧ j + 1 ≤ i + 1 ∧ i + 1 ≤ 20
    omega
  · rintro ⟨h1, h2, h3⟩
    refine ⟨x.1 - 1, List.mem_range.mpr (by omega), List.mem_map.mpr ⟨x.2 - 1, List.mem_range.mpr (by omega), ?_⟩⟩
    refine Prod.ext ?_ ?_
    · show x.1 - 1 + 1 = x.1; omega
    · show x.2 - 1 + 1 = x.2; omega
theorem prs2_nd : (prs2 20).Nodup := by decide +kernel
theorem filt_one {α : Type} [DecidableEq α] {p : α → Bool} {x : α} : ∀ {l : List α}, l.Nodup → x ∈ l → (∀ y ∈ l, p y = true ↔ y = x) → l.filter p = [x]
  | a :: l, hn, hx, hp => by
    rw [List.nodup_cons] at hn
    rw [List.filter_cons]
    by_cases ha : a = x
    · subst ha
      rw [if_pos ((hp a List.mem_cons_self).mpr rfl)]
      have : l.filter p = [] := List.filter_eq_nil_iff.mpr fun y hy h => hn.1 (by rw [← (hp y (List.mem_cons_of_mem _ hy)).mp h]; exact hy)
      rw [this]
    · rw [if_neg (fun h => ha ((hp a List.mem_cons_self).mp h))]
      refine filt_one hn.2 ?_ fun y hy => hp y (List.mem_cons_of_mem _ hy)
      rcases List.mem_cons.mp hx with h | h
      · exact absurd h.symm ha
      · exact h
theorem is2_iff {q : Rat} {x : Nat × Nat} (hx : x ∈ prs2 20) : is2 q x = true ↔ Two q x.1 x.2 := by
  obtain ⟨h1, h2, h3⟩ := prs2_mem.mp hx
  unfold is2
  rw [Bool.and_eq_true, decide_eq_true_eq, decide_eq_true_eq]
  constructor
  · rintro ⟨hg, h⟩
    exact (two_iff h1 h2 h3 hg).mpr h
  · intro T
    exact ⟨T.co, (two_iff h1 h2 h3 T.co).mp T⟩
theorem good_eq (q : Rat) : (∃ a b, Two q a b ∧ (prs2 20).filter (is2 q) = [(a, b)]) ∨ ((∀ a b, ¬ Two q a b) ∧ (prs2 20).filter (is2 q) = []) := by
  by_cases h : ∃ a b, Two q a b
  · obtain ⟨a, b, T⟩ := h
    refine .inl ⟨a, b, T, ?_⟩
    have hm : (a, b) ∈ prs2 20 := prs2_mem.mpr ⟨T.lo, T.le, T.hi⟩
    refine filt_one prs2_nd hm fun y hy => ?_
    rw [is2_iff hy]
    constructor
    · intro T'
      have := two_same T' T
      exact Prod.ext this.1 this.2
    · rintro rfl
      exact T
  · have hn : ∀ a b, ¬ Two q a b := fun a b T => h ⟨a, b, T⟩
    exact .inr ⟨hn, List.filter_eq_nil_iff.mpr fun y hy hp => hn _ _ ((is2_iff hy).mp hp)⟩
/-- the years of two weights -/
theorem two_pln {a b : Int} (hb : 1 ≤ b) (hab : b ≤ a) (ha : a ≤ 20) : ∃ h l : Nat, pln [a, b] = [(h : Int), (l : Int)] ∧ Two (unl [a, b] 2) h l := by
  have hY : Yr [a, b] := ⟨by simp, by simp, fun y hy => by
    simp only [List.mem_cons, List.not_mem_nil, or_false] at hy
    rcases hy with rfl | rfl <;> omega⟩
  have hg : gcL [a, b] = Int.gcd b a := by
    show Int.gcd b ((Int.gcd a ((0 : Nat) : Int) : Nat) : Int) = _
    rw [show ((0 : Nat) : Int) = 0 from rfl, Int.gcd_zero_right, Int.natAbs_of_nonneg (by omega)]
  have hg0 : 0 < Int.gcd b a := Int.gcd_pos_of_ne_zero_left a (by omega)
  obtain ⟨u, hu⟩ : ∃ u, a = u * (Int.gcd b a : Int) := by
    obtain ⟨u, hu⟩ := Int.gcd_dvd_right (a := b) (b := a)
    exact ⟨u, by rw [Int.mul_comm]; exact hu⟩
  obtain ⟨v, hv⟩ : ∃ v, b = v * (Int.gcd b a : Int) := by
    obtain ⟨v, hv⟩ := Int.gcd_dvd_left (a := b) (b := a)
    exact ⟨v, by rw [Int.mul_comm]; exact hv⟩
  have hco : Int.gcd v u = 1 := by
    have h1 : Int.gcd (v * (Int.gcd b a : Int)) (u * (Int.gcd b a : Int)) = Int.gcd b a := by rw [← hu, ← hv]
    rw [Int.gcd_mul_right, Int.natAbs_natCast] at h1
    exact Nat.eq_of_mul_eq_mul_right hg0 (by rw [h1, Nat.one_mul])
  obtain ⟨g, hgd⟩ : ∃ g, g = Int.gcd b a := ⟨_, rfl⟩
  rw [← hgd] at hu hv hg hg0
  have hv0 : 0 < v := by
    refine Int.not_le.mp fun h => ?_
    have := Int.mul_nonpos_of_nonpos_of_nonneg h (show (0 : Int) ≤ (g : Int) by omega)
    omega
  have huv : v ≤ u := by
    refine Int.not_lt.mp fun h => ?_
    have := Int.mul_lt_mul_of_pos_right h (show (0 : Int) < (g : Int) by omega)
    omega
  have hu20 : u ≤ 20 := by
    have : u * 1 ≤ u * (g : Int) := Int.mul_le_mul_of_nonneg_left (by omega) (by omega)
    omega
  refine ⟨u.toNat, v.toNat, ?_, ?_⟩
  · show [a / ((gcL [a, b] : Nat) : Int), b / ((gcL [a, b] : Nat) : Int)] = _
    rw [hg]
    conv => lhs; rw [hu, hv]
    rw [Int.mul_ediv_cancel _ (by omega), Int.mul_ediv_cancel _ (by omega), Int.toNat_of_nonneg (by omega), Int.toNat_of_nonneg (by omega)]
  · have hgn : Nat.gcd u.toNat v.toNat = 1 := by
      have : Int.gcd u v = 1 := by rw [Int.gcd_comm]; exact hco
      have e1 : u.natAbs = u.toNat := by omega
      have e2 : v.natAbs = v.toNat := by omega
      rw [← e1, ← e2]
      exact this
    refine (two_iff (by omega) (by omega) (by omega) hgn).mpr ?_
    rw [Int.toNat_of_nonneg (by omega), Int.toNat_of_nonneg (by omega), unl_pair, unl_pair]
    have hgq : (g : Rat) ≠ 0 := by exact_mod_cast (show g ≠ 0 by omega)
    have huq : ((u + v : Int) : Rat) ≠ 0 := by exact_mod_cast (show u + v ≠ 0 by omega)
    rw [hu, hv]
    push_cast at *
    generalize (g : Rat) = G at *
    generalize (u : Rat) = U at *
    generalize (v : Rat) = W at *
    grind
theorem unl_shr {ys : List Int} (hY : Yr ys) (n : Nat) : Shr (unl ys n) := by
  have hy : ∀ y ∈ ys, 0 ≤ y := fun y h => by have := hY.it y h; omega
  have h3 : (0 : Rat) < ((ys.sum ^ n : Int) : Rat) := by exact_mod_cast hY.posP n
  have hi := Rat.inv_pos.mpr h3
  have hle : ((fac n : Nat) : Int) * esI ys n ≤ ys.sum ^ n := by
    have key : ∀ (l : List Int) (n : Nat), (∀ x ∈ l, 0 ≤ x) → ((fac n : Nat) : Int) * esI l n ≤ l.sum ^ n := fun l => by
      induction l with
      | nil =>
        intro n _
        cases n with
        | zero => decide
        | succ n => rw [List.sum_nil, Int.zero_pow (by omega)]; simp [esI]
      | cons a l ih =>
        intro n hl
        have hl' : ∀ x ∈ l, 0 ≤ x := fun x hx => hl x (List.mem_cons_of_mem _ hx)
        have ha := hl a List.mem_cons_self
        have hls : 0 ≤ l.sum := by
          have := sum_ge_mul (b := 0) hl'
          simpa using this
        rw [List.sum_cons]
        cases n with
        | zero => rw [esI_zero, Int.pow_zero]; decide
        | succ n =>
          rw [esI_cons]
          have h1 := ih (n + 1) hl'
          have h2 := ih n hl'
          have hp : 0 ≤ l.sum ^ n := Int.pow_nonneg hls
          have e1 : (((fac (n + 1) : Nat) : Int)) = ((n : Int) + 1) * ((fac n : Nat) : Int) := by
            show (((n + 1) * fac n : Nat) : Int) = _
            push_cast
            rfl
          have h4 : ((n : Int) + 1) * a * (((fac n : Nat) : Int) * esI l n) ≤ ((n : Int) + 1) * a * l.sum ^ n := Int.mul_le_mul_of_nonneg_left h2 (Int.mul_nonneg (by omega) ha)
          have h5 : l.sum ^ (n + 1) + ((n : Int) + 1) * a * l.sum ^ n ≤ (a + l.sum) ^ (n + 1) := by
            have bern : ∀ m : Nat, l.sum ^ (m + 1) + ((m : Int) + 1) * a * l.sum ^ m ≤ (a + l.sum) ^ (m + 1) := fun m => by
              induction m with
              | zero =>
                rw [Int.pow_succ, Int.pow_succ, Int.pow_zero, Int.pow_zero]
                simp
                omega
              | succ m ihm =>
                have hpm : 0 ≤ l.sum ^ m := Int.pow_nonneg hls
                have hm := Int.mul_le_mul_of_nonneg_right ihm (show 0 ≤ a + l.sum by omega)
                rw [Int.pow_succ (a + l.sum) (m + 1)]
                refine Int.le_trans ?_ hm
                have e2 : (l.sum ^ (m + 1) + ((m : Int) + 1) * a * l.sum ^ m) * (a + l.sum) = l.sum ^ (m + 1 + 1) + (((m + 1 : Nat) : Int) + 1) * a * l.sum ^ (m + 1) + ((m : Int) + 1) * (a * a) * l.sum ^ m := by
                  rw [Int.pow_succ l.sum (m + 1), Int.pow_succ l.sum m]
                  push_cast
                  grind
                rw [e2]
                have : 0 ≤ ((m : Int) + 1) * (a * a) * l.sum ^ m := Int.mul_nonneg (Int.mul_nonneg (by omega) (Int.mul_nonneg ha ha)) hpm
                omega
            exact bern n
          have e3 : ((fac (n + 1) : Nat) : Int) * (esI l (n + 1) + a * esI l n) = ((fac (n + 1) : Nat) : Int) * esI l (n + 1) + ((n : Int) + 1) * a * (((fac n : Nat) : Int) * esI l n) := by
            rw [Int.mul_add, e1]
            grind
          rw [e3]
          omega
    exact key ys n hy
  rw [unl_es]
  constructor
  · rw [Rat.div_def]
    have h1 : (0 : Rat) ≤ ((((fac n : Nat) : Int) * esI ys n : Int) : Rat) := by exact_mod_cast Int.mul_nonneg (by omega) (esI_nonneg ys n hy)
    exact Rat.mul_nonneg h1 (Rat.le_of_lt hi)
  · rw [Rat.div_def]
    have h1 : ((((fac n : Nat) : Int) * esI ys n : Int) : Rat) ≤ ((ys.sum ^ n : Int) : Rat) := by exact_mod_cast hle
    have := Rat.mul_le_mul_of_nonneg_right h1 (Rat.le_of_lt hi)
    rwa [Rat.mul_inv_cancel _ (by grind)] at this
theorem same3 : ∀ n, n < 8 → 1 - unl (List.replicate (n + 1) 3) 2 = ((1 : Int) : Rat) / (((n + 1 : Nat) : Int) : Rat) := by decide +kernel
/-- equal days -/
def eqZ (q : Rat) : PyData := if q.num = 1 ∧ (q.den : Int) ≤ 8 then .int (q.den : Int) else .str "none"
theorem one_div (k : Nat) (hk : 1 ≤ k) (q : Rat) : ((1 : Int) : Rat) / ((k : Int) : Rat) = q ↔ q.num = 1 ∧ q.den = k := by
  have hl := low_eq 1 (k : Int) (by omega)
  have hg : Int.gcd 1 (k : Int) = 1 := by simp [Int.gcd]
  rw [hg] at hl
  simp only [Int.natCast_one, Int.ediv_one] at hl
  constructor
  · rintro rfl
    exact ⟨hl.1, by have := hl.2; omega⟩
  · rintro ⟨h1, h2⟩
    refine Rat.ext ?_ ?_
    · rw [hl.1, h1]
    · have := hl.2
      omega
theorem size_eq (q : Rat) : ((List.range 8).filter fun k => decide (((1 : Int) : Rat) / (((k + 1 : Nat) : Int) : Rat) = q)).map (fun k => ((k + 1 : Nat) : Int)) = if q.num = 1 ∧ (q.den : Int) ≤ 8 then [(q.den : Int)] else [] := by
  have hd := q.den_pos
  by_cases h : q.num = 1 ∧ (q.den : Int) ≤ 8
  · rw [if_pos h]
    have : (List.range 8).filter (fun k => decide (((1 : Int) : Rat) / (((k + 1 : Nat) : Int) : Rat) = q)) = [q.den - 1] := filt_one (by decide) (List.mem_range.mpr (by omega)) fun y hy => by
      rw [decide_eq_true_eq, one_div (y + 1) (by omega)]
      omega
    rw [this]
    show [((q.den - 1 + 1 : Nat) : Int)] = _
    rw [show q.den - 1 + 1 = q.den by omega]
  · rw [if_neg h]
    have : (List.range 8).filter (fun k => decide (((1 : Int) : Rat) / (((k + 1 : Nat) : Int) : Rat) = q)) = [] := List.filter_eq_nil_iff.mpr fun y hy hp => by
      have hy := List.mem_range.mp hy
      rw [decide_eq_true_eq, one_div (y + 1) (by omega)] at hp
      exact h ⟨hp.1, by omega⟩
    rw [this]
    rfl
end
end Pg

namespace Pg
open PySem PySem.Spec PyProof.Rows L2 Sd
section
variable {P : Program} {w : World} {K : PySem.W.Frag} {mg : Str → Option Value} {base : Heap} {c : Cl}
def pre_weights_with : Pr := fun ss own post => ∃ d w : Nat, ss = [.d (.int (d : Int)), .d (.int (w : Int))] ∧ own = [] ∧ 1 ≤ d ∧ d ≤ 8 ∧ 1 ≤ w ∧ w ≤ 20 ∧ post = fun o => ∃ p, o = .ret (.raw (.ref p)) [(p, .lst ((rowsN d w w).map li))]
theorem fn_weights_with (T : Tx K mg c) : Fn K mg P w base "weights_with" ["days", "whole"] 10 pre_weights_with := T.d_weights_with.fn fun f fd F => okG (k := 9) F sc_weights_with (by rintro ss own post ⟨d, w, rfl, _⟩; rfl) (by
  rintro ss own post ⟨d, w, rfl, rfl, h1, h2, h3, h4, rfl⟩ cdv A outer s H E B g
  have e1 : Sd.isInt (.int (d : Int)) 1 8 = true := by simp [Sd.isInt]; omega
  have e2 : Sd.isInt (.int (w : Int)) 1 20 = true := by simp [Sd.isInt]; omega
  refine sds_cons (sd_if (l := false) (ET.is (et_not (et_val (es_call (fn_is_int T) g (by decide) (ea_cons (ed_v 0) (ea_cons ed_int (ea_cons ed_int ea_nil))) ⟨_, _, _, rfl, rfl, rfl⟩))) (by rw [e1]; rfl)) (fun h => nomatch h) fun _ => sds_nil ?_)
  refine sds_cons (sd_if (l := false) (ET.is (et_not (et_val (es_call (fn_is_int T) g (by decide) (ea_cons (ed_v 1) (ea_cons ed_int (ea_cons ed_int ea_nil))) ⟨_, _, _, rfl, rfl, rfl⟩))) (by rw [e2]; rfl)) (fun h => nomatch h) fun _ => sds_nil ?_)
  exact sds_one (sd_retL (el_call (fn_rows_of T d h2) g (by omega) (ea_cons (ed_v 0) (ea_cons (ed_v 1) (ea_cons (ed_v 1) ea_nil))) ⟨w, w, rfl, rfl, h4, h4, rfl⟩) fun p => ⟨p, rfl⟩))
end
end Pg

namespace Pg
open PySem PySem.Spec PyProof.Rows L2 Sd
section
variable {P : Program} {w : World} {K : PySem.W.Frag} {mg : Str → Option Value} {base : Heap} {c : Cl}
def evN : List Str := ["script", "draws", "under", "one", "weights", "chance_here", "good", "high", "low", "size", "days_here", "whole", "told", "known", "j", "fresh", "k", "year"]
theorem law_b (T : Tx K mg c) {f : Addr} {cdv : Value} {A : Around} {outer : List Env} {s : Shared} {H : Hp} {E : XK} {B : Bs} {ex : Addr → List Slot → Own → Prop} (g : Gd (ctxOf P w K mg base evN "law" s_law f cdv A outer s H E B ex) 10)
    {d v : Nat} (hd : d < 4) (hv : v < 12) {s0 s1 s2 s3 s4 s5 s6 s7 s8 s9 : Slot} {own0 : Own} :
    SDs (ctxOf P w K mg base evN "law" s_law f cdv A outer s H E B ex) ((defBody s_law).drop 9) { nx := fun _ _ => False, rt := fun s _ => s = .d (.bool true) } [s0, s1, s2, s3, s4, s5, s6, s7, s8, s9, .d (.int ((d + 1 : Nat) : Int)), .d (.int ((v + 1 : Nat) : Int)), .un, .un, .un, .un, .un, .un] own0 := by
  have hR := ro_ok hd hv
  obtain ⟨D1, hD1, hD4⟩ : ∃ D1, D1 = d + 1 ∧ D1 ≤ 4 := ⟨_, rfl, by omega⟩
  obtain ⟨W, hW, hW12⟩ : ∃ W, W = v + 1 ∧ W ≤ 12 := ⟨_, rfl, by omega⟩
  rw [← hD1, ← hW] at hR ⊢
  have hD0 : 1 ≤ D1 := by omega
  have hW0 : 1 ≤ W := by omega
  obtain ⟨R, hRd⟩ : ∃ R, R = rowsN D1 W W := ⟨_, rfl⟩
  rw [← hRd] at hR
  have hRl := hR.len
  refine sds_cons (sd_set 12 g.nd (s := .d (.list (R.map li))) (ES.is (EL.ed (el_call (fn_weights_with T) g (by decide) (ea_cons (ed_v 10) (ea_cons (ed_v 11) ea_nil)) ⟨D1, W, rfl, rfl, hD0, by omega, hW0, by omega, rfl⟩)) (by rw [hRd])) ?_)
  refine sds_cons (sd_ifF (ET.is (EW.et (ew_or (et_cmp (c_ne g .d .d (sh_lis R) (sh_lis R)) (ed_v 12) (EL.ed (EL.is (ys := R.map li) (el_rev (EL.ed (el_sortedLL (bs := R) (res := R.reverse) g T.n_sorted (ed_v 12) (by omega) (ms_rev hR.pw))) .d) (by rw [← List.map_reverse, List.reverse_reverse])))) fun _ => ew_or1 (et_cmp c_neI (ed_lensetT (ts := R) g T.n_len T.n_set (EL.ed (EL.is (el_comp g (compP g (it_list (ed_v 12)) [("year", 17)] (blkOk_by (N := evN) (sc := defScope s_law) (by decide +kernel)) R li rfl (fun r => some (.tuple (r.map PyData.int))) (fun r => [s0, s1, s2, s3, s4, s5, s6, s7, s8, s9, .d (.int ((D1 : Nat) : Int)), .d (.int ((W : Nat) : Int)), .d (.list (R.map li)), .un, .un, .un, .un, .d (li r)]) [17] (by simp) (by omega) (fun _ _ => trivial)
      (fun r _ s H C cl fp g' => gt_name 17 g'.nd) (fun r hr s H C cl fp o g' => ets_nil) (fun r hr x hx s H C cl fp o g' => by cases hx; exact ed_tuple T.n_tuple (ed_v 17) .d))) (congrFun List.filterMap_eq_map' _))) hR.len hR.nd) (ES.is (y := .int ((R.length : Nat) : Int)) (ed_len T.n_len (ed_v 12) .d) (by rw [List.length_map]))))) (by rw [eqv_lis]; simp)) ?_)
  have sh0 : SeqAt.shaped (.list []) = true := sh_ints []
  have e0 : PyData.eqv (.list []) (.list []) = true := eqv_self (shp_ints [])
  refine sds_cons (sd_ifF (ET.is (et_cmp (c_ne g .d .d sh0 sh0) (EL.ed (EL.is (ys := []) (el_comp g (compP g (it_list (ed_v 12)) [("year", 17)] (blkOk_by (N := evN) (sc := defScope s_law) (by decide +kernel)) R li rfl (fun r => none) (fun r => [s0, s1, s2, s3, s4, s5, s6, s7, s8, s9, .d (.int ((D1 : Nat) : Int)), .d (.int ((W : Nat) : Int)), .d (.list (R.map li)), .un, .un, .un, .un, .d (li r)]) [17] (by simp) (by omega) (fun _ _ => trivial)
      (fun r _ s H C cl fp g' => gt_name 17 g'.nd) (fun r hr s H C cl fp o g' => ets_one ?_) (fun r hr x hx s H C cl fp o g' => nomatch hx))) (by simp))) (ed_lst (ds := []) ea_nil)) (by rw [e0]; rfl)) ?_)
  · obtain ⟨h1, h2, h3, h4⟩ := hR.ea r hr
    refine ET.is (EW.et (ew_or (et_cmp c_notB (es_call (fn_is_year T) g' (by decide) (ea_cons (ed_v 17) ea_nil) ⟨_, rfl, rfl, rfl⟩) ed_bl) fun _ => ew_or (et_cmp c_neI (ed_sum g' T.n_sum (ed_v 17) .d) (ed_v 11)) fun _ => ew_or (et_cmp c_neI (ES.is (y := .int ((r.length : Nat) : Int)) (ed_len T.n_len (ed_v 17) .d) (by rw [List.length_map])) (ed_v 10)) fun _ => ew_or1 (et_cmp (c_ne g' .d .d (sh_ints r) (sh_ints r)) (ed_v 17) (EL.ed (EL.is (ys := r.map PyData.int) (el_rev (EL.ed (el_sorted (ns := r) (res := srt r) T.n_sorted (ed_v 17) .d (by omega) fun ns' a1 a2 => perm_srt a1 a2)) .d) (by rw [← List.map_reverse, h4])))))) ?_
    rw [h1, h2, h3, eqv_ints]
    simp
  refine sds_cons (sd_setL 13 g.nd (EL.is (el_cat (ed_lst (ds := [.int 1]) (ea_cons ed_int ea_nil)) (EL.ed (el_rep (ed_lst (ds := [.int 0]) (ea_cons ed_int ea_nil)) (ed_v 11) .d (by omega) (by simp))) .d .d ?_) (by rw [Int.toNat_natCast, tabZ_unit])) fun p0 => ?_)
  · rw [Int.toNat_natCast, tabZ_const, tabZ_len]
    simp
    omega
  refine sds_freeze 13 (oa := []) rfl ?_
  rw [List.nil_append]
  refine sds_cons (sd_for g (it_range2 T.n_range ed_int (ed_add (ed_v 10) ed_int) ⟨by omega, by omega, by omega, by omega⟩) (fun i ρ own => own = own0 ∧ ∃ t14 t15 t16, ρ = [s0, s1, s2, s3, s4, s5, s6, s7, s8, s9, .d (.int ((D1 : Nat) : Int)), .d (.int ((W : Nat) : Int)), .d (.list (R.map li)), .d (.list (tabZ (pK i) (W + 1))), t14, t15, t16, .un]) ⟨rfl, _, _, _, rfl⟩ (fun _ _ _ _ => trivial) ?_ ?_)
  · rintro i y ρ1 own1 hyy ⟨rfl, t14, t15, t16, rfl⟩
    obtain ⟨hi, rfl⟩ := rng_get hyy
    have hi : i < D1 := by omega
    refine ⟨_, _, gt_name 14 g.nd, ?_⟩
    refine sds_cons (sd_setL 15 g.nd (EL.is (el_rep (ed_lst (ds := [.int 0]) (ea_cons ed_int ea_nil)) (ed_add (ed_v 11) ed_int) .d (by omega) (by simp)) (by rw [show ((W : Int) + 1).toNat = W + 1 by omega, tabZ_const])) fun pf => ?_)
    refine sds_cons (sd_for g (it_range2 T.n_range ed_int (ed_add (ed_v 11) ed_int) ⟨by omega, by omega, by omega, by omega⟩) (fun m ρ own => ∃ t16, own = (pf, .lst (tabZ (fun x => if x ≤ m then pK (i + 1) x else 0) (W + 1))) :: own1 ∧ ρ = [s0, s1, s2, s3, s4, s5, s6, s7, s8, s9, .d (.int ((D1 : Nat) : Int)), .d (.int ((W : Nat) : Int)), .d (.list (R.map li)), .d (.list (tabZ (pK i) (W + 1))), .d (.int (1 + (i : Int))), .raw (.ref pf), t16, .un]) ⟨_, ?_, rfl⟩ (fun _ _ _ _ => trivial) ?_ ?_)
    · congr 3
      refine tabZ_congr fun x _ => ?_
      by_cases hx : x ≤ 0
      · rw [if_pos hx, show x = 0 by omega, pK_zero]
      · rw [if_neg hx]
    · rintro m y ρ2 own2 hyy ⟨t16, rfl, rfl⟩
      obtain ⟨hm, rfl⟩ := rng_get hyy
      have hm : m < W := by omega
      refine ⟨_, _, gt_name 16 g.nd, ?_⟩
      refine sds_one (sd_setitem (oa := []) (ob := own1) (p := pf) (n := m + 1) (x := .int (pK (i + 1) (m + 1))) (ES.is (ed_add (ed_ixL (ed_v 13) (ES.is (y := .int ((m : Nat) : Int)) (ed_sub (ed_v 16) ed_int) (by congr 1; omega)) .d (tabZ_at (by omega))) (es_if (s := .d (.int (if i + 1 ≤ m + 1 then pK (i + 1) (m + 1 - (i + 1)) else 0))) (et_cmp c_ge (ed_v 16) (ed_v 14)) (fun h => ?_) fun h => ?_)) (by rw [pK_succ i (m + 1) (by omega)]; rfl)) (ev_v 15) (ed_v 16) ?_ ?_)
      · have h := of_decide_eq_true h
        rw [if_pos (by omega)]
        refine ed_ixL (ev_v 15) (ES.is (y := .int ((m + 1 - (i + 1) : Nat) : Int)) (ed_sub (ed_v 16) (ed_v 14)) (by congr 1; omega)) (Lst.o (p := pf) (ds := tabZ (fun x => if x ≤ m then pK (i + 1) x else 0) (W + 1)) (by simp)) ?_
        rw [tabZ_at (by omega), if_pos (by omega)]
      · have h := of_decide_eq_false h
        rw [if_neg (by omega)]
        exact ed_int
      · rw [tabZ_len, show (1 : Int) + (m : Int) = ((m + 1 : Nat) : Int) by omega]
        exact ixN_of (by omega)
      · refine ⟨_, ?_, rfl⟩
        rw [tabZ_set, List.nil_append]
        congr 3
        refine tabZ_congr fun x _ => ?_
        by_cases hx : x = m + 1
        · rw [if_pos hx, hx, if_pos (Nat.le_refl _)]
        · rw [if_neg hx]
          by_cases hx2 : x ≤ m
          · rw [if_pos hx2, if_pos (by omega)]
          · rw [if_neg hx2, if_neg (by omega)]
    · rintro ρ2 own2 ⟨t16, rfl, rfl⟩
      rw [rng_length, show ((W : Int) + 1 - 1).toNat = W by omega]
      refine sds_freeze 15 (oa := []) rfl ?_
      have et : tabZ (fun x => if x ≤ W then pK (i + 1) x else 0) (W + 1) = tabZ (pK (i + 1)) (W + 1) := tabZ_congr fun x hx => if_pos (by omega)
      rw [List.nil_append, et]
      exact sds_one (sd_set 13 g.nd (ed_v 15) ⟨rfl, _, _, _, rfl⟩)
  rintro ρ1 own1 ⟨rfl, t14, t15, t16, rfl⟩
  rw [rng_length, show ((D1 : Int) + 1 - 1).toNat = D1 by omega]
  refine sds_one (sd_retD (ES.is (ed_cmp c_eqI (ES.is (y := .int ((R.length : Nat) : Int)) (ed_len T.n_len (ed_v 12) .d) (by rw [List.length_map])) (ed_ixL (ed_v 13) (ed_v 11) .d (tabZ_at (by omega)))) ?_) rfl)
  rw [decide_eq_true hR.cnt]
end
end Pg

namespace Pg
open PySem PySem.Spec PyProof.Rows L2 Sd
section
variable {P : Program} {w : World} {K : PySem.W.Frag} {mg : Str → Option Value} {base : Heap} {c : Cl}
/-- the six kinds of errors -/
def erC (c : Cl) : Nat → Addr
  | 0 => c.BadYear
  | 1 => c.BadDay
  | 2 => c.BadNumber
  | 3 => c.BadShare
  | 4 => c.BadText
  | _ => c.NotFound
def erN : Nat → Str
  | 0 => "year"
  | 1 => "day"
  | 2 => "number"
  | 3 => "share"
  | 4 => "text"
  | _ => "none"
def pre_law_error (c : Cl) : Pr := fun ss own post => ∃ (a : Addr) (i : Nat), ss = [.raw (.ref a)] ∧ i < 6 ∧ own = [(a, .raw (ExK (.ref (erC c i)) a))] ∧ post = fun o => o = .ret (.d (.str (erN i))) [(a, .raw (ExK (.ref (erC c i)) a))]
theorem law_error_at (T : Tx K mg c) {f : Addr} {cdv : Value} {A : Around} {outer : List Env} {s : Shared} {H : Hp} {E : XK} {B : Bs} {ex : Addr → List Slot → Own → Prop} (g : Gd (ctxOf P w K mg base ["caught", "kinds"] "_law_error" s_law_error f cdv A outer s H E B ex) 2) {C a : Addr} {b0 b1 b2 b3 b4 b5 : Bool} {nm : Str} (Q : ErrK K C c.BadYear c.BadDay c.BadNumber c.BadShare c.BadText c.NotFound c.DayError b0 b1 b2 b3 b4 b5)
    (hc : ([PyData.bool b0, .bool b1, .bool b2, .bool b3, .bool b4, .bool b5].countP fun z => PyData.eqv z (.bool true)) = 1) {j : Nat} {z : PyData} (hj : [PyData.bool b0, .bool b1, .bool b2, .bool b3, .bool b4, .bool b5][j]? = some z) (hz : PyData.eqv z (.bool true) = true)
    (hno : ∀ (m : Nat) (z' : PyData), m < j → [PyData.bool b0, .bool b1, .bool b2, .bool b3, .bool b4, .bool b5][m]? = some z' → PyData.eqv z' (.bool true) = false) (hn : atI [PyData.str "year", .str "day", .str "number", .str "share", .str "text", .str "none"] (j : Int) = some (.str nm)) :
    SDs (ctxOf P w K mg base ["caught", "kinds"] "_law_error" s_law_error f cdv A outer s H E B ex) (defBody s_law_error) { nx := fun _ _ => False, rt := fun s own => s = .d (.str nm) ∧ own = [(a, .raw (ExK (.ref C) a))] } [.raw (.ref a), .un] [(a, .raw (ExK (.ref C) a))] := by
  have hm : (a, OO.raw (ExK (.ref C) a)) ∈ [(a, OO.raw (ExK (.ref C) a))] := by simp
  have cr : ∀ (D : Addr) u, RelV (.ref D) u → u = Value.ref D := fun D u r => r
  refine sds_cons (sd_set 1 g.nd (ed_lst (ds := [.bool b0, .bool b1, .bool b2]) (ea_cons (ed_isX Q.xc T.n_isinstance hm (ev_v 0) (ev_glob rfl T.e_BadYear.g) (cr _) Q.y) (ea_cons (ed_isX Q.xc T.n_isinstance hm (ev_v 0) (ev_glob rfl T.e_BadDay.g) (cr _) Q.d) (ea_cons (ed_isX Q.xc T.n_isinstance hm (ev_v 0) (ev_glob rfl T.e_BadNumber.g) (cr _) Q.n) ea_nil)))) ?_)
  refine sds_cons (sd_set 1 g.nd (EL.ed (el_cat (ed_v 1) (ed_lst (ds := [.bool b3, .bool b4, .bool b5]) (ea_cons (ed_isX Q.xc T.n_isinstance hm (ev_v 0) (ev_glob rfl T.e_BadShare.g) (cr _) Q.s) (ea_cons (ed_isX Q.xc T.n_isinstance hm (ev_v 0) (ev_glob rfl T.e_BadText.g) (cr _) Q.t) (ea_cons (ed_isX Q.xc T.n_isinstance hm (ev_v 0) (ev_glob rfl T.e_NotFound.g) (cr _) Q.o) ea_nil)))) .d .d (by simp))) ?_)
  refine sds_cons (sd_ifF (ET.is (EW.et (ew_or (et_cmp c_neI (ed_count (k := 1) g (ed_v 1) .d ed_bl (by rfl) (by rfl) (by decide)) ed_int) fun _ => ew_or (et_not (et_val (ed_isX Q.xc T.n_isinstance hm (ev_v 0) (ev_glob rfl T.e_DayError.g) (cr _) Q.de))) fun _ => ew_or1 (et_not (et_val (ed_isX (cV := .ty "ValueError") (cv := .type "ValueError") Q.xc T.n_isinstance hm (ev_v 0) (ev_ty (T := "ValueError") rfl T.n_ValueError (by decide +kernel)) (fun u r => r) Q.ve))))) ?_) ?_)
  · have e : (([PyData.bool b0, .bool b1, .bool b2] ++ [PyData.bool b3, .bool b4, .bool b5]).countP fun z => PyData.eqv z (.bool true)) = 1 := hc
    rw [e]
    rfl
  show SDs _ (_ :: _) _ _ _
  with_reducible refine sds_one ?_
  with_reducible refine sd_retD (x := .str nm) ?R ?q
  case q => exact ⟨rfl, rfl⟩
  with_reducible refine ed_ixL (i := (j : Int)) (s := .d (.list [.str "year", .str "day", .str "number", .str "share", .str "text", .str "none"])) ?L ?I ?l hn ?hs
  case hs => exact fun _ _ => rfl
  case l => exact .d
  case I => exact ed_index (k := 1) g (ed_v 1) .d ed_bl ((shp_list (n := 0) fun d hd => by
    simp only [List.cons_append, List.nil_append, List.mem_cons, List.not_mem_nil, or_false] at hd
    rcases hd with rfl | rfl | rfl | rfl | rfl | rfl <;> exact shp_bool _).shaped (by decide)) (sh_bool true) hj hz hno
  case L =>
    with_reducible refine ed_lstB (eb_k ed_str (eb_k ed_str (eb_k ed_str (eb_k ed_str (eb_k ed_str (eb_k ed_str ea_nil)))))) ?j2 ?j3
    case j2 => rfl
    case j3 => decide
theorem fn_law_error (T : Tx K mg c) : Fn K mg P w base "_law_error" ["caught"] 3 (pre_law_error c) := T.d_law_error.fn fun f fd F => okG (k := 2) F sc_law_error (by rintro ss own post ⟨a, i, rfl, _⟩; rfl) (by
  rintro ss own post ⟨a, i, rfl, hi, rfl, rfl⟩ cdv A outer s H E B g
  have fin : ∀ (sl : Slot) (o : Own), sl = .d (.str (erN i)) ∧ o = [(a, .raw (ExK (.ref (erC c i)) a))] → Out.ret sl o = .ret (.d (.str (erN i))) [(a, .raw (ExK (.ref (erC c i)) a))] := by
    rintro _ _ ⟨rfl, rfl⟩
    rfl
  have hno : ∀ (l : List PyData) (m : Nat), (∀ z ∈ l.take m, PyData.eqv z (.bool true) = false) → ∀ (n : Nat) (z' : PyData), n < m → l[n]? = some z' → PyData.eqv z' (.bool true) = false := fun l m h n z' hn hz => h z' (by
    have : (l.take m)[n]? = some z' := by rw [List.getElem?_take_of_lt hn]; exact hz
    exact List.mem_of_getElem? this)
  match i, hi with
  | 0, _ => exact SDs.imp (law_error_at (a := a) T g T.q_BadYear (j := 0) (by rfl) rfl rfl (hno _ _ (by simp [PyData.eqv])) rfl) (fun _ _ h => h.elim) fin (fun _ _ h => h) (fun _ _ h => h)
  | 1, _ => exact SDs.imp (law_error_at (a := a) T g T.q_BadDay (j := 1) (by rfl) rfl rfl (hno _ _ (by simp [PyData.eqv])) rfl) (fun _ _ h => h.elim) fin (fun _ _ h => h) (fun _ _ h => h)
  | 2, _ => exact SDs.imp (law_error_at (a := a) T g T.q_BadNumber (j := 2) (by rfl) rfl rfl (hno _ _ (by simp [PyData.eqv])) rfl) (fun _ _ h => h.elim) fin (fun _ _ h => h) (fun _ _ h => h)
  | 3, _ => exact SDs.imp (law_error_at (a := a) T g T.q_BadShare (j := 3) (by rfl) rfl rfl (hno _ _ (by simp [PyData.eqv])) rfl) (fun _ _ h => h.elim) fin (fun _ _ h => h) (fun _ _ h => h)
  | 4, _ => exact SDs.imp (law_error_at (a := a) T g T.q_BadText (j := 4) (by rfl) rfl rfl (hno _ _ (by simp [PyData.eqv])) rfl) (fun _ _ h => h.elim) fin (fun _ _ h => h) (fun _ _ h => h)
  | 5, _ => exact SDs.imp (law_error_at (a := a) T g T.q_NotFound (j := 5) (by rfl) rfl rfl (hno _ _ (by simp [PyData.eqv])) rfl) (fun _ _ h => h.elim) fin (fun _ _ h => h) (fun _ _ h => h))
theorem es_error {Z : Sd.Ctx} {k i : Nat} {ρ : List Slot} {oa ob : Own} {e : Expr} {p pos : Pos} {a : Addr} (F : Fn Z.X.K Z.X.mg Z.X.prog Z.X.w Z.X.base "_law_error" ["caught"] 3 (pre_law_error c)) (g : Gd Z k) (hk : 3 ≤ k) (hi : i < 6) (he : EV Z e ρ (oa ++ [(a, .raw (ExK (.ref (erC c i)) a))] ++ ob) (.ref a)) (hg : Gl Z.X "_law_error" := by rfl) (hs : starEach [e] Z.X.env = (false, eval e Z.X.env) :: starEach [] Z.X.env := by rfl) :
    ED Z (.Call (.Name "_law_error" p) [e] [] pos) ρ (oa ++ [(a, .raw (ExK (.ref (erC c i)) a))] ++ ob) (.str (erN i)) :=
  EG.toES (eg_call F g hk (ea_cons he ea_nil hs) ⟨a, i, rfl, hi, rfl, rfl⟩ (fun s o h => by cases h; exact ⟨rfl, rfl⟩) (fun C o h => nomatch h) hg (by decide) hs rfl)
end
end Pg

namespace Pg
open PySem PySem.Spec PyProof.Rows L2 Sd
section
variable {P : Program} {w : World} {K : PySem.W.Frag} {mg : Str → Option Value} {base : Heap} {c : Cl}
def twZ (q : Rat) : PyData := match (prs2 20).filter (is2 q) with
  | x :: _ => li [(x.1 : Int), (x.2 : Int)]
  | [] => .str "none"
theorem eqd_q {q : Rat} (hq : Shr q) : eqdO c (fr q) = if q.num = 1 ∧ (q.den : Int) ≤ 8 then .ret (.d (.int (q.den : Int))) [] else .exc c.NotFound [] := by
  unfold eqdO
  rw [if_pos (fr_isShr hq)]
  rfl
def pre_law_call : Pr := fun ss own post => ∃ (kd : Int) (q : Rat), ss = [.d (.int kd), .d (fr q)] ∧ own = [] ∧ (kd = 0 ∨ kd = 1) ∧ Shr q ∧ Sq 1000 q ∧ post = fun o => o = .ret (.d (if kd = 0 then twZ q else eqZ q)) []
theorem fn_law_call (T : Tx K mg c) : Fn K mg P w base "_law_call" ["kind", "chance_here"] 5 pre_law_call := T.d_law_call.fn fun f fd F => okG (k := 4) F sc_law_call (by rintro ss own post ⟨kd, q, rfl, _⟩; rfl) (by
  rintro ss own post ⟨kd, q, rfl, rfl, hkd, hq, hz, rfl⟩ cdv A outer s H E B g
  refine sds_rtdrop ?_
  refine sds_cons (sd_set 2 g.nd ed_non ?_)
  refine sds_cons (sd_set 3 g.nd ed_non ?_)
  refine sds_cons (sd_try_keep 4 3 g ⟨rfl, by decide, .inl T.e_DayError.g⟩ fun pn xe B' g' => ?_)
  rcases hkd with rfl | rfl
  · refine sds_one (sd_setG 2 g'.nd (R := fun t o => ∃ a b p, Two q a b ∧ t = .raw (.ref p) ∧ o = [(p, .lst [.int ((a : Nat) : Int), .int ((b : Nat) : Int)])]) (eg_if (k := true) (ET.is (et_cmp c_eqI (ed_v 0) ed_int) rfl) (fun _ => eg_call (oa := []) (o1 := []) (ob := []) (fn_two_days T) g' (by decide) (ea_cons (ed_v 1) ea_nil) ⟨q, rfl, rfl, hq, hz, rfl⟩ ?_ ?_) fun h => nomatch h) ?_)
    · rintro t o (⟨a, b, T2, p, e⟩ | ⟨_, e⟩)
      · cases e
        exact ⟨a, b, p, T2, rfl, rfl⟩
      · cases e
    · rintro C o (⟨a, b, T2, p, e⟩ | ⟨hno, e⟩)
      · cases e
      · cases e
        refine ⟨T.q_NotFound.ex, fun a => ?_⟩
        refine sds_one (sd_retD (es_if (k := false) (et_cmp c_isNR (ev_v 3) ed_non) (fun h => nomatch h) fun _ => es_error (oa := []) (i := 5) (fn_law_error T) g (by decide) (by decide) (ev_v 3)) ?_)
        show Out.ret _ _ = _
        have : twZ q = .str "none" := by
          unfold twZ
          rcases good_eq q with ⟨a, b, T2, _⟩ | ⟨_, e⟩
          · exact absurd T2 (hno a b)
          · rw [e]
        rw [if_pos rfl, this]
        rfl
    · rintro t o ⟨a, b, p, T2, rfl, rfl⟩
      refine sds_freeze 2 (oa := []) rfl ?_
      refine sds_one (sd_retD (es_if (k := true) (et_cmp c_isND (ed_v 3) ed_non) (fun _ => ed_v 2) fun h => nomatch h) ?_)
      show Out.ret _ _ = _
      have : twZ q = li [(a : Int), (b : Int)] := by
        unfold twZ
        rcases good_eq q with ⟨a', b', T3, e⟩ | ⟨hno, _⟩
        · rw [e]
          obtain ⟨rfl, rfl⟩ := two_same T2 T3
          rfl
        · exact absurd T2 (hno a b)
      rw [if_pos rfl, this]
      rfl
  · refine sds_one (sd_setG 2 g'.nd (R := fun t o => ∃ n, eqZ q = .int n ∧ t = .d (.int n) ∧ o = []) (eg_if (k := false) (ET.is (et_cmp c_eqI (ed_v 0) ed_int) rfl) (fun h => nomatch h) fun _ => eg_call (oa := []) (o1 := []) (ob := []) (fn_equal_days T) g' (by decide) (ea_cons (ed_v 1) ea_nil) ⟨fr q, rfl, rfl, rfl⟩ ?_ ?_) ?_)
    · intro t o h
      have h : Out.ret t o = eqdO c (fr q) := h
      rw [eqd_q hq] at h
      by_cases hc : q.num = 1 ∧ (q.den : Int) ≤ 8
      · rw [if_pos hc] at h
        cases h
        exact ⟨_, by unfold eqZ; rw [if_pos hc], rfl, rfl⟩
      · rw [if_neg hc] at h
        cases h
    · intro C o h
      have h : Out.exc C o = eqdO c (fr q) := h
      rw [eqd_q hq] at h
      by_cases hc : q.num = 1 ∧ (q.den : Int) ≤ 8
      · rw [if_pos hc] at h
        cases h
      · rw [if_neg hc] at h
        cases h
        refine ⟨T.q_NotFound.ex, fun a => ?_⟩
        refine sds_one (sd_retD (es_if (k := false) (et_cmp c_isNR (ev_v 3) ed_non) (fun h => nomatch h) fun _ => es_error (oa := []) (i := 5) (fn_law_error T) g (by decide) (by decide) (ev_v 3)) ?_)
        show Out.ret _ _ = _
        rw [if_neg (by decide), eqZ, if_neg hc]
        rfl
    · rintro t o ⟨n, e, rfl, rfl⟩
      refine sds_one (sd_retD (es_if (k := true) (et_cmp c_isND (ed_v 3) ed_non) (fun _ => ed_v 2) fun h => nomatch h) ?_)
      show Out.ret _ _ = _
      rw [if_neg (by decide), e])
end
end Pg

namespace Pg
open PySem PySem.Spec PyProof.Rows L2 Sd
section
variable {P : Program} {w : World} {K : PySem.W.Frag} {mg : Str → Option Value} {base : Heap} {c : Cl}
def pre_law_low : Pr := fun ss own post => ∃ a b : Int, ss = [.d (.int a), .d (.int b)] ∧ own = [] ∧ 0 < b ∧ Sz 8999 b ∧ post = fun o => o = .ret (.d (fr ((a : Rat) / b))) []
theorem fn_law_low (T : Tx K mg c) : Fn K mg P w base "_law_low" ["top", "under"] 1 pre_law_low := T.d_law_low.fn fun f fd F => okG (k := 0) F sc_law_low (by rintro ss own post ⟨a, b, rfl, _⟩; rfl) (by
  rintro ss own post ⟨a, b, rfl, rfl, hb, hz, rfl⟩ cdv A outer s H E B g
  have eg : Int.gcd (if a < 0 then -a else a) b = Int.gcd a b := by
    split
    · rw [Int.gcd_comm, Int.gcd_neg, Int.gcd_comm]
    · rfl
  have ha : 0 ≤ (if a < 0 then -a else a) := by split <;> omega
  refine sds_cons (sd_par 2 3 g (ea_cons (ed_abs T.n_abs (ed_v 0)) (ea_cons (ed_v 1) ea_nil)) ?_)
  generalize (if a < 0 then -a else a) = a' at eg ha
  refine sds_cons (sd_while g (fun m ρ own => ∃ x y : Int, 0 ≤ x ∧ 0 ≤ y ∧ ρ = [.d (.int a), .d (.int b), .d (.int x), .d (.int y)] ∧ own = [] ∧ Int.gcd x y = Int.gcd a b ∧ m = y.toNat) b.toNat ⟨a', b, ha, by omega, rfl, rfl, eg, rfl⟩ ?_)
  rintro m ρ1 own1 ⟨x, y, hx, hy, rfl, rfl, e, rfl⟩
  refine ⟨_, et_cmp c_neI (ed_v 3) ed_int, fun h => ?_, fun h => ?_⟩
  · have h0 : 0 < y := by
      have : y ≠ 0 := fun z => by subst z; simp at h
      omega
    refine sds_one (sd_par 2 3 g (ea_cons (ed_v 3) (ea_cons (ed_mod (ed_v 2) (ed_v 3) h0) ea_nil)) ?_)
    have h1 := Int.emod_nonneg x (Int.ne_of_gt h0)
    have h2 := Int.emod_lt_of_pos x h0
    exact ⟨(x % y).toNat, by omega, y, x % y, hy, h1, rfl, rfl, (gcd_step x y hx h0).trans e, rfl⟩
  · have h0 : y = 0 := by simpa using h
    subst h0
    have ex : x = (Int.gcd a b : Nat) := by rw [← e, Int.gcd_zero_right, Int.natAbs_of_nonneg hx]
    subst ex
    have g0 : (0 : Int) < (Int.gcd a b : Nat) := by
      have := Int.gcd_pos_of_ne_zero_right a (show b ≠ 0 by omega)
      omega
    have gz : Sz 8999 (Int.gcd a b : Nat) := by
      have := Int.gcd_le_natAbs_right (a := a) (show b ≠ 0 by omega)
      unfold Sz at *
      rw [Int.natAbs_natCast]
      omega
    refine sds_one (sd_retD (ed_tup (ds := [_, _]) (ea_cons (ed_fdiv (ed_v 0) (ed_v 2) (cdiv_of g0 gz (by decide))) (ea_cons (ed_fdiv (ed_v 1) (ed_v 2) (cdiv_of g0 gz (by decide))) ea_nil))) ?_)
    show Out.ret (.d (.tuple [.int (a / (Int.gcd a b : Nat)), .int (b / (Int.gcd a b : Nat))])) [] = _
    rw [fr_low a b hb])
end
end Pg

namespace Pg
open PySem PySem.Spec PyProof.Rows L2 Sd
section
variable {P : Program} {w : World} {K : PySem.W.Frag} {mg : Str → Option Value} {base : Heap} {c : Cl}
def forB : Stmt → List Stmt
  | .For _ _ b _ _ => b
  | _ => []
theorem eqv_t2 (a b x y : Int) : PyData.eqv (.tuple [.int a, .int b]) (.tuple [.int x, .int y]) = (decide (a = x) && decide (b = y)) := by
  simp [PyData.eqv, PyData.eqvAll]
  rfl
theorem sh_t2 (a b : Int) : SeqAt.shaped (.tuple [.int a, .int b]) = true := (shp_tup (n := 0) (ds := [.int a, .int b]) fun d hd => by
  simp only [List.mem_cons, List.not_mem_nil, or_false] at hd
  rcases hd with rfl | rfl <;> exact shp_int _).shaped (by decide)
theorem low_co {h l : Nat} (hl : 1 ≤ l) : PyData.eqv (fr (((h : Int) : Rat) / ((l : Int) : Rat))) (.tuple [.int (h : Int), .int (l : Int)]) = decide (Nat.gcd h l = 1) := by
  have hl' := low_eq (h : Int) (l : Int) (by omega)
  show PyData.eqv (.tuple [.int (((h : Int) : Rat) / ((l : Int) : Rat)).num, .int ((((h : Int) : Rat) / ((l : Int) : Rat)).den : Int)]) _ = _
  rw [hl'.1, hl'.2, eqv_t2]
  have hg : Int.gcd (h : Int) (l : Int) = Nat.gcd h l := rfl
  rw [hg]
  have hg0 : 0 < Nat.gcd h l := Nat.gcd_pos_of_pos_right h (by omega)
  by_cases h1 : Nat.gcd h l = 1
  · have e1 : ((Nat.gcd h l : Nat) : Int) = 1 := by omega
    rw [decide_eq_true h1, e1]
    simp
  · rw [decide_eq_false h1, Bool.and_eq_false_iff]
    refine .inr (decide_eq_false ?_)
    intro z
    have hd : ((Nat.gcd h l : Nat) : Int) ∣ (l : Int) := Int.natCast_dvd_natCast.mpr (Nat.gcd_dvd_right h l)
    have h2 := Int.ediv_mul_cancel hd
    rw [z] at h2
    have h3 : (l : Int) * 2 ≤ (l : Int) * ((Nat.gcd h l : Nat) : Int) := Int.mul_le_mul_of_nonneg_left (by omega) (by omega)
    omega
def gD (l : List (Nat × Nat)) : List PyData := l.map fun x => li [(x.1 : Int), (x.2 : Int)]
theorem law_a (T : Tx K mg c) {f : Addr} {cdv : Value} {A : Around} {outer : List Env} {s : Shared} {H : Hp} {E : XK} {B : Bs} {ex : Addr → List Slot → Own → Prop} (g : Gd (ctxOf P w K mg base evN "law" s_law f cdv A outer s H E B ex) 10)
    {q : Rat} (hq : Shr q) (hz : Sq 1000 q) {s0 s1 s2 s3 s4 s6 s7 s8 s9 : Slot} {own0 : Own} {D : DE}
    (hD : ∀ t6 t7 t8 t9, D.nx [s0, s1, s2, s3, s4, .d (fr q), t6, t7, t8, t9, .un, .un, .un, .un, .un, .un, .un, .un] own0) :
    SDs (ctxOf P w K mg base evN "law" s_law f cdv A outer s H E B ex) (forB ((defBody s_law).getD 4 (.Pass ⟨0, 0, 0, 0⟩))) D [s0, s1, s2, s3, s4, .d (fr q), s6, s7, s8, s9, .un, .un, .un, .un, .un, .un, .un, .un] own0 := by
  refine sds_cons (sd_setL 6 g.nd (ds := []) (el_lst (ds := []) ea_nil) fun pg => ?_)
  refine sds_cons (sd_for g (it_range2 T.n_range ed_int ed_int ⟨by decide, by decide, by decide, by decide⟩) (fun i ρ own => ∃ t7 t8, own = (pg, .lst (gD ((prs2 i).filter (is2 q)))) :: own0 ∧ ρ = [s0, s1, s2, s3, s4, .d (fr q), .raw (.ref pg), t7, t8, s9, .un, .un, .un, .un, .un, .un, .un, .un]) ⟨_, _, rfl, rfl⟩ (fun _ _ _ _ => trivial) ?_ ?_)
  · rintro i y ρ1 own1 hyy ⟨t7, t8, rfl, rfl⟩
    obtain ⟨hi, rfl⟩ := rng_get hyy
    have hi : i < 20 := hi
    rw [show (1 : Int) + (i : Int) = ((i + 1 : Nat) : Int) by omega]
    refine ⟨_, _, gt_name 7 g.nd, ?_⟩
    refine sds_one (sd_for g (it_range2 T.n_range ed_int (ed_add (ed_v 7) ed_int) ⟨by omega, by omega, by omega, by omega⟩) (fun j ρ own => ∃ t8, own = (pg, .lst (gD ((prs2 i ++ row2 i j).filter (is2 q)))) :: own0 ∧ ρ = [s0, s1, s2, s3, s4, .d (fr q), .raw (.ref pg), .d (.int ((i + 1 : Nat) : Int)), t8, s9, .un, .un, .un, .un, .un, .un, .un, .un]) ⟨_, by unfold row2; simp, rfl⟩ (fun _ _ _ _ => trivial) ?_ ?_)
    · rintro j y ρ2 own2 hyy ⟨t8, rfl, rfl⟩
      obtain ⟨hj, rfl⟩ := rng_get hyy
      have hj : j < i + 1 := by omega
      rw [show (1 : Int) + (j : Int) = ((j + 1 : Nat) : Int) by omega]
      have hY2 : Yr [((i + 1 : Nat) : Int), ((j + 1 : Nat) : Int)] := ⟨by simp, by simp, fun y hy => by
        simp only [List.mem_cons, List.not_mem_nil, or_false] at hy
        rcases hy with rfl | rfl <;> omega⟩
      have hrow : row2 i (j + 1) = row2 i j ++ [(i + 1, j + 1)] := by
        unfold row2
        rw [List.range_succ, List.map_append]
        rfl
      have hlen : (gD ((prs2 i ++ row2 i j).filter (is2 q))).length < 100000 := by
        unfold gD
        rw [List.length_map]
        have h1 := List.length_filter_le (is2 q) (prs2 i ++ row2 i j)
        have h2 : (prs2 i).length ≤ 400 := by
          have key : ∀ n, n ≤ 20 → (prs2 n).length ≤ 400 := by decide +kernel
          exact key i (by omega)
        have h3 : (row2 i j).length = j := by unfold row2; simp
        rw [List.length_append, h3] at h1
        omega
      refine ⟨_, _, gt_name 8 g.nd, ?_⟩
      refine sds_one (sd_if (l := is2 q (i + 1, j + 1)) (ET.is (EW.et (ew_and (et_cmp (c_eq g .d .d (sh_fr (((((i + 1 : Nat) : Int)) : Rat) / ((((j + 1 : Nat) : Int)) : Rat))) (sh_t2 ((i + 1 : Nat) : Int) ((j + 1 : Nat) : Int))) (es_call (fn_law_low T) g (by decide) (ea_cons (ed_v 7) (ea_cons (ed_v 8) ea_nil)) ⟨_, _, rfl, rfl, by omega, (show Sz 8 ((j + 1 : Nat) : Int) by unfold Sz; omega).mono (by decide), rfl⟩) (ed_tup (ds := [_, _]) (ea_cons (ed_v 7) (ea_cons (ed_v 8) ea_nil)))) fun _ => ew_and1 (et_cmp (c_eq g .d .d (sh_fr _) (sh_fr q)) (es_call (fn_all_unlike T) g (by decide) (ea_cons (ES.is (y := li [((i + 1 : Nat) : Int), ((j + 1 : Nat) : Int)]) (ed_lst (ds := [_, _]) (ea_cons (ed_v 7) (ea_cons (ed_v 8) ea_nil))) rfl) (ea_cons ed_int ea_nil)) ⟨_, 2, rfl, rfl, hY2, by decide, rfl⟩) (ed_v 5)))) ?_) (fun h => ?_) fun h => ?_)
      · rw [low_co (by omega), eqv_fr]
        rfl
      · refine sds_one (sd_append (oa := []) (ob := own0) (p := pg) (x := li [((i + 1 : Nat) : Int), ((j + 1 : Nat) : Int)]) (ev_v 6) (ES.is (ed_lst (ds := [_, _]) (ea_cons (ed_v 7) (ea_cons (ed_v 8) ea_nil))) rfl) hlen ?_)
        refine ⟨_, ?_, rfl⟩
        rw [hrow, ← List.append_assoc, List.filter_append (l₁ := prs2 i ++ row2 i j), List.filter_cons, if_pos h, List.filter_nil, List.nil_append]
        unfold gD
        rw [List.map_append]
        rfl
      · refine sds_nil ⟨_, ?_, rfl⟩
        rw [hrow, ← List.append_assoc, List.filter_append (l₁ := prs2 i ++ row2 i j), List.filter_cons, if_neg (by rw [h]; decide), List.filter_nil, List.append_nil]
    · rintro ρ2 own2 ⟨t8, rfl, rfl⟩
      rw [rng_length, show (((i + 1 : Nat) : Int) + 1 - 1).toNat = i + 1 by omega]
      refine ⟨_, _, ?_, rfl⟩
      have : prs2 (i + 1) = prs2 i ++ row2 i (i + 1) := by
        unfold prs2
        rw [List.range_succ, List.flatMap_append]
        simp
      rw [this]
  rintro ρ1 own1 ⟨t7, t8, rfl, rfl⟩
  rw [rng_length, show ((21 : Int) - 1).toNat = 20 from rfl]
  refine sds_freeze 6 (oa := []) rfl ?_
  rw [List.nil_append]
  have sh0 : SeqAt.shaped (.list []) = true := sh_ints []
  have e0 : PyData.eqv (.list []) (.list []) = true := eqv_self (shp_ints [])
  have shn : SeqAt.shaped (.str "none") = true := (shp_str (z := "none") (by decide +kernel)).shaped (by decide)
  have esn : PyData.eqv (.str "none") (.str "none") = true := eqv_self (shp_str (z := "none") (by decide +kernel))
  have hsize := size_eq q
  have law2 : SD (ctxOf P w K mg base evN "law" s_law f cdv A outer s H E B ex) ((forB ((defBody s_law).getD 4 (.Pass ⟨0, 0, 0, 0⟩))).getD 2 (.Pass ⟨0, 0, 0, 0⟩)) { D with nx := fun ρ own => SDs (ctxOf P w K mg base evN "law" s_law f cdv A outer s H E B ex) ((forB ((defBody s_law).getD 4 (.Pass ⟨0, 0, 0, 0⟩))).drop 3) D ρ own } [s0, s1, s2, s3, s4, .d (fr q), .d (.list (gD ((prs2 20).filter (is2 q)))), t7, t8, s9, .un, .un, .un, .un, .un, .un, .un, .un] own0 := by
    have hnx : SDs (ctxOf P w K mg base evN "law" s_law f cdv A outer s H E B ex) ((forB ((defBody s_law).getD 4 (.Pass ⟨0, 0, 0, 0⟩))).drop 3) D [s0, s1, s2, s3, s4, .d (fr q), .d (.list (gD ((prs2 20).filter (is2 q)))), t7, t8, s9, .un, .un, .un, .un, .un, .un, .un, .un] own0 := by
      obtain ⟨s6, hs6⟩ : ∃ s6 : Slot, s6 = .d (.list (gD ((prs2 20).filter (is2 q)))) := ⟨_, rfl⟩
      rw [← hs6]
      refine sds_cons (sd_setC 9 g (compP g (it_range2 T.n_range ed_int ed_int ⟨by decide, by decide, by decide, by decide⟩) [("k", 16)] (blkOk_by (N := evN) (sc := defScope s_law) (by decide +kernel)) (List.range 8) (fun (k : Nat) => PyData.int (1 + (k : Int))) rfl (fun k => if decide (((1 : Int) : Rat) / (((k + 1 : Nat) : Int) : Rat) = q) = true then some (.int ((k + 1 : Nat) : Int)) else none) (fun k => [s0, s1, s2, s3, s4, .d (fr q), s6, t7, t8, s9, .un, .un, .un, .un, .un, .un, .d (.int (1 + (k : Int))), .un]) [16] (by simp) (by decide) (fun _ _ => trivial)
        (fun k _ s H C cl fp g' => gt_name 16 g'.nd) (fun k hk s H C cl fp o g' => ets_one (ET.is (et_cmp (c_eq g' .d .d (sh_fr _) (sh_fr q)) (es_call (fn_law_low T) g' (by decide) (ea_cons ed_int (ea_cons (ES.is (y := .int ((k + 1 : Nat) : Int)) (ed_v 16) (by congr 1; omega)) ea_nil)) ⟨_, _, rfl, rfl, by omega, (show Sz 8 ((k + 1 : Nat) : Int) by have := List.mem_range.mp hk; unfold Sz; omega).mono (by decide), rfl⟩) (ed_v 5)) ?_)) (fun k hk x hx s H C cl fp o g' => ?_)) ?_ (sw_true rfl rfl rfl (by decide +kernel)))
      · rw [eqv_fr]
        by_cases h : ((1 : Int) : Rat) / (((k + 1 : Nat) : Int) : Rat) = q
        · rw [if_pos (decide_eq_true h), decide_eq_true h]; rfl
        · rw [if_neg (by simpa using h), decide_eq_false h]; rfl
      · split at hx
        · cases hx
          exact ES.is (ed_v 16) (by congr 1; omega)
        · cases hx
      rintro p ds o ⟨rfl, rfl⟩
      refine sds_freeze 9 (oa := []) rfl ?_
      rw [List.nil_append, fm_if (fun k => decide (((1 : Int) : Rat) / (((k + 1 : Nat) : Int) : Rat) = q)) (fun (k : Nat) => PyData.int ((k + 1 : Nat) : Int)), show (((List.range 8).filter fun k => decide (((1 : Int) : Rat) / (((k + 1 : Nat) : Int) : Rat) = q)).map fun (k : Nat) => PyData.int ((k + 1 : Nat) : Int)) = (((List.range 8).filter fun k => decide (((1 : Int) : Rat) / (((k + 1 : Nat) : Int) : Rat) = q)).map fun k => ((k + 1 : Nat) : Int)).map PyData.int by rw [List.map_map]; rfl, hsize]
      have ecall : ∀ {z : PyData}, z = eqZ q → pre_law_call [.d (.int 1), .d (fr q)] [] (fun o => o = .ret (.d z) []) := fun {z} e => ⟨1, q, rfl, rfl, .inr rfl, hq, hz, by rw [if_neg (by decide), e]⟩
      by_cases h : q.num = 1 ∧ (q.den : Int) ≤ 8
      · rw [if_pos h]
        refine sds_one (sd_ifF (ET.is (et_cmp (c_ne g .d .d (sh_int (q.den : Int)) (sh_int (q.den : Int))) (es_call (fn_law_call T) g (by decide) (ea_cons ed_int (ea_cons (ed_v 5) ea_nil)) (ecall (by unfold eqZ; rw [if_pos h]))) (es_if (k := true) (ET.is (et_cmp (c_ne g .d .d (sh_ints [(q.den : Int)]) sh0) (ed_v 9) (ed_lst (ds := []) ea_nil)) (by simp [PyData.eqv, PyData.eqvAll])) (fun _ => ed_ixL (ed_v 9) ed_int .d (getI (j := 0) rfl)) fun h => nomatch h)) (by simp [PyData.eqv])) (hD _ _ _ _))
      · rw [if_neg h]
        refine sds_one (sd_ifF (ET.is (et_cmp (c_ne g .d .d shn shn) (es_call (fn_law_call T) g (by decide) (ea_cons ed_int (ea_cons (ed_v 5) ea_nil)) (ecall (by unfold eqZ; rw [if_neg h]))) (es_if (k := false) (ET.is (et_cmp (c_ne g .d .d sh0 sh0) (ed_v 9) (ed_lst (ds := []) ea_nil)) (by rw [e0]; rfl)) (fun h => nomatch h) fun _ => ed_str)) (by rw [esn]; rfl)) (hD _ _ _ _))
    have ecall : ∀ {z : PyData}, z = twZ q → pre_law_call [.d (.int 0), .d (fr q)] [] (fun o => o = .ret (.d z) []) := fun {z} e => ⟨0, q, rfl, rfl, .inl rfl, hq, hz, by rw [if_pos rfl, e]⟩
    rcases good_eq q with ⟨a, b, T2, eG⟩ | ⟨hno, eG⟩
    · have etw : li [(a : Int), (b : Int)] = twZ q := by unfold twZ; rw [eG]
      rw [eG] at hnx ⊢
      refine sd_ifF (ET.is (EW.et (ew_or (et_cmp (c_ne g .d .d (sh_ints [(a : Int), (b : Int)]) (sh_ints [(a : Int), (b : Int)])) (es_call (fn_law_call T) g (by decide) (ea_cons ed_int (ea_cons (ed_v 5) ea_nil)) (ecall etw)) (es_if (k := true) (ET.is (et_cmp (c_ne g .d .d (sh_lis [[(a : Int), (b : Int)]]) sh0) (ed_v 6) (ed_lst (ds := []) ea_nil)) (by simp [PyData.eqv, PyData.eqvAll])) (fun _ => ed_ixL (ed_v 6) ed_int .d (atI_nat (j := 0) rfl)) fun h => nomatch h)) fun _ => ew_or1 (et_cmp c_gt (ed_len T.n_len (ed_v 6) .d) ed_int))) (by rw [eqv_ints]; simp [gD])) hnx
    · have etw : PyData.str "none" = twZ q := by unfold twZ; rw [eG]
      rw [eG] at hnx ⊢
      refine sd_ifF (ET.is (EW.et (ew_or (et_cmp (c_ne g .d .d shn shn) (es_call (fn_law_call T) g (by decide) (ea_cons ed_int (ea_cons (ed_v 5) ea_nil)) (ecall etw)) (es_if (k := false) (ET.is (et_cmp (c_ne g .d .d sh0 sh0) (ed_v 6) (ed_lst (ds := []) ea_nil)) (by rw [e0]; rfl)) (fun h => nomatch h) fun _ => ed_str)) fun _ => ew_or1 (et_cmp c_gt (ed_len T.n_len (ed_v 6) .d) ed_int))) (by rw [esn]; simp [gD])) hnx
  exact sds_cons law2
end
end Pg

namespace Pg
open PySem PySem.Spec PyProof.Rows L2 Sd
section
variable {P : Program} {w : World} {K : PySem.W.Frag} {mg : Str → Option Value} {base : Heap} {c : Cl}
def pre_law_draw : Pr := fun ss own post => ∃ (d n : Addr) (cells : List Int) (cnt limit : Int), ss = [.raw (.ref d), .d (.int limit)] ∧ own = drw d n cells cnt ∧ cells ≠ [] ∧ 0 < limit ∧ limit < 1073741824 ∧
  post = fun o => ∃ r cells' cnt', 0 ≤ r ∧ r < limit ∧ cells' ≠ [] ∧ o = .ret (.d (.int r)) (drw d n cells' cnt')
theorem fn_law_draw (T : Tx K mg c) : Fn K mg P w base "_law_draw" ["draws", "limit"] 1 pre_law_draw := T.d_law_draw.fn fun f fd F => okG (k := 0) F sc_law_draw (by rintro ss own post ⟨d, n, cells, cnt, limit, rfl, _⟩; rfl) (by
  rintro ss own post ⟨d, n, cells, cnt, limit, rfl, rfl, hc, hl, hl2, rfl⟩ cdv A outer s H E B g
  unfold drw
  have hpos : (0 : Int) < cells.length := by
    have := List.length_pos_iff.mpr hc
    omega
  refine sds_cons (sd_set 2 g.nd (es_ixR (s := .raw (.ref n)) (q := d) (vs := [.ref n, .int cnt]) (by simp) (ev_v 0) ed_int rfl fun _ => rfl) ?_)
  refine sds_cons (sd_setitemR (oa := []) (q := d) (vs := [.ref n, .int cnt]) (n := 1) (v := .int (cnt + 1)) (ed_add (es_ixR (s := .d (.int cnt)) (q := d) (vs := [.ref n, .int cnt]) (by simp) (ev_v 0) ed_int rfl fun _ => Rep.int _) ed_int) (fun _ _ h => by cases h; rfl) (ev_v 0) ed_int rfl ?_)
  have eset : ([.ref n, .int cnt] : List V).set 1 (.int (cnt + 1)) = [.ref n, .int (cnt + 1)] := rfl
  rw [eset]
  refine sds_cons (sd_set 3 g.nd (ed_mod (es_ixR (s := .d (.int (cnt + 1))) (q := d) (vs := [.ref n, .int (cnt + 1)]) (by simp) (ev_v 0) ed_int rfl fun _ => Rep.int _) (ed_len (ds := cells.map PyData.int) T.n_len (ev_v 2) (Lst.o (by simp))) (by rw [List.length_map]; exact hpos)) ?_)
  rw [List.length_map]
  have h1 := Int.emod_nonneg (cnt + 1) (Int.ne_of_gt hpos)
  have h2 := Int.emod_lt_of_pos (cnt + 1) hpos
  obtain ⟨j, hj⟩ : ∃ j : Nat, (cnt + 1) % (cells.length : Int) = (j : Int) := ⟨((cnt + 1) % (cells.length : Int)).toNat, by omega⟩
  rw [hj]
  have hjl : j < cells.length := by omega
  have hat : (cells.map PyData.int)[j]? = some (.int cells[j]) := by
    rw [List.getElem?_map, List.getElem?_eq_getElem hjl]
    rfl
  have hix : ixN (cells.map PyData.int).length (j : Int) = some j := by
    unfold ixN
    rw [if_pos (by omega), if_pos (by rw [List.length_map]; omega)]
    simp
  refine sds_cons (sd_set 4 g.nd (ed_ixL (ds := cells.map PyData.int) (ev_v 2) (ed_v 3) (Lst.o (by simp)) (atI_ixN hix hat)) ?_)
  refine sds_cons (sd_if (et_cmp c_ge (ed_v 4) ed_int) (fun h => ?_) fun h => ?_)
  · refine sds_cons (sd_setitem (oa := [_]) (p := n) (n := j) (ed_fdivS (ed_v 4) (ed_v 1) ⟨hl, hl2⟩) (ev_v 2) (ed_v 3) hix ?_)
    refine sds_one (sd_retD (ed_mod (ed_v 4) (ed_v 1) hl) ?_)
    refine ⟨cells[j] % limit, cells.set j (cells[j] / limit), cnt + 1, Int.emod_nonneg _ (Int.ne_of_gt hl), Int.emod_lt_of_pos _ hl, fun z => hc (by simpa using z), ?_⟩
    rw [List.map_set]
    rfl
  · refine sds_nil ?_
    have m1 := fun x : Int => Int.emod_nonneg x (show (4294967291 : Int) ≠ 0 by decide)
    have m2 := fun x : Int => Int.emod_lt_of_pos x (show (0 : Int) < 4294967291 by decide)
    have m3 := fun x : Int => Int.emod_nonneg x (show (4294967279 : Int) ≠ 0 by decide)
    have m4 := fun x : Int => Int.emod_lt_of_pos x (show (0 : Int) < 4294967279 by decide)
    refine sds_cons (sd_set 5 g.nd (ed_mod (ed_add (ed_v 4) (ed_mulS ed_int (es_ixR (s := .d (.int (cnt + 1))) (q := d) (vs := [.ref n, .int (cnt + 1)]) (by simp) (ev_v 0) ed_int rfl fun _ => Rep.int _) (.inl ⟨by decide, by decide⟩))) ed_int (by decide)) ?_)
    refine sds_cons (sd_set 5 g.nd (ed_mod (ed_pow (ed_v 5) ed_int ⟨by decide, by decide, ?_⟩) ed_int (by decide)) ?_)
    · have a1 := m1 (cells[j] + 104729 * (cnt + 1))
      have a2 := m2 (cells[j] + 104729 * (cnt + 1))
      generalize (cells[j] + 104729 * (cnt + 1)) % 4294967291 = x at a1 a2
      show x.natAbs < 2 ^ 64
      omega
    · refine sds_one (sd_retD (ed_mod (ed_fdivS (ed_mod (ed_add (ed_mulS (ed_fdivS (ed_v 5) ed_int ⟨by decide, by decide⟩) ed_int (.inr ⟨by decide, by decide⟩)) (ed_v 5)) ed_int (by decide)) ed_int ⟨by decide, by decide⟩) (ed_v 1) hl) ?_)
      exact ⟨_, cells, cnt + 1, Int.emod_nonneg _ (Int.ne_of_gt hl), Int.emod_lt_of_pos _ hl, hc, rfl⟩)
end
end Pg

namespace Pg
open PySem PySem.Spec PyProof.Rows L2 Sd
section
variable {P : Program} {w : World} {K : PySem.W.Frag} {mg : Str → Option Value} {base : Heap} {c : Cl}
def pre_law_pick : Pr := fun ss own post => ∃ (d n : Addr) (cells : List Int) (cnt : Int) (ds : List PyData), ss = [.raw (.ref d), .d (.list ds)] ∧ own = drw d n cells cnt ∧ cells ≠ [] ∧ ds ≠ [] ∧ ds.length ≤ 1000000 ∧
  post = fun o => ∃ x cells' cnt', x ∈ ds ∧ cells' ≠ [] ∧ o = .ret (.d x) (drw d n cells' cnt')
theorem fn_law_pick (T : Tx K mg c) : Fn K mg P w base "_law_pick" ["draws", "choices"] 2 pre_law_pick := T.d_law_pick.fn fun f fd F => okG (k := 1) F sc_law_pick (by rintro ss own post ⟨d, n, cells, cnt, ds, rfl, _⟩; rfl) (by
  rintro ss own post ⟨d, n, cells, cnt, ds, rfl, rfl, hc, hd, hl, rfl⟩ cdv A outer s H E B g
  have hpos : 0 < ds.length := List.length_pos_iff.mpr hd
  refine sds_one (sd_retG (eg_ixL (P := fun i o => ∃ cells' cnt', 0 ≤ i ∧ i < (ds.length : Int) ∧ cells' ≠ [] ∧ o = drw d n cells' cnt') (R := fun t o => ∃ x cells' cnt', x ∈ ds ∧ cells' ≠ [] ∧ t = .d x ∧ o = drw d n cells' cnt') (ed_v 1) (eg_call (oa := []) (o1 := drw d n cells cnt) (ob := []) (fn_law_draw T) g (by decide) (ea_cons (ev_v 0) (ea_cons (ed_len T.n_len (ed_v 1) .d) ea_nil)) ⟨d, n, cells, cnt, _, rfl, rfl, hc, by omega, by omega, rfl⟩ ?_ ?_) ?_) ?_)
  · rintro t o1 ⟨r, cells', cnt', h0, h1, h2, e⟩
    cases e
    exact ⟨r, rfl, cells', cnt', h0, h1, h2, by simp⟩
  · rintro C o1 ⟨r, cells', cnt', h0, h1, h2, e⟩
    cases e
  · rintro i o ⟨cells', cnt', h0, h1, h2, rfl⟩
    obtain ⟨j, rfl⟩ : ∃ j : Nat, i = (j : Int) := ⟨i.toNat, by omega⟩
    have hj : j < ds.length := by omega
    exact ⟨ds[j], atI_nat (List.getElem?_eq_getElem hj), ds[j], cells', cnt', List.getElem_mem hj, h2, rfl, rfl⟩
  · rintro t o ⟨x, cells', cnt', h1, h2, rfl, rfl⟩
    exact ⟨x, cells', cnt', h1, h2, rfl⟩)
end
end Pg

namespace Pg
open PySem PySem.Spec PyProof.Rows L2 Sd
section
variable {P : Program} {w : World} {K : PySem.W.Frag} {mg : Str → Option Value} {base : Heap} {c : Cl}
def pre_law_start (K : PySem.W.Frag) : Pr := fun ss own post => ∃ (a : Addr) (ns : List Int), ss = [.raw (.ref a)] ∧ ScrAt K own a ns ∧ post = fun o => ∃ d n cells, cells ≠ [] ∧ o = .ret (.raw (.ref d)) (drw d n cells 0 ++ own)
theorem fn_law_start (T : Tx K mg c) : Fn K mg P w base "_law_start" ["script"] 1 (pre_law_start K) := T.d_law_start.fn fun f fd F => okG (k := 0) F sc_law_start (by rintro ss own post ⟨a, ns, rfl, _⟩; rfl) (by
  rintro ss own post ⟨a, ns, rfl, hs, rfl⟩ cdv A outer s H E B g
  refine sds_one (sd_retG (eg_lst2 (P := fun v o => ∃ n, v = .ref n ∧ o = (n, .lst ((if ns = [] then [0] else ns).map PyData.int)) :: own) (EL.toEG (el_if (et_cmp (c_neScr g hs) (ev_v 0) (ed_lst (ds := []) ea_nil)) (fun h => EL.is (el_listScr T.n_list (ev_v 0) hs) ?_) fun h => EL.is (el_lst (ds := [.int 0]) (ea_cons ed_int ea_nil)) ?_) fun p => ⟨_, rfl, p, rfl, rfl⟩) fun v o _ => ed_int) ?_)
  · rw [if_neg (by simpa using h)]
  · rw [if_pos (by simpa using h)]
    rfl
  · rintro t o ⟨q, v, o', rfl, rfl, n, rfl, rfl⟩
    exact ⟨q, n, if ns = [] then [0] else ns, by split <;> simp_all, rfl⟩)
end
end Pg

namespace Pg
open PySem PySem.Spec PyProof.Rows L2 Sd
section
variable {P : Program} {w : World} {K : PySem.W.Frag} {mg : Str → Option Value} {base : Heap} {c : Cl}
/-- a draw, a pick: in words of what is owned -/
theorem eg_draw {Z : Sd.Ctx} {k : Nat} {ρ : List Slot} {oa ob : Own} {e1 e2 : Expr} {p pos : Pos} {d n : Addr} {cells : List Int} {cnt limit : Int} (F : Fn Z.X.K Z.X.mg Z.X.prog Z.X.w Z.X.base "_law_draw" ["draws", "limit"] 1 pre_law_draw) (g : Gd Z k) (hk : 1 ≤ k) (hc : cells ≠ []) (ha : EA Z [e1, e2] ρ (oa ++ drw d n cells cnt ++ ob) [.raw (.ref d), .d (.int limit)]) (hl : 0 < limit) (hl2 : limit < 1073741824)
    (hg : Gl Z.X "_law_draw" := by rfl) (he : starEach [e1, e2] Z.X.env = (false, eval e1 Z.X.env) :: starEach [e2] Z.X.env := by rfl) (hpl : (backTo pos (starEach [e2] Z.X.env)).any (·.1) = false := by rfl) :
    EG Z (.Call (.Name "_law_draw" p) [e1, e2] [] pos) ρ (oa ++ drw d n cells cnt ++ ob) (fun t o => ∃ (r : Nat) (cells' : List Int) (cnt' : Int), (r : Int) < limit ∧ cells' ≠ [] ∧ t = .d (.int (r : Int)) ∧ o = oa ++ drw d n cells' cnt' ++ ob) :=
  eg_call F g hk ha ⟨d, n, cells, cnt, limit, rfl, rfl, hc, hl, hl2, rfl⟩ (by
    rintro t o1 ⟨r, cells', cnt', h0, h1, h2, e⟩
    cases e
    exact ⟨r.toNat, cells', cnt', by omega, h2, by rw [Int.toNat_of_nonneg h0], rfl⟩) (by
    rintro C o1 ⟨r, cells', cnt', h0, h1, h2, e⟩
    cases e) hg (by decide) he hpl
theorem eg_pick {Z : Sd.Ctx} {k : Nat} {ρ : List Slot} {oa ob : Own} {e1 e2 : Expr} {p pos : Pos} {d n : Addr} {cells : List Int} {cnt : Int} {ds : List PyData} (F : Fn Z.X.K Z.X.mg Z.X.prog Z.X.w Z.X.base "_law_pick" ["draws", "choices"] 2 pre_law_pick) (g : Gd Z k) (hk : 2 ≤ k) (hc : cells ≠ []) (ha : EA Z [e1, e2] ρ (oa ++ drw d n cells cnt ++ ob) [.raw (.ref d), .d (.list ds)]) (hd : ds ≠ []) (hl : ds.length ≤ 1000000)
    (hg : Gl Z.X "_law_pick" := by rfl) (he : starEach [e1, e2] Z.X.env = (false, eval e1 Z.X.env) :: starEach [e2] Z.X.env := by rfl) (hpl : (backTo pos (starEach [e2] Z.X.env)).any (·.1) = false := by rfl) :
    EG Z (.Call (.Name "_law_pick" p) [e1, e2] [] pos) ρ (oa ++ drw d n cells cnt ++ ob) (fun t o => ∃ (x : PyData) (cells' : List Int) (cnt' : Int), x ∈ ds ∧ cells' ≠ [] ∧ t = .d x ∧ o = oa ++ drw d n cells' cnt' ++ ob) :=
  eg_call F g hk ha ⟨d, n, cells, cnt, ds, rfl, rfl, hc, hd, hl, rfl⟩ (by
    rintro t o1 ⟨x, cells', cnt', h1, h2, e⟩
    cases e
    exact ⟨x, cells', cnt', h1, h2, rfl, rfl⟩) (by
    rintro C o1 ⟨x, cells', cnt', h1, h2, e⟩
    cases e) hg (by decide) he hpl
end
end Pg

namespace Pg
open PySem PySem.Spec PyProof.Rows L2 Sd
section
variable {P : Program} {w : World} {K : PySem.W.Frag} {mg : Str → Option Value} {base : Heap} {c : Cl}
theorem srt2 (a b : Int) : (srt [a, b]).reverse = if a ≤ b then [b, a] else [a, b] := by
  have e : srt [a, b] = if a ≤ b then [a, b] else [b, a] := rfl
  rw [e]
  by_cases h : a ≤ b
  · rw [if_pos h, if_pos h]; rfl
  · rw [if_neg h, if_neg h]; rfl
theorem two_ret {q : Rat} {a b : Nat} (hq : Shr q) (hz : Sq 1000 q) (T2 : Two q a b) : pre_two_days c [.d (fr q)] [] (fun o => ∃ p, o = .ret (.raw (.ref p)) [(p, .lst [.int (a : Int), .int (b : Int)])]) := ⟨q, rfl, rfl, hq, hz, by
  funext o
  refine propext ⟨?_, ?_⟩
  · rintro ⟨p, rfl⟩
    exact .inl ⟨a, b, T2, p, rfl⟩
  · rintro (⟨h, l, T3, p, rfl⟩ | ⟨hno, _⟩)
    · obtain ⟨rfl, rfl⟩ := two_same T2 T3
      exact ⟨p, rfl⟩
    · exact absurd T2 (hno a b)⟩
theorem ok_law (T : Tx K mg c) {f : Addr} {fd : FuncData} (F : Fun K "law" "law" s_law f fd) : FnOk P w K mg base (L2.CX P w) 11 f fd ["script"] (spG (pre_law K)) := okG (k := 10) F sc_law (by rintro ss own post ⟨a, ns, rfl, _⟩; rfl) (by
  rintro ss own0 post ⟨a, ns, rfl, hs, hns, rfl⟩ cdv A outer s H E B g
  refine sds_cons (sd_setG 1 g.nd (R := fun t o => ∃ (d q : Addr) (cells : List Int), cells ≠ [] ∧ t = .raw (.ref d) ∧ o = drw d q cells 0 ++ own0) (eg_callW (fn_law_start T) g (by decide) (ea_cons (ev_v 0) ea_nil) ⟨a, ns, rfl, hs, rfl⟩ ?_ ?_) ?_)
  · rintro t o ⟨d, n, cells, hc, e⟩
    cases e
    exact ⟨d, n, cells, hc, rfl, rfl⟩
  · rintro C o ⟨d, n, cells, hc, e⟩
    cases e
  rintro t o ⟨d, q, cells, hc, rfl, rfl⟩
  -- under
  refine sds_cons (sd_setG 2 g.nd (eg_add (P := fun j o => ∃ (cells' : List Int) (cnt' : Int), 0 ≤ j ∧ j < 400 ∧ cells' ≠ [] ∧ o = drw d q cells' cnt' ++ own0) ed_int (eg_callG (RA := fun ss o => ∃ (n : Int) (cells' : List Int) (cnt' : Int), 1 ≤ n ∧ n ≤ 400 ∧ cells' ≠ [] ∧ ss = [.raw (.ref d), .d (.int n)] ∧ o = drw d q cells' cnt' ++ own0) (fn_law_draw T) g (by decide) (eag_cons (P := fun s o => s = .raw (.ref d) ∧ o = drw d q cells 0 ++ own0) (ES.toEG (ev_v 1) (fun z => nomatch z) ⟨rfl, rfl⟩) ?_) ?_)) ?_)
  · rintro s o ⟨rfl, rfl⟩ _
    refine eag_cons (eg_pick (oa := []) (ob := own0) (n := q) (cells := cells) (ds := [.int 10, .int 60, .int 400]) (fn_law_pick T) g (by decide) hc (ea_cons (ev_v 1) (ea_cons (ed_lst (ds := [.int 10, .int 60, .int 400]) (ea_cons ed_int (ea_cons ed_int (ea_cons ed_int ea_nil)))) ea_nil)) (by simp) (by simp)) ?_
    rintro s o ⟨x, cells', cnt', hx, hc', rfl, rfl⟩ _
    simp only [List.mem_cons, List.not_mem_nil, or_false] at hx
    rcases hx with rfl | rfl | rfl
    · exact EA.toEAG ea_nil ⟨10, cells', cnt', by decide, by decide, hc', rfl, rfl⟩
    · exact EA.toEAG ea_nil ⟨60, cells', cnt', by decide, by decide, hc', rfl, rfl⟩
    · exact EA.toEAG ea_nil ⟨400, cells', cnt', by decide, by decide, hc', rfl, rfl⟩
  · rintro ss o ⟨n, cells', cnt', hn1, hn2, hc', rfl, rfl⟩
    refine ⟨[], drw d q cells' cnt', own0, _, rfl, ⟨d, q, cells', cnt', n, rfl, rfl, hc', by omega, by omega, rfl⟩, ?_, ?_⟩
    · rintro t o1 ⟨r, cells2, cnt2, h0, h1, h2, e⟩
      cases e
      exact ⟨r, rfl, cells2, cnt2, h0, by omega, h2, rfl⟩
    · rintro C o1 ⟨r, cells2, cnt2, h0, h1, h2, e⟩
      cases e
  rintro t o ⟨j, rfl, cells1, cnt1, hj0, hj1, hc1, rfl⟩
  obtain ⟨un, hun, hu1, hu2⟩ : ∃ un, un = 1 + j ∧ 1 ≤ un ∧ un ≤ 400 := ⟨_, rfl, by omega, by omega⟩
  rw [← hun]
  -- one
  refine sds_cons (sd_setG 3 g.nd (R := fun t o => ∃ (q1 : Rat) (cells' : List Int) (cnt' : Int), Shr q1 ∧ Sq 1000 q1 ∧ cells' ≠ [] ∧ t = .d (fr q1) ∧ o = drw d q cells' cnt' ++ own0) (eg_callG (RA := fun ss o => ∃ (n : Int) (cells' : List Int) (cnt' : Int), 0 ≤ n ∧ n ≤ un ∧ cells' ≠ [] ∧ ss = [.d (.int n), .d (.int un)] ∧ o = drw d q cells' cnt' ++ own0) (fn_law_low T) g (by decide) (eag_cons (eg_draw (oa := []) (ob := own0) (n := q) (cells := cells1) (cnt := cnt1) (fn_law_draw T) g (by decide) hc1 (ea_cons (ev_v 1) (ea_cons (ed_add (ed_v 2) ed_int) ea_nil)) (by omega) (by omega)) ?_) ?_) ?_)
  · rintro s o ⟨r, cells', cnt', hr, hc', rfl, rfl⟩ _
    exact EA.toEAG (ea_cons (ed_v 2) ea_nil) ⟨r, cells', cnt', by omega, by omega, hc', rfl, rfl⟩
  · rintro ss o ⟨n, cells', cnt', hn0, hn1, hc', rfl, rfl⟩
    refine ⟨[], [], drw d q cells' cnt' ++ own0, _, rfl, ⟨n, un, rfl, rfl, by omega, (show Sz 10 un by unfold Sz; omega).mono (by decide), rfl⟩, ?_, ?_⟩
    · rintro t o1 e
      cases e
      have hb : (0 : Rat) < (un : Rat) := by exact_mod_cast (show (0 : Int) < un by omega)
      have ha : (0 : Rat) ≤ (n : Rat) := by exact_mod_cast hn0
      have hab : (n : Rat) ≤ (un : Rat) := by exact_mod_cast hn1
      have hi := Rat.inv_pos.mpr hb
      refine ⟨(n : Rat) / un, cells', cnt', ⟨?_, ?_⟩, ?_, hc', rfl, rfl⟩
      · rw [Rat.div_def]
        exact Rat.mul_nonneg ha (Rat.le_of_lt hi)
      · rw [Rat.div_def]
        have := Rat.mul_le_mul_of_nonneg_right hab (Rat.le_of_lt hi)
        rwa [Rat.mul_inv_cancel _ (by grind)] at this
      · exact (Sq.of_div (n := 10) (by omega) (by unfold Sz; omega) (by unfold Sz; omega)).mono (by decide)
    · rintro C o1 e
      cases e
  rintro t o ⟨q1, cells2, cnt2, hq1, hz1, hc2, rfl, rfl⟩
  -- weights
  refine sds_cons (sd_setG 4 g.nd (R := fun t o => ∃ (x y : Int) (cells' : List Int) (cnt' : Int), 1 ≤ x ∧ x ≤ 20 ∧ 1 ≤ y ∧ y ≤ 20 ∧ cells' ≠ [] ∧ t = .d (li [x, y]) ∧ o = drw d q cells' cnt' ++ own0) (EG.frz (P := fun ds o => ∃ (x y : Int) (cells' : List Int) (cnt' : Int), 1 ≤ x ∧ x ≤ 20 ∧ 1 ≤ y ∧ y ≤ 20 ∧ cells' ≠ [] ∧ ds = [.int x, .int y] ∧ o = drw d q cells' cnt' ++ own0) (eg_lst (eag_cons (eg_add (P := fun j o => ∃ (cells' : List Int) (cnt' : Int), 0 ≤ j ∧ j < 20 ∧ cells' ≠ [] ∧ o = drw d q cells' cnt' ++ own0) ed_int (EG.imp (eg_draw (oa := []) (ob := own0) (n := q) (cells := cells2) (cnt := cnt2) (fn_law_draw T) g (by decide) hc2 (ea_cons (ev_v 1) (ea_cons ed_int ea_nil)) (by decide) (by decide)) ?_)) ?_)) ?_) ?_)
  · rintro s o ⟨r, cells', cnt', hr, hc', rfl, rfl⟩
    exact ⟨r, rfl, cells', cnt', by omega, hr, hc', rfl⟩
  · rintro s o ⟨r, rfl, cells3, cnt3, h0, h1, hc3, rfl⟩ _
    refine eag_cons (eg_add (P := fun j o => ∃ (cells' : List Int) (cnt' : Int), 0 ≤ j ∧ j < 20 ∧ cells' ≠ [] ∧ o = drw d q cells' cnt' ++ own0) ed_int (EG.imp (eg_draw (oa := []) (ob := own0) (n := q) (cells := cells3) (cnt := cnt3) (fn_law_draw T) g (by decide) hc3 (ea_cons (ev_v 1) (ea_cons ed_int ea_nil)) (by decide) (by decide)) ?_)) ?_
    · rintro s o ⟨r, cells', cnt', hr, hc', rfl, rfl⟩
      exact ⟨r, rfl, cells', cnt', by omega, hr, hc', rfl⟩
    · rintro s o ⟨r2, rfl, cells4, cnt4, h2, h3, hc4, rfl⟩ _
      exact EA.toEAG ea_nil ⟨[.int (1 + r), .int (1 + r2)], rfl, by simp, 1 + r, 1 + r2, cells4, cnt4, by omega, by omega, by omega, by omega, hc4, rfl, rfl⟩
  · rintro ds o ⟨x, y, cells', cnt', h1, h2, h3, h4, hc', rfl, rfl⟩
    exact ⟨x, y, cells', cnt', h1, h2, h3, h4, hc', rfl, rfl⟩
  rintro t o ⟨x, y, cells3, cnt3, hx1, hx2, hy1, hy2, hc3, rfl, rfl⟩
  have hXY : Yr [x, y] := ⟨by simp, by simp, fun z hz => by
    simp only [List.mem_cons, List.not_mem_nil, or_false] at hz
    rcases hz with rfl | rfl <;> omega⟩
  obtain ⟨q2, hq2e⟩ : ∃ q2, q2 = unl [x, y] 2 := ⟨_, rfl⟩
  have hq2 : Shr q2 := by rw [hq2e]; exact unl_shr hXY 2
  have hz2 : Sq 1000 q2 := by rw [hq2e]; exact (unl_sq hXY (by decide)).mono (by decide)
  obtain ⟨ow, how⟩ : ∃ ow, ow = drw d q cells3 cnt3 ++ own0 := ⟨_, rfl⟩
  rw [← how]
  refine sds_cons (sd_for g (it_list (ed_lst (ds := [fr q1, fr q2]) (ea_cons (ed_v 3) (ea_cons (ES.is (es_call (fn_all_unlike T) g (by decide) (ea_cons (ed_v 4) (ea_cons ed_int ea_nil)) ⟨[x, y], 2, rfl, rfl, hXY, by decide, rfl⟩) (by rw [hq2e])) ea_nil)))) (fun i ρ own => own = ow ∧ ∃ t5 t6 t7 t8 t9, ρ = [.raw (.ref a), .raw (.ref d), .d (.int un), .d (fr q1), .d (li [x, y]), t5, t6, t7, t8, t9, .un, .un, .un, .un, .un, .un, .un, .un]) ⟨rfl, _, _, _, _, _, rfl⟩ (fun _ _ _ _ => trivial) ?_ ?_)
  · rintro i z ρ1 own1 hzz ⟨rfl, t5, t6, t7, t8, t9, rfl⟩
    have hm := List.mem_of_getElem? hzz
    simp only [List.mem_cons, List.not_mem_nil, or_false] at hm
    rcases hm with rfl | rfl
    · exact ⟨_, _, gt_name 5 g.nd, law_a T g hq1 hz1 fun t6 t7 t8 t9 => ⟨rfl, _, _, _, _, _, rfl⟩⟩
    · exact ⟨_, _, gt_name 5 g.nd, law_a T g hq2 hz2 fun t6 t7 t8 t9 => ⟨rfl, _, _, _, _, _, rfl⟩⟩
  rintro ρ1 own1 ⟨rfl, t5, t6, t7, t8, t9, rfl⟩
  -- two days
  obtain ⟨b, m, hbm, hm1, hmb, hb20, hq2b⟩ : ∃ b m : Int, (srt [x, y]).reverse = [b, m] ∧ 1 ≤ m ∧ m ≤ b ∧ b ≤ 20 ∧ q2 = unl [b, m] 2 := by
    rw [srt2]
    by_cases h : x ≤ y
    · refine ⟨y, x, by rw [if_pos h], hx1, h, hy2, ?_⟩
      rw [hq2e, unl_pair, unl_pair, Int.mul_comm x y, Int.add_comm x y]
    · exact ⟨x, y, by rw [if_neg h], hy1, by omega, hx2, hq2e⟩
  obtain ⟨h, l, hpl, T2⟩ := two_pln hm1 hmb hb20
  rw [← hq2b] at T2
  have hBM : Yr [b, m] := ⟨by simp, by simp, fun z hz => by
    simp only [List.mem_cons, List.not_mem_nil, or_false] at hz
    rcases hz with rfl | rfl <;> omega⟩
  refine sds_cons (sd_ifF (ET.is (et_cmp (c_ne g .d .d (sh_ints [(h : Int), (l : Int)]) (sh_ints [(h : Int), (l : Int)])) (ES.is (y := li [(h : Int), (l : Int)]) (EL.ed (el_call (fn_two_days T) g (by decide) (ea_cons (ES.is (es_call (fn_all_unlike T) g (by decide) (ea_cons (ed_v 4) (ea_cons ed_int ea_nil)) ⟨[x, y], 2, rfl, rfl, hXY, by decide, rfl⟩) (by rw [← hq2e])) ea_nil) (two_ret hq2 hz2 T2))) rfl) (ES.is (y := li [(h : Int), (l : Int)]) (EL.ed (el_call (fn_plain T) g (by decide) (ea_cons (ES.is (y := li [b, m]) (EL.ed (el_rev (EL.ed (el_sorted (ns := [x, y]) (res := srt [x, y]) T.n_sorted (ed_v 4) .d (by simp) fun ns' a1 a2 => perm_srt a1 a2)) .d)) (by rw [← List.map_reverse, hbm])) ea_nil) ⟨[b, m], rfl, rfl, hBM, rfl⟩)) (by rw [hpl]))) (by rw [eqv_ints]; simp)) ?_)
  -- equal days
  rw [how]
  refine sds_cons (sd_setG 9 g.nd (eg_add (P := fun j o => ∃ (cells' : List Int) (cnt' : Int), 0 ≤ j ∧ j < 8 ∧ cells' ≠ [] ∧ o = drw d q cells' cnt' ++ own0) ed_int (EG.imp (eg_draw (oa := []) (ob := own0) (n := q) (cells := cells3) (cnt := cnt3) (fn_law_draw T) g (by decide) hc3 (ea_cons (ev_v 1) (ea_cons ed_int ea_nil)) (by decide) (by decide)) ?_)) ?_)
  · rintro s o ⟨r, cells', cnt', hr, hc', rfl, rfl⟩
    exact ⟨r, rfl, cells', cnt', by omega, hr, hc', rfl⟩
  rintro t o ⟨j2, rfl, cells4, cnt4, hj20, hj21, hc4, rfl⟩
  obtain ⟨n, hn8, hnj⟩ : ∃ n : Nat, n < 8 ∧ 1 + j2 = ((n + 1 : Nat) : Int) := ⟨j2.toNat, by omega, by omega⟩
  rw [hnj]
  have hN : Yr (List.replicate (n + 1) (3 : Int)) := ⟨by simp, by simp; omega, fun z hz => by
    have := (List.mem_replicate.mp hz).2
    omega⟩
  have hs3 := same3 n hn8
  have hrep : (List.replicate (n + 1) [PyData.int 3]).flatten = (List.replicate (n + 1) (3 : Int)).map PyData.int := by
    have : ∀ k : Nat, (List.replicate k [PyData.int 3]).flatten = (List.replicate k (3 : Int)).map PyData.int := fun k => by
      induction k with
      | zero => rfl
      | succ k ih => rw [List.replicate_succ, List.flatten_cons, ih, List.replicate_succ, List.map_cons]; rfl
    exact this _
  have hone := (one_div (n + 1) (by omega) (((1 : Int) : Rat) / (((n + 1 : Nat) : Int) : Rat))).mp rfl
  have hshr1 : Shr (((1 : Int) : Rat) / (((n + 1 : Nat) : Int) : Rat)) := by
    have hb : (0 : Rat) < (((n + 1 : Nat) : Int) : Rat) := by exact_mod_cast (show (0 : Int) < ((n + 1 : Nat) : Int) by omega)
    have hab : ((1 : Int) : Rat) ≤ (((n + 1 : Nat) : Int) : Rat) := by exact_mod_cast (show (1 : Int) ≤ ((n + 1 : Nat) : Int) by omega)
    have hi := Rat.inv_pos.mpr hb
    constructor
    · rw [Rat.div_def]
      exact Rat.mul_nonneg (by decide) (Rat.le_of_lt hi)
    · rw [Rat.div_def]
      have := Rat.mul_le_mul_of_nonneg_right hab (Rat.le_of_lt hi)
      rwa [Rat.mul_inv_cancel _ (by grind)] at this
  refine sds_cons (sd_ifF (ET.is (et_cmp c_neI (es_call (x := .int ((n + 1 : Nat) : Int)) (fn_equal_days T) g (by decide) (ea_cons (ES.is (y := fr (((1 : Int) : Rat) / (((n + 1 : Nat) : Int) : Rat))) (es_call (fn_some_same T) g (by decide) (ea_cons (ES.is (y := li (List.replicate (n + 1) 3)) (EL.ed (el_rep (ed_lst (ds := [.int 3]) (ea_cons ed_int ea_nil)) (ed_v 9) .d (by omega) (by simp))) (by rw [Int.toNat_natCast, hrep])) (ea_cons ed_int ea_nil)) ⟨List.replicate (n + 1) 3, 2, rfl, rfl, hN, by decide, rfl⟩) (by rw [hs3])) ea_nil) ⟨_, rfl, rfl, ?_⟩) (ed_v 9)) (by simp)) ?_)
  · rw [eqd_q hshr1, if_pos ⟨hone.1, by rw [hone.2]; omega⟩, hone.2]
  -- all years of a sum
  refine sds_cons (sd_asgG (P := fun x o => ∃ (i j : Nat) (cells' : List Int) (cnt' : Int), i < 4 ∧ j < 12 ∧ x = .tuple [.int ((i + 1 : Nat) : Int), .int ((j + 1 : Nat) : Int)] ∧ o = drw d q cells' cnt' ++ own0) (EG.imp (eg_tup (P := fun ds o => ∃ (i j : Nat) (cells' : List Int) (cnt' : Int), i < 4 ∧ j < 12 ∧ ds = [.int ((i + 1 : Nat) : Int), .int ((j + 1 : Nat) : Int)] ∧ o = drw d q cells' cnt' ++ own0)
    (eag_cons (eg_add (P := fun j o => ∃ (cells' : List Int) (cnt' : Int), 0 ≤ j ∧ j < 4 ∧ cells' ≠ [] ∧ o = drw d q cells' cnt' ++ own0) ed_int (EG.imp (eg_draw (oa := []) (ob := own0) (n := q) (cells := cells4) (cnt := cnt4) (fn_law_draw T) g (by decide) hc4 (ea_cons (ev_v 1) (ea_cons ed_int ea_nil)) (by decide) (by decide)) ?_)) ?_)) ?_) ?_)
  · rintro s o ⟨r, cells', cnt', hr, hc', rfl, rfl⟩
    exact ⟨r, rfl, cells', cnt', by omega, hr, hc', rfl⟩
  · rintro s o ⟨r, rfl, cells5, cnt5, h0, h1, hc5, rfl⟩ _
    refine eag_cons (eg_add (P := fun j o => ∃ (cells' : List Int) (cnt' : Int), 0 ≤ j ∧ j < 12 ∧ cells' ≠ [] ∧ o = drw d q cells' cnt' ++ own0) ed_int (EG.imp (eg_draw (oa := []) (ob := own0) (n := q) (cells := cells5) (cnt := cnt5) (fn_law_draw T) g (by decide) hc5 (ea_cons (ev_v 1) (ea_cons ed_int ea_nil)) (by decide) (by decide)) ?_)) ?_
    · rintro s o ⟨r, cells', cnt', hr, hc', rfl, rfl⟩
      exact ⟨r, rfl, cells', cnt', by omega, hr, hc', rfl⟩
    · rintro s o ⟨r2, rfl, cells6, cnt6, h2, h3, hc6, rfl⟩ _
      exact EA.toEAG ea_nil ⟨[.int (1 + r), .int (1 + r2)], rfl, by simp, r.toNat, r2.toNat, cells6, cnt6, by omega, by omega, by rw [show ((r.toNat + 1 : Nat) : Int) = 1 + r by omega, show ((r2.toNat + 1 : Nat) : Int) = 1 + r2 by omega], rfl⟩
  · rintro s o ⟨ds, rfl, i, j, cells', cnt', hi, hj, rfl, rfl⟩
    exact ⟨_, rfl, i, j, cells', cnt', hi, hj, rfl, rfl⟩
  rintro z o ⟨i, j, cells5, cnt5, hi, hj, rfl, rfl⟩
  refine ⟨_, _, gt_tup g.calm (gts_cons (gt_name 10 g.nd) (gts_cons (gt_name 11 g.nd) gts_nil)) rfl, ?_⟩
  exact SDs.imp (law_b T g hi hj) (fun _ _ h => h.elim) (fun s o h => ⟨o, by rw [h]⟩) (fun _ _ h => h) (fun _ _ h => h))
end
end Pg

namespace Pg
open PySem PySem.Spec PyProof.Rows L2 Sd
section
variable {P : Program} {w : World} {K : PySem.W.Frag} {mg : Str → Option Value} {base : Heap} {c : Cl}
theorem int_mk {h : Heap} {z : Str} {i : Int} {t : Tok} (X : K.In h) (G : h.Ns mainGlobals mg) (a : PySem.W.nsIn K mainGlobals z = some (some (.int i t))) : ∃ t, mg z = some (.int i t) := ⟨t, PySem.W.mg_of X G a⟩
theorem law_end {fa cDayError cBadYear cBadDay cBadNumber cBadShare cBadText cNotFound cCalendar : Addr} (T : Tx K mg ⟨cDayError, cBadYear, cBadDay, cBadNumber, cBadShare, cBadText, cNotFound, cCalendar⟩) (hmg : mg "law" = some (.ref fa)) : ∃ fd : FuncData, (∀ (s : Shared) (u : Value), BindsTo s fd ⟨[u], []⟩ [("script", u)]) ∧ ∀ base : Heap, K.In base → base.Ns mainGlobals mg → FnOk P w K mg base (L2.CX P w) 11 fa fd ["script"] (spG (pre_law K)) := by
  obtain ⟨f, fd, F, hm, hb⟩ := T.d_law.ex
  rw [hmg] at hm
  cases hm
  exact ⟨fd, fun s u => .of_eq (hb [u] rfl), fun base _ _ => ok_law T F⟩
end
end Pg

open PySem PySem.W PyProof.Rows
set_option maxRecDepth 100000 in
set_option maxHeartbeats 0 in
theorem PySem.Challenge.cw_samedays_k06_whole_reading_holds : PySem.Challenge.rw_samedays_k06_whole_reading.Holds := by
  w_on; o_law; k_head; (case hw => w_witness2)
  k_fill
  refine L2.walk_of (l := PySem.Challenge.rw_samedays_k06_whole_reading) (n := 63) (k := 11) (x := "script") (CX := fun w => L2.CX PySem.Challenge.rw_samedays_k06_whole_reading.prog w) (sp := fun w => Sd.spG (Sd.pre_law _)) rfl (by decide) rfl ⟨rfl, by decide, by decide⟩ (fun w h Y => PySem.W.kIn_of Y) ?F (fun _ H a ns hl hO hS => Sd.law_in hl hO hS) (fun _ _ _ _ _ h => Sd.cx_no h)
  case F =>
    intro w mg fa h KX G hmg
    refine' Pg.law_end (cCalendar := 0) ⟨Sd.err_mk KX G ?a0 ?x0 ?k0 ?b0 ?t0, Sd.err_mk KX G ?a1 ?x1 ?k1 ?b1 ?t1, Sd.err_mk KX G ?a2 ?x2 ?k2 ?b2 ?t2, Sd.err_mk KX G ?a3 ?x3 ?k3 ?b3 ?t3, Sd.err_mk KX G ?a4 ?x4 ?k4 ?b4 ?t4, Sd.err_mk KX G ?a5 ?x5 ?k5 ?b5 ?t5, Sd.err_mk KX G ?a6 ?x6 ?k6 ?b6 ?t6, Pg.int_mk KX G ?a7, Sd.df_mk2 KX G Pg.pa_is_int ?a8 ?l8 ?c8 ?k8, Sd.df_mk2 KX G Pg.pa_common ?a9 ?l9 ?c9 ?k9, Sd.df_mk2 KX G Pg.pa_is_year ?a10 ?l10 ?c10 ?k10, Sd.df_mk2 KX G Pg.pa_is_share ?a11 ?l11 ?c11 ?k11, Sd.df_mk2 KX G Pg.pa_check_year ?a12 ?l12 ?c12 ?k12, Sd.df_mk2 KX G Pg.pa_check_many ?a13 ?l13 ?c13 ?k13, Sd.df_mk2 KX G Pg.pa_check_share ?a14 ?l14 ?c14 ?k14, Sd.df_mk2 KX G Pg.pa_lowest ?a15 ?l15 ?c15 ?k15, Sd.df_mk2 KX G Pg.pa_minus ?a16 ?l16 ?c16 ?k16, Sd.df_mk2 KX G Pg.pa_power ?a17 ?l17 ?c17 ?k17, Sd.df_mk2 KX G Pg.pa_ordered ?a18 ?l18 ?c18 ?k18, Sd.df_mk2 KX G Pg.pa_product_sums ?a19 ?l19 ?c19 ?k19, Sd.df_mk2 KX G Pg.pa_root_of ?a20 ?l20 ?c20 ?k20, Sd.df_mk2 KX G Pg.pa_two_days ?a21 ?l21 ?c21 ?k21, Sd.df_mk2 KX G Pg.pa_equal_days ?a22 ?l22 ?c22 ?k22, Sd.df_mk2 KX G Pg.pa_weights_with ?a23 ?l23 ?c23 ?k23, Sd.df_mk2 KX G Pg.pa_rows_of ?a24 ?l24 ?c24 ?k24, Sd.df_mk2 KX G Pg.pa_unlike_of ?a25 ?l25 ?c25 ?k25, Sd.df_mk2 KX G Pg.pa_all_unlike ?a26 ?l26 ?c26 ?k26, Sd.df_mk2 KX G Pg.pa_some_same ?a27 ?l27 ?c27 ?k27, Sd.df_mk2 KX G Pg.pa_plain ?a28 ?l28 ?c28 ?k28, Sd.df_mk2 KX G Pg.pa_law_start ?a29 ?l29 ?c29 ?k29, Sd.df_mk2 KX G Pg.pa_law_draw ?a30 ?l30 ?c30 ?k30, Sd.df_mk2 KX G Pg.pa_law_pick ?a31 ?l31 ?c31 ?k31, Sd.df_mk2 KX G Pg.pa_law_error ?a32 ?l32 ?c32 ?k32, Sd.df_mk2 KX G Pg.pa_law_low ?a33 ?l33 ?c33 ?k33, Sd.df_mk2 KX G Pg.pa_law_call ?a34 ?l34 ?c34 ?k34, Sd.df_mk2 KX G Pg.pa_law ?a35 ?l35 ?c35 ?k35, ⟨⟨?kG0, ?kH0, ?kB0, ?kD0, ?kA0, ?kN, ?kT, ?kM0⟩, Sd.kit_ref ?kD0 ?kY0 ?kS0s0 ?kS0s0, Sd.kit_ref ?kD1 ?kY1 ?kS0s1 ?kS0s0, Sd.kit_ref ?kD2 ?kY2 ?kS0s2 ?kS0s0, Sd.kit_ref ?kD3 ?kY3 ?kS0s3 ?kS0s0, Sd.kit_ref ?kD4 ?kY4 ?kS0s4 ?kS0s0, Sd.kit_ref ?kD5 ?kY5 ?kS0s5 ?kS0s0, Sd.kit_ref ?kD6 ?kY6 ?kS0s6 ?kS0s0, Sd.kit_ve ?kV0, PySem.W.exm_ref ?kB6 ?kD6 ?kY6 ?kS0s6⟩, ⟨⟨?kG1, ?kH1, ?kB1, ?kD1, ?kA1, ?kN, ?kT, ?kM1⟩, Sd.kit_ref ?kD0 ?kY0 ?kS1s0 ?kS1s1, Sd.kit_ref ?kD1 ?kY1 ?kS1s1 ?kS1s1, Sd.kit_ref ?kD2 ?kY2 ?kS1s2 ?kS1s1, Sd.kit_ref ?kD3 ?kY3 ?kS1s3 ?kS1s1, Sd.kit_ref ?kD4 ?kY4 ?kS1s4 ?kS1s1, Sd.kit_ref ?kD5 ?kY5 ?kS1s5 ?kS1s1, Sd.kit_ref ?kD6 ?kY6 ?kS1s6 ?kS1s1, Sd.kit_ve ?kV1, PySem.W.exm_ref ?kB6 ?kD6 ?kY6 ?kS1s6⟩, ⟨⟨?kG2, ?kH2, ?kB2, ?kD2, ?kA2, ?kN, ?kT, ?kM2⟩, Sd.kit_ref ?kD0 ?kY0 ?kS2s0 ?kS2s2, Sd.kit_ref ?kD1 ?kY1 ?kS2s1 ?kS2s2, Sd.kit_ref ?kD2 ?kY2 ?kS2s2 ?kS2s2, Sd.kit_ref ?kD3 ?kY3 ?kS2s3 ?kS2s2, Sd.kit_ref ?kD4 ?kY4 ?kS2s4 ?kS2s2, Sd.kit_ref ?kD5 ?kY5 ?kS2s5 ?kS2s2, Sd.kit_ref ?kD6 ?kY6 ?kS2s6 ?kS2s2, Sd.kit_ve ?kV2, PySem.W.exm_ref ?kB6 ?kD6 ?kY6 ?kS2s6⟩, ⟨⟨?kG3, ?kH3, ?kB3, ?kD3, ?kA3, ?kN, ?kT, ?kM3⟩, Sd.kit_ref ?kD0 ?kY0 ?kS3s0 ?kS3s3, Sd.kit_ref ?kD1 ?kY1 ?kS3s1 ?kS3s3, Sd.kit_ref ?kD2 ?kY2 ?kS3s2 ?kS3s3, Sd.kit_ref ?kD3 ?kY3 ?kS3s3 ?kS3s3, Sd.kit_ref ?kD4 ?kY4 ?kS3s4 ?kS3s3, Sd.kit_ref ?kD5 ?kY5 ?kS3s5 ?kS3s3, Sd.kit_ref ?kD6 ?kY6 ?kS3s6 ?kS3s3, Sd.kit_ve ?kV3, PySem.W.exm_ref ?kB6 ?kD6 ?kY6 ?kS3s6⟩, ⟨⟨?kG4, ?kH4, ?kB4, ?kD4, ?kA4, ?kN, ?kT, ?kM4⟩, Sd.kit_ref ?kD0 ?kY0 ?kS4s0 ?kS4s4, Sd.kit_ref ?kD1 ?kY1 ?kS4s1 ?kS4s4, Sd.kit_ref ?kD2 ?kY2 ?kS4s2 ?kS4s4, Sd.kit_ref ?kD3 ?kY3 ?kS4s3 ?kS4s4, Sd.kit_ref ?kD4 ?kY4 ?kS4s4 ?kS4s4, Sd.kit_ref ?kD5 ?kY5 ?kS4s5 ?kS4s4, Sd.kit_ref ?kD6 ?kY6 ?kS4s6 ?kS4s4, Sd.kit_ve ?kV4, PySem.W.exm_ref ?kB6 ?kD6 ?kY6 ?kS4s6⟩, ⟨⟨?kG5, ?kH5, ?kB5, ?kD5, ?kA5, ?kN, ?kT, ?kM5⟩, Sd.kit_ref ?kD0 ?kY0 ?kS5s0 ?kS5s5, Sd.kit_ref ?kD1 ?kY1 ?kS5s1 ?kS5s5, Sd.kit_ref ?kD2 ?kY2 ?kS5s2 ?kS5s5, Sd.kit_ref ?kD3 ?kY3 ?kS5s3 ?kS5s5, Sd.kit_ref ?kD4 ?kY4 ?kS5s4 ?kS5s5, Sd.kit_ref ?kD5 ?kY5 ?kS5s5 ?kS5s5, Sd.kit_ref ?kD6 ?kY6 ?kS5s6 ?kS5s5, Sd.kit_ve ?kV5, PySem.W.exm_ref ?kB6 ?kD6 ?kY6 ?kS5s6⟩, PySem.W.mg_none_of KX G ?z36, PySem.W.mg_none_of KX G ?z37, PySem.W.mg_none_of KX G ?z38, PySem.W.mg_none_of KX G ?z39, PySem.W.mg_none_of KX G ?z40, PySem.W.mg_none_of KX G ?z41, PySem.W.mg_none_of KX G ?z42, PySem.W.mg_none_of KX G ?z43, PySem.W.mg_none_of KX G ?z44, PySem.W.mg_none_of KX G ?z45, PySem.W.mg_none_of KX G ?z46, PySem.W.mg_none_of KX G ?z47, PySem.W.mg_none_of KX G ?z48, PySem.W.mg_none_of KX G ?z49⟩ hmg
    (case a0 => k_is)
    (case a1 => k_is)
    (case a2 => k_is)
    (case a3 => k_is)
    (case a4 => k_is)
    (case a5 => k_is)
    (case a6 => k_is)
    (case a7 => k_is)
    (case a8 => k_is)
    (case a9 => k_is)
    (case a10 => k_is)
    (case a11 => k_is)
    (case a12 => k_is)
    (case a13 => k_is)
    (case a14 => k_is)
    (case a15 => k_is)
    (case a16 => k_is)
    (case a17 => k_is)
    (case a18 => k_is)
    (case a19 => k_is)
    (case a20 => k_is)
    (case a21 => k_is)
    (case a22 => k_is)
    (case a23 => k_is)
    (case a24 => k_is)
    (case a25 => k_is)
    (case a26 => k_is)
    (case a27 => k_is)
    (case a28 => k_is)
    (case a29 => k_is)
    (case a30 => k_is)
    (case a31 => k_is)
    (case a32 => k_is)
    (case a33 => k_is)
    (case a34 => k_is)
    (case a35 => k_is)
    (case x0 => k_exc)
    (case k0 => k_is)
    (case b0 => k_is)
    (case t0 => k_is)
    (case x1 => k_exc)
    (case k1 => k_is)
    (case b1 => k_is)
    (case t1 => k_is)
    (case x2 => k_exc)
    (case k2 => k_is)
    (case b2 => k_is)
    (case t2 => k_is)
    (case x3 => k_exc)
    (case k3 => k_is)
    (case b3 => k_is)
    (case t3 => k_is)
    (case x4 => k_exc)
    (case k4 => k_is)
    (case b4 => k_is)
    (case t4 => k_is)
    (case x5 => k_exc)
    (case k5 => k_is)
    (case b5 => k_is)
    (case t5 => k_is)
    (case x6 => k_exc)
    (case k6 => k_is)
    (case b6 => k_is)
    (case t6 => k_is)
    (case l8 => k_is)
    (case c8 => k_is)
    (case k8 => k_is)
    (case l9 => k_is)
    (case c9 => k_is)
    (case k9 => k_is)
    (case l10 => k_is)
    (case c10 => k_is)
    (case k10 => k_is)
    (case l11 => k_is)
    (case c11 => k_is)
    (case k11 => k_is)
    (case l12 => k_is)
    (case c12 => k_is)
    (case k12 => k_is)
    (case l13 => k_is)
    (case c13 => k_is)
    (case k13 => k_is)
    (case l14 => k_is)
    (case c14 => k_is)
    (case k14 => k_is)
    (case l15 => k_is)
    (case c15 => k_is)
    (case k15 => k_is)
    (case l16 => k_is)
    (case c16 => k_is)
    (case k16 => k_is)
    (case l17 => k_is)
    (case c17 => k_is)
    (case k17 => k_is)
    (case l18 => k_is)
    (case c18 => k_is)
    (case k18 => k_is)
    (case l19 => k_is)
    (case c19 => k_is)
    (case k19 => k_is)
    (case l20 => k_is)
    (case c20 => k_is)
    (case k20 => k_is)
    (case l21 => k_is)
    (case c21 => k_is)
    (case k21 => k_is)
    (case l22 => k_is)
    (case c22 => k_is)
    (case k22 => k_is)
    (case l23 => k_is)
    (case c23 => k_is)
    (case k23 => k_is)
    (case l24 => k_is)
    (case c24 => k_is)
    (case k24 => k_is)
    (case l25 => k_is)
    (case c25 => k_is)
    (case k25 => k_is)
    (case l26 => k_is)
    (case c26 => k_is)
    (case k26 => k_is)
    (case l27 => k_is)
    (case c27 => k_is)
    (case k27 => k_is)
    (case l28 => k_is)
    (case c28 => k_is)
    (case k28 => k_is)
    (case l29 => k_is)
    (case c29 => k_is)
    (case k29 => k_is)
    (case l30 => k_is)
    (case c30 => k_is)
    (case k30 => k_is)
    (case l31 => k_is)
    (case c31 => k_is)
    (case k31 => k_is)
    (case l32 => k_is)
    (case c32 => k_is)
    (case k32 => k_is)
    (case l33 => k_is)
    (case c33 => k_is)
    (case k33 => k_is)
    (case l34 => k_is)
    (case c34 => k_is)
    (case k34 => k_is)
    (case l35 => k_is)
    (case c35 => k_is)
    (case k35 => k_is)
    (case kG0 => k_is)
    (case kH0 => k_is)
    (case kA0 => k_is)
    (case kM0 => k_is)
    (case kV0 => k_is)
    (case kS0s0 => k_is)
    (case kS0s1 => k_is)
    (case kS0s2 => k_is)
    (case kS0s3 => k_is)
    (case kS0s4 => k_is)
    (case kS0s5 => k_is)
    (case kS0s6 => k_is)
    (case kG1 => k_is)
    (case kH1 => k_is)
    (case kA1 => k_is)
    (case kM1 => k_is)
    (case kV1 => k_is)
    (case kS1s0 => k_is)
    (case kS1s1 => k_is)
    (case kS1s2 => k_is)
    (case kS1s3 => k_is)
    (case kS1s4 => k_is)
    (case kS1s5 => k_is)
    (case kS1s6 => k_is)
    (case kG2 => k_is)
    (case kH2 => k_is)
    (case kA2 => k_is)
    (case kM2 => k_is)
    (case kV2 => k_is)
    (case kS2s0 => k_is)
    (case kS2s1 => k_is)
    (case kS2s2 => k_is)
    (case kS2s3 => k_is)
    (case kS2s4 => k_is)
    (case kS2s5 => k_is)
    (case kS2s6 => k_is)
    (case kG3 => k_is)
    (case kH3 => k_is)
    (case kA3 => k_is)
    (case kM3 => k_is)
    (case kV3 => k_is)
    (case kS3s0 => k_is)
    (case kS3s1 => k_is)
    (case kS3s2 => k_is)
    (case kS3s3 => k_is)
    (case kS3s4 => k_is)
    (case kS3s5 => k_is)
    (case kS3s6 => k_is)
    (case kG4 => k_is)
    (case kH4 => k_is)
    (case kA4 => k_is)
    (case kM4 => k_is)
    (case kV4 => k_is)
    (case kS4s0 => k_is)
    (case kS4s1 => k_is)
    (case kS4s2 => k_is)
    (case kS4s3 => k_is)
    (case kS4s4 => k_is)
    (case kS4s5 => k_is)
    (case kS4s6 => k_is)
    (case kG5 => k_is)
    (case kH5 => k_is)
    (case kA5 => k_is)
    (case kM5 => k_is)
    (case kV5 => k_is)
    (case kS5s0 => k_is)
    (case kS5s1 => k_is)
    (case kS5s2 => k_is)
    (case kS5s3 => k_is)
    (case kS5s4 => k_is)
    (case kS5s5 => k_is)
    (case kS5s6 => k_is)
    (case kN => k_is)
    (case kT => k_is)
    (case kB0 => k_is)
    (case kB1 => k_is)
    (case kB2 => k_is)
    (case kB3 => k_is)
    (case kB4 => k_is)
    (case kB5 => k_is)
    (case kB6 => k_is)
    (case kD0 => k_is)
    (case kD1 => k_is)
    (case kD2 => k_is)
    (case kD3 => k_is)
    (case kD4 => k_is)
    (case kD5 => k_is)
    (case kD6 => k_is)
    (case kY0 => k_is)
    (case kY1 => k_is)
    (case kY2 => k_is)
    (case kY3 => k_is)
    (case kY4 => k_is)
    (case kY5 => k_is)
    (case kY6 => k_is)
    (case z36 => k_is)
    (case z37 => k_is)
    (case z38 => k_is)
    (case z39 => k_is)
    (case z40 => k_is)
    (case z41 => k_is)
    (case z42 => k_is)
    (case z43 => k_is)
    (case z44 => k_is)
    (case z45 => k_is)
    (case z46 => k_is)
    (case z47 => k_is)
    (case z48 => k_is)
    (case z49 => k_is)
