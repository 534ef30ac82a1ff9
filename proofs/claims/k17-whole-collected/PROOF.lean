import PyProof.Rows.All
import Wide.All
import OpenK.AllK
import Wide.FinOn
import HandS.Base
import HandS.Call
import HandS.List
import HandS.Comp
import HandS.Ends
import HandS.Dict
import HandS.Iter
import HandS.Text
import HandS.Exc
import HandS.TryOnly
import HandS.ExcOwn
import HandS.ExcValue
import HandS.IsInst
import HandS.Wide
import HandS.Words
import HandS.WordsList
import HandS.WordsDict
import HandS.WordsExc
import HandS.Style
import HandS.Deep
import HandS.ExcIs
import KE.DataFind
import HandS.Strs
import HandS.More
import HandS.SortRule
import HandS.Conv
import HandS.DictTup
import KE.KDictDisplayH
import HandS.TupSets
import HandS.SortOrd
import PySem.Challenge.RW_samedays_k17_whole_collected
set_option Elab.async false
set_option linter.all false
set_option maxRecDepth 100000
set_option maxHeartbeats 16000000
/-! data over the layer: what a value stands for, what is owned, judgements over data -/
namespace Sd
open PySem PySem.Spec PyProof.Rows L2

mutual
inductive Rep (H : Hp) : V → PyData → Prop
  | non : Rep H .non .none
  | bl (b : Bool) : Rep H (.bl b) (.bool b)
  | int (i : Int) : Rep H (.int i) (.int i)
  | str (x : Str) : Rep H (.str x) (.str x)
  | lst {a : Addr} {xs : List V} {ds : List PyData} : H a = some (.lst xs) → Reps H xs ds → Rep H (.ref a) (.list ds)
  | tup {a : Addr} {xs : List V} {ds : List PyData} : H a = some (.tup xs) → Reps H xs ds → Rep H (.ref a) (.tuple ds)
inductive Reps (H : Hp) : List V → List PyData → Prop
  | nil : Reps H [] []
  | cons {v : V} {vs : List V} {d : PyData} {ds : List PyData} : Rep H v d → Reps H vs ds → Reps H (v :: vs) (d :: ds)
end
section
variable {H H' : Hp} {K : PySem.W.Frag}
theorem Rep.mono (e : Same H H') {v : V} {d : PyData} (h : Rep H v d) : Rep H' v d :=
  Rep.rec (motive_1 := fun v d _ => Rep H' v d) (motive_2 := fun vs ds _ => Reps H' vs ds) .non .bl .int .str (fun h _ r => .lst (e _ _ h) r) (fun h _ r => .tup (e _ _ h) r) .nil (fun _ _ a b => .cons a b) h
theorem Reps.mono (e : Same H H') {v : List V} {d : List PyData} (h : Reps H v d) : Reps H' v d :=
  Reps.rec (motive_1 := fun v d _ => Rep H' v d) (motive_2 := fun vs ds _ => Reps H' vs ds) .non .bl .int .str (fun h _ r => .lst (e _ _ h) r) (fun h _ r => .tup (e _ _ h) r) .nil (fun _ _ a b => .cons a b) h
theorem Rep.dp {v : V} {d : PyData} (h : Rep H v d) : Dp K H v d :=
  Rep.rec (motive_1 := fun v d _ => Dp K H v d) (motive_2 := fun vs ds _ => DpAll K H vs ds) .non .bl .int .str (fun h _ r => .lst (SqL.of h) r) (fun h _ r => .tup (SqT.of h) r) .nil (fun _ _ a b => .cons a b) h
theorem Reps.length : ∀ {vs : List V} {ds : List PyData}, Reps H vs ds → vs.length = ds.length
  | _, _, .nil => rfl
  | _, _, .cons _ r => congrArg (· + 1) r.length
theorem Reps.get : ∀ {vs : List V} {ds : List PyData} {i : Nat} {d : PyData}, Reps H vs ds → ds[i]? = some d → ∃ v, vs[i]? = some v ∧ Rep H v d
  | _, _, _, _, .nil, e => by simp at e
  | _, _, 0, _, .cons a _, e => by simp at e; subst e; exact ⟨_, rfl, a⟩
  | _, _, i + 1, d, .cons _ r, e => by
    obtain ⟨v, h1, h2⟩ := Reps.get (i := i) (d := d) r (by simpa using e)
    exact ⟨v, by simpa using h1, h2⟩
theorem Reps.append : ∀ {xs ys : List V} {us ws : List PyData}, Reps H xs us → Reps H ys ws → Reps H (xs ++ ys) (us ++ ws)
  | _, _, _, _, .nil, s => s
  | _, _, _, _, .cons r t, s => .cons r (Reps.append t s)
theorem Reps.take : ∀ {xs : List V} {us : List PyData} (n : Nat), Reps H xs us → Reps H (xs.take n) (us.take n)
  | _, _, 0, _ => .nil
  | _, _, _ + 1, .nil => .nil
  | _, _, n + 1, .cons r t => .cons r (Reps.take n t)
theorem Reps.drop : ∀ {xs : List V} {us : List PyData} (n : Nat), Reps H xs us → Reps H (xs.drop n) (us.drop n)
  | _, _, 0, r => r
  | _, _, _ + 1, .nil => .nil
  | _, _, n + 1, .cons _ t => Reps.drop n t
theorem Reps.set {x : V} {u : PyData} (r : Rep H x u) : ∀ {xs : List V} {us : List PyData} (i : Nat), Reps H xs us → Reps H (xs.set i x) (us.set i u)
  | _, _, _, .nil => .nil
  | _, _, 0, .cons _ t => .cons r t
  | _, _, i + 1, .cons q t => .cons q (Reps.set r i t)
theorem Reps.reverse : ∀ {xs : List V} {us : List PyData}, Reps H xs us → Reps H xs.reverse us.reverse
  | _, _, .nil => .nil
  | _, _, .cons r t => by
    rw [List.reverse_cons, List.reverse_cons]
    exact t.reverse.append (.cons r .nil)
theorem Reps.ints : ∀ (ns : List Int), Reps H (ns.map V.int) (ns.map PyData.int)
  | [] => .nil
  | n :: r => .cons (.int n) (Reps.ints r)
theorem Reps.of_ints : ∀ {ns : List Int} {vs : List V}, Reps H vs (ns.map PyData.int) → vs = ns.map V.int
  | [], _, .nil => rfl
  | n :: r, _, .cons h t => by
    cases h
    rw [Reps.of_ints t]
    rfl
theorem Reps.of_bls : ∀ {ns : List Bool} {vs : List V}, Reps H vs (ns.map PyData.bool) → vs = ns.map V.bl
  | [], _, .nil => rfl
  | n :: r, _, .cons h t => by
    cases h
    rw [Reps.of_bls t]
    rfl
end

/-! ### weakest readings -/
section
variable {X : Cx}
structure wE (X : Cx) (e : Expr) (σ : L2.St) (H : Hp) (Q : VK) : Prop where
  run : ∀ (pins : List (Addr × Obj)) (s : Shared), Inv X pins σ H s → wpAny (model X.prog X.w) X.A (eval e X.env) (EP X pins σ Q) X.xe s
structure wT (X : Cx) (e : Expr) (σ : L2.St) (H : Hp) (Q : Bool → Hp → Prop) : Prop where
  run : ∀ (pins : List (Addr × Obj)) (s : Shared), Inv X pins σ H s → wpAny (model X.prog X.w) X.A (isTrue e X.env (eval e X.env)) (TP X pins σ Q) X.xe s
structure wW (X : Cx) (e : Expr) (σ : L2.St) (H : Hp) (Q : Bool → Hp → Prop) : Prop where
  run : ∀ (whole : Sem Value) (pins : List (Addr × Obj)) (s : Shared), Inv X pins σ H s → wpAny (model X.prog X.w) X.A (isTrue e X.env whole) (TP X pins σ Q) X.xe s
structure wA (X : Cx) (es : List Expr) (σ : L2.St) (H : Hp) (Q : List V → Hp → Prop) : Prop where
  run : ∀ (pos : Pos) (pins : List (Addr × Obj)) (s : Shared), Inv X pins σ H s → wpAny (model X.prog X.w) X.A (spliced (backTo pos (starEach es X.env))) (AP X pins σ Q) X.xe s
structure wS (X : Cx) (st : Stmt) (D : Ends) (σ : L2.St) (H : Hp) : Prop where
  run : ∀ (pins : List (Addr × Obj)) (s : Shared), Inv X pins σ H s → wpAny (model X.prog X.w) X.A (exec st X.env) (SP X pins D) X.xe s
structure wSs (X : Cx) (st : List Stmt) (D : Ends) (σ : L2.St) (H : Hp) : Prop where
  run : ∀ (pins : List (Addr × Obj)) (s : Shared), Inv X pins σ H s → wpAny (model X.prog X.w) X.A (execs st X.env) (SP X pins D) X.xe s
theorem peW {e : Expr} : PE X e (wE X e) := ⟨fun pins s _ _ _ I h => h.run pins s I⟩
theorem ptW {e : Expr} : PT X e (wT X e) := ⟨fun pins s _ _ _ I h => h.run pins s I⟩
theorem pwW {e : Expr} : PW X e (wW X e) := ⟨fun wh pins s _ _ _ I h => h.run wh pins s I⟩
theorem paW {es : List Expr} : PA X es (wA X es) := ⟨fun pos pins s _ _ _ I h => h.run pos pins s I⟩
theorem psW {st : Stmt} : PS X st (wS X st) := ⟨fun pins s _ _ _ I h => h.run pins s I⟩
theorem pssW {st : List Stmt} : PSs X st (wSs X st) := ⟨fun pins s _ _ _ I h => h.run pins s I⟩
theorem wE.of {e : Expr} {t : TE} (h : PE X e t) {σ : L2.St} {H : Hp} {Q : VK} (q : t σ H Q) : wE X e σ H Q := ⟨fun pins s I => h.run pins s σ H Q I q⟩
theorem wT.of {e : Expr} {t : TT} (h : PT X e t) {σ : L2.St} {H : Hp} {Q : Bool → Hp → Prop} (q : t σ H Q) : wT X e σ H Q := ⟨fun pins s I => h.run pins s σ H Q I q⟩
theorem wW.of {e : Expr} {t : TT} (h : PW X e t) {σ : L2.St} {H : Hp} {Q : Bool → Hp → Prop} (q : t σ H Q) : wW X e σ H Q := ⟨fun wh pins s I => h.run wh pins s σ H Q I q⟩
theorem wA.of {es : List Expr} {t : TA} (h : PA X es t) {σ : L2.St} {H : Hp} {Q : List V → Hp → Prop} (q : t σ H Q) : wA X es σ H Q := ⟨fun pos pins s I => h.run pos pins s σ H Q I q⟩
theorem wS.of {st : Stmt} {t : TS} (h : PS X st t) {σ : L2.St} {H : Hp} {D : Ends} (q : t D σ H) : wS X st D σ H := ⟨fun pins s I => h.run pins s σ H D I q⟩
theorem wSs.of {st : List Stmt} {t : TS} (h : PSs X st t) {σ : L2.St} {H : Hp} {D : Ends} (q : t D σ H) : wSs X st D σ H := ⟨fun pins s I => h.run pins s σ H D I q⟩
end

/-! ### what is known of the heap -/
inductive Slot where
  | un
  | d (x : PyData)
  | raw (v : V)
inductive OO where
  | lst (ds : List PyData)
  | raw (o : HO)
  | dt (tb : List (List Int × PyData))
  | dl (od : Obj) (kvs : List (List Key × V)) (tb : List (List Int × PyData))
  | dk (tb : List (Int × PyData))
abbrev Own := List (Addr × OO)
structure Bs where
  Hf : Hp
  HB : Hp
/-- a dict with tuples of ints as keys, as data -/
structure DtOk (Hf : Hp) (kvs : List (List Key × V)) (tb : List (List Int × PyData)) : Prop where
  ks : kvs.map (·.1) = tb.map fun e => e.1.map Sum.inl
  vs : Reps Hf (kvs.map (·.2)) (tb.map (·.2))
structure DkOk (Hf : Hp) (kvs : List (Key × V)) (tb : List (Int × PyData)) : Prop where
  ks : kvs.map (·.1) = tb.map fun e => Sum.inl e.1
  vs : Reps Hf (kvs.map (·.2)) (tb.map (·.2))
def OwnOk (Hf H : Hp) (p : Addr) : OO → Prop
  | .lst ds => ∃ vs, H p = some (.lst vs) ∧ Reps Hf vs ds
  | .raw o => H p = some o
  | .dt tb => ∃ kvs, H p = some (.dT kvs) ∧ DtOk Hf kvs tb
  | .dl od kvs tb => H p = some (.frz od (.dT kvs)) ∧ DtOk Hf kvs tb
  | .dk tb => ∃ kvs, H p = some (.dK kvs) ∧ DkOk Hf kvs tb
theorem OwnOk.mono {Hf Hf' H H' : Hp} {p : Addr} {o : OO} (e : Same Hf Hf') (h : ∀ u, H p = some u → H' p = some u) (x : OwnOk Hf H p o) : OwnOk Hf' H' p o := by
  cases o with
  | lst ds => obtain ⟨vs, h1, h2⟩ := x; exact ⟨vs, h _ h1, h2.mono e⟩
  | raw o => exact h _ x
  | dt tb => obtain ⟨vs, h1, h2⟩ := x; exact ⟨vs, h _ h1, h2.ks, h2.vs.mono e⟩
  | dl od kvs tb => obtain ⟨h1, h2⟩ := x; exact ⟨h _ h1, h2.ks, h2.vs.mono e⟩
  | dk tb => obtain ⟨vs, h1, h2⟩ := x; exact ⟨vs, h _ h1, h2.ks, h2.vs.mono e⟩
theorem OwnOk.there {Hf H : Hp} {p : Addr} {o : OO} (x : OwnOk Hf H p o) : ∃ u, H p = some u := by
  cases o with
  | lst ds => obtain ⟨vs, h1, h2⟩ := x; exact ⟨_, h1⟩
  | raw o => exact ⟨_, x⟩
  | dt tb => obtain ⟨vs, h1, h2⟩ := x; exact ⟨_, h1⟩
  | dl od kvs tb => obtain ⟨h1, h2⟩ := x; exact ⟨_, h1⟩
  | dk tb => obtain ⟨vs, h1, h2⟩ := x; exact ⟨_, h1⟩
structure Sat (B : Bs) (Hf H : Hp) (own : Own) : Prop where
  e0 : Same B.Hf Hf
  e1 : Same Hf H
  eb : Same B.HB H
  fr : ∀ p o, Hf p = some o → B.Hf p = none → B.HB p = none
  ow : ∀ q ∈ own, Hf q.1 = none ∧ B.HB q.1 = none ∧ OwnOk Hf H q.1 q.2
  nd : (own.map Prod.fst).Nodup
  tp : ∀ p xs, H p = some (.tup xs) → Hf p = some (.tup xs)
theorem same_upd {H H' : Hp} {p : Addr} {o : HO} (e : Same H H') (h : H p = none) : Same H (upd H' p o) := fun b x q => by
  rw [upd_ne (ne_of_none q h)]
  exact e b x q
theorem same_upd2 {H H' : Hp} {p : Addr} {o : HO} (e : Same H H') : Same (upd H p o) (upd H' p o) := fun b x q => by
  by_cases hb : b = p
  · subst hb; rw [upd_same] at q ⊢; exact q
  · rw [upd_ne hb] at q ⊢; exact e b x q
section
variable {B : Bs} {Hf H : Hp} {own : Own} {p : Addr}
theorem Sat.none_f (S : Sat B Hf H own) (n : H p = none) : Hf p = none := S.e1.free n
theorem Sat.none_b (S : Sat B Hf H own) (n : H p = none) : B.HB p = none := S.eb.free n
theorem Sat.none_0 (S : Sat B Hf H own) (n : H p = none) : B.Hf p = none := S.e0.free (S.e1.free n)
theorem Sat.ne (S : Sat B Hf H own) (n : H p = none) {q : Addr × OO} (hq : q ∈ own) : q.1 ≠ p := by
  obtain ⟨_, _, c⟩ := S.ow q hq
  obtain ⟨u, hu⟩ := c.there
  exact ne_of_none hu n
/-- a new thing that will not change -/
theorem Sat.new (S : Sat B Hf H own) (n : H p = none) (o : HO) : Sat B (upd Hf p o) (upd H p o) own where
  e0 := same_upd S.e0 (S.none_0 n)
  e1 := same_upd2 S.e1
  eb := same_upd S.eb (S.none_b n)
  fr := fun q u h hb => by
    by_cases e : q = p
    · rw [e]; exact S.none_b n
    · rw [upd_ne e] at h; exact S.fr q u h hb
  ow := fun q hq => by
    obtain ⟨a, b, c⟩ := S.ow q hq
    have ne := S.ne n hq
    exact ⟨by rw [upd_ne ne]; exact a, b, c.mono (same_upd (Same.refl _) (S.none_f n)) fun u hu => by rw [upd_ne ne]; exact hu⟩
  nd := S.nd
  tp := fun q xs h => by
    by_cases e : q = p
    · subst e; rw [upd_same] at h ⊢; exact h
    · rw [upd_ne e] at h ⊢; exact S.tp q xs h
theorem Sat.new_same (S : Sat B Hf H own) (n : H p = none) (o : HO) : Same Hf (upd Hf p o) := same_upd (Same.refl _) (S.none_f n)
/-- a new thing of one's own -/
theorem Sat.newOwn (S : Sat B Hf H own) (n : H p = none) {o : HO} {oo : OO} (ok : OwnOk Hf (upd H p o) p oo) (nt : ∀ xs, o ≠ .tup xs := by intro _ z; cases z) : Sat B Hf (upd H p o) ((p, oo) :: own) where
  e0 := S.e0
  e1 := same_upd S.e1 (S.none_f n)
  eb := same_upd S.eb (S.none_b n)
  fr := S.fr
  ow := fun q hq => by
    rcases List.mem_cons.mp hq with rfl | hq
    · exact ⟨S.none_f n, S.none_b n, ok⟩
    · obtain ⟨a, b, c⟩ := S.ow q hq
      have ne := S.ne n hq
      exact ⟨a, b, c.mono (Same.refl _) fun u hu => by rw [upd_ne ne]; exact hu⟩
  nd := by
    rw [List.map_cons, List.nodup_cons]
    refine ⟨fun hm => ?_, S.nd⟩
    obtain ⟨q, hq, e⟩ := List.mem_map.mp hm
    exact S.ne n hq e
  tp := fun q xs h => by
    by_cases e : q = p
    · subst e; rw [upd_same] at h; exact absurd (Option.some.inj h) (nt xs)
    · rw [upd_ne e] at h; exact S.tp q xs h
theorem Sat.at (S : Sat B Hf H own) {oo : OO} (h : (p, oo) ∈ own) : Hf p = none ∧ B.HB p = none ∧ OwnOk Hf H p oo := S.ow _ h
/-- a thing of one's own changes -/
theorem Sat.write {oa ob : Own} {oo oo' : OO} {o : HO} (S : Sat B Hf H (oa ++ (p, oo) :: ob)) (ok : OwnOk Hf (upd H p o) p oo') (nt : ∀ xs, o ≠ .tup xs := by intro _ z; cases z) : Sat B Hf (upd H p o) (oa ++ (p, oo') :: ob) := by
  obtain ⟨a, b, _⟩ := S.at (p := p) (oo := oo) (by simp)
  have nd := S.nd
  rw [List.map_append, List.map_cons] at nd
  refine ⟨S.e0, same_upd S.e1 a, same_upd S.eb b, S.fr, fun q hq => ?_, by rw [List.map_append, List.map_cons]; exact nd, fun q xs h => ?_⟩
  rotate_left
  · by_cases e : q = p
    · subst e; rw [upd_same] at h; exact absurd (Option.some.inj h) (nt xs)
    · rw [upd_ne e] at h; exact S.tp q xs h
  have key : q ∈ oa ∨ q ∈ ob → Hf q.1 = none ∧ B.HB q.1 = none ∧ OwnOk Hf (upd H p o) q.1 q.2 := fun hq => by
    have hm : q ∈ oa ++ (p, oo) :: ob := by
      rcases hq with h | h
      · exact List.mem_append_left _ h
      · exact List.mem_append_right _ (List.mem_cons_of_mem _ h)
    obtain ⟨a', b', c'⟩ := S.ow q hm
    have ne : q.1 ≠ p := fun e => by
      rcases hq with h | h
      · exact (List.nodup_append.mp nd).2.2 q.1 (List.mem_map.mpr ⟨q, h, rfl⟩) p (List.mem_cons_self) e
      · have := (List.nodup_cons.mp (List.nodup_append.mp nd).2.1).1
        exact this (List.mem_map.mpr ⟨q, h, e⟩)
    exact ⟨a', b', c'.mono (Same.refl _) fun u hu => by rw [upd_ne ne]; exact hu⟩
  rcases List.mem_append.mp hq with h | h
  · exact key (.inl h)
  · rcases List.mem_cons.mp h with rfl | h
    · exact ⟨a, b, ok⟩
    · exact key (.inr h)
/-- a list of one's own will not change any more -/
theorem Sat.freeze {oa ob : Own} {ds : List PyData} (S : Sat B Hf H (oa ++ (p, .lst ds) :: ob)) : ∃ Hf', Same Hf Hf' ∧ Sat B Hf' H (oa ++ ob) ∧ Rep Hf' (.ref p) (.list ds) := by
  obtain ⟨a, b, vs, hp, hr⟩ := S.at (p := p) (oo := .lst ds) (by simp)
  have nd := S.nd
  rw [List.map_append, List.map_cons] at nd
  have sm : Same Hf (upd Hf p (.lst vs)) := same_upd (Same.refl _) a
  refine ⟨upd Hf p (.lst vs), sm, ⟨S.e0.trans sm, fun q u h => ?_, S.eb, fun q u h hb => ?_, fun q hq => ?_, ?_, fun q xs h => sm _ _ (S.tp q xs h)⟩, .lst upd_same (hr.mono sm)⟩
  · by_cases e : q = p
    · subst e; rw [upd_same] at h; rw [hp]; exact h
    · rw [upd_ne e] at h; exact S.e1 q u h
  · by_cases e : q = p
    · subst e; exact b
    · rw [upd_ne e] at h; exact S.fr q u h hb
  · have hm : q ∈ oa ++ (p, .lst ds) :: ob := by
      rcases List.mem_append.mp hq with h | h
      · exact List.mem_append_left _ h
      · exact List.mem_append_right _ (List.mem_cons_of_mem _ h)
    obtain ⟨a', b', c'⟩ := S.ow q hm
    have ne : q.1 ≠ p := fun e => by
      rcases List.mem_append.mp hq with h | h
      · exact (List.nodup_append.mp nd).2.2 q.1 (List.mem_map.mpr ⟨q, h, rfl⟩) p (List.mem_cons_self) e
      · have := (List.nodup_cons.mp (List.nodup_append.mp nd).2.1).1
        exact this (List.mem_map.mpr ⟨q, h, e⟩)
    exact ⟨by rw [upd_ne ne]; exact a', b', c'.mono sm fun u hu => hu⟩
  · rw [List.map_append]
    refine List.nodup_append.mpr ⟨(List.nodup_append.mp nd).1, (List.nodup_cons.mp (List.nodup_append.mp nd).2.1).2, fun x hx y hy => (List.nodup_append.mp nd).2.2 x hx y (List.mem_cons_of_mem _ hy)⟩
/-- forget a thing of one's own -/
theorem Sat.drop {oa ob : Own} {oo : OO} (S : Sat B Hf H (oa ++ (p, oo) :: ob)) : Sat B Hf H (oa ++ ob) := by
  have nd := S.nd
  rw [List.map_append, List.map_cons] at nd
  refine ⟨S.e0, S.e1, S.eb, S.fr, fun q hq => S.ow q ?_, ?_, S.tp⟩
  · rcases List.mem_append.mp hq with h | h
    · exact List.mem_append_left _ h
    · exact List.mem_append_right _ (List.mem_cons_of_mem _ h)
  · rw [List.map_append]
    refine List.nodup_append.mpr ⟨(List.nodup_append.mp nd).1, (List.nodup_cons.mp (List.nodup_append.mp nd).2.1).2, fun x hx y hy => (List.nodup_append.mp nd).2.2 x hx y (List.mem_cons_of_mem _ hy)⟩
end

/-! ### slots -/
def SlotR (Hf : Hp) (v : V) : Slot → Prop
  | .un => True
  | .d x => Rep Hf v x
  | .raw w => v = w
theorem SlotR.mono {Hf Hf' : Hp} (e : Same Hf Hf') {v : V} {s : Slot} (h : SlotR Hf v s) : SlotR Hf' v s := by
  cases s with
  | un => trivial
  | d x => exact Rep.mono e h
  | raw w => exact h
structure EnvR (Hf : Hp) (σ : L2.St) (ρ : List Slot) : Prop where
  len : σ.length = ρ.length
  at_ : ∀ (i : Nat) (s : Slot), ρ[i]? = some s → s = .un ∨ ∃ v, σ[i]? = some (some v) ∧ SlotR Hf v s
section
variable {Hf Hf' : Hp} {σ : L2.St} {ρ : List Slot}
theorem EnvR.mono (e : Same Hf Hf') (h : EnvR Hf σ ρ) : EnvR Hf' σ ρ := ⟨h.len, fun i s q => by
  rcases h.at_ i s q with z | ⟨v, z, r⟩
  · exact .inl z
  · exact .inr ⟨v, z, r.mono e⟩⟩
theorem EnvR.set (h : EnvR Hf σ ρ) {v : V} {s : Slot} (r : SlotR Hf v s) (i : Nat) : EnvR Hf (σ.set i (some v)) (ρ.set i s) := by
  refine ⟨by rw [List.length_set, List.length_set]; exact h.len, fun j t q => ?_⟩
  by_cases e : i = j
  · subst e
    by_cases hi : i < ρ.length
    · rw [List.getElem?_set_self hi] at q
      cases q
      exact .inr ⟨v, by rw [List.getElem?_set_self (by rw [h.len]; exact hi)], r⟩
    · rw [List.getElem?_eq_none (by simpa using hi)] at q
      cases q
  · rw [List.getElem?_set_ne e] at q
    rcases h.at_ j t q with z | ⟨w, z, r'⟩
    · exact .inl z
    · exact .inr ⟨w, by rw [List.getElem?_set_ne e]; exact z, r'⟩
theorem EnvR.unset (h : EnvR Hf σ ρ) (i : Nat) (o : Option V) : EnvR Hf (σ.set i o) (ρ.set i .un) := by
  refine ⟨by rw [List.length_set, List.length_set]; exact h.len, fun j t q => ?_⟩
  by_cases e : i = j
  · subst e
    by_cases hi : i < ρ.length
    · rw [List.getElem?_set_self hi] at q
      cases q
      exact .inl rfl
    · rw [List.getElem?_eq_none (by simpa using hi)] at q
      cases q
  · rw [List.getElem?_set_ne e] at q
    rcases h.at_ j t q with z | ⟨w, z, r'⟩
    · exact .inl z
    · exact .inr ⟨w, by rw [List.getElem?_set_ne e]; exact z, r'⟩
theorem EnvR.d (h : EnvR Hf σ ρ) {i : Nat} {x : PyData} (e : ρ[i]? = some (.d x)) : ∃ v, σ[i]? = some (some v) ∧ Rep Hf v x := by
  rcases h.at_ i _ e with z | z
  · cases z
  · exact z
theorem EnvR.raw (h : EnvR Hf σ ρ) {i : Nat} {w : V} (e : ρ[i]? = some (.raw w)) : σ[i]? = some (some w) := by
  rcases h.at_ i _ e with z | ⟨v, z, r⟩
  · cases z
  · rw [z, show v = w from r]
def wipeR (ρ : List Slot) : List Nat → List Slot
  | [] => ρ
  | v :: vs => (wipeR ρ vs).set v .un
theorem EnvR.wipe (h : EnvR Hf σ ρ) : ∀ is : List Nat, EnvR Hf (wipe σ is) (wipeR ρ is)
  | [] => h
  | i :: is => (EnvR.wipe h is).unset i none
end

/-! ### judgements over data -/
structure Ctx where
  X : Cx
  B : Bs
  ex : Addr → List Slot → Own → Prop
def Wish (Z : Ctx) : WX := fun cls d σ H => ∃ C Hf ρ own, cls = .ref C ∧ d = none ∧ Sat Z.B Hf H own ∧ EnvR Hf σ ρ ∧ Z.ex C ρ own
structure Gd (Z : Ctx) (k : Nat) : Prop where
  tk : Takes Z.X (Wish Z)
  po : PassesOwn (model Z.X.prog Z.X.w) Z.X.A Z.X.env Z.X.xe
  calm : Z.X.calm = true
  nd : Z.X.N.Nodup
  hr : Room k Z.X.A
theorem Gd.mono {Z : Ctx} {j k : Nat} (g : Gd Z k) (h : j ≤ k) : Gd Z j := ⟨g.tk, g.po, g.calm, g.nd, g.hr.mono h⟩
/-- e evaluates to what s says -/
def ES (Z : Ctx) (e : Expr) (ρ : List Slot) (own : Own) (s : Slot) : Prop := ∀ Hf σ H, Sat Z.B Hf H own → EnvR Hf σ ρ → ∀ Q : VK, (∀ v Hf' H', Same Hf Hf' → Sat Z.B Hf' H' own → SlotR Hf' v s → Q v H') → wE Z.X e σ H Q
abbrev ED (Z : Ctx) (e : Expr) (ρ : List Slot) (own : Own) (x : PyData) : Prop := ES Z e ρ own (.d x)
abbrev EV (Z : Ctx) (e : Expr) (ρ : List Slot) (own : Own) (v : V) : Prop := ES Z e ρ own (.raw v)
/-- a new list of one's own -/
def EL (Z : Ctx) (e : Expr) (ρ : List Slot) (own : Own) (ds : List PyData) : Prop := ∀ Hf σ H, Sat Z.B Hf H own → EnvR Hf σ ρ → ∀ Q : VK, (∀ p Hf' H', Same Hf Hf' → Sat Z.B Hf' H' ((p, .lst ds) :: own) → Q (.ref p) H') → wE Z.X e σ H Q
def ET (Z : Ctx) (e : Expr) (ρ : List Slot) (own : Own) (b : Bool) : Prop := ∀ Hf σ H, Sat Z.B Hf H own → EnvR Hf σ ρ → ∀ Q : Bool → Hp → Prop, (∀ Hf' H', Same Hf Hf' → Sat Z.B Hf' H' own → Q b H') → wT Z.X e σ H Q
def EW (Z : Ctx) (e : Expr) (ρ : List Slot) (own : Own) (b : Bool) : Prop := ∀ Hf σ H, Sat Z.B Hf H own → EnvR Hf σ ρ → ∀ Q : Bool → Hp → Prop, (∀ Hf' H', Same Hf Hf' → Sat Z.B Hf' H' own → Q b H') → wW Z.X e σ H Q
inductive SlotsR (Hf : Hp) : List V → List Slot → Prop
  | nil : SlotsR Hf [] []
  | cons {v : V} {vs : List V} {s : Slot} {ss : List Slot} : SlotR Hf v s → SlotsR Hf vs ss → SlotsR Hf (v :: vs) (s :: ss)
theorem SlotsR.mono {Hf Hf' : Hp} (e : Same Hf Hf') : ∀ {vs : List V} {ss : List Slot}, SlotsR Hf vs ss → SlotsR Hf' vs ss
  | _, _, .nil => .nil
  | _, _, .cons a b => .cons (a.mono e) (b.mono e)
theorem SlotsR.length {Hf : Hp} : ∀ {vs : List V} {ss : List Slot}, SlotsR Hf vs ss → vs.length = ss.length
  | _, _, .nil => rfl
  | _, _, .cons _ r => congrArg (· + 1) r.length
theorem SlotsR.data {Hf : Hp} : ∀ {vs : List V} {ds : List PyData}, SlotsR Hf vs (ds.map Slot.d) → Reps Hf vs ds
  | _, [], .nil => .nil
  | _, _ :: _, .cons a b => .cons a b.data
def EA (Z : Ctx) (es : List Expr) (ρ : List Slot) (own : Own) (ss : List Slot) : Prop := ∀ Hf σ H, Sat Z.B Hf H own → EnvR Hf σ ρ → ∀ Q : List V → Hp → Prop, (∀ vs Hf' H', Same Hf Hf' → Sat Z.B Hf' H' own → SlotsR Hf' vs ss → Q vs H') → wA Z.X es σ H Q

section
variable {Z : Ctx} {e a b c : Expr} {ρ : List Slot} {own : Own} {pos : Pos} {x y : PyData} {i j : Int} {s t : Slot} {k : Nat}
theorem ES.is (h : ED Z e ρ own x) (q : x = y) : ED Z e ρ own y := q ▸ h
theorem ET.is {b b' : Bool} (h : ET Z e ρ own b) (q : b = b') : ET Z e ρ own b' := q ▸ h
theorem EL.is {xs ys : List PyData} (h : EL Z e ρ own xs) (q : xs = ys) : EL Z e ρ own ys := q ▸ h
/-- a new list is data -/
theorem EL.ed {ds : List PyData} (h : EL Z e ρ own ds) : ED Z e ρ own (.list ds) := fun Hf σ H S R Q q => h Hf σ H S R Q fun p Hf' H' m S' => by
  obtain ⟨Hf2, m2, S2, r⟩ := Sat.freeze (oa := []) S'
  exact q _ Hf2 H' (m.trans m2) S2 r
/-! names, constants -/
theorem es_v (n : Nat) {z : Str} {s : Slot} (he : ρ[n]? = some s) (hs : s ≠ .un) (hN : Z.X.N[n]? = some z := by rfl) (hv : Vis Z.X.env.scope z := by first | exact Or.inl rfl | exact Or.inr (Or.inl rfl) | exact Or.inr (Or.inr rfl)) (hd : (z == ("__debug__" : Str)) = false := by decide)
    (hcd : (z == ("__classdict__" : Str)) = false := by decide) : ES Z (.Name z pos) ρ own s := fun Hf σ H S R Q q => wE.of (pe_var hN hv hd hcd) (by
  rcases R.at_ n s he with z | ⟨v, e, r⟩
  · exact absurd z hs
  · exact ⟨v, e, q v Hf H (Same.refl _) S r⟩)
theorem ed_v (n : Nat) {z : Str} {x : PyData} (he : ρ[n]? = some (.d x) := by rfl) (hN : Z.X.N[n]? = some z := by rfl) (hv : Vis Z.X.env.scope z := by first | exact Or.inl rfl | exact Or.inr (Or.inl rfl) | exact Or.inr (Or.inr rfl)) (hd : (z == ("__debug__" : Str)) = false := by decide)
    (hcd : (z == ("__classdict__" : Str)) = false := by decide) : ED Z (.Name z pos) ρ own x := es_v n he (fun q => nomatch q) hN hv hd hcd
theorem ev_v (n : Nat) {z : Str} {x : V} (he : ρ[n]? = some (.raw x) := by rfl) (hN : Z.X.N[n]? = some z := by rfl) (hv : Vis Z.X.env.scope z := by first | exact Or.inl rfl | exact Or.inr (Or.inl rfl) | exact Or.inr (Or.inr rfl)) (hd : (z == ("__debug__" : Str)) = false := by decide)
    (hcd : (z == ("__classdict__" : Str)) = false := by decide) : EV Z (.Name z pos) ρ own x := es_v n he (fun q => nomatch q) hN hv hd hcd
theorem ed_int {j : Nat} {i : Int} : ED Z (.Constant (.int i) j pos) ρ own (.int i) := fun Hf σ H S R Q q => wE.of pe_int (q _ Hf H (Same.refl _) S (.int i))
theorem ed_bl {j : Nat} {b : Bool} : ED Z (.Constant (.bool b) j pos) ρ own (.bool b) := fun Hf σ H S R Q q => wE.of pe_bl (q _ Hf H (Same.refl _) S (.bl b))
theorem ed_non {j : Nat} : ED Z (.Constant .none j pos) ρ own .none := fun Hf σ H S R Q q => wE.of pe_non (q _ Hf H (Same.refl _) S .non)
/-- a module's own int -/
theorem ed_glob {z : Str} {n : Int} {t : Tok} (hg : Gl Z.X z) (hm : Z.X.mg z = some (.int n t)) (hd : (z == ("__debug__" : Str)) = false := by decide) : ED Z (.Name z pos) ρ own (.int n) := fun Hf σ H S R Q q => wE.of (pe_glob hg hm (v := .int n) ⟨_, rfl⟩ hd) (q _ Hf H (Same.refl _) S (.int n))
theorem ev_ty {z : Str} {T : String} (hg : Gl Z.X z) (hm : Z.X.mg z = none) (hv : bootBuiltins z = some (.type T)) (hn : z ≠ "__name__" := by decide) (hd : (z == ("__debug__" : Str)) = false := by decide) : EV Z (.Name z pos) ρ own (.ty T) := fun Hf σ H S R Q q => wE.of (pe_bltn hg hm hv (v := .ty T) rfl hn hd) (q _ Hf H (Same.refl _) S rfl)

end
end Sd


namespace Sd
open PySem PySem.Spec PyProof.Rows L2
section
variable {Z : Ctx} {e a b c : Expr} {es : List Expr} {ρ : List Slot} {own : Own} {pos : Pos} {x y : PyData} {i j : Int} {s t u : Slot} {k : Nat}
theorem es_bin {op : Operator} {r : R2} {u : Slot} (ho : OpR Z.X (binaryOp op) r) (ha : ES Z a ρ own s) (hb : ES Z b ρ own t)
    (hr : ∀ v w Hf H, Sat Z.B Hf H own → SlotR Hf v s → SlotR Hf w t → ∀ Q : VK, (∀ z Hf' H', Same Hf Hf' → Sat Z.B Hf' H' own → SlotR Hf' z u → Q z H') → r v w H Q) : ES Z (.BinOp a op b pos) ρ own u := fun Hf σ H S R Q q =>
  wE.of (pe_op ho peW peW) (ha Hf σ H S R _ fun v Hf1 H1 m1 S1 r1 => hb Hf1 σ H1 S1 (R.mono m1) _ fun w Hf2 H2 m2 S2 r2 => hr v w Hf2 H2 S2 (r1.mono m2) r2 Q fun z Hf3 H3 m3 S3 r3 => q z Hf3 H3 ((m1.trans m2).trans m3) S3 r3)
theorem el_bin {op : Operator} {r : R2} {ds : List PyData} (ho : OpR Z.X (binaryOp op) r) (ha : ES Z a ρ own s) (hb : ES Z b ρ own t)
    (hr : ∀ v w Hf H, Sat Z.B Hf H own → SlotR Hf v s → SlotR Hf w t → ∀ Q : VK, (∀ p Hf' H', Same Hf Hf' → Sat Z.B Hf' H' ((p, .lst ds) :: own) → Q (.ref p) H') → r v w H Q) : EL Z (.BinOp a op b pos) ρ own ds := fun Hf σ H S R Q q =>
  wE.of (pe_op ho peW peW) (ha Hf σ H S R _ fun v Hf1 H1 m1 S1 r1 => hb Hf1 σ H1 S1 (R.mono m1) _ fun w Hf2 H2 m2 S2 r2 => hr v w Hf2 H2 S2 (r1.mono m2) r2 Q fun z Hf3 H3 m3 S3 => q z Hf3 H3 ((m1.trans m2).trans m3) S3)
theorem ed_add (ha : ED Z a ρ own (.int i)) (hb : ED Z b ρ own (.int j)) : ED Z (.BinOp a .Add b pos) ρ own (.int (i + j)) := es_bin op_add ha hb fun v w Hf H S r1 r2 Q q => by
  cases r1; cases r2
  exact ⟨i, j, rfl, rfl, q _ Hf H (Same.refl _) S (.int _)⟩
theorem ed_sub (ha : ED Z a ρ own (.int i)) (hb : ED Z b ρ own (.int j)) : ED Z (.BinOp a .Sub b pos) ρ own (.int (i - j)) := es_bin op_sub ha hb fun v w Hf H S r1 r2 Q q => by
  cases r1; cases r2
  exact ⟨i, j, rfl, rfl, q _ Hf H (Same.refl _) S (.int _)⟩
/-- a product: small by the size of both -/
theorem ed_mul (ha : ED Z a ρ own (.int i)) (hb : ED Z b ρ own (.int j)) (h : CMulW i j) : ED Z (.BinOp a .Mult b pos) ρ own (.int (i * j)) := es_bin op_mulW ha hb fun v w Hf H S r1 r2 Q q => by
  cases r1; cases r2
  exact ⟨i, j, rfl, rfl, h, q _ Hf H (Same.refl _) S (.int _)⟩
theorem ed_mulS (ha : ED Z a ρ own (.int i)) (hb : ED Z b ρ own (.int j)) (h : CMul i j) : ED Z (.BinOp a .Mult b pos) ρ own (.int (i * j)) := es_bin op_mul ha hb fun v w Hf H S r1 r2 Q q => by
  cases r1; cases r2
  exact ⟨i, j, rfl, rfl, h, q _ Hf H (Same.refl _) S (.int _)⟩
theorem ed_fdiv (ha : ED Z a ρ own (.int i)) (hb : ED Z b ρ own (.int j)) (h : CDivW i j) : ED Z (.BinOp a .FloorDiv b pos) ρ own (.int (i / j)) := es_bin op_fdivW ha hb fun v w Hf H S r1 r2 Q q => by
  cases r1; cases r2
  exact ⟨i, j, rfl, rfl, h, q _ Hf H (Same.refl _) S (.int _)⟩
theorem ed_fdivS (ha : ED Z a ρ own (.int i)) (hb : ED Z b ρ own (.int j)) (h : 0 < j ∧ j < 1073741824) : ED Z (.BinOp a .FloorDiv b pos) ρ own (.int (i / j)) := es_bin op_fdiv ha hb fun v w Hf H S r1 r2 Q q => by
  cases r1; cases r2
  exact ⟨i, j, rfl, rfl, h, q _ Hf H (Same.refl _) S (.int _)⟩
theorem ed_mod (ha : ED Z a ρ own (.int i)) (hb : ED Z b ρ own (.int j)) (h : 0 < j) : ED Z (.BinOp a .Mod b pos) ρ own (.int (i % j)) := es_bin op_mod ha hb fun v w Hf H S r1 r2 Q q => by
  cases r1; cases r2
  exact ⟨i, j, rfl, rfl, h, q _ Hf H (Same.refl _) S (.int _)⟩
theorem ed_pow (ha : ED Z a ρ own (.int i)) (hb : ED Z b ρ own (.int j)) (h : CPow i j) : ED Z (.BinOp a .Pow b pos) ρ own (.int (i ^ j.toNat)) := es_bin op_pow ha hb fun v w Hf H S r1 r2 Q q => by
  cases r1; cases r2
  exact ⟨i, j, rfl, rfl, h, q _ Hf H (Same.refl _) S (.int _)⟩
theorem ed_neg (ha : ED Z a ρ own (.int i)) : ED Z (.UnaryOp .USub a pos) ρ own (.int (-i)) := fun Hf σ H S R Q q =>
  wE.of (pe_un un_neg peW) (ha Hf σ H S R _ fun v Hf1 H1 m1 S1 r1 => by
    cases r1
    exact ⟨i, rfl, q _ Hf1 H1 m1 S1 (.int _)⟩)
def Lst (own : Own) (s : Slot) (ds : List PyData) : Prop := s = .d (.list ds) ∨ ∃ p, s = .raw (.ref p) ∧ (p, OO.lst ds) ∈ own
theorem Lst.d {ds : List PyData} : Lst own (.d (.list ds)) ds := .inl rfl
theorem Lst.o {p : Addr} {ds : List PyData} (h : (p, OO.lst ds) ∈ own) : Lst own (.raw (.ref p)) ds := .inr ⟨p, rfl, h⟩
theorem Lst.at {B : Bs} {Hf H : Hp} {ds : List PyData} {v : V} (L : Lst own s ds) (S : Sat B Hf H own) (r : SlotR Hf v s) : ∃ p vs, v = .ref p ∧ H p = some (.lst vs) ∧ Reps Hf vs ds := by
  rcases L with rfl | ⟨p, rfl, h⟩
  · cases r with
    | lst h1 h2 => exact ⟨_, _, rfl, S.e1 _ _ h1, h2⟩
  · obtain ⟨_, _, vs, h1, h2⟩ := S.at h
    exact ⟨p, vs, r, h1, h2⟩
/-- a + b of lists -/
theorem el_cat {xs ys : List PyData} (ha : ES Z a ρ own s) (hb : ES Z b ρ own t) (l1 : Lst own s xs) (l2 : Lst own t ys) (h : xs.length + ys.length ≤ 100000) : EL Z (.BinOp a .Add b pos) ρ own (xs ++ ys) := el_bin op_cat ha hb fun v w Hf H S r1 r2 Q q => by
  obtain ⟨p, vs, rfl, h1, g1⟩ := l1.at S r1
  obtain ⟨p', vs', rfl, h2, g2⟩ := l2.at S r2
  have e1 := g1.length
  have e2 := g2.length
  refine ⟨p, p', vs, vs', rfl, rfl, h1, h2, Nat.le_trans (by omega : _ ≤ 100000) (by decide), fun l hl => q l Hf _ (Same.refl _) (S.newOwn hl ⟨_, upd_same, g1.append g2⟩)⟩
theorem Reps.rep {H : Hp} {xs : List V} {us : List PyData} (h : Reps H xs us) : ∀ k : Nat, Reps H (List.replicate k xs).flatten (List.replicate k us).flatten
  | 0 => .nil
  | k + 1 => by
    rw [List.replicate_succ, List.replicate_succ, List.flatten_cons, List.flatten_cons]
    exact h.append (h.rep k)
/-- xs * n -/
theorem el_rep {xs : List PyData} (ha : ES Z a ρ own s) (hb : ED Z b ρ own (.int i)) (l1 : Lst own s xs) (h : i ≤ 1000 ∧ -1000 ≤ i) (h2 : xs.length ≤ 1000) : EL Z (.BinOp a .Mult b pos) ρ own (List.replicate i.toNat xs).flatten := el_bin op_rep ha hb fun v w Hf H S r1 r2 Q q => by
  obtain ⟨p, vs, rfl, h1, g1⟩ := l1.at S r1
  cases r2
  have e1 := g1.length
  refine ⟨p, i, vs, rfl, rfl, h1, by omega, by omega, ?_, fun l hl => q l Hf _ (Same.refl _) (S.newOwn hl ⟨_, upd_same, g1.rep _⟩)⟩
  have : vs.length * i.toNat ≤ 1000 * 1000 := Nat.mul_le_mul (by omega) (by omega)
  exact Nat.le_trans this (by decide)

/-! comparisons, tests -/
theorem es_cmp {op : CmpOp} {r : R2} {u : Slot} (ho : OpR Z.X (compareOp op) r) (hm : behindInMarks op b = false) (ha : ES Z a ρ own s) (hb : ES Z b ρ own t)
    (hr : ∀ v w Hf H, Sat Z.B Hf H own → SlotR Hf v s → SlotR Hf w t → ∀ Q : VK, (∀ z Hf' H', Same Hf Hf' → Sat Z.B Hf' H' own → SlotR Hf' z u → Q z H') → r v w H Q) : ES Z (.Compare a [op] [b] pos) ρ own u := fun Hf σ H S R Q q =>
  wE.of (pe_cmpR ho peW peW hm) (ha Hf σ H S R _ fun v Hf1 H1 m1 S1 r1 => hb Hf1 σ H1 S1 (R.mono m1) _ fun w Hf2 H2 m2 S2 r2 => hr v w Hf2 H2 S2 (r1.mono m2) r2 Q fun z Hf3 H3 m3 S3 r3 => q z Hf3 H3 ((m1.trans m2).trans m3) S3 r3)
/-- a comparison that is a bool: as a value and as a test -/
def CmpB (Z : Ctx) (op : CmpOp) (own : Own) (s t : Slot) (k : Bool) : Prop := ∃ r : R2, OpR Z.X (compareOp op) r ∧ ∀ v w Hf H, Sat Z.B Hf H own → SlotR Hf v s → SlotR Hf w t → ∀ Q : VK, Q (.bl k) H → r v w H Q
theorem ed_cmp {op : CmpOp} {k : Bool} (hc : CmpB Z op own s t k) (ha : ES Z a ρ own s) (hb : ES Z b ρ own t) (hm : behindInMarks op b = false := by first | exact nomark _ | rfl) : ED Z (.Compare a [op] [b] pos) ρ own (.bool k) := by
  obtain ⟨r, ho, hr⟩ := hc
  exact es_cmp ho hm ha hb fun v w Hf H S r1 r2 Q q => hr v w Hf H S r1 r2 Q (q _ Hf H (Same.refl _) S (.bl k))
theorem et_cmp {op : CmpOp} {k : Bool} (hc : CmpB Z op own s t k) (ha : ES Z a ρ own s) (hb : ES Z b ρ own t) (hm : behindInMarks op b = false := by first | exact nomark _ | rfl) : ET Z (.Compare a [op] [b] pos) ρ own k := by
  obtain ⟨r, ho, hr⟩ := hc
  exact fun Hf σ H S R Q q => wT.of (pt_cmpR ho peW peW hm) (ha Hf σ H S R _ fun v Hf1 H1 m1 S1 r1 => hb Hf1 σ H1 S1 (R.mono m1) _ fun w Hf2 H2 m2 S2 r2 => hr v w Hf2 H2 S2 (r1.mono m2) r2 _ ⟨k, rfl, q Hf2 H2 (m1.trans m2) S2⟩)
theorem c_lt : CmpB Z .Lt own (.d (.int i)) (.d (.int j)) (decide (i < j)) := ⟨_, op_lt, fun v w Hf H S r1 r2 Q q => by cases r1; cases r2; exact ⟨i, j, rfl, rfl, q⟩⟩
theorem c_le : CmpB Z .LtE own (.d (.int i)) (.d (.int j)) (decide (i ≤ j)) := ⟨_, op_le, fun v w Hf H S r1 r2 Q q => by cases r1; cases r2; exact ⟨i, j, rfl, rfl, q⟩⟩
theorem c_gt : CmpB Z .Gt own (.d (.int i)) (.d (.int j)) (decide (j < i)) := ⟨_, op_gt, fun v w Hf H S r1 r2 Q q => by cases r1; cases r2; exact ⟨i, j, rfl, rfl, q⟩⟩
theorem c_ge : CmpB Z .GtE own (.d (.int i)) (.d (.int j)) (decide (j ≤ i)) := ⟨_, op_ge, fun v w Hf H S r1 r2 Q q => by cases r1; cases r2; exact ⟨i, j, rfl, rfl, q⟩⟩
theorem c_eqI : CmpB Z .Eq own (.d (.int i)) (.d (.int j)) (decide (i = j)) := ⟨_, op_eq, fun v w Hf H S r1 r2 Q q => by
  cases r1; cases r2
  refine ⟨rfl, ?_⟩
  rw [dec_int, Bool.beq_eq_decide_eq]
  exact q⟩
theorem c_neI : CmpB Z .NotEq own (.d (.int i)) (.d (.int j)) (!decide (i = j)) := ⟨_, op_ne, fun v w Hf H S r1 r2 Q q => by
  cases r1; cases r2
  refine ⟨rfl, ?_⟩
  rw [dec_int, Bool.beq_eq_decide_eq]
  exact q⟩
/-- data, or a list of one's own, as data -/
def Dat (own : Own) (s : Slot) (x : PyData) : Prop := s = .d x ∨ ∃ ds, x = .list ds ∧ Lst own s ds
theorem Dat.at {B : Bs} {Hf H : Hp} {v : V} (L : Dat own s x) (S : Sat B Hf H own) (r : SlotR Hf v s) : Rep H v x := by
  rcases L with rfl | ⟨ds, rfl, L⟩
  · exact Rep.mono S.e1 r
  · obtain ⟨p, vs, rfl, h1, h2⟩ := L.at S r
    exact .lst h1 (h2.mono S.e1)
theorem Dat.d : Dat own (.d x) x := .inl rfl
theorem Dat.o {p : Addr} {ds : List PyData} (h : (p, OO.lst ds) ∈ own) : Dat own (.raw (.ref p)) (.list ds) := .inr ⟨ds, rfl, .o h⟩
theorem c_eq (g : Gd Z k) (d1 : Dat own s x) (d2 : Dat own t y) (h1 : SeqAt.shaped x = true) (h2 : SeqAt.shaped y = true) : CmpB Z .Eq own s t (PyData.eqv x y) := ⟨_, op_eqD g.hr.units, fun v w Hf H S r1 r2 Q q => ⟨x, y, (d1.at S r1).dp, (d2.at S r2).dp, h1, h2, q⟩⟩
theorem c_ne (g : Gd Z k) (d1 : Dat own s x) (d2 : Dat own t y) (h1 : SeqAt.shaped x = true) (h2 : SeqAt.shaped y = true) : CmpB Z .NotEq own s t (!PyData.eqv x y) := ⟨_, op_neD g.hr.units, fun v w Hf H S r1 r2 Q q => ⟨x, y, (d1.at S r1).dp, (d2.at S r2).dp, h1, h2, q⟩⟩
/-- is None -/
def isNone : Slot → Bool
  | .d .none => true
  | .raw .non => true
  | _ => false
theorem isNone_at {Hf : Hp} {v : V} (hs : s ≠ .un) (r : SlotR Hf v s) : decide (v = .non) = isNone s := by
  cases s with
  | un => exact absurd rfl hs
  | d x => cases r <;> rfl
  | raw w =>
    cases (show v = w from r)
    cases v <;> rfl
theorem c_isN (hs : s ≠ .un) : CmpB Z .Is own s (.d .none) (isNone s) := ⟨_, op_isN, fun v w Hf H S r1 r2 Q q => by
  cases r2
  exact ⟨rfl, by rw [isNone_at hs r1]; exact q⟩⟩
/-- a bool as a test -/
theorem et_val {k : Bool} (h : ED Z e ρ own (.bool k)) (he : ∀ whole, isTrue e Z.X.env whole = (do let v ← whole; standAt e.pos; holding [v] (truthy v)) := by intro _; rfl) : ET Z e ρ own k := fun Hf σ H S R Q q =>
  wT.of (pt_val peW he) (h Hf σ H S R _ fun v Hf1 H1 m1 S1 r1 => by cases r1; exact ⟨k, rfl, q Hf1 H1 m1 S1⟩)
theorem EW.et {k : Bool} (h : EW Z e ρ own k) : ET Z e ρ own k := fun Hf σ H S R Q q => wT.of pwW.pt (h Hf σ H S R Q q)
theorem et_not {k : Bool} (h : ET Z e ρ own k) : ET Z (.UnaryOp .Not e pos) ρ own (!k) := fun Hf σ H S R Q q => wT.of (pt_not ptW) (h Hf σ H S R _ fun Hf1 H1 m1 S1 => q Hf1 H1 m1 S1)
variable {rest : List Expr}
theorem ew_and1 {k : Bool} (h : ET Z a ρ own k) : EW Z (.BoolOp .And [a] pos) ρ own k := fun Hf σ H S R Q q => wW.of (pw_and1 ptW) (h Hf σ H S R Q q)
theorem ew_or1 {k : Bool} (h : ET Z a ρ own k) : EW Z (.BoolOp .Or [a] pos) ρ own k := fun Hf σ H S R Q q => wW.of (pw_or1 ptW) (h Hf σ H S R Q q)
theorem ew_and {k l : Bool} (h1 : ET Z a ρ own k) (h2 : k = true → EW Z (.BoolOp .And (b :: rest) pos) ρ own l) : EW Z (.BoolOp .And (a :: b :: rest) pos) ρ own (k && l) := fun Hf σ H S R Q q => wW.of (pw_and ptW pwW) (h1 Hf σ H S R _ fun Hf1 H1 m1 S1 => by
  cases k with
  | true =>
    refine iteT (h2 rfl Hf1 σ H1 S1 (R.mono m1) Q fun Hf2 H2 m2 S2 => q Hf2 H2 (m1.trans m2) S2)
  | false => exact iteF (q Hf1 H1 m1 S1))
theorem ew_or {k l : Bool} (h1 : ET Z a ρ own k) (h2 : k = false → EW Z (.BoolOp .Or (b :: rest) pos) ρ own l) : EW Z (.BoolOp .Or (a :: b :: rest) pos) ρ own (k || l) := fun Hf σ H S R Q q => wW.of (pw_or ptW pwW) (h1 Hf σ H S R _ fun Hf1 H1 m1 S1 => by
  cases k with
  | true => exact iteT (q Hf1 H1 m1 S1)
  | false =>
    refine iteF (h2 rfl Hf1 σ H1 S1 (R.mono m1) Q fun Hf2 H2 m2 S2 => q Hf2 H2 (m1.trans m2) S2))
theorem ed_one {op : BoolOp} (h : ES Z a ρ own s) : ES Z (.BoolOp op [a] pos) ρ own s := fun Hf σ H S R Q q => wE.of (pe_one peW) (h Hf σ H S R Q q)
theorem ed_and {k l : Bool} (h1 : ED Z a ρ own (.bool k)) (h2 : k = true → ED Z (.BoolOp .And (b :: rest) pos) ρ own (.bool l)) : ED Z (.BoolOp .And (a :: b :: rest) pos) ρ own (.bool (k && l)) := fun Hf σ H S R Q q => wE.of (pe_and peW peW) (h1 Hf σ H S R _ fun v Hf1 H1 m1 S1 r1 => by
  cases r1
  refine ⟨k, rfl, ?_⟩
  cases k with
  | true => exact iteT (h2 rfl Hf1 σ H1 S1 (R.mono m1) Q fun v Hf2 H2 m2 S2 r2 => q v Hf2 H2 (m1.trans m2) S2 r2)
  | false => exact iteF (q _ Hf1 H1 m1 S1 (.bl false)))
theorem ed_or {k l : Bool} (h1 : ED Z a ρ own (.bool k)) (h2 : k = false → ED Z (.BoolOp .Or (b :: rest) pos) ρ own (.bool l)) : ED Z (.BoolOp .Or (a :: b :: rest) pos) ρ own (.bool (k || l)) := fun Hf σ H S R Q q => wE.of (pe_or peW peW) (h1 Hf σ H S R _ fun v Hf1 H1 m1 S1 r1 => by
  cases r1
  refine ⟨k, rfl, ?_⟩
  cases k with
  | false => exact iteF (h2 rfl Hf1 σ H1 S1 (R.mono m1) Q fun v Hf2 H2 m2 S2 r2 => q v Hf2 H2 (m1.trans m2) S2 r2)
  | true => exact iteT (q _ Hf1 H1 m1 S1 (.bl true)))
theorem ed_not {k : Bool} (h : ED Z a ρ own (.bool k)) : ED Z (.UnaryOp .Not a pos) ρ own (.bool (!k)) := fun Hf σ H S R Q q => wE.of (pe_not peW) (h Hf σ H S R _ fun v Hf1 H1 m1 S1 r1 => by
  cases r1
  exact ⟨k, rfl, q _ Hf1 H1 m1 S1 (.bl _)⟩)
theorem es_if {k : Bool} (h : ET Z c ρ own k) (h1 : k = true → ES Z a ρ own s) (h2 : k = false → ES Z b ρ own s) : ES Z (.IfExp c a b pos) ρ own s := fun Hf σ H S R Q q => wE.of (pe_ifExp ptW peW peW) (h Hf σ H S R _ fun Hf1 H1 m1 S1 => by
  cases k with
  | true => exact iteT (h1 rfl Hf1 σ H1 S1 (R.mono m1) Q fun v Hf2 H2 m2 S2 r2 => q v Hf2 H2 (m1.trans m2) S2 r2)
  | false => exact iteF (h2 rfl Hf1 σ H1 S1 (R.mono m1) Q fun v Hf2 H2 m2 S2 r2 => q v Hf2 H2 (m1.trans m2) S2 r2))
theorem el_if {k : Bool} {ds : List PyData} (h : ET Z c ρ own k) (h1 : k = true → EL Z a ρ own ds) (h2 : k = false → EL Z b ρ own ds) : EL Z (.IfExp c a b pos) ρ own ds := fun Hf σ H S R Q q => wE.of (pe_ifExp ptW peW peW) (h Hf σ H S R _ fun Hf1 H1 m1 S1 => by
  cases k with
  | true => exact iteT (h1 rfl Hf1 σ H1 S1 (R.mono m1) Q fun v Hf2 H2 m2 S2 => q v Hf2 H2 (m1.trans m2) S2)
  | false => exact iteF (h2 rfl Hf1 σ H1 S1 (R.mono m1) Q fun v Hf2 H2 m2 S2 => q v Hf2 H2 (m1.trans m2) S2))
theorem et_chain {op op' : CmpOp} {k l : Bool} (hc1 : CmpB Z op own s t k) (hc2 : CmpB Z op' own t u l) (ha : ES Z a ρ own s) (hb : ES Z b ρ own t) (hd : ES Z c ρ own u) (hm : lastMarks [op, op'] [b, c] = false := by with_unfolding_all rfl) :
    ET Z (.Compare a [op, op'] [b, c] pos) ρ own (k && l) := by
  obtain ⟨r, ho, hr⟩ := hc1
  obtain ⟨r', ho', hr'⟩ := hc2
  refine fun Hf σ H S R Q q => wT.of (pt_chain ho ho' peW peW peW hm) (ha Hf σ H S R _ fun v Hf1 H1 m1 S1 r1 => hb Hf1 σ H1 S1 (R.mono m1) _ fun w Hf2 H2 m2 S2 r2 => hr v w Hf2 H2 S2 (r1.mono m2) r2 _ ⟨k, rfl, ?_⟩)
  cases k with
  | false => exact iteF ⟨_, rfl, q Hf2 H2 (m1.trans m2) S2⟩
  | true => exact iteT (hd Hf2 σ H2 S2 (R.mono (m1.trans m2)) _ fun z Hf3 H3 m3 S3 r3 => hr' w z Hf3 H3 S3 (r2.mono m3) r3 _ ⟨l, rfl, q Hf3 H3 ((m1.trans m2).trans m3) S3⟩)
theorem ed_chain {op op' : CmpOp} {k l : Bool} (hc1 : CmpB Z op own s t k) (hc2 : CmpB Z op' own t u l) (ha : ES Z a ρ own s) (hb : ES Z b ρ own t) (hd : ES Z c ρ own u) (hm : lastMarks [op, op'] [b, c] = false := by with_unfolding_all rfl) :
    ED Z (.Compare a [op, op'] [b, c] pos) ρ own (.bool (k && l)) := by
  obtain ⟨r, ho, hr⟩ := hc1
  obtain ⟨r', ho', hr'⟩ := hc2
  refine fun Hf σ H S R Q q => wE.of (pe_chain ho ho' peW peW peW hm) (ha Hf σ H S R _ fun v Hf1 H1 m1 S1 r1 => hb Hf1 σ H1 S1 (R.mono m1) _ fun w Hf2 H2 m2 S2 r2 => hr v w Hf2 H2 S2 (r1.mono m2) r2 _ ⟨k, rfl, ?_⟩)
  cases k with
  | false => exact iteF (q _ Hf2 H2 (m1.trans m2) S2 (.bl false))
  | true => exact iteT (hd Hf2 σ H2 S2 (R.mono (m1.trans m2)) _ fun z Hf3 H3 m3 S3 r3 => hr' w z Hf3 H3 S3 (r2.mono m3) r3 _ (q _ Hf3 H3 ((m1.trans m2).trans m3) S3 (.bl l)))

/-! arguments, displays -/
theorem ea_nil : EA Z [] ρ own [] := fun Hf σ H S R Q q => wA.of pa_nil (q [] Hf H (Same.refl _) S .nil)
theorem ea_cons {ss : List Slot} (h : ES Z e ρ own s) (hr : EA Z es ρ own ss) (hs : starEach (e :: es) Z.X.env = (false, eval e Z.X.env) :: starEach es Z.X.env := by rfl) : EA Z (e :: es) ρ own (s :: ss) := fun Hf σ H S R Q q => wA.of (pa_cons peW paW hs) (h Hf σ H S R _ fun v Hf1 H1 m1 S1 r1 =>
  hr Hf1 σ H1 S1 (R.mono m1) _ fun vs Hf2 H2 m2 S2 r2 => q (v :: vs) Hf2 H2 (m1.trans m2) S2 (.cons (r1.mono m2) r2))
theorem ed_tup {x1 : Nat} {ds : List PyData} (h : EA Z es ρ own (ds.map Slot.d)) (hl : ds.length ≤ 1000 := by exact Nat.le_of_ble_eq_true rfl) : ED Z (.Tuple es x1 pos) ρ own (.tuple ds) := fun Hf σ H S R Q q => wE.of (pe_tup paW) (h Hf σ H S R _ fun vs Hf1 H1 m1 S1 r1 => by
  have r := r1.data
  refine ⟨Nat.le_trans (by rw [r.length]; exact hl) (by decide), fun p hp => q (.ref p) _ _ (m1.trans (S1.new_same hp _)) (S1.new hp _) (.tup upd_same (r.mono (S1.new_same hp _)))⟩)
theorem el_lst {ds : List PyData} (h : EA Z es ρ own (ds.map Slot.d)) (hl : ds.length ≤ 1000 := by exact Nat.le_of_ble_eq_true rfl) : EL Z (.List es pos) ρ own ds := fun Hf σ H S R Q q => wE.of (pe_lst paW) (h Hf σ H S R _ fun vs Hf1 H1 m1 S1 r1 => by
  have r := r1.data
  refine ⟨Nat.le_trans (by rw [r.length]; exact hl) (by decide), fun p hp => q p _ _ m1 (S1.newOwn hp ⟨_, upd_same, r⟩)⟩)
theorem ed_lst {ds : List PyData} (h : EA Z es ρ own (ds.map Slot.d)) (hl : ds.length ≤ 1000 := by exact Nat.le_of_ble_eq_true rfl) : ED Z (.List es pos) ρ own (.list ds) := (el_lst h hl).ed

/-! items, slices -/
theorem atI_rep {H : Hp} {vs : List V} {ds : List PyData} {i : Int} {d : PyData} (r : Reps H vs ds) (h : atI ds i = some d) : ∃ v, atI vs i = some v ∧ Rep H v d := by
  unfold atI at h ⊢
  rw [r.length]
  cases e : ixN ds.length i with
  | none => rw [e] at h; cases h
  | some j =>
    rw [e] at h
    obtain ⟨v, h1, h2⟩ := r.get (show ds[j]? = some d from h)
    exact ⟨v, h1, h2⟩
theorem ed_ixL {ds : List PyData} {d : PyData} (ha : ES Z a ρ own s) (hb : ED Z b ρ own (.int i)) (l : Lst own s ds) (h : atI ds i = some d) (hs : PlainIx b := by exact fun _ _ => rfl) : ED Z (.Subscript a b pos) ρ own d := fun Hf σ H S R Q q =>
  wE.of (pe_ix ix_list peW peW hs) (ha Hf σ H S R _ fun v Hf1 H1 m1 S1 r1 => hb Hf1 σ H1 S1 (R.mono m1) _ fun w Hf2 H2 m2 S2 r2 => by
    obtain ⟨p, vs, rfl, h1, g1⟩ := l.at S2 (r1.mono m2)
    cases r2
    obtain ⟨z, h2, g2⟩ := atI_rep g1 h
    exact ⟨p, vs, i, z, rfl, rfl, SqL.of h1, h2, q z Hf2 H2 (m1.trans m2) S2 g2⟩)
theorem ed_ixT {ds : List PyData} {d : PyData} (ha : ED Z a ρ own (.tuple ds)) (hb : ED Z b ρ own (.int i)) (h : atI ds i = some d) (hs : PlainIx b := by exact fun _ _ => rfl) : ED Z (.Subscript a b pos) ρ own d := fun Hf σ H S R Q q =>
  wE.of (pe_ix ix_tup peW peW hs) (ha Hf σ H S R _ fun v Hf1 H1 m1 S1 r1 => hb Hf1 σ H1 S1 (R.mono m1) _ fun w Hf2 H2 m2 S2 r2 => by
    cases (show Rep Hf2 v (.tuple ds) from r1.mono m2) with
    | tup h1 g1 =>
      cases r2
      obtain ⟨z, h2, g2⟩ := atI_rep g1 h
      exact ⟨_, _, i, z, rfl, rfl, SqT.of (S2.e1 _ _ h1), h2, q z Hf2 H2 (m1.trans m2) S2 g2⟩)
def cutD (xs : List PyData) (lo hi : Option Int) : List PyData := (xs.drop (HT.sIx xs.length 0 lo)).take (HT.sIx xs.length xs.length hi - HT.sIx xs.length 0 lo)
theorem cut_rep {H : Hp} {vs : List V} {ds : List PyData} (r : Reps H vs ds) (lo hi : Option Int) : Reps H (cutV vs lo hi) (cutD ds lo hi) := by
  unfold cutV cutD
  rw [r.length]
  exact (r.drop _).take _
/-- an optional part of a slice -/
def PT2 (Z : Ctx) (e : Option Expr) (ρ : List Slot) (own : Own) (o : Option Int) : Prop := ∃ t : TO, PO Z.X e t ∧ ∀ Hf σ H, Sat Z.B Hf H own → EnvR Hf σ ρ → ∀ Q : Option Int → Hp → Prop, (∀ Hf' H', Same Hf Hf' → Sat Z.B Hf' H' own → Q o H') → t σ H Q
theorem po_no : PT2 Z none ρ own none := ⟨_, po_none, fun Hf σ H S R Q q => q Hf H (Same.refl _) S⟩
theorem po_yes (h : ED Z e ρ own (.int i)) : PT2 Z (some e) ρ own (some i) := ⟨_, po_some peW, fun Hf σ H S R Q q => h Hf σ H S R _ fun v Hf1 H1 m1 S1 r1 => by
  cases r1
  exact ⟨i, rfl, q Hf1 H1 m1 S1⟩⟩
theorem el_slice {ds : List PyData} {lo hi : Option Expr} {l h : Option Int} {p2 : Pos} (ha : ES Z a ρ own s) (hl : PT2 Z lo ρ own l) (hh : PT2 Z hi ρ own h) (L : Lst own s ds) : EL Z (.Subscript a (.Slice lo hi none p2) pos) ρ own (cutD ds l h) := by
  obtain ⟨tl, pl, ql⟩ := hl
  obtain ⟨th, ph, qh⟩ := hh
  refine fun Hf σ H S R Q q => wE.of (pe_slice sl_list peW pl ph) (ha Hf σ H S R _ fun v Hf1 H1 m1 S1 r1 => ql Hf1 σ H1 S1 (R.mono m1) _ fun Hf2 H2 m2 S2 => qh Hf2 σ H2 S2 (R.mono (m1.trans m2)) _ fun Hf3 H3 m3 S3 => ?_)
  obtain ⟨p, vs, rfl, h1, g1⟩ := L.at S3 (r1.mono (m2.trans m3))
  exact ⟨p, vs, rfl, SqL.of h1, fun l hl => q l Hf3 _ ((m1.trans m2).trans m3) (S3.newOwn hl ⟨_, upd_same, cut_rep g1 _ _⟩)⟩
end

/-! ### statements -/
structure DE where
  nx : List Slot → Own → Prop
  rt : Slot → Own → Prop
  bk : List Slot → Own → Prop := fun _ _ => False
  ct : List Slot → Own → Prop := fun _ _ => False
def lift (B : Bs) (H0 : Hp) (D : DE) : Ends where
  nx := fun σ H => ∃ Hf ρ own, Same H0 Hf ∧ Sat B Hf H own ∧ EnvR Hf σ ρ ∧ D.nx ρ own
  rt := fun v H => ∃ Hf s own, Same H0 Hf ∧ Sat B Hf H own ∧ SlotR Hf v s ∧ s ≠ .un ∧ D.rt s own
  bk := fun σ H => ∃ Hf ρ own, Same H0 Hf ∧ Sat B Hf H own ∧ EnvR Hf σ ρ ∧ D.bk ρ own
  ct := fun σ H => ∃ Hf ρ own, Same H0 Hf ∧ Sat B Hf H own ∧ EnvR Hf σ ρ ∧ D.ct ρ own
def SD (Z : Ctx) (st : Stmt) (D : DE) (ρ : List Slot) (own : Own) : Prop := ∀ H0 Hf σ H, Same H0 Hf → Sat Z.B Hf H own → EnvR Hf σ ρ → wS Z.X st (lift Z.B H0 D) σ H
def SDs (Z : Ctx) (st : List Stmt) (D : DE) (ρ : List Slot) (own : Own) : Prop := ∀ H0 Hf σ H, Same H0 Hf → Sat Z.B Hf H own → EnvR Hf σ ρ → wSs Z.X st (lift Z.B H0 D) σ H
section
variable {Z : Ctx} {D : DE} {ρ : List Slot} {own : Own} {pos : Pos} {st : Stmt} {sts A B : List Stmt} {e a b c : Expr} {x : PyData} {s t : Slot} {k : Nat}
theorem SP.imp {X : Cx} {pins : List (Addr × Obj)} {D D' : Ends} {f : Flow} {s' : Shared} (h : SP X pins D f s') (h1 : ∀ σ H, D.nx σ H → D'.nx σ H) (h2 : ∀ v H, D.rt v H → D'.rt v H) (h3 : ∀ σ H, D.bk σ H → D'.bk σ H) (h4 : ∀ σ H, D.ct σ H → D'.ct σ H) : SP X pins D' f s' := by
  cases f with
  | next => obtain ⟨σ, H, I, q⟩ := h; exact ⟨σ, H, I, h1 _ _ q⟩
  | brk => obtain ⟨σ, H, I, q⟩ := h; exact ⟨σ, H, I, h3 _ _ q⟩
  | cont => obtain ⟨σ, H, I, q⟩ := h; exact ⟨σ, H, I, h4 _ _ q⟩
  | ret u => obtain ⟨v, σ, H, I, r, q⟩ := h; exact ⟨v, σ, H, I, r, h2 _ _ q⟩
theorem wS.imp {X : Cx} {D D' : Ends} {σ : L2.St} {H : Hp} (h : wS X st D σ H) (h1 : ∀ σ H, D.nx σ H → D'.nx σ H) (h2 : ∀ v H, D.rt v H → D'.rt v H) (h3 : ∀ σ H, D.bk σ H → D'.bk σ H) (h4 : ∀ σ H, D.ct σ H → D'.ct σ H) : wS X st D' σ H :=
  ⟨fun pins s I => thn (h.run pins s I) fun f s' q => SP.imp q h1 h2 h3 h4⟩
theorem wSs.imp {X : Cx} {D D' : Ends} {σ : L2.St} {H : Hp} (h : wSs X sts D σ H) (h1 : ∀ σ H, D.nx σ H → D'.nx σ H) (h2 : ∀ v H, D.rt v H → D'.rt v H) (h3 : ∀ σ H, D.bk σ H → D'.bk σ H) (h4 : ∀ σ H, D.ct σ H → D'.ct σ H) : wSs X sts D' σ H :=
  ⟨fun pins s I => thn (h.run pins s I) fun f s' q => SP.imp q h1 h2 h3 h4⟩
theorem sds_nil (h : D.nx ρ own) : SDs Z [] D ρ own := fun H0 Hf σ H m0 S R => wSs.of pss_nil ⟨Hf, ρ, own, m0, S, R, h⟩
theorem sds_cons (h : SD Z st { D with nx := fun ρ own => SDs Z sts D ρ own } ρ own) : SDs Z (st :: sts) D ρ own := fun H0 Hf σ H m0 S R => wSs.of (pss_cons psW pssW) (wS.imp (h H0 Hf σ H m0 S R) (fun σ' H' ⟨Hf', ρ', own', m', S', R', q⟩ => q H0 Hf' σ' H' m' S' R') (fun _ _ q => q) (fun _ _ q => q) (fun _ _ q => q))
theorem sds_one (h : SD Z st D ρ own) : SDs Z [st] D ρ own := fun H0 Hf σ H m0 S R => wSs.of (pss_one psW) (h H0 Hf σ H m0 S R)
/-- name = e -/
theorem sd_set (i : Nat) {z : Str} {pos' : Pos} (hN : Z.X.N.Nodup) (he : ES Z e ρ own s) (h : D.nx (ρ.set i s) own) (hi : Z.X.N[i]? = some z := by rfl) (hx : Loc Z.X.env.scope z := by first | exact Or.inl rfl | exact Or.inr rfl) (hs : swapsWith e (some (.Name z pos')) pos.line Z.X.env = pure false := by rfl)
    (hf : Z.X.fn z = true ∨ Z.X.env.scope.names.lookup z = some .local := by first | exact .inl rfl | exact .inr rfl | assumption) : SD Z (.Assign [.Name z pos'] e pos) D ρ own := fun H0 Hf σ H m0 S R => wS.of (ps_set hN hi hx peW hs hf) (he Hf σ H S R _ fun v Hf1 H1 m1 S1 r1 => ⟨Hf1, _, own, m0.trans m1, S1, (R.mono m1).set r1 i, h⟩)
/-- name = a new list of one's own -/
theorem sd_setL (i : Nat) {z : Str} {pos' : Pos} {ds : List PyData} (hN : Z.X.N.Nodup) (he : EL Z e ρ own ds) (h : ∀ p, D.nx (ρ.set i (.raw (.ref p))) ((p, .lst ds) :: own)) (hi : Z.X.N[i]? = some z := by rfl) (hx : Loc Z.X.env.scope z := by first | exact Or.inl rfl | exact Or.inr rfl) (hs : swapsWith e (some (.Name z pos')) pos.line Z.X.env = pure false := by rfl)
    (hf : Z.X.fn z = true ∨ Z.X.env.scope.names.lookup z = some .local := by first | exact .inl rfl | exact .inr rfl | assumption) : SD Z (.Assign [.Name z pos'] e pos) D ρ own := fun H0 Hf σ H m0 S R => wS.of (ps_set hN hi hx peW hs hf) (he Hf σ H S R _ fun p Hf1 H1 m1 S1 => ⟨Hf1, _, _, m0.trans m1, S1, (R.mono m1).set (s := .raw (.ref p)) rfl i, h p⟩)
theorem sd_ret (he : ES Z e ρ own s) (hs : s ≠ .un) (h : D.rt s own) : SD Z (.Return (some e) pos) D ρ own := fun H0 Hf σ H m0 S R => wS.of (ps_ret peW) (he Hf σ H S R _ fun v Hf1 H1 m1 S1 r1 => ⟨Hf1, s, own, m0.trans m1, S1, r1, hs, h⟩)
theorem sd_retD (he : ED Z e ρ own x) (h : D.rt (.d x) own) : SD Z (.Return (some e) pos) D ρ own := sd_ret he (fun q => nomatch q) h
theorem sd_retL {ds : List PyData} (he : EL Z e ρ own ds) (h : ∀ p, D.rt (.raw (.ref p)) ((p, .lst ds) :: own)) : SD Z (.Return (some e) pos) D ρ own := fun H0 Hf σ H m0 S R => wS.of (ps_ret peW) (he Hf σ H S R _ fun p Hf1 H1 m1 S1 => ⟨Hf1, .raw (.ref p), _, m0.trans m1, S1, rfl, (fun q => nomatch q), h p⟩)
theorem sd_expr (he : ES Z e ρ own s) (h : D.nx ρ own) (hs : swapsWith e none pos.line Z.X.env = pure false := by rfl) : SD Z (.Expr e pos) D ρ own := fun H0 Hf σ H m0 S R => wS.of (ps_expr peW hs) (he Hf σ H S R _ fun v Hf1 H1 m1 S1 r1 => ⟨Hf1, ρ, own, m0.trans m1, S1, R.mono m1, h⟩)
theorem sd_if {l : Bool} (hc : ET Z c ρ own l) (h1 : l = true → SDs Z A D ρ own) (h2 : l = false → SDs Z B D ρ own) : SD Z (.If c A B pos) D ρ own := fun H0 Hf σ H m0 S R => wS.of (ps_if ptW pssW pssW) (hc Hf σ H S R _ fun Hf1 H1 m1 S1 => by
  cases l with
  | true => exact iteT (h1 rfl H0 Hf1 σ H1 (m0.trans m1) S1 (R.mono m1))
  | false => exact iteF (h2 rfl H0 Hf1 σ H1 (m0.trans m1) S1 (R.mono m1)))
/-- weaker ends -/
theorem SDs.imp {D' : DE} (h : SDs Z sts D ρ own) (h1 : ∀ ρ own, D.nx ρ own → D'.nx ρ own) (h2 : ∀ s own, D.rt s own → D'.rt s own) (h3 : ∀ ρ own, D.bk ρ own → D'.bk ρ own) (h4 : ∀ ρ own, D.ct ρ own → D'.ct ρ own) : SDs Z sts D' ρ own := fun H0 Hf σ H m0 S R => wSs.imp (h H0 Hf σ H m0 S R)
  (fun _ _ ⟨a, b, c, m, d, e, f⟩ => ⟨a, b, c, m, d, e, h1 _ _ f⟩) (fun _ _ ⟨a, b, c, m, d, e, g, f⟩ => ⟨a, b, c, m, d, e, g, h2 _ _ f⟩) (fun _ _ ⟨a, b, c, m, d, e, f⟩ => ⟨a, b, c, m, d, e, h3 _ _ f⟩) (fun _ _ ⟨a, b, c, m, d, e, f⟩ => ⟨a, b, c, m, d, e, h4 _ _ f⟩)
/-- a list of one's own is data from here on (its name: slot i) -/
theorem sds_freeze (i : Nat) {oa ob : Own} {p : Addr} {ds : List PyData} (hi : ρ[i]? = some (.raw (.ref p))) (h : SDs Z sts D (ρ.set i (.d (.list ds))) (oa ++ ob)) : SDs Z sts D ρ (oa ++ (p, .lst ds) :: ob) := fun H0 Hf σ H m0 S R => by
  obtain ⟨Hf', m, S', r⟩ := S.freeze
  refine h H0 Hf' σ H (m0.trans m) S' ?_
  have hv := (R.mono m).raw hi
  have R' := (R.mono m).set (v := .ref p) (s := .d (.list ds)) r i
  have e : σ.set i (some (.ref p)) = σ := by
    refine List.ext_getElem? fun j => ?_
    by_cases hj : i = j
    · subst hj
      have hl : i < σ.length := by
        obtain ⟨h, _⟩ := List.getElem?_eq_some_iff.mp hv
        exact h
      rw [List.getElem?_set_self hl, hv]
    · rw [List.getElem?_set_ne hj]
  rw [e] at R'
  exact R'
end
end Sd


namespace Sd
open PySem PySem.Spec PyProof.Rows L2
/-! ### values with a change of what is owned -/
def EG (Z : Ctx) (e : Expr) (ρ : List Slot) (own : Own) (R : Slot → Own → Prop) : Prop := ∀ Hf σ H, Sat Z.B Hf H own → EnvR Hf σ ρ → ∀ Q : VK, (∀ v Hf' H' s own', Same Hf Hf' → Sat Z.B Hf' H' own' → SlotR Hf' v s → s ≠ .un → R s own' → Q v H') → wE Z.X e σ H Q
section
variable {Z : Ctx} {e a b c : Expr} {es : List Expr} {ρ : List Slot} {own : Own} {pos : Pos} {x y : PyData} {i j : Int} {s t u : Slot} {k : Nat} {R : Slot → Own → Prop}
theorem ES.toEG (h : ES Z e ρ own s) (hs : s ≠ .un) (q : R s own) : EG Z e ρ own R := fun Hf σ H S E Q k => h Hf σ H S E Q fun v Hf' H' m S' r => k v Hf' H' s own m S' r hs q
theorem EG.toES (h : EG Z e ρ own fun t o => t = s ∧ o = own) : ES Z e ρ own s := fun Hf σ H S E Q k => h Hf σ H S E Q fun v Hf' H' t o m S' r _ q => by
  obtain ⟨rfl, rfl⟩ := q
  exact k v Hf' H' m S' r
theorem EG.toEL {ds : List PyData} (h : EG Z e ρ own fun t o => ∃ p, t = .raw (.ref p) ∧ o = (p, .lst ds) :: own) : EL Z e ρ own ds := fun Hf σ H S E Q k => h Hf σ H S E Q fun v Hf' H' t o m S' r _ q => by
  obtain ⟨p, rfl, rfl⟩ := q
  cases (show v = .ref p from r)
  exact k p Hf' H' m S'
theorem EL.toEG {ds : List PyData} (h : EL Z e ρ own ds) (q : ∀ p, R (.raw (.ref p)) ((p, .lst ds) :: own)) : EG Z e ρ own R := fun Hf σ H S E Q k => h Hf σ H S E Q fun p Hf' H' m S' => k _ Hf' H' (.raw (.ref p)) _ m S' rfl (fun z => nomatch z) (q p)
theorem EG.imp {R' : Slot → Own → Prop} (h : EG Z e ρ own R) (q : ∀ s o, R s o → R' s o) : EG Z e ρ own R' := fun Hf σ H S E Q k => h Hf σ H S E Q fun v Hf' H' s o m S' r hs z => k v Hf' H' s o m S' r hs (q s o z)
/-- a op b, the right one with a change -/
theorem eg_bin {op : Operator} {r : R2} {R1 : Slot → Own → Prop} (ho : OpR Z.X (binaryOp op) r) (ha : ES Z a ρ own s) (hb : EG Z b ρ own R1)
    (hr : ∀ v w Hf H t own', Sat Z.B Hf H own' → SlotR Hf v s → SlotR Hf w t → R1 t own' → ∀ Q : VK, (∀ z Hf' H' u, Same Hf Hf' → Sat Z.B Hf' H' own' → SlotR Hf' z u → u ≠ .un → R u own' → Q z H') → r v w H Q) : EG Z (.BinOp a op b pos) ρ own R := fun Hf σ H S E Q q =>
  wE.of (pe_op ho peW peW) (ha Hf σ H S E _ fun v Hf1 H1 m1 S1 r1 => hb Hf1 σ H1 S1 (E.mono m1) _ fun w Hf2 H2 t own' m2 S2 r2 _ q2 => hr v w Hf2 H2 t own' S2 (r1.mono m2) r2 q2 Q fun z Hf3 H3 u m3 S3 r3 hu q3 => q z Hf3 H3 u own' ((m1.trans m2).trans m3) S3 r3 hu q3)
theorem eg_add {P : Int → Own → Prop} (ha : ED Z a ρ own (.int i)) (hb : EG Z b ρ own fun t o => ∃ j, t = .d (.int j) ∧ P j o) : EG Z (.BinOp a .Add b pos) ρ own (fun t o => ∃ j, t = .d (.int (i + j)) ∧ P j o) := eg_bin op_add ha hb fun v w Hf H t own' S r1 r2 q2 Q q => by
  obtain ⟨j, rfl, hp⟩ := q2
  cases r1; cases r2
  exact ⟨i, j, rfl, rfl, q _ Hf H (.d (.int (i + j))) (Same.refl _) S (Rep.int (i + j)) (fun z => nomatch z) ⟨j, rfl, hp⟩⟩
end

/-! ### built-ins called by name -/
section
variable {Z : Ctx} {e a b c : Expr} {es : List Expr} {ρ : List Slot} {own : Own} {pos p : Pos} {x y : PyData} {i j : Int} {s t u : Slot} {k : Nat} {ss : List Slot}
theorem es_callB {id : String} {z : Str} {r : List V → Hp → VK → Prop} (hc : CallR Z.X (.builtin id) r) (hg : Gl Z.X z) (hm : Z.X.mg z = none) (hv : bootBuiltins z = some (.builtin id)) (ha : EA Z (e :: es) ρ own ss)
    (hr : ∀ vs Hf H, Sat Z.B Hf H own → SlotsR Hf vs ss → ∀ Q : VK, (∀ v Hf' H', Same Hf Hf' → Sat Z.B Hf' H' own → SlotR Hf' v s → Q v H') → r vs H Q)
    (hn : z ≠ "__name__" := by decide) (hdb : (z == ("__debug__" : Str)) = false := by decide) (hs : starEach (e :: es) Z.X.env = (false, eval e Z.X.env) :: starEach es Z.X.env := by first | assumption | rfl) (hpl : (backTo pos (starEach es Z.X.env)).any (·.1) = false := by first | assumption | rfl) : ES Z (.Call (.Name z p) (e :: es) [] pos) ρ own s := fun Hf σ H S E Q q =>
  wE.of (pe_callB hc hg hm hv paW hn hdb hs hpl) (ha Hf σ H S E _ fun vs Hf1 H1 m1 S1 r1 => hr vs Hf1 H1 S1 r1 Q fun v Hf2 H2 m2 S2 r2 => q v Hf2 H2 (m1.trans m2) S2 r2)
theorem el_callTy {T : String} {z : Str} {ds : List PyData} {r : List V → Hp → VK → Prop} (hc : CallR Z.X (.type T) r) (hg : Gl Z.X z) (hm : Z.X.mg z = none) (hv : bootBuiltins z = some (.type T)) (ha : EA Z (e :: es) ρ own ss)
    (hr : ∀ vs Hf H, Sat Z.B Hf H own → SlotsR Hf vs ss → ∀ Q : VK, (∀ p Hf' H', Same Hf Hf' → Sat Z.B Hf' H' ((p, .lst ds) :: own) → Q (.ref p) H') → r vs H Q)
    (hn : z ≠ "__name__" := by decide) (hdb : (z == ("__debug__" : Str)) = false := by decide) (hs : starEach (e :: es) Z.X.env = (false, eval e Z.X.env) :: starEach es Z.X.env := by first | assumption | rfl) (hpl : (backTo pos (starEach es Z.X.env)).any (·.1) = false := by first | assumption | rfl) : EL Z (.Call (.Name z p) (e :: es) [] pos) ρ own ds := fun Hf σ H S E Q q =>
  wE.of (pe_callTy hc hg hm hv paW hn hdb hs hpl) (ha Hf σ H S E _ fun vs Hf1 H1 m1 S1 r1 => hr vs Hf1 H1 S1 r1 Q fun v Hf2 H2 m2 S2 => q v Hf2 H2 (m1.trans m2) S2)
theorem SlotsR.one {Hf : Hp} {vs : List V} (h : SlotsR Hf vs [s]) : ∃ v, vs = [v] ∧ SlotR Hf v s := by
  cases h with
  | cons a b => cases b; exact ⟨_, rfl, a⟩
theorem SlotsR.two {Hf : Hp} {vs : List V} (h : SlotsR Hf vs [s, t]) : ∃ v w, vs = [v, w] ∧ SlotR Hf v s ∧ SlotR Hf w t := by
  cases h with
  | cons a b =>
    obtain ⟨w, rfl, c⟩ := b.one
    exact ⟨_, w, rfl, a, c⟩
/-- len of a list -/
theorem ed_len {ds : List PyData} (hm : Z.X.mg "len" = none) (h : ES Z e ρ own s) (L : Lst own s ds) (hg : Gl Z.X "len" := by rfl) (hs : starEach [e] Z.X.env = (false, eval e Z.X.env) :: starEach [] Z.X.env := by rfl) : ED Z (.Call (.Name "len" p) [e] [] pos) ρ own (.int ds.length) :=
  es_callB call_len_seq hg hm PySem.boot_len (ea_cons h ea_nil hs) fun vs Hf H S r0 Q q => by
    obtain ⟨v, rfl, r⟩ := r0.one
    obtain ⟨p, vs, rfl, h1, h2⟩ := L.at S r
    exact ⟨p, vs, rfl, .inl (SqL.of h1), by rw [h2.length]; exact q _ Hf H (Same.refl _) S (.int _)⟩
theorem ed_lenT {ds : List PyData} (hm : Z.X.mg "len" = none) (h : ED Z e ρ own (.tuple ds)) (hg : Gl Z.X "len" := by rfl) (hs : starEach [e] Z.X.env = (false, eval e Z.X.env) :: starEach [] Z.X.env := by rfl) : ED Z (.Call (.Name "len" p) [e] [] pos) ρ own (.int ds.length) :=
  es_callB call_len_seq hg hm PySem.boot_len (ea_cons h ea_nil hs) fun vs Hf H S r0 Q q => by
    obtain ⟨v, rfl, r⟩ := r0.one
    cases (show Rep Hf v (.tuple ds) from r) with
    | tup h1 h2 => exact ⟨_, _, rfl, .inr (SqT.of (S.e1 _ _ h1)), by rw [h2.length]; exact q _ Hf H (Same.refl _) S (.int _)⟩
/-- sum of a list of ints -/
theorem ed_sum {ns : List Int} (g : Gd Z k) (hm : Z.X.mg "sum" = none) (h : ES Z e ρ own s) (L : Lst own s (ns.map PyData.int)) (hg : Gl Z.X "sum" := by rfl) (hs : starEach [e] Z.X.env = (false, eval e Z.X.env) :: starEach [] Z.X.env := by rfl) : ED Z (.Call (.Name "sum" p) [e] [] pos) ρ own (.int ns.sum) :=
  es_callB (cr_sum g.calm) hg hm (by decide +kernel) (ea_cons h ea_nil hs) fun vs Hf H S r0 Q q => by
    obtain ⟨v, rfl, r⟩ := r0.one
    obtain ⟨p, vs, rfl, h1, h2⟩ := L.at S r
    cases h2.of_ints
    exact ⟨p, ns, rfl, SqL.of h1, q _ Hf H (Same.refl _) S (.int _)⟩
theorem ed_abs (hm : Z.X.mg "abs" = none) (h : ED Z e ρ own (.int i)) (hg : Gl Z.X "abs" := by rfl) (hs : starEach [e] Z.X.env = (false, eval e Z.X.env) :: starEach [] Z.X.env := by rfl) : ED Z (.Call (.Name "abs" p) [e] [] pos) ρ own (.int (if i < 0 then -i else i)) :=
  es_callB call_abs hg hm (by decide +kernel) (ea_cons h ea_nil hs) fun vs Hf H S r0 Q q => by
    obtain ⟨v, rfl, r⟩ := r0.one
    cases r
    exact ⟨i, rfl, q _ Hf H (Same.refl _) S (.int _)⟩
theorem ed_all {ns : List Bool} (g : Gd Z k) (hm : Z.X.mg "all" = none) (h : ES Z e ρ own s) (L : Lst own s (ns.map PyData.bool)) (hg : Gl Z.X "all" := by rfl) (hs : starEach [e] Z.X.env = (false, eval e Z.X.env) :: starEach [] Z.X.env := by rfl) : ED Z (.Call (.Name "all" p) [e] [] pos) ρ own (.bool (ns.all id)) :=
  es_callB (cr_all g.calm) hg hm (by decide +kernel) (ea_cons h ea_nil hs) fun vs Hf H S r0 Q q => by
    obtain ⟨v, rfl, r⟩ := r0.one
    obtain ⟨p, vs, rfl, e1, e2⟩ := L.at S r
    cases e2.of_bls
    exact ⟨p, ns, rfl, SqL.of e1, q _ Hf H (Same.refl _) S (.bl _)⟩
/-- isinstance of data -/
def tyD : PyData → String
  | .none => "NoneType"
  | .bool _ => "bool"
  | .int _ => "int"
  | .str _ => "str"
  | .list _ => "list"
  | .tuple _ => "tuple"
  | .dict _ => "dict"
theorem tyX_rep {K : PySem.W.Frag} {H : Hp} {v : V} {d : PyData} (r : Rep H v d) : TyX K H v (.type (tyD d)) := by
  cases r with
  | non => exact .base .non
  | bl b => exact .base (.bl b)
  | int i => exact .base (.int i)
  | str z => exact .base (.str z)
  | lst h _ => exact .base (.lst h)
  | tup h _ => exact .base (.tup h)
theorem ed_isi {T : String} {l : Bool} (hm : Z.X.mg "isinstance" = none) (h : ES Z a ρ own s) (d : Dat own s x) (hc : EV Z b ρ own (.ty T)) (hk : kitB (tyD x) T = some l) (hg : Gl Z.X "isinstance" := by rfl) (hs : starEach [a, b] Z.X.env = (false, eval a Z.X.env) :: starEach [b] Z.X.env := by rfl) (hs2 : starEach [b] Z.X.env = (false, eval b Z.X.env) :: starEach [] Z.X.env := by rfl) (hpl : (backTo pos (starEach [b] Z.X.env)).any (·.1) = false := by rfl) :
    ED Z (.Call (.Name "isinstance" p) [a, b] [] pos) ρ own (.bool l) :=
  es_callB call_isi hg hm (by decide +kernel) (ea_cons h (ea_cons hc ea_nil hs2) hs) (fun vs Hf H S r0 Q q => by
    obtain ⟨v, w, rfl, r1, r2⟩ := r0.two
    cases (show w = .ty T from r2)
    exact ⟨v, .ty T, .type (tyD x), .type T, l, rfl, .ty T, tyX_rep (d.at S r1), kit_ty hk, q _ Hf H (Same.refl _) S (.bl l)⟩) (by decide) (by decide) hs hpl
end

/-! ### targets -/
structure wG (X : Cx) (tg : Expr) (v : V) (σ : L2.St) (H : Hp) (Q : L2.St → Hp → Prop) : Prop where
  run : ∀ (pins : List (Addr × Obj)) (s : Shared) (u : Value), Inv X pins σ H s → RelV v u → wpAny (model X.prog X.w) X.A (assign tg X.env u) (fun _ s' => ∃ σ' H', Inv X pins σ' H' s' ∧ Q σ' H') X.xe s
structure wGs (X : Cx) (ts : List Expr) (vs : List V) (σ : L2.St) (H : Hp) (Q : L2.St → Hp → Prop) : Prop where
  run : ∀ (pins : List (Addr × Obj)) (s : Shared) (us : List Value), Inv X pins σ H s → Vals vs us → wpAny (model X.prog X.w) X.A (assignInOrder ((assignEach ts X.env).map (·.2)) us) (fun _ s' => ∃ σ' H', Inv X pins σ' H' s' ∧ Q σ' H') X.xe s
theorem pgW {X : Cx} {tg : Expr} : PG X tg (wG X tg) := ⟨fun pins s _ _ _ u _ I r h => h.run pins s u I r⟩
theorem pgsW {X : Cx} {ts : List Expr} : PGs X ts (wGs X ts) := ⟨fun pins s _ _ _ us _ I r h => h.run pins s us I r⟩
theorem wG.of {X : Cx} {tg : Expr} {g : TG} (h : PG X tg g) {v : V} {σ : L2.St} {H : Hp} {Q : L2.St → Hp → Prop} (q : g v σ H Q) : wG X tg v σ H Q := ⟨fun pins s u I r => h.run pins s σ H v u Q I r q⟩
theorem wGs.of {X : Cx} {ts : List Expr} {g : TGs} (h : PGs X ts g) {v : List V} {σ : L2.St} {H : Hp} {Q : L2.St → Hp → Prop} (q : g v σ H Q) : wGs X ts v σ H Q := ⟨fun pins s u I r => h.run pins s σ H v u Q I r q⟩
/-- σ' is σ but for the slots is -/
def But (is : List Nat) (σ σ' : L2.St) : Prop := σ'.length = σ.length ∧ ∀ i : Nat, i ∉ is → σ'[i]? = σ[i]?
def GT (Z : Ctx) (tg : Expr) (x : PyData) (ρ ρ' : List Slot) (is : List Nat) : Prop := ∀ own Hf σ H v, Sat Z.B Hf H own → EnvR Hf σ ρ → Rep Hf v x → ∀ Q : L2.St → Hp → Prop, (∀ σ', EnvR Hf σ' ρ' → But is σ σ' → Q σ' H) → wG Z.X tg v σ H Q
def GTs (Z : Ctx) (ts : List Expr) (xs : List PyData) (ρ ρ' : List Slot) (is : List Nat) : Prop := ∀ own Hf σ H vs, Sat Z.B Hf H own → EnvR Hf σ ρ → Reps Hf vs xs → ∀ Q : L2.St → Hp → Prop, (∀ σ', EnvR Hf σ' ρ' → But is σ σ' → Q σ' H) → wGs Z.X ts vs σ H Q
section
variable {Z : Ctx} {e : Expr} {es : List Expr} {ρ ρ' ρ'' : List Slot} {x : PyData} {xs : List PyData} {is js : List Nat} {pos : Pos}
theorem gt_name (i : Nat) {z : Str} (nd : Z.X.N.Nodup) (hi : Z.X.N[i]? = some z := by rfl) (hx : Loc Z.X.env.scope z := by first | exact Or.inl rfl | exact Or.inr rfl) (hf : Z.X.fn z = true ∨ Z.X.env.scope.names.lookup z = some .local := by first | exact .inl rfl | exact .inr rfl | assumption) : GT Z (.Name z pos) x ρ (ρ.set i (.d x)) [i] := fun own Hf σ H v S R r Q q =>
  wG.of (pg_name nd hi hx hf) (q _ (R.set (s := .d x) r i) ⟨by rw [List.length_set], fun j hj => by rw [List.getElem?_set_ne (fun z => hj (by simp [z]))]⟩)
theorem gts_nil : GTs Z [] [] ρ ρ [] := fun own Hf σ H v S R r Q q => wGs.of pgs_nil (by
  cases r
  exact ⟨rfl, q σ R ⟨rfl, fun _ _ => rfl⟩⟩)
theorem gts_cons (h1 : GT Z e x ρ ρ' is) (h2 : GTs Z es xs ρ' ρ'' js) (hs : (assignEach (e :: es) Z.X.env).map (·.2) = assign e Z.X.env :: (assignEach es Z.X.env).map (·.2) := by rfl) : GTs Z (e :: es) (x :: xs) ρ ρ'' (is ++ js) := fun own Hf σ H vs S R r Q q => wGs.of (pgs_cons pgW pgsW hs) (by
  cases r with
  | cons a b =>
    refine ⟨_, _, rfl, h1 own Hf σ H _ S R a _ fun σ1 R1 b1 => h2 own Hf σ1 H _ S R1 b Q fun σ2 R2 b2 => q σ2 R2 ⟨b2.1.trans b1.1, fun i hi => ?_⟩⟩
    rw [b2.2 i (fun z => hi (List.mem_append_right _ z)), b1.2 i (fun z => hi (List.mem_append_left _ z))])
theorem gt_tup {n : Nat} {kk : Nat} (hc : Z.X.calm = true) (h : GTs Z es xs ρ ρ' is) (hl : xs.length = n) (hn : (assignEach es Z.X.env).length = n := by rfl) (hst : (assignEach es Z.X.env).findIdx? (·.1) = none := by rfl) : GT Z (.Tuple es kk pos) (.tuple xs) ρ ρ' is := fun own Hf σ H v S R r Q q => wG.of (pg_tup hc pgsW hn hst) (by
  cases r with
  | tup h1 h2 => exact ⟨_, _, rfl, SqT.of (S.e1 _ _ h1), by rw [h2.length, hl], h own Hf σ H _ S R h2 Q q⟩)
end

/-! ### what is walked -/
structure Walk (B : Bs) (J : It) (Hf : Hp) (ys : List PyData) (Po : Own → Prop) : Prop where
  go : ∀ i Hf' H' own', Same Hf Hf' → Sat B Hf' H' own' → Po own' → i < ys.length → J.go i H'
  yld : ∀ i y Hf' H' own' x H2, Same Hf Hf' → Sat B Hf' H' own' → Po own' → ys[i]? = some y → J.yld i H' x H2 → ∃ Hf2, Same Hf' Hf2 ∧ Sat B Hf2 H2 own' ∧ Rep Hf2 x y
  stop : ∀ i Hf' H' own', Same Hf Hf' → Sat B Hf' H' own' → Po own' → ys.length ≤ i → J.stop i H'
def IT (Z : Ctx) (tg iter : Expr) (ρ : List Slot) (own : Own) (Po : Own → Prop) (ys : List PyData) : Prop := ∃ wi : TI, PI Z.X tg iter wi ∧ ∀ Hf σ H, Sat Z.B Hf H own → EnvR Hf σ ρ → ∀ R : It → Hp → Prop, (∀ J Hf' H', Same Hf Hf' → Sat Z.B Hf' H' own → Walk Z.B J Hf' ys Po → R J H') → wi σ H R
section
variable {Z : Ctx} {e tg a b c : Expr} {ρ : List Slot} {own : Own} {pos p : Pos} {i j : Int} {k : Nat} {s : Slot} {ds : List PyData}
theorem it_list (h : ED Z e ρ own (.list ds)) : IT Z tg e ρ own (fun _ => True) ds := ⟨_, pi_list peW, fun Hf σ H S E R q => h Hf σ H S E _ fun v Hf1 H1 m1 S1 r1 => by
  cases r1 with
  | @lst a xs _ h1 h2 =>
    refine ⟨a, rfl, ⟨xs, SqL.of (S1.e1 _ _ h1)⟩, q _ Hf1 H1 m1 S1 ⟨fun i Hf' H' own' m S' _ hi => ?_, fun i y Hf' H' own' x H2 m S' _ hy hx => ?_, fun i Hf' H' own' m S' _ hi => ?_⟩⟩
    · have hl : i < xs.length := by rw [h2.length]; exact hi
      exact ⟨xs, xs[i], SqL.of (S'.e1 _ _ (m _ _ h1)), List.getElem?_eq_getElem hl⟩
    · obtain ⟨rfl, hx⟩ := hx
      obtain ⟨v, h3, h4⟩ := h2.get hy
      have e1 := hx xs (SqL.of (S'.e1 _ _ (m _ _ h1)))
      rw [h3] at e1
      cases e1
      exact ⟨Hf', Same.refl _, S', h4.mono m⟩
    · exact ⟨xs, SqL.of (S'.e1 _ _ (m _ _ h1)), by rw [h2.length]; exact hi⟩⟩
/-- over a list of one's own that stays -/
theorem it_own {q : Addr} (h : EV Z e ρ own (.ref q)) (hq : (q, OO.lst ds) ∈ own) : IT Z tg e ρ own (fun o => (q, OO.lst ds) ∈ o) ds := ⟨_, pi_list peW, fun Hf σ H S E R qq => h Hf σ H S E _ fun v Hf1 H1 m1 S1 r1 => by
  cases (show v = .ref q from r1)
  obtain ⟨_, _, xs0, h1, h2⟩ := S1.at hq
  have inj : ∀ {H' : Hp} {xs ys : List V}, H' q = some (.lst xs) → SqL Z.X.K H' q ys → True := fun _ _ => trivial
  refine ⟨q, rfl, ⟨xs0, SqL.of h1⟩, qq _ Hf1 H1 m1 S1 ⟨fun i Hf' H' own' m S' ho hi => ?_, fun i y Hf' H' own' x H2 m S' ho hy hx => ?_, fun i Hf' H' own' m S' ho hi => ?_⟩⟩
  · obtain ⟨_, _, xs, h3, h4⟩ := S'.at ho
    have hl : i < xs.length := by rw [h4.length]; exact hi
    exact ⟨xs, xs[i], SqL.of h3, List.getElem?_eq_getElem hl⟩
  · obtain ⟨rfl, hx⟩ := hx
    obtain ⟨_, _, xs, h3, h4⟩ := S'.at ho
    obtain ⟨v, h5, h6⟩ := h4.get hy
    have e1 := hx xs (SqL.of h3)
    rw [h5] at e1
    cases e1
    exact ⟨Hf', Same.refl _, S', h6⟩
  · obtain ⟨_, _, xs, h3, h4⟩ := S'.at ho
    exact ⟨xs, SqL.of h3, by rw [h4.length]; exact hi⟩⟩
theorem it_tup (h : ED Z e ρ own (.tuple ds)) : IT Z tg e ρ own (fun _ => True) ds := ⟨_, pi_tup peW, fun Hf σ H S E R q => h Hf σ H S E _ fun v Hf1 H1 m1 S1 r1 => by
  cases r1 with
  | @tup a xs _ h1 h2 =>
    refine ⟨a, rfl, ⟨xs, SqT.of (S1.e1 _ _ h1)⟩, q _ Hf1 H1 m1 S1 ⟨fun i Hf' H' own' m S' _ hi => ?_, fun i y Hf' H' own' x H2 m S' _ hy hx => ?_, fun i Hf' H' own' m S' _ hi => ?_⟩⟩
    · have hl : i < xs.length := by rw [h2.length]; exact hi
      exact ⟨xs, xs[i], SqT.of (S'.e1 _ _ (m _ _ h1)), List.getElem?_eq_getElem hl⟩
    · obtain ⟨rfl, hx⟩ := hx
      obtain ⟨v, h3, h4⟩ := h2.get hy
      have e1 := hx xs (SqT.of (S'.e1 _ _ (m _ _ h1)))
      rw [h3] at e1
      cases e1
      exact ⟨Hf', Same.refl _, S', h4.mono m⟩
    · exact ⟨xs, SqT.of (S'.e1 _ _ (m _ _ h1)), by rw [h2.length]; exact hi⟩⟩
/-- lo, lo + 1, .. as data -/
def rng (lo : Int) (n : Nat) : List PyData := (List.range n).map fun (k : Nat) => PyData.int (lo + (k : Int))
theorem rng_length (lo : Int) (n : Nat) : (rng lo n).length = n := by simp [rng]
theorem rng_get {lo : Int} {n k : Nat} {y : PyData} (h : (rng lo n)[k]? = some y) : k < n ∧ y = .int (lo + (k : Int)) := by
  unfold rng at h
  rw [List.getElem?_map] at h
  cases e : (List.range n)[k]? with
  | none => rw [e] at h; cases h
  | some m =>
    rw [e] at h
    obtain ⟨h1, h2⟩ := List.getElem?_eq_some_iff.mp e
    rw [List.getElem_range] at h2
    subst h2
    cases h
    exact ⟨by simpa using h1, rfl⟩
theorem walk_rng {B : Bs} {Hf : Hp} (lo : Int) (n : Nat) : Walk B (Itr lo n) Hf (rng lo n) (fun _ => True) where
  go := fun i _ _ _ _ _ _ hi => by rw [rng_length] at hi; exact hi
  yld := fun i y Hf' H' own' x H2 m S _ hy hx => by
    obtain ⟨rfl, rfl⟩ := hx
    obtain ⟨_, rfl⟩ := rng_get hy
    exact ⟨Hf', Same.refl _, S, .int _⟩
  stop := fun i _ _ _ _ _ _ hi => by rw [rng_length] at hi; exact hi
theorem it_range1 (hm : Z.X.mg "range" = none) (h : ED Z a ρ own (.int i)) (hi : -1000000 ≤ i ∧ i ≤ 1000000) (hg : Gl Z.X "range" := by rfl) (hs : starEach [a] Z.X.env = [(false, eval a Z.X.env)] := by rfl) : IT Z tg (.Call (.Name "range" p) [a] [] pos) ρ own (fun _ => True) (rng 0 i.toNat) :=
  ⟨_, pi_range1 hg hm paW hs, fun Hf σ H S E R q => (ea_cons h ea_nil hs) Hf σ H S E _ fun vs Hf1 H1 m1 S1 r1 => by
    obtain ⟨v, rfl, r⟩ := r1.one
    cases r
    exact ⟨i, rfl, by omega, by omega, q _ Hf1 H1 m1 S1 (walk_rng 0 _)⟩⟩
theorem it_range2 (hm : Z.X.mg "range" = none) (h : ED Z a ρ own (.int i)) (h' : ED Z b ρ own (.int j)) (hi : -1000000 ≤ i ∧ i ≤ 1000000 ∧ -1000000 ≤ j ∧ j ≤ 1000000) (hg : Gl Z.X "range" := by rfl) (hs : starEach [a, b] Z.X.env = [(false, eval a Z.X.env), (false, eval b Z.X.env)] := by rfl) (hs2 : starEach [b] Z.X.env = [(false, eval b Z.X.env)] := by rfl) : IT Z tg (.Call (.Name "range" p) [a, b] [] pos) ρ own (fun _ => True) (rng i (j - i).toNat) :=
  ⟨_, pi_range2 hg hm paW hs hs2, fun Hf σ H S E R q => (ea_cons h (ea_cons h' ea_nil hs2) (by rw [hs, hs2])) Hf σ H S E _ fun vs Hf1 H1 m1 S1 r0 => by
    obtain ⟨v, w, rfl, r1, r2⟩ := r0.two
    cases r1; cases r2
    exact ⟨i, j, rfl, by omega, q _ Hf1 H1 m1 S1 (walk_rng i _)⟩⟩
/-- enumerate of a list -/
def enumD (ds : List PyData) : List PyData := (List.range ds.length).map fun (k : Nat) => PyData.tuple [.int (k : Int), ds.getD k .none]
theorem enumD_get {ds : List PyData} {k : Nat} {y : PyData} (h : (enumD ds)[k]? = some y) : ∃ d, ds[k]? = some d ∧ y = .tuple [.int (k : Int), d] := by
  unfold enumD at h
  rw [List.getElem?_map] at h
  cases e : (List.range ds.length)[k]? with
  | none => rw [e] at h; cases h
  | some m =>
    rw [e] at h
    obtain ⟨h1, h2⟩ := List.getElem?_eq_some_iff.mp e
    rw [List.getElem_range] at h2
    subst h2
    cases h
    have h1' : k < ds.length := by simpa using h1
    exact ⟨ds[k], List.getElem?_eq_getElem h1', by dsimp only; rw [List.getD_eq_getElem?_getD, List.getElem?_eq_getElem h1']; rfl⟩
theorem it_enum {elts : List Expr} {kk : Nat} {tpos : Pos} (hm : Z.X.mg "enumerate" = none) (h : ED Z e ρ own (.list ds)) (hg : Gl Z.X "enumerate" := by rfl) (hs : starEach [e] Z.X.env = [(false, eval e Z.X.env)] := by rfl) : IT Z (.Tuple elts kk tpos) (.Call (.Name "enumerate" p) [e] [] pos) ρ own (fun _ => True) (enumD ds) :=
  ⟨_, pi_enum hg hm paW hs, fun Hf σ H S E R q => (ea_cons h ea_nil hs) Hf σ H S E _ fun vs Hf1 H1 m1 S1 r1 => by
    obtain ⟨v, rfl, r⟩ := r1.one
    cases (show Rep Hf1 v (.list ds) from r) with
    | @lst a xs _ h1 h2 =>
      refine ⟨a, xs, rfl, SqL.of (S1.e1 _ _ h1), q _ Hf1 H1 m1 S1 ⟨fun i Hf' H' own' m S' _ hi => ?_, fun i y Hf' H' own' x H2 m S' _ hy hx => ?_, fun i Hf' H' own' m S' _ hi => ?_⟩⟩
      · have hl : i < xs.length := by rw [h2.length]; simpa [enumD] using hi
        exact ⟨xs, xs[i], SqL.of (S'.e1 _ _ (m _ _ h1)), List.getElem?_eq_getElem hl⟩
      · obtain ⟨T, z, rfl, nT, rfl, hx⟩ := hx
        obtain ⟨d, hd, rfl⟩ := enumD_get hy
        obtain ⟨v, h3, h4⟩ := h2.get hd
        have e1 := hx xs (SqL.of (S'.e1 _ _ (m _ _ h1)))
        rw [h3] at e1
        cases e1
        exact ⟨_, S'.new_same nT _, S'.new nT _, .tup upd_same (.cons (.int _) (.cons (h4.mono (m.trans (S'.new_same nT _))) .nil))⟩
      · exact ⟨xs, SqL.of (S'.e1 _ _ (m _ _ h1)), by rw [h2.length]; simpa [enumD] using hi⟩⟩
end

/-! ### loops -/
section
variable {Z : Ctx} {D : DE} {ρ : List Slot} {own : Own} {pos : Pos} {body : List Stmt} {tg iter c : Expr} {ys : List PyData} {Po : Own → Prop} {k : Nat}
theorem sd_for (g : Gd Z k) (it : IT Z tg iter ρ own Po ys) (I : Nat → List Slot → Own → Prop) (h0 : I 0 ρ own) (hp : ∀ i ρ own, I i ρ own → Po own)
    (step : ∀ i y ρ1 own1, ys[i]? = some y → I i ρ1 own1 → ∃ ρ2 is, GT Z tg y ρ1 ρ2 is ∧ SDs Z body { D with nx := I (i + 1), ct := I (i + 1), bk := D.nx } ρ2 own1) (hd : ∀ ρ1 own1, I ys.length ρ1 own1 → D.nx ρ1 own1)
    (hs : ∀ x, foldedSetIterable iter Z.X.env x = pure x := by intro _; rfl) : SD Z (.For tg iter body [] pos) D ρ own := by
  obtain ⟨wi, hi, hw⟩ := it
  refine fun H0 Hf σ H m0 S E => wS.of (ps_for g.po g.calm hi pgW pssW hs) (hw Hf σ H S E _ fun J Hf1 H1 m1 S1 W => ?_)
  refine ⟨fun i m σ' H' => m = ys.length - i ∧ i ≤ ys.length ∧ ∃ Hf' ρ' own', Same Hf1 Hf' ∧ Sat Z.B Hf' H' own' ∧ EnvR Hf' σ' ρ' ∧ I i ρ' own', ⟨ys.length, by omega, by omega, Hf1, ρ, own, Same.refl _, S1, E.mono m1, h0⟩, ?_⟩
  rintro i m σ' H' ⟨rfl, hi, Hf', ρ', own', m', S', E', q⟩
  by_cases hlt : i < ys.length
  · refine .inr ⟨W.go i Hf' H' own' m' S' (hp _ _ _ q) hlt, fun σ2 H2 => ∃ Hf2 ρ2 own2, Same Hf1 Hf2 ∧ Sat Z.B Hf2 H2 own2 ∧ EnvR Hf2 σ2 ρ2 ∧ I (i + 1) ρ2 own2, fun σ2 H2 ⟨Hf2, ρ2, own2, m2, S2, E2, q2⟩ => ⟨ys.length - (i + 1), by omega, rfl, hlt, Hf2, ρ2, own2, m2, S2, E2, q2⟩, fun x H2 hx => ?_⟩
    obtain ⟨Hf2, m2, S2, r2⟩ := W.yld i _ Hf' H' own' x H2 m' S' (hp _ _ _ q) (List.getElem?_eq_getElem hlt) hx
    obtain ⟨ρ2, is, gt, sb⟩ := step i _ ρ' own' (List.getElem?_eq_getElem hlt) q
    refine gt own' Hf2 σ' H2 x S2 (E'.mono m2) r2 _ fun σ3 E3 _ => ?_
    refine wSs.imp (sb Hf1 Hf2 σ3 H2 (m'.trans m2) S2 E3) (fun _ _ q => q) (fun v H3 ⟨a1, a2, a3, a4, a5⟩ => ⟨a1, a2, a3, (m0.trans m1).trans a4, a5⟩) (fun v H3 ⟨a1, a2, a3, a4, a5⟩ => ⟨a1, a2, a3, (m0.trans m1).trans a4, a5⟩) (fun _ _ q => q)
  · have e : i = ys.length := by omega
    subst e
    exact .inl ⟨W.stop _ Hf' H' own' m' S' (hp _ _ _ q) (Nat.le_refl _), Hf', ρ', own', (m0.trans m1).trans m', S', E', hd _ _ q⟩
end
end Sd


namespace Sd
open PySem PySem.Spec PyProof.Rows L2
/-! ### promises of defs, over data -/
inductive Out where
  | ret (s : Slot) (own : Own)
  | exc (C : Addr) (own : Own)
abbrev Pr := List Slot → Own → (Out → Prop) → Prop
def spG (Pre : Pr) : Sp := fun vs H Q E => ∃ Hf HB ss own post, Sat ⟨Hf, HB⟩ Hf H own ∧ SlotsR Hf vs ss ∧ Pre ss own post ∧ (∀ s own' v Hf' H', post (.ret s own') → Sat ⟨Hf, HB⟩ Hf' H' own' → SlotR Hf' v s → s ≠ .un → Q v H') ∧
  (∀ C own' Hf' H', post (.exc C own') → Sat ⟨Hf, HB⟩ Hf' H' own' → E (.ref C) none H')
/-- the heap without some addresses -/
def less (H : Hp) (l : List Addr) : Hp := fun p => if p ∈ l then none else H p
theorem less_out {H : Hp} {l : List Addr} {p : Addr} (h : p ∉ l) : less H l p = H p := by unfold less; rw [if_neg h]
theorem less_in {H : Hp} {l : List Addr} {p : Addr} (h : p ∈ l) : less H l p = none := by unfold less; rw [if_pos h]
theorem less_none {H : Hp} {l : List Addr} {p : Addr} (h : less H l p = none) : p ∈ l ∨ H p = none := by
  by_cases hp : p ∈ l
  · exact .inl hp
  · rw [less_out hp] at h; exact .inr h
/-- into a callee with part of what is owned, and back -/
theorem Sat.into {B : Bs} {Hf H : Hp} {oa o1 ob : Own} (S : Sat B Hf H (oa ++ o1 ++ ob)) : Sat ⟨Hf, less H (o1.map (·.1))⟩ Hf H o1 := by
  have nd := S.nd
  rw [List.map_append, List.map_append] at nd
  refine ⟨Same.refl _, S.e1, fun p o h => ?_, fun p o h hb => ?_, fun q hq => ?_, (List.nodup_append.mp (List.nodup_append.mp nd).1).2.1, S.tp⟩
  · have h : less H (o1.map (·.1)) p = some o := h
    by_cases hp : p ∈ o1.map (·.1)
    · rw [show less H (o1.map (·.1)) p = none from less_in hp] at h; cases h
    · rw [← less_out (H := H) hp]; exact h
  · rw [show Hf p = none from hb] at h; cases h
  · obtain ⟨a, b, c⟩ := S.ow q (by simp [hq])
    exact ⟨a, less_in (List.mem_map.mpr ⟨q, hq, rfl⟩), c⟩
theorem Sat.back {B : Bs} {Hf H Hf' H' : Hp} {oa o1 o1' ob : Own} (S : Sat B Hf H (oa ++ o1 ++ ob)) (S' : Sat ⟨Hf, less H (o1.map (·.1))⟩ Hf' H' o1') : Sat B Hf' H' (oa ++ o1' ++ ob) := by
  have nd := S.nd
  rw [List.map_append, List.map_append] at nd
  obtain ⟨nd12, nd3, d3⟩ := List.nodup_append.mp nd
  obtain ⟨nd1, nd2, d1⟩ := List.nodup_append.mp nd12
  have b1 : ∀ p, p ∈ o1.map (·.1) → B.HB p = none := fun p hp => by
    obtain ⟨q, hq, rfl⟩ := List.mem_map.mp hp
    exact (S.ow q (by simp [hq])).2.1
  have other : ∀ q, q ∈ oa ∨ q ∈ ob → q ∈ oa ++ o1 ++ ob ∧ q.1 ∉ o1.map (·.1) := fun q hq => by
    rcases hq with h | h
    · exact ⟨by simp [h], fun z => d1 _ (List.mem_map.mpr ⟨q, h, rfl⟩) _ z rfl⟩
    · exact ⟨by simp [h], fun z => d3 _ (List.mem_append_right _ z) _ (List.mem_map.mpr ⟨q, h, rfl⟩) rfl⟩
  have there : ∀ q, q ∈ oa ∨ q ∈ ob → ∃ u, less H (o1.map (·.1)) q.1 = some u ∧ H q.1 = some u := fun q hq => by
    obtain ⟨hm, hn⟩ := other q hq
    obtain ⟨u, hu⟩ := (S.ow q hm).2.2.there
    exact ⟨u, by rw [less_out hn]; exact hu, hu⟩
  have keyO : ∀ q, q ∈ oa ∨ q ∈ ob → Hf' q.1 = none ∧ B.HB q.1 = none ∧ OwnOk Hf' H' q.1 q.2 := fun q hq => by
    obtain ⟨hm, hn⟩ := other q hq
    obtain ⟨a, b, c⟩ := S.ow q hm
    obtain ⟨u, h1, h2⟩ := there q hq
    refine ⟨?_, b, c.mono S'.e0 fun u' hu' => S'.eb _ _ (by show less H _ q.1 = _; rw [less_out hn]; exact hu')⟩
    cases e : Hf' q.1 with
    | none => rfl
    | some o =>
      have z := S'.fr q.1 o e a
      have z' : less H (o1.map (·.1)) q.1 = none := z
      rw [h1] at z'; cases z'
  refine ⟨S.e0.trans S'.e0, S'.e1, fun p o h => ?_, fun p o h hb => ?_, fun q hq => ?_, ?_, S'.tp⟩
  · refine S'.eb p o ?_
    show less H _ p = some o
    rw [less_out (fun z => by rw [b1 p z] at h; cases h)]
    exact S.eb p o h
  · cases e : Hf p with
    | some u => exact S.fr p u e hb
    | none =>
      have z : less H (o1.map (·.1)) p = none := S'.fr p o h e
      rcases less_none z with z | z
      · exact b1 p z
      · exact S.eb.free z
  · rcases List.mem_append.mp hq with h | h
    · rcases List.mem_append.mp h with h | h
      · exact keyO q (.inl h)
      · obtain ⟨a, b, c⟩ := S'.ow q h
        refine ⟨a, ?_, c⟩
        rcases less_none (show less H (o1.map (·.1)) q.1 = none from b) with z | z
        · exact b1 _ z
        · exact S.eb.free z
    · exact keyO q (.inr h)
  · have dj : ∀ q q', (q ∈ oa ∨ q ∈ ob) → q' ∈ o1' → q.1 ≠ q'.1 := fun q q' hq hq' e => by
      obtain ⟨u, h1, _⟩ := there q hq
      have z : less H (o1.map (·.1)) q'.1 = none := (S'.ow q' hq').2.1
      rw [← e, h1] at z; cases z
    rw [List.map_append, List.map_append]
    refine List.nodup_append.mpr ⟨List.nodup_append.mpr ⟨nd1, S'.nd, fun x hx y hy => ?_⟩, nd3, fun x hx y hy => ?_⟩
    · obtain ⟨q, hq, rfl⟩ := List.mem_map.mp hx
      obtain ⟨q', hq', rfl⟩ := List.mem_map.mp hy
      exact dj q q' (.inl hq) hq'
    · obtain ⟨q', hq', rfl⟩ := List.mem_map.mp hy
      rcases List.mem_append.mp hx with hx | hx
      · exact d3 _ (List.mem_append_left _ hx) _ (List.mem_map.mpr ⟨q', hq', rfl⟩)
      · obtain ⟨q, hq, rfl⟩ := List.mem_map.mp hx
        exact fun e => dj q' q (.inr hq') hq e.symm

/-! ### a def keeps its promise -/
section
variable {P : Program} {w : World} {K : PySem.W.Frag} {mg : Str → Option Value} {base : Heap}
theorem SlotsR.env {Hf : Hp} : ∀ {vs : List V} {ss : List Slot}, SlotsR Hf vs ss → ∀ n : Nat, EnvR Hf (vs.map some ++ List.replicate n none) (ss ++ List.replicate n .un)
  | _, _, .nil, n => ⟨by simp, fun i s h => .inl (by
      have h' : (List.replicate n Slot.un)[i]? = some s := h
      rw [List.getElem?_replicate] at h'
      split at h'
      · cases h'; rfl
      · cases h')⟩
  | _, _, .cons (s := s₀) a b, n => by
    have ih := SlotsR.env b n
    refine ⟨by simpa using ih.len, fun i s h => ?_⟩
    cases i with
    | zero =>
      have e : s₀ = s := by simpa using h
      subst e
      exact .inr ⟨_, rfl, a⟩
    | succ i => exact ih.at_ i s (by simpa using h)
/-- the context of a def's body -/
abbrev ctxOf (P : Program) (w : World) (K : PySem.W.Frag) (mg : Str → Option Value) (base : Heap) (N : List Str) (qual : Str) (st : Stmt) (f : Addr) (cdv : Value) (A : Around) (outer : List Env) (s : Shared) (H : Hp) (E : XK) (B : Bs) (ex : Addr → List Slot → Own → Prop) : Ctx :=
  ⟨cxOf (L2.CX P w) P w K mg base N qual (defScope st) f cdv A outer s H E, B, ex⟩
/-- what a body may lean on: the module's facts, the def's names -/
structure Bd (Z : Ctx) (P : Program) (w : World) (K : PySem.W.Frag) (mg : Str → Option Value) (base : Heap) : Prop where
  p : Z.X.prog = P
  w_ : Z.X.w = w
  k : Z.X.K = K
  mg : Z.X.mg = mg
  b : Z.X.base = base
theorem okG {x qual : Str} {st : Stmt} {f : Addr} {fd : FuncData} {N ps : List Str} {k : Nat} {Pre : Pr} (F : Fun K x qual st f fd) (S : FnScope N ps (defScope st)) (len : ∀ ss own post, Pre ss own post → ss.length = ps.length)
    (hbody : ∀ (ss : List Slot) (own : Own) (post : Out → Prop), Pre ss own post → ∀ (cdv : Value) (A : Around) (outer : List Env) (s : Shared) (H : Hp) (E : XK) (B : Bs), Gd (ctxOf P w K mg base N qual st f cdv A outer s H E B (fun C _ own => post (.exc C own))) k →
      SDs (ctxOf P w K mg base N qual st f cdv A outer s H E B (fun C _ own => post (.exc C own))) (defBody st) { nx := fun _ own => post (.ret (.d .none) own), rt := fun s own => post (.ret s own) } (ss ++ List.replicate (N.length - ss.length) .un) own) :
    FnOk P w K mg base (L2.CX P w) (k + 1) f fd ps (spG Pre) := by
  refine F.okX S (fun vs H Q E h => ?_) (fun cdv A outer s H vs Q E hr h => ?_)
  · obtain ⟨Hf, HB, ss, own, post, _, r, h, _⟩ := h
    rw [r.length]
    exact len _ _ _ h
  · obtain ⟨Hf, HB, ss, own, post, S0, r, h, q1, q2⟩ := h
    refine ⟨_, pssW, ?_⟩
    have g : Gd (ctxOf P w K mg base N qual st f cdv A outer s H E ⟨Hf, HB⟩ (fun C _ own => post (.exc C own))) k := by
      refine ⟨?_, passes_of rfl, rfl, S.nd, hr⟩
      refine Takes.imp (takes_of (E := E) rfl rfl rfl rfl) fun c d σ H' hw => ?_
      obtain ⟨C, Hf', ρ, own', rfl, rfl, S', _, hx⟩ := hw
      exact q2 C own' Hf' H' hx S'
    have z := hbody ss own post h cdv A outer s H E ⟨Hf, HB⟩ g Hf Hf (L2.start N vs) H (Same.refl _) S0 (by unfold L2.start; rw [r.length]; exact r.env _)
    refine wSs.imp z (fun σ H' hz => ?_) (fun v H' hz => ?_) (fun _ _ hz => ?_) (fun _ _ hz => ?_)
    · obtain ⟨Hf', ρ, own', _, S', _, hp⟩ := hz
      exact q1 _ own' _ Hf' H' hp S' (Rep.non) (fun z => nomatch z)
    · obtain ⟨Hf', t, own', _, S', r', hu, hp⟩ := hz
      exact q1 t own' v Hf' H' hp S' r' hu
    · obtain ⟨_, _, _, _, _, _, hp⟩ := hz
      exact hp.elim
    · obtain ⟨_, _, _, _, _, _, hp⟩ := hz
      exact hp.elim
end

/-! ### calls of defs -/
/-- all that a call of the def named z wants -/
structure Fn (K : PySem.W.Frag) (mg : Str → Option Value) (P : Program) (w : World) (base : Heap) (z : Str) (ps : List Str) (k : Nat) (Pre : Pr) : Prop where
  ex : ∃ f fd, FnOk P w K mg base (L2.CX P w) k f fd ps (spG Pre) ∧ mg z = some (.ref f) ∧ PySem.W.keepIn K (.ref f) = true ∧ Binds K fd ps []
section
variable {Z : Ctx} {e a b c : Expr} {es : List Expr} {ρ : List Slot} {own oa o1 ob : Own} {pos p : Pos} {x y : PyData} {s t u : Slot} {k j : Nat} {ss : List Slot} {z : Str} {ps : List Str} {Pre : Pr} {post : Out → Prop} {R : Slot → Own → Prop}
theorem eg_call (F : Fn Z.X.K Z.X.mg Z.X.prog Z.X.w Z.X.base z ps j Pre) (g : Gd Z k) (hj : j ≤ k) (ha : EA Z (e :: es) ρ (oa ++ o1 ++ ob) ss) (hp : Pre ss o1 post) (h1 : ∀ s o1', post (.ret s o1') → R s (oa ++ o1' ++ ob)) (h2 : ∀ C o1', post (.exc C o1') → Z.ex C ρ (oa ++ o1' ++ ob))
    (hg : Gl Z.X z := by rfl) (hdb : (z == ("__debug__" : Str)) = false := by decide) (he : starEach (e :: es) Z.X.env = (false, eval e Z.X.env) :: starEach es Z.X.env := by rfl) (hpl : (backTo pos (starEach es Z.X.env)).any (·.1) = false := by rfl) :
    EG Z (.Call (.Name z p) (e :: es) [] pos) ρ (oa ++ o1 ++ ob) R := by
  obtain ⟨f, fd, ok, hm, hk, hb⟩ := F.ex
  refine fun Hf σ H S E Q q => wE.of (pe_callS (E := WE (Wish Z)) ok (g.hr.mono hj) hg hm hk hb (fun σ => passAt g.tk σ) paW hdb he hpl) (ha Hf σ H S E _ fun vs Hf1 H1 m1 S1 r1 => ?_)
  refine ⟨Hf1, less H1 (o1.map (·.1)), ss, o1, post, S1.into, r1, hp, fun s own' v Hf' H' hq S' r' hs => ?_, fun C own' Hf' H' hq S' => ?_⟩
  · exact q v Hf' H' s _ (m1.trans S'.e0) (S1.back S') r' hs (h1 s own' hq)
  · exact ⟨C, Hf', ρ, _, rfl, rfl, S1.back S', E.mono (m1.trans S'.e0), h2 C own' hq⟩
/-- a def called upon data, that gives data -/
theorem es_call (F : Fn Z.X.K Z.X.mg Z.X.prog Z.X.w Z.X.base z ps j Pre) (g : Gd Z k) (hj : j ≤ k) (ha : EA Z (e :: es) ρ own ss) (hp : Pre ss [] (fun o => o = .ret (.d x) []))
    (hg : Gl Z.X z := by rfl) (hdb : (z == ("__debug__" : Str)) = false := by decide) (he : starEach (e :: es) Z.X.env = (false, eval e Z.X.env) :: starEach es Z.X.env := by rfl) (hpl : (backTo pos (starEach es Z.X.env)).any (·.1) = false := by rfl) : ED Z (.Call (.Name z p) (e :: es) [] pos) ρ own x := by
  have := eg_call (p := p) (oa := []) (o1 := []) (ob := own) (R := fun t o => t = .d x ∧ o = own) F g hj ha hp (fun s o1' h => by cases h; exact ⟨rfl, rfl⟩) (fun C o1' h => nomatch h) hg hdb he hpl
  exact EG.toES this
/-- .. that gives a new list -/
theorem el_call {ds : List PyData} (F : Fn Z.X.K Z.X.mg Z.X.prog Z.X.w Z.X.base z ps j Pre) (g : Gd Z k) (hj : j ≤ k) (ha : EA Z (e :: es) ρ own ss) (hp : Pre ss [] (fun o => ∃ p, o = .ret (.raw (.ref p)) [(p, .lst ds)]))
    (hg : Gl Z.X z := by rfl) (hdb : (z == ("__debug__" : Str)) = false := by decide) (he : starEach (e :: es) Z.X.env = (false, eval e Z.X.env) :: starEach es Z.X.env := by rfl) (hpl : (backTo pos (starEach es Z.X.env)).any (·.1) = false := by rfl) : EL Z (.Call (.Name z p) (e :: es) [] pos) ρ own ds := by
  have := eg_call (p := p) (oa := []) (o1 := []) (ob := own) (R := fun t o => ∃ p, t = .raw (.ref p) ∧ o = (p, .lst ds) :: own) F g hj ha hp (fun s o1' h => by obtain ⟨p, h⟩ := h; cases h; exact ⟨p, rfl, rfl⟩) (fun C o1' h => by obtain ⟨p, h⟩ := h; cases h) hg hdb he hpl
  exact EG.toEL this
end

/-! ### statements with a change of what is owned -/
section
variable {Z : Ctx} {D : DE} {ρ : List Slot} {own : Own} {pos : Pos} {e : Expr} {R : Slot → Own → Prop}
theorem sd_setG (i : Nat) {z : Str} {pos' : Pos} (hN : Z.X.N.Nodup) (he : EG Z e ρ own R) (h : ∀ s own', R s own' → D.nx (ρ.set i s) own') (hi : Z.X.N[i]? = some z := by rfl) (hx : Loc Z.X.env.scope z := by first | exact Or.inl rfl | exact Or.inr rfl) (hs : swapsWith e (some (.Name z pos')) pos.line Z.X.env = pure false := by rfl)
    (hf : Z.X.fn z = true ∨ Z.X.env.scope.names.lookup z = some .local := by first | exact .inl rfl | exact .inr rfl | assumption) : SD Z (.Assign [.Name z pos'] e pos) D ρ own := fun H0 Hf σ H m0 S E => wS.of (ps_set hN hi hx peW hs hf) (he Hf σ H S E _ fun v Hf1 H1 s own' m1 S1 r1 _ q => ⟨Hf1, _, own', m0.trans m1, S1, (E.mono m1).set r1 i, h s own' q⟩)
theorem sd_retG (he : EG Z e ρ own R) (h : ∀ s own', R s own' → D.rt s own') : SD Z (.Return (some e) pos) D ρ own := fun H0 Hf σ H m0 S E => wS.of (ps_ret peW) (he Hf σ H S E _ fun v Hf1 H1 s own' m1 S1 r1 hs q => ⟨Hf1, s, own', m0.trans m1, S1, r1, hs, h s own' q⟩)
end

/-! ### raise -/
section
variable {Z : Ctx} {D : DE} {ρ : List Slot} {own : Own} {pos p p2 pos' : Pos} {k : Nat}
/-- a class of errors of the program -/
structure ErrC (K : PySem.W.Frag) (mg : Str → Option Value) (z : Str) (C : Addr) : Prop where
  g : mg z = some (.ref C)
  x : PySem.W.excIn K C [.type "ValueError", .type "Exception", .type "BaseException", .type "object"] "ValueError.__new__" = true
  k : PySem.W.keepIn K (.ref C) = true
  b : PySem.W.subIn K (.ref C) (.type "BaseException") = some true
  t : PySem.W.typeIn K (.ref C) = some (.type "type")
theorem sd_raise {z m : Str} {C : Addr} {j : Nat} (g : Gd Z k) (T : ErrC Z.X.K Z.X.mg z C) (h : Z.ex C ρ own) (hg : Gl Z.X z := by rfl) (hdb : (z == ("__debug__" : Str)) = false := by decide) : SD Z (.Raise (some (.Call (.Name z p) [.Constant (.str m) j p2] [] pos')) none pos) D ρ own := fun H0 Hf σ H m0 S E =>
  wS.of (ps_raise g.calm g.tk (pmk_own PySem.F.excBase_ValueError T.x T.g T.k (raises_own T.b T.t) hg hdb)) ⟨C, Hf, ρ, own, rfl, rfl, S, E, h⟩
end

/-! ### while, augmented assignments, items stored, append -/
section
variable {Z : Ctx} {D : DE} {ρ : List Slot} {own oa ob : Own} {pos tpos : Pos} {body : List Stmt} {c e a b : Expr} {k : Nat} {i j : Int} {s t : Slot} {ds : List PyData} {x : PyData}
theorem sd_while (g : Gd Z k) (I : Nat → List Slot → Own → Prop) (m : Nat) (h0 : I m ρ own)
    (step : ∀ m ρ1 own1, I m ρ1 own1 → ∃ l, ET Z c ρ1 own1 l ∧ (l = true → SDs Z body { D with nx := fun ρ2 own2 => ∃ m', m' < m ∧ I m' ρ2 own2, ct := fun ρ2 own2 => ∃ m', m' < m ∧ I m' ρ2 own2, bk := D.nx } ρ1 own1) ∧ (l = false → D.nx ρ1 own1)) : SD Z (.While c body [] pos) D ρ own := by
  refine fun H0 Hf σ H m0 S E => wS.of (ps_while g.po ptW pssW) ?_
  refine ⟨fun m σ' H' => ∃ Hf' ρ' own', Same H0 Hf' ∧ Sat Z.B Hf' H' own' ∧ EnvR Hf' σ' ρ' ∧ I m ρ' own', ⟨m, Hf, ρ, own, m0, S, E, h0⟩, ?_⟩
  rintro m σ' H' ⟨Hf', ρ', own', m', S', E', q⟩
  obtain ⟨l, ht, h1, h2⟩ := step m ρ' own' q
  refine ht Hf' σ' H' S' E' _ fun Hf2 H2 m2 S2 => ?_
  cases l with
  | true =>
    refine iteT ⟨fun σ3 H3 => ∃ Hf3 ρ3 own3, Same H0 Hf3 ∧ Sat Z.B Hf3 H3 own3 ∧ EnvR Hf3 σ3 ρ3 ∧ ∃ m', m' < m ∧ I m' ρ3 own3, fun σ3 H3 ⟨Hf3, ρ3, own3, m3, S3, E3, m', hm, q3⟩ => ⟨m', hm, Hf3, ρ3, own3, m3, S3, E3, q3⟩, ?_⟩
    exact wSs.imp (h1 rfl H0 Hf2 σ' H2 (m'.trans m2) S2 (E'.mono m2)) (fun _ _ q => q) (fun _ _ q => q) (fun _ _ q => q) (fun _ _ q => q)
  | false => exact iteF ⟨Hf2, ρ', own', m'.trans m2, S2, E'.mono m2, h2 rfl⟩
/-- x op= e for ints -/
theorem sd_aug (n : Nat) {z : Str} {op : Operator} {C : Int → Int → Prop} {f : Int → Int → Int} {pos' : Pos} (ho : OpR Z.X (inplaceOp op) (rI C fun i j => .int (f i j))) (hN : Z.X.N.Nodup) (hv : ρ[n]? = some (.d (.int i))) (he : ED Z e ρ own (.int j)) (hc : C i j) (h : D.nx (ρ.set n (.d (.int (f i j)))) own)
    (hi : Z.X.N[n]? = some z := by rfl) (hx : Loc Z.X.env.scope z := by first | exact Or.inl rfl | exact Or.inr rfl) (hf : Z.X.fn z = true ∨ Z.X.env.scope.names.lookup z = some .local := by first | exact .inl rfl | exact .inr rfl | assumption) : SD Z (.AugAssign (.Name z pos') op e pos) D ρ own := fun H0 Hf σ H m0 S E => wS.of (ps_aug hN hi hx peW ho hf) (by
  obtain ⟨v, hv1, hv2⟩ := E.d hv
  cases hv2
  refine ⟨.int i, hv1, he Hf σ H S E _ fun w Hf1 H1 m1 S1 r1 => ?_⟩
  cases r1
  exact ⟨i, j, rfl, rfl, hc, Hf1, _, own, m0.trans m1, S1, (E.mono m1).set (s := .d (.int (f i j))) (Rep.int _) n, h⟩)
theorem iop_addC {X : Cx} : OpR X (inplaceOp .Add) (rI (fun _ _ => True) fun i j => .int (i + j)) := opI fun _ _ _ _ _ _ _ _ q => iadd_int q
theorem iop_mulW {X : Cx} : OpR X (inplaceOp .Mult) (rI CMulW fun i j => .int (i * j)) := opI fun _ _ _ _ _ _ _ hc q => imul_int q hc.ok
/-- xs[i] = e, xs one's own -/
theorem sd_setitem {p : Addr} {n : Nat} (he : ED Z e ρ (oa ++ (p, .lst ds) :: ob) x) (ha : EV Z a ρ (oa ++ (p, .lst ds) :: ob) (.ref p)) (hb : ED Z b ρ (oa ++ (p, .lst ds) :: ob) (.int i)) (hi : ixN ds.length i = some n) (h : D.nx ρ (oa ++ (p, .lst (ds.set n x)) :: ob))
    (hs : swapsWithSole [.Subscript a b tpos] e pos.line Z.X.env = pure false := by rfl) (hw : swappedStores [.Subscript a b tpos] e Z.X.env = pure none := by rfl) (h1 : (assignEach [.Subscript a b tpos] Z.X.env).map (·.2) = [assign (.Subscript a b tpos) Z.X.env] := by rfl)
    (hq : ∀ v, assign (.Subscript a b tpos) Z.X.env v = (do
      let ov ← holding [v] (eval a Z.X.env)
      let iv ← holding [v, ov] (eval b Z.X.env)
      standAt tpos
      holding [v, ov, iv] (setItem ov iv v)
      release [v, ov, iv] []) := by intro _; rfl) : SD Z (.Assign [.Subscript a b tpos] e pos) D ρ (oa ++ (p, .lst ds) :: ob) := fun H0 Hf σ H m0 S E => wS.of (ps_asg peW (pg_sub peW peW set_list hq) hs hw h1) (he Hf σ H S E _ fun v Hf1 H1 m1 S1 r1 => ha Hf1 σ H1 S1 (E.mono m1) _ fun w Hf2 H2 m2 S2 r2 =>
  hb Hf2 σ H2 S2 (E.mono (m1.trans m2)) _ fun z Hf3 H3 m3 S3 r3 => by
    cases r3
    cases (show w = .ref p from r2)
    obtain ⟨_, _, vs, g1, g2⟩ := S3.at (p := p) (oo := .lst ds) (by simp)
    refine ⟨p, vs, i, n, rfl, rfl, g1, by rw [g2.length]; exact hi, Hf3, ρ, _, ((m0.trans m1).trans m2).trans m3, S3.write (oo' := .lst (ds.set n x)) ⟨_, upd_same, g2.set ((show Rep Hf1 v x from r1).mono (m2.trans m3)) n⟩, E.mono ((m1.trans m2).trans m3), h⟩)
/-- xs[i], by values -/
theorem get_list {X : Cx} : PGet X (rIxL X.K) := by
  intro pins s σ H x y v u Q I rx ry h
  obtain ⟨p, xs, i, z, rfl, rfl, hq, he, q⟩ := h
  cases (show v = Value.ref p from rx)
  obtain ⟨t, rfl⟩ := ry
  obtain ⟨its, r, pl, hz⟩ := I.list hq
  obtain ⟨j, h1, h2, h3, h4, h5⟩ := atI_get he
  obtain ⟨w, ew, rw'⟩ := r.get h2
  have hl := r.length
  have hn := line63
  have fin : EP X pins σ Q w s := ⟨z, H, I, rw', q⟩
  by_cases h0 : 0 ≤ i
  · have hj : i.toNat = j := by
      rw [seqIndex_of h0 h5] at h1
      exact Option.some.inj h1
    exact wpAny_getItem_list pl.isList h0 (by omega) (by rw [hj]; simpa using ew) fin
  · have hj : (i + (its.toArray.size : Int)).toNat = j := by
      rw [seqIndex_neg (by omega) h4] at h1
      rw [List.size_toArray, ← hl]
      exact Option.some.inj h1
    exact wpAny_getItem_list_neg pl.isList (by omega) (by rw [List.size_toArray] <;> omega) (by omega) (by rw [hj]; simpa using ew) fin
theorem atI_ixN {α : Type} {xs : List α} {i : Int} {n : Nat} {v : α} (h : ixN xs.length i = some n) (hv : xs[n]? = some v) : atI xs i = some v := by
  unfold atI
  rw [h]
  exact hv
/-- xs[i] op= e, ints, xs one's own -/
theorem sd_augitem {p : Addr} {n : Nat} {op : Operator} {C : Int → Int → Prop} {f : Int → Int → Int} {y z : Int} (ho : OpR Z.X (inplaceOp op) (rI C fun i j => .int (f i j))) (ha : EV Z a ρ (oa ++ (p, .lst ds) :: ob) (.ref p)) (hb : ED Z b ρ (oa ++ (p, .lst ds) :: ob) (.int i)) (he : ED Z e ρ (oa ++ (p, .lst ds) :: ob) (.int z))
    (hi : ixN ds.length i = some n) (hy : ds[n]? = some (.int y)) (hc : C y z) (h : D.nx ρ (oa ++ (p, .lst (ds.set n (.int (f y z)))) :: ob))
    (hq : ∀ ov iv new, augStore b ov iv new = (do holding [new, ov, iv] (setItem ov iv new); release [new, ov, iv] []; pure .next) := by intros; rfl) : SD Z (.AugAssign (.Subscript a b tpos) op e pos) D ρ (oa ++ (p, .lst ds) :: ob) := fun H0 Hf σ H m0 S E => wS.of (ps_augS peW peW get_list peW ho set_list hq)
  (ha Hf σ H S E _ fun w Hf1 H1 m1 S1 r1 => hb Hf1 σ H1 S1 (E.mono m1) _ fun w2 Hf2 H2 m2 S2 r2 => by
    cases r2
    cases (show w = .ref p from r1)
    obtain ⟨_, _, vs, g1, g2⟩ := S2.at (p := p) (oo := .lst ds) (by simp)
    obtain ⟨u, g3, g4⟩ := g2.get hy
    cases g4
    refine ⟨p, vs, i, .int y, rfl, rfl, SqL.of g1, atI_ixN (by rw [g2.length]; exact hi) g3, he Hf2 σ H2 S2 (E.mono (m1.trans m2)) _ fun w3 Hf3 H3 m3 S3 r3 => ?_⟩
    cases r3
    obtain ⟨_, _, vs, g1, g2⟩ := S3.at (p := p) (oo := .lst ds) (by simp)
    exact ⟨y, z, rfl, rfl, hc, p, vs, i, n, rfl, rfl, g1, by rw [g2.length]; exact hi, Hf3, ρ, _, ((m0.trans m1).trans m2).trans m3, S3.write (oo' := .lst (ds.set n (.int (f y z)))) ⟨_, upd_same, g2.set (.int _) n⟩, E.mono ((m1.trans m2).trans m3), h⟩)
/-- a, b = x, y with plain local names -/
theorem sd_par (n m : Nat) {x y : Str} {px py pt pt2 : Pos} {kt k2 : Nat} {s t : Slot} (g : Gd Z k) (ha : EA Z [a, b] ρ own [s, t]) (h : D.nx ((ρ.set n s).set m t) own) (hi : Z.X.N[n]? = some x := by rfl) (hj : Z.X.N[m]? = some y := by rfl) (hij : n ≠ m := by decide)
    (hx : Z.X.env.scope.names.lookup x = some .local := by rfl) (hy : Z.X.env.scope.names.lookup y = some .local := by rfl)
    (hw : swappedStores [.Tuple [.Name x px, .Name y py] kt pt] (.Tuple [a, b] k2 pt2) Z.X.env = pure (some [x, y]) := by rfl)
    (hs : swapsWithSole [.Tuple [.Name x px, .Name y py] kt pt] (.Tuple [a, b] k2 pt2) pos.line Z.X.env = pure false := by rfl) : SD Z (.Assign [.Tuple [.Name x px, .Name y py] kt pt] (.Tuple [a, b] k2 pt2) pos) D ρ own := fun H0 Hf σ H m0 S E => wS.of (ps_par g.calm g.nd hi hj hij hx hy paW hw hs)
  (ha Hf σ H S E _ fun vs Hf1 H1 m1 S1 r1 => by
    obtain ⟨v, w, rfl, r1, r2⟩ := r1.two
    exact ⟨v, w, rfl, Hf1, _, own, m0.trans m1, S1, ((E.mono m1).set r1 n).set r2 m, h⟩)
/-- target = data -/
theorem sd_asg {tg : Expr} {x : PyData} {ρ' : List Slot} {is : List Nat} (he : ED Z e ρ own x) (hg : GT Z tg x ρ ρ' is) (h : D.nx ρ' own) (hs : swapsWithSole [tg] e pos.line Z.X.env = pure false := by rfl) (hw : swappedStores [tg] e Z.X.env = pure none := by rfl)
    (h1 : (assignEach [tg] Z.X.env).map (·.2) = [assign tg Z.X.env] := by rfl) : SD Z (.Assign [tg] e pos) D ρ own := fun H0 Hf σ H m0 S E => wS.of (ps_asg peW pgW hs hw h1)
  (he Hf σ H S E _ fun v Hf1 H1 m1 S1 r1 => hg own Hf1 σ H1 v S1 (E.mono m1) r1 _ fun σ' E' _ => ⟨Hf1, ρ', own, m0.trans m1, S1, E', h⟩)
end
end Sd


namespace Sd
open PySem PySem.Spec PyProof.Rows L2
/-! ### comprehensions -/
abbrev blkZ (Z : Ctx) (scope : Scope) (s : Shared) (H : Hp) (C : Addr) (cl : List (Str × Addr)) (fp : List Addr) : Ctx := ⟨Z.X.blk s H scope (compEnvC scope cl C Z.X.env) fp, Z.B, fun _ _ _ => False⟩
structure wTs (X : Cx) (ifs : List Expr) (σ : L2.St) (H : Hp) (Q : Bool → Hp → Prop) : Prop where
  run : ∀ (pins : List (Addr × Obj)) (s : Shared), Inv X pins σ H s → wpAny (model X.prog X.w) X.A (forIn ifs true fun c r => if r = true then do let ok ← isTrue c X.env (eval c X.env); pure (ForInStep.yield ok) else pure (ForInStep.yield r)) (TP X pins σ Q) X.xe s
theorem wTs.of {X : Cx} {ifs : List Expr} {t : TT} (h : PTs X ifs t) {σ : L2.St} {H : Hp} {Q : Bool → Hp → Prop} (q : t σ H Q) : wTs X ifs σ H Q := ⟨fun pins s I => h.run pins s σ H Q I q⟩
def ETs (Z : Ctx) (ifs : List Expr) (ρ : List Slot) (own : Own) (b : Bool) : Prop := ∀ Hf σ H, Sat Z.B Hf H own → EnvR Hf σ ρ → ∀ Q : Bool → Hp → Prop, (∀ Hf' H', Same Hf Hf' → Sat Z.B Hf' H' own → Q b H') → wTs Z.X ifs σ H Q
theorem ets_nil {Z : Ctx} {ρ : List Slot} {own : Own} : ETs Z [] ρ own true := fun Hf σ H S R Q q => wTs.of pts_nil (q Hf H (Same.refl _) S)
theorem ets_one {Z : Ctx} {c : Expr} {ρ : List Slot} {own : Own} {l : Bool} (h : ET Z c ρ own l) : ETs Z [c] ρ own l := fun Hf σ H S R Q q => wTs.of (pts_one ptW) (h Hf σ H S R Q q)
theorem Gd.blk {Z : Ctx} {k : Nat} (g : Gd Z k) (scope : Scope) (s : Shared) (H : Hp) (C : Addr) (cl : List (Str × Addr)) (fp : List Addr) : Gd (blkZ Z scope s H C cl fp) k :=
  ⟨Takes.imp takes0 fun _ _ _ _ ⟨_, _, _, _, _, _, _, _, h⟩ => h, PassesOwn.never, g.calm, g.nd, g.hr⟩
theorem wipe_get {σ : L2.St} {i : Nat} : ∀ {vs : List Nat}, (wipe σ vs)[i]? = if i ∈ vs then (σ[i]?).map (fun _ => none) else σ[i]?
  | [] => by simp [wipe]
  | v :: vs => by
    unfold wipe
    by_cases hi : v = i
    · subst hi
      rw [if_pos (by simp)]
      by_cases hl : v < σ.length
      · rw [List.getElem?_set_self (by rw [wipe_length]; exact hl), List.getElem?_eq_getElem hl]
        rfl
      · rw [List.getElem?_eq_none (by rw [List.length_set, wipe_length]; omega), List.getElem?_eq_none (by omega)]
        rfl
    · rw [List.getElem?_set_ne hi, wipe_get]
      by_cases h2 : i ∈ vs
      · rw [if_pos h2, if_pos (List.mem_cons_of_mem _ h2)]
      · rw [if_neg h2, if_neg (by simp only [List.mem_cons, not_or]; exact ⟨fun e => hi e.symm, h2⟩)]
theorem wipe_but {σ σ2 : L2.St} {is vs : List Nat} (hb : But is (wipe σ vs) σ2) (hi : ∀ i ∈ is, i ∈ vs) : wipe σ2 vs = wipe σ vs := by
  refine List.ext_getElem? fun i => ?_
  rw [wipe_get, wipe_get]
  by_cases h : i ∈ vs
  · rw [if_pos h, if_pos h]
    have hl : σ2.length = σ.length := by rw [hb.1, wipe_length]
    by_cases hn : i < σ.length
    · rw [List.getElem?_eq_getElem hn, List.getElem?_eq_getElem (by omega)]
      rfl
    · rw [List.getElem?_eq_none (by omega), List.getElem?_eq_none (by omega)]
  · rw [if_neg h, if_neg h, hb.2 i (fun z => h (hi i z)), wipe_get, if_neg h]
/-- a comprehension: what it needs, and what its list may be at the end -/
def CP (Z : Ctx) (elt tg iter : Expr) (ifs : List Expr) (scope : Scope) (ρ : List Slot) (own : Own) (Fin : List PyData → Own → Prop) : Prop :=
  ∃ (wi : TI) (g : TG) (tt : TT) (te : TE) (on : List (Str × Nat)), PI Z.X tg iter wi ∧ BlkOk Z.X.N Z.X.env.scope scope on ∧ (∀ (s : Shared) (H : Hp) (C : Addr) (cl : List (Str × Addr)) (fp : List Addr), PG (Z.X.blk s H scope (compEnvC scope cl C Z.X.env) fp) tg g) ∧
    (∀ (s : Shared) (H : Hp) (C : Addr) (cl : List (Str × Addr)) (fp : List Addr), PTs (Z.X.blk s H scope (compEnvC scope cl C Z.X.env) fp) ifs tt) ∧ (∀ (s : Shared) (H : Hp) (C : Addr) (cl : List (Str × Addr)) (fp : List Addr), PE (Z.X.blk s H scope (compEnvC scope cl C Z.X.env) fp) elt te) ∧
    ∀ Hf σ H, Sat Z.B Hf H own → EnvR Hf σ ρ → ∀ Q : VK, (∀ p Hf' H' ds own', Same Hf Hf' → Sat Z.B Hf' H' ((p, .lst ds) :: own') → Fin ds own' → Q (.ref p) H') → tLc wi g tt te (on.map (·.2)) σ H Q
section
variable {Z : Ctx} {elt tg iter : Expr} {ifs : List Expr} {scope : Scope} {ρ : List Slot} {own : Own} {Fin : List PyData → Own → Prop} {k : Nat} {Po : Own → Prop} {ys : List PyData} {pos : Pos} {D : DE}
theorem comp (g : Gd Z k) (it : IT Z tg iter ρ own Po ys) (on : List (Str × Nat)) (ok : BlkOk Z.X.N Z.X.env.scope scope on) (I : Nat → List PyData → Own → Prop) (h0 : I 0 [] own) (hpo : ∀ i acc o D, I i acc o → Po ((D, .lst acc) :: o)) (hlen : ∀ i acc o, I i acc o → acc.length < 100000)
    (step : ∀ i y acc o D, ys[i]? = some y → I i acc o → ∃ ρ2 is l, (∀ i ∈ is, i ∈ on.map (·.2)) ∧ (∀ s H C cl fp, GT (blkZ Z scope s H C cl fp) tg y (wipeR ρ (on.map (·.2))) ρ2 is) ∧ (∀ s H C cl fp, ETs (blkZ Z scope s H C cl fp) ifs ρ2 ((D, .lst acc) :: o) l) ∧
      (l = true → ∀ s H C cl fp, EG (blkZ Z scope s H C cl fp) elt ρ2 ((D, .lst acc) :: o) (fun t o2 => ∃ d o', t = .d d ∧ o2 = (D, .lst acc) :: o' ∧ I (i + 1) (acc ++ [d]) o')) ∧ (l = false → I (i + 1) acc o)) :
    CP Z elt tg iter ifs scope ρ own (fun ds o => I ys.length ds o) := by
  obtain ⟨wi, hi, hw⟩ := it
  refine ⟨wi, fun v σ H Q => ∀ s' H' C cl fp, wG (Z.X.blk s' H' scope (compEnvC scope cl C Z.X.env) fp) tg v σ H Q, fun σ H Q => ∀ s' H' C cl fp, wTs (Z.X.blk s' H' scope (compEnvC scope cl C Z.X.env) fp) ifs σ H Q, fun σ H Q => ∀ s' H' C cl fp, wE (Z.X.blk s' H' scope (compEnvC scope cl C Z.X.env) fp) elt σ H Q, on, hi, ok,
    fun s' H' C cl fp => ⟨fun pins s σ H v u Q I r h => (h s' H' C cl fp).run pins s u I r⟩, fun s' H' C cl fp => ⟨fun pins s σ H Q I h => (h s' H' C cl fp).run pins s I⟩, fun s' H' C cl fp => ⟨fun pins s σ H Q I h => (h s' H' C cl fp).run pins s I⟩, fun Hf σ H S E Q q => ?_⟩
  refine hw Hf σ H S E _ fun J Hf1 H1 m1 S1 W D hD => ?_
  refine ⟨fun i m H' => m = ys.length - i ∧ i ≤ ys.length ∧ ∃ Hf' acc o, Same Hf1 Hf' ∧ Sat Z.B Hf' H' ((D, .lst acc) :: o) ∧ I i acc o, ⟨ys.length, by omega, by omega, Hf1, [], own, Same.refl _, S1.newOwn hD ⟨[], upd_same, .nil⟩, h0⟩, ?_⟩
  rintro i m H' ⟨rfl, hil, Hf', acc, o, m', S', q'⟩
  by_cases hlt : i < ys.length
  · refine .inr ⟨W.go i Hf' H' _ m' S' (hpo i acc o D q') hlt, fun H2 => ∃ Hf2 acc2 o2, Same Hf1 Hf2 ∧ Sat Z.B Hf2 H2 ((D, .lst acc2) :: o2) ∧ I (i + 1) acc2 o2, fun H2 ⟨Hf2, acc2, o2, m2, S2, q2⟩ => ⟨ys.length - (i + 1), by omega, rfl, hlt, Hf2, acc2, o2, m2, S2, q2⟩, fun x H2 hx => ?_⟩
    obtain ⟨Hf2, m2, S2, r2⟩ := W.yld i _ Hf' H' _ x H2 m' S' (hpo i acc o D q') (List.getElem?_eq_getElem hlt) hx
    obtain ⟨ρ2, is, l, hin, gt, et, h1, h2⟩ := step i _ acc o D (List.getElem?_eq_getElem hlt) q'
    have E2 : EnvR Hf2 (wipe σ (on.map (·.2))) (wipeR ρ (on.map (·.2))) := (E.mono ((m1.trans m').trans m2)).wipe _
    intro s' H'' C cl fp
    refine gt s' H'' C cl fp _ Hf2 _ H2 x S2 E2 r2 _ fun σ3 E3 b3 => ⟨wipe_but b3 hin, ?_⟩
    intro s' H'' C cl fp
    refine et s' H'' C cl fp Hf2 σ3 H2 S2 E3 _ fun Hf3 H3 m3 S3 => ?_
    cases l with
    | false => exact iteF ⟨Hf3, acc, o, (m'.trans m2).trans m3, S3, h2 rfl⟩
    | true =>
      refine iteT ?_
      intro s' H'' C cl fp
      refine h1 rfl s' H'' C cl fp Hf3 σ3 H3 S3 (E3.mono m3) _ fun v Hf4 H4 t o2 m4 S4 r4 _ hq => ?_
      obtain ⟨d, o', rfl, rfl, hI⟩ := hq
      obtain ⟨_, _, vs, g1, g2⟩ := S4.at (p := D) (oo := .lst acc) (by simp)
      exact ⟨vs, g1, by rw [g2.length]; exact Nat.lt_of_lt_of_le (hlen _ _ _ q') (by decide), Hf4, acc ++ [d], o', ((m'.trans m2).trans m3).trans m4, S4.write (oa := []) (oo' := .lst (acc ++ [d])) ⟨_, upd_same, g2.append (.cons r4 .nil)⟩, hI⟩
  · have e : i = ys.length := by omega
    subst e
    exact .inl ⟨W.stop _ Hf' H' _ m' S' (hpo _ _ _ _ q') (Nat.le_refl _), q D Hf' H' acc o (m1.trans m') S' q'⟩
theorem eg_comp (g : Gd Z k) (h : CP Z elt tg iter ifs scope ρ own Fin) (hs : ∀ x, foldedSetIterable iter Z.X.env x = pure x := by intro _; rfl) : EG Z (.ListComp elt [⟨tg, iter, ifs, 0⟩] scope pos) ρ own (fun s o => ∃ p ds o', s = .raw (.ref p) ∧ o = (p, .lst ds) :: o' ∧ Fin ds o') := by
  obtain ⟨wi, gg, tt, te, on, hi, ok, hg, ht, he, hq⟩ := h
  exact fun Hf σ H S E Q q => wE.of (pe_lc g.calm g.nd hi ok hg ht he hs) (hq Hf σ H S E Q fun p Hf' H' ds own' m S' hf => q _ Hf' H' (.raw (.ref p)) _ m S' rfl (fun z => nomatch z) ⟨p, ds, own', rfl, rfl, hf⟩)
theorem el_comp {ds : List PyData} (g : Gd Z k) (h : CP Z elt tg iter ifs scope ρ own (fun xs o => xs = ds ∧ o = own)) (hs : ∀ x, foldedSetIterable iter Z.X.env x = pure x := by intro _; rfl) : EL Z (.ListComp elt [⟨tg, iter, ifs, 0⟩] scope pos) ρ own ds :=
  EG.toEL ((eg_comp g h hs).imp fun s o ⟨p, xs, o', e1, e2, e3, e4⟩ => ⟨p, e1, by rw [e2, e3, e4]⟩)
/-- name = [..] on one line -/
theorem sd_setC (n : Nat) {y : Str} {py spos : Pos} (g : Gd Z k) (h : CP Z elt tg iter ifs scope ρ own Fin) (hn : ∀ p ds o', Fin ds o' → D.nx (ρ.set n (.raw (.ref p))) ((p, .lst ds) :: o'))
    (hsw : swapsWith (.ListComp elt [⟨tg, iter, ifs, 0⟩] scope pos) (some (.Name y py)) spos.line Z.X.env = pure true) (hy : Z.X.N[n]? = some y := by rfl) (hyl : Z.X.env.scope.names.lookup y = some .local := by rfl) (hs : ∀ x, foldedSetIterable iter Z.X.env x = pure x := by intro _; rfl) :
    SD Z (.Assign [.Name y py] (.ListComp elt [⟨tg, iter, ifs, 0⟩] scope pos) spos) D ρ own := by
  obtain ⟨wi, gg, tt, te, on, hi, ok, hg, ht, he, hq⟩ := h
  exact fun H0 Hf σ H m0 S E => wS.of (ps_setLc g.calm g.nd hy hyl hsw hi ok hg ht he hs) (hq Hf σ H S E _ fun p Hf' H' ds own' m S' hf => ⟨Hf', _, _, m0.trans m, S', (E.mono m).set (s := .raw (.ref p)) rfl n, hn p ds own' hf⟩)
/-- .. whose elements change nothing -/
theorem compP {α : Type} (g : Gd Z k) (it : IT Z tg iter ρ own Po ys) (on : List (Str × Nat)) (ok : BlkOk Z.X.N Z.X.env.scope scope on) (xs : List α) (enc : α → PyData) (hy : ys = xs.map enc) (F : α → Option PyData) (ρ2 : α → List Slot) (is : List Nat)
    (his : ∀ i ∈ is, i ∈ on.map (·.2)) (hl : xs.length < 100000) (hpo : ∀ acc D, Po ((D, .lst acc) :: own)) (gt : ∀ a ∈ xs, ∀ s H C cl fp, Gd (blkZ Z scope s H C cl fp) k → GT (blkZ Z scope s H C cl fp) tg (enc a) (wipeR ρ (on.map (·.2))) (ρ2 a) is)
    (et : ∀ a ∈ xs, ∀ s H C cl fp o, Gd (blkZ Z scope s H C cl fp) k → ETs (blkZ Z scope s H C cl fp) ifs (ρ2 a) o (F a).isSome) (ed : ∀ a ∈ xs, ∀ d, F a = some d → ∀ s H C cl fp o, Gd (blkZ Z scope s H C cl fp) k → ED (blkZ Z scope s H C cl fp) elt (ρ2 a) o d) :
    CP Z elt tg iter ifs scope ρ own (fun ds o => ds = xs.filterMap F ∧ o = own) := by
  subst hy
  have := comp (Po := Po) (ys := xs.map enc) (elt := elt) (ifs := ifs) (scope := scope) g it on ok (fun i acc o => acc = (xs.take i).filterMap F ∧ o = own ∧ i ≤ xs.length) ⟨rfl, rfl, Nat.zero_le _⟩ (fun i acc o D h => by rw [h.2.1]; exact hpo acc D) (fun i acc o h => by
    rw [h.1]
    have h1 := List.length_filterMap_le F (xs.take i)
    rw [List.length_take] at h1
    omega) (fun i y acc o D hy h => by
      obtain ⟨rfl, rfl, hi⟩ := h
      rw [List.getElem?_map] at hy
      cases ea : xs[i]? with
      | none => rw [ea] at hy; cases hy
      | some a =>
        rw [ea] at hy
        cases hy
        have hm : a ∈ xs := List.mem_of_getElem? ea
        have hlt : i < xs.length := (List.getElem?_eq_some_iff.mp ea).1
        have tk : (xs.take (i + 1)).filterMap F = (xs.take i).filterMap F ++ (F a).toList := by
          rw [List.take_add_one, ea, List.filterMap_append]
          cases hF : F a <;> simp [hF]
        refine ⟨ρ2 a, is, (F a).isSome, his, fun s H C cl fp => gt a hm s H C cl fp (g.blk ..), fun s H C cl fp => et a hm s H C cl fp _ (g.blk ..), fun hs s H C cl fp => ?_, fun hs => ?_⟩
        · obtain ⟨d, hd⟩ := Option.isSome_iff_exists.mp hs
          exact ES.toEG (ed a hm d hd s H C cl fp _ (g.blk ..)) (fun z => nomatch z) ⟨d, o, rfl, rfl, by rw [tk, hd]; rfl, rfl, hlt⟩
        · refine ⟨?_, rfl, hlt⟩
          rw [tk]
          cases hF : F a with
          | none => simp
          | some d => rw [hF] at hs; cases hs)
  obtain ⟨a1, a2, a3, a4, a5, b1, b2, b3, b4, b5, b6⟩ := this
  refine ⟨a1, a2, a3, a4, a5, b1, b2, b3, b4, b5, fun Hf σ H S E Q q => b6 Hf σ H S E Q fun p Hf' H' ds own' m S' hf => q p Hf' H' ds own' m S' ⟨?_, hf.2.1⟩⟩
  rw [hf.1, List.length_map, List.take_length]
end

/-! ### more values -/
section
variable {Z : Ctx} {D : DE} {e a b : Expr} {ρ : List Slot} {own oa ob : Own} {pos p1 p2 p3 : Pos} {s t : Slot} {k j : Nat} {ds ys : List PyData}
/-- xs += ys -/
theorem sd_ext (n : Nat) {z : Str} {p : Addr} {pos' : Pos} (hN : Z.X.N.Nodup) (hv : ρ[n]? = some (.raw (.ref p))) (he : ES Z e ρ (oa ++ (p, .lst ds) :: ob) t) (L : Lst (oa ++ (p, .lst ds) :: ob) t ys) (hl : ds.length + ys.length ≤ 100000) (h : D.nx ρ (oa ++ (p, .lst (ds ++ ys)) :: ob))
    (hi : Z.X.N[n]? = some z := by rfl) (hx : Loc Z.X.env.scope z := by first | exact Or.inl rfl | exact Or.inr rfl) (hf : Z.X.fn z = true ∨ Z.X.env.scope.names.lookup z = some .local := by first | exact .inl rfl | exact .inr rfl | assumption) : SD Z (.AugAssign (.Name z pos') .Add e pos) D ρ (oa ++ (p, .lst ds) :: ob) := fun H0 Hf σ H m0 S E => wS.of (ps_aug hN hi hx peW iop_ext hf) (by
  have hv1 := E.raw hv
  refine ⟨.ref p, hv1, he Hf σ H S E _ fun w Hf1 H1 m1 S1 r1 => ?_⟩
  obtain ⟨q, vs, rfl, h1, g1⟩ := L.at S1 r1
  obtain ⟨_, _, us, h2, g2⟩ := S1.at (p := p) (oo := .lst ds) (by simp)
  refine ⟨p, q, us, vs, rfl, rfl, h2, h1, by rw [g1.length, g2.length]; exact Nat.le_trans hl (by decide), Hf1, ρ, _, m0.trans m1, S1.write (oo' := .lst (ds ++ ys)) ⟨_, upd_same, g2.append g1⟩, ?_, h⟩
  have R' := (E.mono m1).set (v := .ref p) (s := .raw (.ref p)) rfl n
  have e : ρ.set n (.raw (.ref p)) = ρ := by
    refine List.ext_getElem? fun j => ?_
    by_cases hj : n = j
    · subst hj
      have hl : n < ρ.length := (List.getElem?_eq_some_iff.mp hv).1
      rw [List.getElem?_set_self hl, hv]
    · rw [List.getElem?_set_ne hj]
  rw [e] at R'
  exact R')
end
end Sd


namespace Sd
open PySem PySem.Spec PyProof.Rows L2
/-! ### lists of values, one's own (raw); items with a change of what is owned -/
section
variable {Z : Ctx} {D : DE} {e a b c : Expr} {es : List Expr} {ρ : List Slot} {own oa ob : Own} {pos tpos p : Pos} {i j : Int} {s t : Slot} {k : Nat} {ds : List PyData} {x : PyData} {q : Addr} {vs : List V} {R : Slot → Own → Prop}
theorem es_ixR {v : V} (hq : (q, OO.raw (.lst vs)) ∈ own) (ha : EV Z a ρ own (.ref q)) (hb : ED Z b ρ own (.int i)) (h : atI vs i = some v) (hs : ∀ H, SlotR H v s) (hp : PlainIx b := by exact fun _ _ => rfl) : ES Z (.Subscript a b pos) ρ own s := fun Hf σ H S E Q k =>
  wE.of (pe_ix ix_list peW peW hp) (ha Hf σ H S E _ fun w Hf1 H1 m1 S1 r1 => hb Hf1 σ H1 S1 (E.mono m1) _ fun w2 Hf2 H2 m2 S2 r2 => by
    cases r2
    cases (show w = .ref q from r1)
    obtain ⟨_, _, g⟩ := S2.at hq
    exact ⟨q, vs, i, v, rfl, rfl, SqL.of g, h, k v Hf2 H2 (m1.trans m2) S2 (hs _)⟩)
theorem sd_setitemR {v : V} {n : Nat} (he : ES Z e ρ (oa ++ (q, .raw (.lst vs)) :: ob) s) (hv : ∀ H w, SlotR H w s → w = v) (ha : EV Z a ρ (oa ++ (q, .raw (.lst vs)) :: ob) (.ref q)) (hb : ED Z b ρ (oa ++ (q, .raw (.lst vs)) :: ob) (.int i)) (hi : ixN vs.length i = some n) (h : D.nx ρ (oa ++ (q, .raw (.lst (vs.set n v))) :: ob))
    (hs : swapsWithSole [.Subscript a b tpos] e pos.line Z.X.env = pure false := by rfl) (hw : swappedStores [.Subscript a b tpos] e Z.X.env = pure none := by rfl) (h1 : (assignEach [.Subscript a b tpos] Z.X.env).map (·.2) = [assign (.Subscript a b tpos) Z.X.env] := by rfl)
    (hq : ∀ v, assign (.Subscript a b tpos) Z.X.env v = (do
      let ov ← holding [v] (eval a Z.X.env)
      let iv ← holding [v, ov] (eval b Z.X.env)
      standAt tpos
      holding [v, ov, iv] (setItem ov iv v)
      release [v, ov, iv] []) := by intro _; rfl) : SD Z (.Assign [.Subscript a b tpos] e pos) D ρ (oa ++ (q, .raw (.lst vs)) :: ob) := fun H0 Hf σ H m0 S E => wS.of (ps_asg peW (pg_sub peW peW set_list hq) hs hw h1) (he Hf σ H S E _ fun v1 Hf1 H1 m1 S1 r1 => ha Hf1 σ H1 S1 (E.mono m1) _ fun w Hf2 H2 m2 S2 r2 =>
  hb Hf2 σ H2 S2 (E.mono (m1.trans m2)) _ fun z Hf3 H3 m3 S3 r3 => by
    cases r3
    cases (show w = .ref q from r2)
    cases hv _ _ r1
    obtain ⟨_, _, g⟩ := S3.at (p := q) (oo := .raw (.lst vs)) (by simp)
    exact ⟨q, vs, i, n, rfl, rfl, g, hi, Hf3, ρ, _, ((m0.trans m1).trans m2).trans m3, S3.write (oo' := .raw (.lst (vs.set n v))) upd_same, E.mono ((m1.trans m2).trans m3), h⟩)
/-- xs[..], the place with a change -/
theorem eg_ixL {P : Int → Own → Prop} (ha : ED Z a ρ own (.list ds)) (hb : EG Z b ρ own fun t o => ∃ i, t = .d (.int i) ∧ P i o) (h : ∀ i o, P i o → ∃ d, atI ds i = some d ∧ R (.d d) o) (hp : PlainIx b := by exact fun _ _ => rfl) : EG Z (.Subscript a b pos) ρ own R := fun Hf σ H S E Q k =>
  wE.of (pe_ix ix_list peW peW hp) (ha Hf σ H S E _ fun v Hf1 H1 m1 S1 r1 => hb Hf1 σ H1 S1 (E.mono m1) _ fun w Hf2 H2 t o m2 S2 r2 _ hq => by
    obtain ⟨i, rfl, hq⟩ := hq
    obtain ⟨d, h1, h2⟩ := h i o hq
    obtain ⟨p, vs, rfl, g1, g2⟩ := (Lst.d (own := o)).at S2 (r1.mono m2)
    cases r2
    obtain ⟨z, h3, h4⟩ := atI_rep g2 h1
    exact ⟨p, vs, i, z, rfl, rfl, SqL.of g1, h3, k z Hf2 H2 (.d d) o (m1.trans m2) S2 h4 (fun z => nomatch z) h2⟩)
/-- a new list turned into data -/
theorem EG.frz {P : List PyData → Own → Prop} (h : EG Z e ρ own fun s o => ∃ p ds o', s = .raw (.ref p) ∧ o = (p, .lst ds) :: o' ∧ P ds o') (hR : ∀ ds o, P ds o → R (.d (.list ds)) o) : EG Z e ρ own R := fun Hf σ H S E Q k => h Hf σ H S E Q fun v Hf1 H1 s o m1 S1 r1 hs hq => by
  obtain ⟨p, ds, o', rfl, rfl, hq⟩ := hq
  obtain ⟨Hf2, m2, S2, r2⟩ := Sat.freeze (oa := []) S1
  cases (show v = .ref p from r1)
  exact k _ Hf2 H1 (.d (.list ds)) o' (m1.trans m2) S2 r2 (fun z => nomatch z) (hR ds o' hq)
/-- arguments, the first with a change -/
def EAG (Z : Ctx) (es : List Expr) (ρ : List Slot) (own : Own) (R : List Slot → Own → Prop) : Prop := ∀ Hf σ H, Sat Z.B Hf H own → EnvR Hf σ ρ → ∀ Q : List V → Hp → Prop, (∀ vs Hf' H' ss own', Same Hf Hf' → Sat Z.B Hf' H' own' → SlotsR Hf' vs ss → R ss own' → Q vs H') → wA Z.X es σ H Q
theorem EA.toEAG {ss : List Slot} {R : List Slot → Own → Prop} (h : EA Z es ρ own ss) (q : R ss own) : EAG Z es ρ own R := fun Hf σ H S E Q k => h Hf σ H S E Q fun vs Hf' H' m S' r => k vs Hf' H' ss own m S' r q
theorem eag_cons {R : List Slot → Own → Prop} {P : Slot → Own → Prop} (h : EG Z e ρ own P) (hr : ∀ s o, P s o → s ≠ .un → EAG Z es ρ o (fun ss o' => R (s :: ss) o')) (hs : starEach (e :: es) Z.X.env = (false, eval e Z.X.env) :: starEach es Z.X.env := by rfl) : EAG Z (e :: es) ρ own R := fun Hf σ H S E Q k => wA.of (pa_cons peW paW hs) (h Hf σ H S E _ fun v Hf1 H1 s o m1 S1 r1 hu q1 =>
  hr s o q1 hu Hf1 σ H1 S1 (E.mono m1) _ fun vs Hf2 H2 ss o2 m2 S2 r2 q2 => k (v :: vs) Hf2 H2 (s :: ss) o2 (m1.trans m2) S2 (.cons (r1.mono m2) r2) q2)
end
/-! ### a range whose end changes what is owned, walked by a comprehension -/
section
variable {Z : Ctx} {elt tg iter a : Expr} {ifs : List Expr} {scope : Scope} {ρ : List Slot} {own : Own} {k : Nat} {pos p : Pos}
def ITG (Z : Ctx) (tg iter : Expr) (ρ : List Slot) (own : Own) (P : List PyData → Own → Prop) : Prop := ∃ wi : TI, PI Z.X tg iter wi ∧ ∀ Hf σ H, Sat Z.B Hf H own → EnvR Hf σ ρ → ∀ R : It → Hp → Prop, (∀ J Hf' H' ys own', Same Hf Hf' → Sat Z.B Hf' H' own' → P ys own' → Walk Z.B J Hf' ys (fun _ => True) → R J H') → wi σ H R
theorem itg_range1 {P : Int → Own → Prop} (hm : Z.X.mg "range" = none) (h : EG Z a ρ own fun t o => ∃ i, t = .d (.int i) ∧ (-1000000 ≤ i ∧ i ≤ 1000000) ∧ P i o) (hg : Gl Z.X "range" := by rfl) (hs : starEach [a] Z.X.env = [(false, eval a Z.X.env)] := by rfl) : ITG Z tg (.Call (.Name "range" p) [a] [] pos) ρ own (fun ys o => ∃ i, ys = rng 0 i.toNat ∧ P i o) :=
  ⟨_, pi_range1 hg hm paW hs, fun Hf σ H S E R q => (eag_cons (R := fun ss o => ∃ i, ss = [.d (.int i)] ∧ (-1000000 ≤ i ∧ i ≤ 1000000) ∧ P i o) h (fun s o hq _ => by
      obtain ⟨i, rfl, hi, hp⟩ := hq
      exact EA.toEAG ea_nil ⟨i, rfl, hi, hp⟩) hs) Hf σ H S E _ fun vs Hf1 H1 ss o m1 S1 r1 hq => by
    obtain ⟨i, rfl, hi, hp⟩ := hq
    obtain ⟨v, rfl, r⟩ := r1.one
    cases r
    exact ⟨i, rfl, by omega, by omega, q _ Hf1 H1 _ _ m1 S1 ⟨i, rfl, hp⟩ (walk_rng 0 _)⟩⟩
theorem compG {P : List PyData → Own → Prop} (g : Gd Z k) (it : ITG Z tg iter ρ own P) (on : List (Str × Nat)) (ok : BlkOk Z.X.N Z.X.env.scope scope on) (I : List PyData → Nat → List PyData → Own → Prop) (h0 : ∀ ys o, P ys o → I ys 0 [] o) (hlen : ∀ ys i acc o, I ys i acc o → acc.length < 100000)
    (step : ∀ ys i y acc o D, ys[i]? = some y → I ys i acc o → ∃ ρ2 is l, (∀ i ∈ is, i ∈ on.map (·.2)) ∧ (∀ s H C cl fp, GT (blkZ Z scope s H C cl fp) tg y (wipeR ρ (on.map (·.2))) ρ2 is) ∧ (∀ s H C cl fp, ETs (blkZ Z scope s H C cl fp) ifs ρ2 ((D, .lst acc) :: o) l) ∧
      (l = true → ∀ s H C cl fp, EG (blkZ Z scope s H C cl fp) elt ρ2 ((D, .lst acc) :: o) (fun t o2 => ∃ d o', t = .d d ∧ o2 = (D, .lst acc) :: o' ∧ I ys (i + 1) (acc ++ [d]) o')) ∧ (l = false → I ys (i + 1) acc o)) :
    CP Z elt tg iter ifs scope ρ own (fun ds o => ∃ ys, I ys ys.length ds o) := by
  obtain ⟨wi, hi, hw⟩ := it
  refine ⟨wi, fun v σ H Q => ∀ s' H' C cl fp, wG (Z.X.blk s' H' scope (compEnvC scope cl C Z.X.env) fp) tg v σ H Q, fun σ H Q => ∀ s' H' C cl fp, wTs (Z.X.blk s' H' scope (compEnvC scope cl C Z.X.env) fp) ifs σ H Q, fun σ H Q => ∀ s' H' C cl fp, wE (Z.X.blk s' H' scope (compEnvC scope cl C Z.X.env) fp) elt σ H Q, on, hi, ok,
    fun s' H' C cl fp => ⟨fun pins s σ H v u Q I r h => (h s' H' C cl fp).run pins s u I r⟩, fun s' H' C cl fp => ⟨fun pins s σ H Q I h => (h s' H' C cl fp).run pins s I⟩, fun s' H' C cl fp => ⟨fun pins s σ H Q I h => (h s' H' C cl fp).run pins s I⟩, fun Hf σ H S E Q q => ?_⟩
  refine hw Hf σ H S E _ fun J Hf1 H1 ys own1 m1 S1 hP W D hD => ?_
  refine ⟨fun i m H' => m = ys.length - i ∧ i ≤ ys.length ∧ ∃ Hf' acc o, Same Hf1 Hf' ∧ Sat Z.B Hf' H' ((D, .lst acc) :: o) ∧ I ys i acc o, ⟨ys.length, by omega, by omega, Hf1, [], own1, Same.refl _, S1.newOwn hD ⟨[], upd_same, .nil⟩, h0 ys own1 hP⟩, ?_⟩
  rintro i m H' ⟨rfl, hil, Hf', acc, o, m', S', q'⟩
  by_cases hlt : i < ys.length
  · refine .inr ⟨W.go i Hf' H' _ m' S' trivial hlt, fun H2 => ∃ Hf2 acc2 o2, Same Hf1 Hf2 ∧ Sat Z.B Hf2 H2 ((D, .lst acc2) :: o2) ∧ I ys (i + 1) acc2 o2, fun H2 ⟨Hf2, acc2, o2, m2, S2, q2⟩ => ⟨ys.length - (i + 1), by omega, rfl, hlt, Hf2, acc2, o2, m2, S2, q2⟩, fun x H2 hx => ?_⟩
    obtain ⟨Hf2, m2, S2, r2⟩ := W.yld i _ Hf' H' _ x H2 m' S' trivial (List.getElem?_eq_getElem hlt) hx
    obtain ⟨ρ2, is, l, hin, gt, et, h1, h2⟩ := step ys i _ acc o D (List.getElem?_eq_getElem hlt) q'
    have E2 : EnvR Hf2 (wipe σ (on.map (·.2))) (wipeR ρ (on.map (·.2))) := (E.mono ((m1.trans m').trans m2)).wipe _
    intro s' H'' C cl fp
    refine gt s' H'' C cl fp _ Hf2 _ H2 x S2 E2 r2 _ fun σ3 E3 b3 => ⟨wipe_but b3 hin, ?_⟩
    intro s' H'' C cl fp
    refine et s' H'' C cl fp Hf2 σ3 H2 S2 E3 _ fun Hf3 H3 m3 S3 => ?_
    cases l with
    | false => exact iteF ⟨Hf3, acc, o, (m'.trans m2).trans m3, S3, h2 rfl⟩
    | true =>
      refine iteT ?_
      intro s' H'' C cl fp
      refine h1 rfl s' H'' C cl fp Hf3 σ3 H3 S3 (E3.mono m3) _ fun v Hf4 H4 t o2 m4 S4 r4 _ hq => ?_
      obtain ⟨d, o', rfl, rfl, hI⟩ := hq
      obtain ⟨_, _, vs, g1, g2⟩ := S4.at (p := D) (oo := .lst acc) (by simp)
      exact ⟨vs, g1, by rw [g2.length]; exact Nat.lt_of_lt_of_le (hlen _ _ _ _ q') (by decide), Hf4, acc ++ [d], o', ((m'.trans m2).trans m3).trans m4, S4.write (oa := []) (oo' := .lst (acc ++ [d])) ⟨_, upd_same, g2.append (.cons r4 .nil)⟩, hI⟩
  · have e : i = ys.length := by omega
    subst e
    exact .inl ⟨W.stop _ Hf' H' _ m' S' trivial (Nat.le_refl _), q D Hf' H' acc o (m1.trans m') S' ⟨ys, q'⟩⟩
end
/-! ### a def of the text as the top has left it -/
structure Df (K : PySem.W.Frag) (mg : Str → Option Value) (z : Str) (st : Stmt) (ps : List Str) : Prop where
  ex : ∃ f fd, Fun K z z st f fd ∧ mg z = some (.ref f) ∧ ∀ us : List Value, us.length = ps.length → bindArgs fd ⟨us, []⟩ = pure (ps.zip us)
theorem Df.fn {K : PySem.W.Frag} {mg : Str → Option Value} {P : Program} {w : World} {base : Heap} {z : Str} {st : Stmt} {ps : List Str} {k : Nat} {Pre : Pr} (D : Df K mg z st ps) (h : ∀ f fd, Fun K z z st f fd → FnOk P w K mg base (L2.CX P w) k f fd ps (spG Pre)) : Fn K mg P w base z ps k Pre := by
  obtain ⟨f, fd, F, hm, hb⟩ := D.ex
  exact ⟨f, fd, h f fd F, hm, F.kp, Binds.all hb⟩
theorem df_mk {K : PySem.W.Frag} {mg : Str → Option Value} {h : Heap} {z : Str} {st : Stmt} {ps : List Str} {f : Addr} {oc : Value} {od an : Option Addr} {sl : Array (Option Value)} {kV dc pm cd ct : Value} (X : K.In h) (G : h.Ns mainGlobals mg)
    (hb : ∀ (kV doc pm : Value) (an : Option Addr) (cdv ct : Value) (us : List Value), us.length = ps.length → bindArgs (PySem.W.fnOf z z (defArgs st) (defBody st) (defScope st) .none kV doc pm an cdv ct) ⟨us, []⟩ = pure (ps.zip us))
    (a : PySem.W.nsIn K mainGlobals z = some (some (.ref f))) (l : K.lookup f = some ⟨oc, od, .func (PySem.W.fnOf z z (defArgs st) (defBody st) (defScope st) .none kV dc pm an cd ct), sl⟩) (c : PySem.W.codeIn K cd z = true) (k : PySem.W.keepIn K (.ref f) = true) : Df K mg z st ps :=
  have F := fun_mk (st := st) l c k
  ⟨f, _, F, PySem.W.mg_of X G a, fun us hl => hb _ _ _ _ _ _ us hl⟩
theorem err_mk {K : PySem.W.Frag} {mg : Str → Option Value} {h : Heap} {z : Str} {C : Addr} (X : K.In h) (G : h.Ns mainGlobals mg) (a : PySem.W.nsIn K mainGlobals z = some (some (.ref C)))
    (x : PySem.W.excIn K C [.type "ValueError", .type "Exception", .type "BaseException", .type "object"] "ValueError.__new__" = true) (k : PySem.W.keepIn K (.ref C) = true) (b : PySem.W.subIn K (.ref C) (.type "BaseException") = some true) (t : PySem.W.typeIn K (.ref C) = some (.type "type")) : ErrC K mg z C := ⟨PySem.W.mg_of X G a, x, k, b, t⟩
/-- the classes of the program -/
structure Cl where
  DayError : Addr
  BadYear : Addr
  BadDay : Addr
  BadNumber : Addr
  BadShare : Addr
  BadText : Addr
  NotFound : Addr
  Calendar : Addr
end Sd


/-! fractions as data, sizes -/
namespace Sd
open PySem PySem.Spec PyProof.Rows L2
def fr (q : Rat) : PyData := .tuple [.int q.num, .int (q.den : Int)]
theorem low_eq (a b : Int) (hb : 0 < b) : ((a : Rat) / b).num = a / (Int.gcd a b) ∧ (((a : Rat) / b).den : Int) = b / (Int.gcd a b) := by
  rw [← Rat.divInt_eq_div]
  refine ⟨?_, ?_⟩
  · rw [Rat.num_divInt, Int.sign_eq_one_of_pos hb, Int.one_mul, Int.gcd_comm]
  · rw [Rat.den_divInt, if_neg (by omega), Int.gcd_comm, Int.natCast_ediv, Int.natAbs_of_nonneg (by omega)]
theorem fr_low (a b : Int) (hb : 0 < b) : PyData.tuple [.int (a / (Int.gcd a b : Nat)), .int (b / (Int.gcd a b : Nat))] = fr ((a : Rat) / b) := by
  unfold fr
  rw [(low_eq a b hb).1, (low_eq a b hb).2]
theorem den_pos (q : Rat) : (0 : Int) < (q.den : Int) := by
  have := q.den_nz
  omega
theorem num_den (q : Rat) : (q.num : Rat) / ((q.den : Int) : Rat) = q := by
  rw [← Rat.divInt_eq_div, Rat.num_divInt_den]
theorem den_ne (q : Rat) : ((q.den : Int) : Rat) ≠ 0 := by
  intro h
  have : (q.den : Int) = 0 := by exact_mod_cast h
  have := den_pos q
  omega
theorem num_eq (q : Rat) : (q.num : Rat) = q * ((q.den : Int) : Rat) := by
  have h := num_den q
  have h2 := den_ne q
  grind
theorem eqv_fr (p q : Rat) : PyData.eqv (fr p) (fr q) = decide (p = q) := by
  have e : PyData.eqv (fr p) (fr q) = (decide (p.num = q.num) && decide ((p.den : Int) = (q.den : Int))) := by
    simp [fr, PyData.eqv, PyData.eqvAll, Bool.beq_eq_decide_eq]
  rw [e, Bool.eq_iff_iff]
  simp only [Bool.and_eq_true, decide_eq_true_eq]
  constructor
  · rintro ⟨h1, h2⟩
    exact Rat.ext h1 (by omega)
  · rintro rfl
    exact ⟨rfl, rfl⟩
/-! shapes -/
def Shp (n : Nat) (d : PyData) : Prop := d.canLay0 = true ∧ d.depth ≤ n
theorem Shp.shaped {n : Nat} {d : PyData} (h : Shp n d) (hn : n ≤ 64) : SeqAt.shaped d = true := by
  unfold SeqAt.shaped
  rw [h.1, decide_eq_true (Nat.le_trans h.2 hn)]
  rfl
theorem depthAll_le {n : Nat} : ∀ {ds : List PyData}, (∀ d ∈ ds, d.depth ≤ n) → PyData.depthAll ds ≤ n
  | [], _ => Nat.zero_le _
  | d :: ds, h => by
    unfold PyData.depthAll
    exact Nat.max_le.mpr ⟨h d (by simp), depthAll_le fun x hx => h x (by simp [hx])⟩
theorem canAll_of : ∀ {ds : List PyData}, (∀ d ∈ ds, d.canLay0 = true) → PyData.canLayAll0 ds = true
  | [], _ => by simp [PyData.canLayAll0]
  | d :: ds, h => by
    unfold PyData.canLayAll0
    rw [h d (by simp), canAll_of fun x hx => h x (by simp [hx])]
    rfl
theorem shp_int (i : Int) : Shp 0 (.int i) := ⟨by simp [PyData.canLay0], by simp [PyData.depth]⟩
theorem shp_bool (i : Bool) : Shp 0 (.bool i) := ⟨by simp [PyData.canLay0], by simp [PyData.depth]⟩
theorem shp_list {n : Nat} {ds : List PyData} (h : ∀ d ∈ ds, Shp n d) : Shp (n + 1) (.list ds) := ⟨by unfold PyData.canLay0; exact canAll_of fun d hd => (h d hd).1, by unfold PyData.depth; have := depthAll_le (n := n) fun d hd => (h d hd).2; omega⟩
theorem shp_tup {n : Nat} {ds : List PyData} (h : ∀ d ∈ ds, Shp n d) : Shp (n + 1) (.tuple ds) := ⟨by unfold PyData.canLay0; exact canAll_of fun d hd => (h d hd).1, by unfold PyData.depth; have := depthAll_le (n := n) fun d hd => (h d hd).2; omega⟩
theorem shp_fr (q : Rat) : Shp 1 (fr q) := shp_tup fun d hd => by
  simp only [List.mem_cons, List.not_mem_nil, or_false] at hd
  rcases hd with rfl | rfl <;> exact shp_int _
theorem shp_ints (ns : List Int) : Shp 1 (.list (ns.map PyData.int)) := shp_list fun d hd => by
  obtain ⟨n, _, rfl⟩ := List.mem_map.mp hd
  exact shp_int n
theorem sh_fr (q : Rat) : SeqAt.shaped (fr q) = true := (shp_fr q).shaped (by decide)
theorem sh_ints (ns : List Int) : SeqAt.shaped (.list (ns.map PyData.int)) = true := (shp_ints ns).shaped (by decide)
def Sz (n : Nat) (i : Int) : Prop := i.natAbs < 2 ^ n
def Sq (n : Nat) (q : Rat) : Prop := q.num.natAbs < 2 ^ n ∧ q.den < 2 ^ n
theorem pow_le {m n : Nat} (h : m ≤ n) : 2 ^ m ≤ 2 ^ n := Nat.pow_le_pow_right (by decide) h
theorem Sz.mono {m n : Nat} {i : Int} (h : Sz m i) (hn : m ≤ n) : Sz n i := Nat.lt_of_lt_of_le h (pow_le hn)
theorem Sq.mono {m n : Nat} {q : Rat} (h : Sq m q) (hn : m ≤ n) : Sq n q := ⟨Nat.lt_of_lt_of_le h.1 (pow_le hn), Nat.lt_of_lt_of_le h.2 (pow_le hn)⟩
theorem Sz.mul {m n : Nat} {i j : Int} (h : Sz m i) (h' : Sz n j) : Sz (m + n) (i * j) := wide_lt h h'
theorem Sz.add {m n : Nat} {i j : Int} (h : Sz m i) (h' : Sz n j) : Sz (max m n + 1) (i + j) := by
  have h1 := (h.mono (Nat.le_max_left m n))
  have h2 := (h'.mono (Nat.le_max_right m n))
  unfold Sz at *
  rw [Nat.pow_succ]
  omega
theorem Sz.neg {m : Nat} {i : Int} (h : Sz m i) : Sz m (-i) := by unfold Sz at *; rw [Int.natAbs_neg]; exact h
theorem Sz.sub {m n : Nat} {i j : Int} (h : Sz m i) (h' : Sz n j) : Sz (max m n + 1) (i - j) := by rw [Int.sub_eq_add_neg]; exact h.add h'.neg
theorem Sq.num {m : Nat} {q : Rat} (h : Sq m q) : Sz m q.num := h.1
theorem Sq.den {m : Nat} {q : Rat} (h : Sq m q) : Sz m (q.den : Int) := by unfold Sz; rw [Int.natAbs_natCast]; exact h.2
theorem cmul_of {a b : Nat} {i j : Int} (ha : Sz a i) (hb : Sz b j) (h : a + b ≤ 999998) : CMulW i j := wide_mul (a := a + 1) (b := b + 1) (ha.mono (by omega)) (hb.mono (by omega)) (by omega) (by omega) (by omega)
theorem cdiv_of {b : Nat} {i j : Int} (h : 0 < j) (hb : Sz b j) (h9 : b ≤ 8999) : CDivW i j := wide_div (b := b + 1) h (hb.mono (by omega)) (by omega) (by omega)
theorem ediv_le_natAbs (a : Int) (g : Nat) (hd : (g : Int) ∣ a) : (a / (g : Int)).natAbs ≤ a.natAbs := by
  rw [Int.natAbs_ediv_of_dvd hd]
  exact Nat.div_le_self _ _
theorem Sq.of_div {n : Nat} {a b : Int} (hb : 0 < b) (h1 : Sz n a) (h2 : Sz n b) : Sq n ((a : Rat) / b) := by
  obtain ⟨e1, e2⟩ := low_eq a b hb
  constructor
  · rw [e1]
    exact Nat.lt_of_le_of_lt (ediv_le_natAbs a _ (Int.gcd_dvd_left a b)) h1
  · have h3 := ediv_le_natAbs b _ (Int.gcd_dvd_right a b)
    rw [← e2] at h3
    rw [Int.natAbs_natCast] at h3
    exact Nat.lt_of_le_of_lt h3 h2
theorem plus_eq (p q : Rat) : ((p.num * (q.den : Int) + q.num * (p.den : Int) : Int) : Rat) / ((p.den : Int) * (q.den : Int) : Int) = p + q := by
  have h1 := num_eq p
  have h2 := num_eq q
  have h3 := den_ne p
  have h4 := den_ne q
  push_cast at *
  rw [h1, h2]
  grind
theorem minus_eq (p q : Rat) : ((p.num * (q.den : Int) - q.num * (p.den : Int) : Int) : Rat) / ((p.den : Int) * (q.den : Int) : Int) = p - q := by
  have h1 := num_eq p
  have h2 := num_eq q
  have h3 := den_ne p
  have h4 := den_ne q
  push_cast at *
  rw [h1, h2]
  grind
theorem Sq.add {m n : Nat} {p q : Rat} (h : Sq m p) (h' : Sq n q) : Sq (m + n + 1) (p + q) := by
  rw [← plus_eq]
  refine Sq.of_div (Int.mul_pos (den_pos p) (den_pos q)) ?_ ((h.den.mul h'.den).mono (by omega))
  exact ((h.num.mul h'.den).add (h'.num.mul h.den)).mono (by omega)
theorem Sq.sub {m n : Nat} {p q : Rat} (h : Sq m p) (h' : Sq n q) : Sq (m + n + 1) (p - q) := by
  rw [← minus_eq]
  refine Sq.of_div (Int.mul_pos (den_pos p) (den_pos q)) ?_ ((h.den.mul h'.den).mono (by omega))
  exact ((h.num.mul h'.den).sub (h'.num.mul h.den)).mono (by omega)
theorem le_fr (p q : Rat) : (p.num * (q.den : Int) ≤ q.num * (p.den : Int)) ↔ p ≤ q := (Rat.le_iff p q).symm
theorem lt_fr (p q : Rat) : (p.num * (q.den : Int) < q.num * (p.den : Int)) ↔ p < q := (Rat.lt_iff p q).symm
theorem gcd_step (a b : Int) (ha : 0 ≤ a) (hb : 0 < b) : Int.gcd b (a % b) = Int.gcd a b := by
  have e : (a % b).natAbs = a.natAbs % b.natAbs := by
    rw [Int.natAbs_emod_of_nonneg ha]
  unfold Int.gcd
  rw [e, Nat.gcd_comm b.natAbs, ← Nat.gcd_rec, Nat.gcd_comm]
/-! no data is a dict -/
theorem Rep.nd {H : Hp} {v : V} {x : PyData} (h : Rep H v x) : ∀ kvs, x ≠ .dict kvs := fun kvs e => by
  subst e
  cases h
theorem Reps.nd {H : Hp} : ∀ {vs : List V} {ds : List PyData}, Reps H vs ds → ∀ d ∈ ds, ∀ kvs, d ≠ .dict kvs
  | _, _, .nil, _, h => nomatch h
  | _, _, .cons a b, d, h => by
    rcases List.mem_cons.mp h with rfl | h
    · exact a.nd
    · exact b.nd d h
def NoD (x : PyData) : Prop := (∀ kvs, x ≠ .dict kvs) ∧ ∀ ds, x = .list ds ∨ x = .tuple ds → ∀ d ∈ ds, ∀ kvs, d ≠ .dict kvs
theorem Rep.noD {H : Hp} {v : V} {x : PyData} (h : Rep H v x) : NoD x := ⟨h.nd, fun ds e => by
  rcases e with rfl | rfl
  · cases h with
    | lst _ r => exact r.nd
  · cases h with
    | tup _ r => exact r.nd⟩
theorem sds_nd {Z : Ctx} {sts : List Stmt} {D : DE} {ρ : List Slot} {own : Own} (i : Nat) {x : PyData} (hi : ρ[i]? = some (.d x)) (k : NoD x → SDs Z sts D ρ own) : SDs Z sts D ρ own := fun H0 Hf σ H m0 S E => by
  obtain ⟨v, _, r⟩ := E.d hi
  exact k r.noD H0 Hf σ H m0 S E
/-! years -/
def isInt (x : PyData) (lo hi : Int) : Bool := match x with
  | .int i => decide (lo ≤ i) && decide (i ≤ hi)
  | _ => false
def isYear (x : PyData) : Bool := match x with
  | .list ds => decide (1 ≤ (ds.length : Int)) && decide ((ds.length : Int) ≤ 8) && (ds.map fun d => isInt d 1 20).all id
  | _ => false
/-- a year of ints -/
structure Yr (ys : List Int) : Prop where
  lo : 1 ≤ ys.length
  hi : ys.length ≤ 8
  it : ∀ y ∈ ys, 1 ≤ y ∧ y ≤ 20
abbrev li (ns : List Int) : PyData := .list (ns.map PyData.int)
theorem Yr.is {ys : List Int} (h : Yr ys) : isYear (li ys) = true := by
  have e : isYear (li ys) = (decide (1 ≤ ((ys.map PyData.int).length : Int)) && decide (((ys.map PyData.int).length : Int) ≤ 8) && ((ys.map PyData.int).map fun d => isInt d 1 20).all id) := rfl
  have h1 := h.lo
  have h2 := h.hi
  rw [e, List.length_map, decide_eq_true (by omega), decide_eq_true (by omega), List.map_map]
  simp only [Bool.and_self, Bool.true_and, List.all_eq_true, List.mem_map]
  rintro x ⟨y, hy, rfl⟩
  have := h.it y hy
  simp [isInt, this.1, this.2]
theorem Sz.pow {k : Nat} {b : Int} (h : Sz k b) : ∀ n : Nat, Sz (k * n + 1) (b ^ n)
  | 0 => by unfold Sz; simp
  | n + 1 => by
    rw [Int.pow_succ]
    exact ((Sz.pow h n).mul h).mono (by rw [Nat.mul_succ]; omega)
/-! binomials -/
def bin : Nat → Nat → Nat
  | _, 0 => 1
  | 0, _ + 1 => 0
  | n + 1, k + 1 => bin n k + bin n (k + 1)
theorem bin_zero (n : Nat) : bin n 0 = 1 := by cases n <;> rfl
theorem bin_succ (n k : Nat) : bin (n + 1) (k + 1) = bin n k + bin n (k + 1) := rfl
theorem bin_out : ∀ (n k : Nat), n < k → bin n k = 0
  | _, 0, h => by omega
  | 0, _ + 1, _ => rfl
  | n + 1, k + 1, h => by rw [bin_succ, bin_out n k (by omega), bin_out n (k + 1) (by omega)]
theorem bin_self : ∀ n : Nat, bin n n = 1
  | 0 => rfl
  | n + 1 => by rw [bin_succ, bin_self n, bin_out n (n + 1) (by omega)]
theorem bin_mul : ∀ (n k : Nat), (n + 1) * bin n k = bin (n + 1) (k + 1) * (k + 1)
  | 0, 0 => rfl
  | 0, k + 1 => by simp [bin]
  | n + 1, 0 => by
    have h := bin_mul n 0
    rw [bin_zero] at *
    rw [bin_succ, bin_zero]
    omega
  | n + 1, k + 1 => by
    have h1 := bin_mul n k
    have h2 := bin_mul n (k + 1)
    rw [bin_succ (n + 1) (k + 1)]
    rw [bin_succ n (k + 1)] at h2 ⊢
    rw [bin_succ n k] at h1 ⊢
    grind
theorem bin_next (n k : Nat) (h : k ≤ n) : bin n (k + 1) * (k + 1) = bin n k * (n - k) := by
  have h1 := bin_mul n k
  rw [bin_succ] at h1
  obtain ⟨m, rfl⟩ : ∃ m, n = k + m := ⟨n - k, by omega⟩
  have e : k + m - k = m := by omega
  rw [e]
  grind
theorem bin_step (n i : Nat) (h : i ≤ n) : ((bin n i : Nat) : Int) * ((n : Int) - (0 + (i : Int))) / (0 + (i : Int) + 1) = (bin n (i + 1) : Nat) := by
  have h1 := bin_next n i h
  have h2 : ((bin n i : Nat) : Int) * ((n : Int) - (0 + (i : Int))) = ((bin n (i + 1) : Nat) : Int) * (0 + (i : Int) + 1) := by
    have e1 : ((n : Int) - (0 + (i : Int))) = ((n - i : Nat) : Int) := by omega
    have e2 : (0 + (i : Int) + 1) = ((i + 1 : Nat) : Int) := by omega
    rw [e1, e2]
    exact_mod_cast h1.symm
  rw [h2, Int.mul_ediv_cancel _ (by omega)]
theorem bin_le : ∀ (n k : Nat), bin n k ≤ 2 ^ n
  | n, 0 => by rw [bin_zero]; exact Nat.one_le_two_pow
  | 0, k + 1 => by simp [bin]
  | n + 1, k + 1 => by
    have h1 := bin_le n k
    have h2 := bin_le n (k + 1)
    rw [bin_succ, Nat.pow_succ]
    omega
theorem bin_lt (n i : Nat) {k : Nat} (h : i < k) (hk : k ≤ n) : bin n i < 2 ^ n := by
  cases n with
  | zero => omega
  | succ n =>
    cases i with
    | zero => rw [bin_zero]; exact Nat.one_lt_two_pow (by omega)
    | succ i =>
      have h1 := bin_le n i
      have h2 := bin_le n (i + 1)
      rw [bin_succ, Nat.pow_succ]
      by_cases e : i = n
      · omega
      · have : ∀ (n i : Nat), i < n → bin n i < 2 ^ n := fun n i hi => by
          induction n generalizing i with
          | zero => omega
          | succ n ih =>
            cases i with
            | zero => rw [bin_zero]; exact Nat.one_lt_two_pow (by omega)
            | succ i =>
              have a1 := ih i (by omega)
              have a2 := bin_le n (i + 1)
              rw [bin_succ, Nat.pow_succ]
              omega
        have a := this n i (by omega)
        omega
/-! lists of ints walked -/
theorem sum_le_mul {b : Int} : ∀ {ys : List Int}, (∀ y ∈ ys, y ≤ b) → ys.sum ≤ b * ys.length
  | [], _ => by simp
  | y :: ys, h => by
    have h1 := sum_le_mul (ys := ys) fun z hz => h z (by simp [hz])
    have h2 := h y (by simp)
    rw [List.sum_cons, List.length_cons]
    push_cast
    rw [Int.mul_add]
    omega
theorem sum_ge_mul {b : Int} : ∀ {ys : List Int}, (∀ y ∈ ys, b ≤ y) → b * ys.length ≤ ys.sum
  | [], _ => by simp
  | y :: ys, h => by
    have h1 := sum_ge_mul (ys := ys) fun z hz => h z (by simp [hz])
    have h2 := h y (by simp)
    rw [List.sum_cons, List.length_cons]
    push_cast
    rw [Int.mul_add]
    omega
theorem Yr.sum_lo {ys : List Int} (h : Yr ys) : 1 ≤ ys.sum := by
  have h1 := sum_ge_mul (b := 1) fun y hy => (h.it y hy).1
  have := h.lo
  omega
theorem Yr.sum_hi {ys : List Int} (h : Yr ys) : ys.sum ≤ 160 := by
  have h1 := sum_le_mul (b := 20) fun y hy => (h.it y hy).2
  have := h.hi
  omega
theorem Yr.szW {ys : List Int} (h : Yr ys) : Sz 8 ys.sum := by
  have h1 := h.sum_lo
  have h2 := h.sum_hi
  unfold Sz
  omega
theorem Yr.szy {ys : List Int} (h : Yr ys) {y : Int} (hy : y ∈ ys) : Sz 8 y := by
  have h3 := h.it y hy
  unfold Sz
  omega
theorem Yr.posP {ys : List Int} (h : Yr ys) (n : Nat) : 0 < ys.sum ^ n := Int.pow_pos (by have := h.sum_lo; omega)
theorem Sz.nat {n k : Nat} (h : n < 2 ^ k) : Sz k (n : Int) := by unfold Sz; rw [Int.natAbs_natCast]; exact h
theorem Sz.one : Sz 1 1 := by unfold Sz; decide
theorem Sq.one : Sq 1 1 := ⟨by decide, by decide⟩
theorem Sq.zero : Sq 1 0 := ⟨by decide, by decide⟩
theorem getI {ys : List Int} {j : Nat} {y : Int} (h : ys[j]? = some y) : atI (ys.map PyData.int) (j : Int) = some (.int y) := atI_nat (by rw [List.getElem?_map, h]; rfl)
theorem bin_sz (n k : Nat) : Sz (n + 1) (bin n k : Nat) := Sz.nat (Nat.lt_of_le_of_lt (bin_le n k) (by rw [Nat.pow_succ]; have := Nat.one_le_two_pow (n := n); omega))
/-- told numbers on the days: ways -/
def plcW : List Int → List Nat → Nat → Int
  | y :: ys, k :: ks, left => (bin left k : Nat) * y ^ k * plcW ys ks (left - k)
  | _, _, _ => 1
def maxL (ys : List Int) : Int := ys.foldl max 0
theorem maxL_aux : ∀ (ys : List Int) (a : Int), a ≤ ys.foldl max a ∧ (∀ y ∈ ys, y ≤ ys.foldl max a) ∧ (ys.foldl max a = a ∨ ys.foldl max a ∈ ys)
  | [], a => ⟨Int.le_refl _, by simp, .inl rfl⟩
  | y :: ys, a => by
    obtain ⟨h1, h2, h3⟩ := maxL_aux ys (max a y)
    rw [List.foldl_cons]
    refine ⟨by omega, fun z hz => ?_, ?_⟩
    · rcases List.mem_cons.mp hz with rfl | hz
      · omega
      · exact h2 z hz
    · rcases h3 with h3 | h3
      · rw [h3]
        by_cases h : a ≤ y
        · right
          rw [Int.max_eq_right h]
          simp
        · left
          exact Int.max_eq_left (by omega)
      · exact .inr (by simp [h3])
theorem Yr.max_le {ys : List Int} (h : Yr ys) : ∀ y ∈ ys, y ≤ maxL ys := (maxL_aux ys 0).2.1
/-- a list of numbers for the days -/
structure Ct (ys : List Int) (cs : List Nat) : Prop where
  len : cs.length = ys.length
  sum : cs.sum ≤ 12
end Sd


/-! the script, the draws -/
namespace Sd
open PySem PySem.Spec PyProof.Rows L2
def ScrAt (K : PySem.W.Frag) (own : Own) (a : Addr) (xs : List Int) : Prop := ∀ (Hf H : Hp), (∀ q ∈ own, OwnOk Hf H q.1 q.2) → SqL K H a (xs.map V.int)
theorem ScrAt.at {K : PySem.W.Frag} {own : Own} {a : Addr} {xs : List Int} {B : Bs} {Hf H : Hp} (h : ScrAt K own a xs) (S : Sat B Hf H own) : SqL K H a (xs.map V.int) := h Hf H fun q hq => (S.ow q hq).2.2
theorem dp_ints {K : PySem.W.Frag} {H : Hp} : ∀ xs : List Int, DpAll K H (xs.map V.int) (xs.map PyData.int)
  | [] => .nil
  | x :: xs => .cons (.int x) (dp_ints xs)
section
variable {Z : Ctx} {e a b c : Expr} {ρ : List Slot} {own : Own} {pos p : Pos} {i : Int} {k : Nat} {q : Addr} {xs : List Int}
theorem c_neScr (g : Gd Z k) (h : ScrAt Z.X.K own q xs) : CmpB Z .NotEq own (.raw (.ref q)) (.d (.list [])) (!decide (xs = [])) := ⟨_, op_neD g.hr.units, fun v w Hf H S r1 r2 Q k => by
  cases (show v = .ref q from r1)
  refine ⟨.list (xs.map PyData.int), .list [], .lst (h.at S) (dp_ints xs), (Rep.mono S.e1 r2).dp, sh_ints xs, (shp_list (n := 0) (ds := []) (fun d hd => absurd hd (by simp))).shaped (by decide), ?_⟩
  have e : PyData.eqv (.list (xs.map PyData.int)) (.list []) = decide (xs = []) := by
    cases xs <;> simp [PyData.eqv, PyData.eqvAll]
  rw [e]
  exact k⟩
theorem el_listScr (hm : Z.X.mg "list" = none) (h : EV Z e ρ own (.ref q)) (hs' : ScrAt Z.X.K own q xs) (hg : Gl Z.X "list" := by rfl) (hs : starEach [e] Z.X.env = (false, eval e Z.X.env) :: starEach [] Z.X.env := by rfl) : EL Z (.Call (.Name "list" p) [e] [] pos) ρ own (xs.map PyData.int) :=
  el_callTy call_list_of hg hm (by decide +kernel) (ea_cons h ea_nil hs) fun vs Hf H S r0 Q k => by
    obtain ⟨v, rfl, r⟩ := r0.one
    cases (show v = .ref q from r)
    exact ⟨q, _, rfl, .inl (hs'.at S), fun l hl => k l Hf _ (Same.refl _) (S.newOwn (oo := .lst (xs.map PyData.int)) hl ⟨_, upd_same, Reps.ints xs⟩)⟩
/-- [a, i], the first a value with a change -/
theorem eg_lst2 {P : V → Own → Prop} (h1 : EG Z a ρ own fun s o => ∃ v, s = .raw v ∧ P v o) (h2 : ∀ v o, P v o → ED Z b ρ o (.int i)) (hs : starEach [a, b] Z.X.env = (false, eval a Z.X.env) :: starEach [b] Z.X.env := by rfl) (hs2 : starEach [b] Z.X.env = (false, eval b Z.X.env) :: starEach [] Z.X.env := by rfl) :
    EG Z (.List [a, b] pos) ρ own (fun s o => ∃ q v o', s = .raw (.ref q) ∧ o = (q, .raw (.lst [v, .int i])) :: o' ∧ P v o') := fun Hf σ H S E Q k => wE.of (pe_lst paW)
  ((eag_cons (R := fun ss o => ∃ v, ss = [.raw v, .d (.int i)] ∧ P v o) h1 (fun s o hq _ => by
      obtain ⟨v, rfl, hq⟩ := hq
      exact EA.toEAG (ea_cons (h2 v o hq) ea_nil hs2) ⟨v, rfl, hq⟩) hs) Hf σ H S E _ fun vs Hf1 H1 ss o m1 S1 r1 hq => by
    obtain ⟨v, rfl, hq⟩ := hq
    obtain ⟨v1, v2, rfl, r2, r3⟩ := r1.two
    cases (show v1 = v from r2)
    cases r3
    exact ⟨by show 2 ≤ sizeLine; decide, fun p hp => k _ Hf1 _ (.raw (.ref p)) _ m1 (S1.newOwn (oo := .raw (.lst [v, .int i])) hp upd_same) rfl (fun z => nomatch z) ⟨p, v, o, rfl, rfl, hq⟩⟩)
end
/-- what the draws are: a list of a list of ints and a count -/
def drw (d n : Addr) (cells : List Int) (cnt : Int) : Own := [(d, .raw (.lst [.ref n, .int cnt])), (n, .lst (cells.map PyData.int))]
theorem cx_no {P : Program} {w : World} {H : Hp} {s : Shared} {e : Value} {s' : Shared} (h : L2.CX P w [] H s (fun _ _ _ => False) e s') : False := by
  obtain ⟨_, _, _, _, _, _, _, _, _, _, _, _, z⟩ := h
  exact z
def pre_law (K : PySem.W.Frag) : Pr := fun ss own post => ∃ (a : Addr) (ns : List Int), ss = [.raw (.ref a)] ∧ ScrAt K own a ns ∧ ns.length ≤ 63 ∧ post = fun o => ∃ own', o = .ret (.d (.bool true)) own'
theorem law_in {K : PySem.W.Frag} {H : Hp} {a : Addr} {ns : List Int} (hl : ns.length ≤ 63) (hO : Only H) (hS : SqL K H a (ns.map V.int)) : spG (pre_law K) [.ref a] H (fun v _ => v = .bl true) (fun _ _ _ => False) := by
  have fin : ∀ (own : Own) (HB : Hp), Sat ⟨fun _ => none, HB⟩ (fun _ => none) H own → ScrAt K own a ns → spG (pre_law K) [.ref a] H (fun v _ => v = .bl true) (fun _ _ _ => False) := fun own HB S hs =>
    ⟨fun _ => none, HB, [.raw (.ref a)], own, _, S, .cons rfl .nil, ⟨a, ns, rfl, hs, hl, rfl⟩, fun s own' v Hf' H' hq S' r hu => by
      obtain ⟨o, hq⟩ := hq
      cases hq
      cases r
      rfl, fun C own' Hf' H' hq S' => by
      obtain ⟨o, hq⟩ := hq
      cases hq⟩
  have nt : ∀ (p : Addr) (xs : List V), H p = some (.tup xs) → (none : Option HO) = some (.tup xs) := fun p xs h => by
    rcases hO p with z | ⟨o, ys, z⟩
    · rw [z] at h; cases h
    · rw [z] at h; cases h
  rcases hS with (h | ⟨o, h⟩) | h
  · rcases hO a with z | ⟨o, xs, z⟩
    · rw [z] at h; cases h
    · rw [z] at h; cases h
  · refine fin [(a, .raw (.frz o (.lst (ns.map V.int))))] (less H [a]) ⟨fun _ _ h => h, fun _ _ h => (by cases h), fun p u h => ?_, fun p u h => (by cases h), fun q hq => ?_, by simp, nt⟩ (fun Hf H' hq => ?_)
    · by_cases hp : p ∈ [a]
      · have h : less H [a] p = some u := h
        rw [less_in hp] at h; cases h
      · have h : less H [a] p = some u := h
        rw [less_out hp] at h; exact h
    · have e : q = (a, .raw (.frz o (.lst (ns.map V.int)))) := by simpa using hq
      subst e
      exact ⟨rfl, less_in (by simp), h⟩
    · have h' := hq (a, .raw (.frz o (.lst (ns.map V.int)))) (by simp)
      exact .inl (.inr ⟨o, h'⟩)
  · exact fin [] H ⟨fun _ _ h => h, fun _ _ h => (by cases h), fun _ _ h => h, fun p u h => (by cases h), fun q hq => (nomatch hq), by simp, nt⟩ (fun Hf H' _ => .inr h)
end Sd


/-! more statements -/
namespace Sd
open PySem PySem.Spec PyProof.Rows L2
section
variable {Z : Ctx} {D : DE} {e a b c tg : Expr} {es : List Expr} {ρ : List Slot} {own oa ob : Own} {pos tpos p : Pos} {i j : Int} {s t : Slot} {k : Nat} {ds : List PyData} {x : PyData} {q : Addr} {R : Slot → Own → Prop}
end
section
variable {Z : Ctx} {e : Expr} {es : List Expr} {ρ : List Slot} {o1 : Own} {pos p : Pos} {k j : Nat} {ss : List Slot} {z : Str} {ps : List Str} {Pre : Pr} {post : Out → Prop} {R : Slot → Own → Prop}
/-- a def that gets all that is owned -/
theorem eg_callW (F : Fn Z.X.K Z.X.mg Z.X.prog Z.X.w Z.X.base z ps j Pre) (g : Gd Z k) (hj : j ≤ k) (ha : EA Z (e :: es) ρ o1 ss) (hp : Pre ss o1 post) (h1 : ∀ s o1', post (.ret s o1') → R s o1') (h2 : ∀ C o1', post (.exc C o1') → Z.ex C ρ o1')
    (hg : Gl Z.X z := by rfl) (hdb : (z == ("__debug__" : Str)) = false := by decide) (he : starEach (e :: es) Z.X.env = (false, eval e Z.X.env) :: starEach es Z.X.env := by rfl) (hpl : (backTo pos (starEach es Z.X.env)).any (·.1) = false := by rfl) :
    EG Z (.Call (.Name z p) (e :: es) [] pos) ρ o1 R := by
  have e0 : ∀ o : Own, [] ++ o ++ [] = o := fun o => by rw [List.nil_append, List.append_nil]
  have := eg_call (p := p) (R := R) (oa := []) (o1 := o1) (ob := []) F g hj (by rw [e0]; exact ha) hp (fun s o h => by rw [e0]; exact h1 s o h) (fun C o h => by rw [e0]; exact h2 C o h) hg hdb he hpl
  rw [e0] at this
  exact this
end
/-- a, b = constants: no swap -/
theorem sw_const {ts vs : List Expr} {k k2 : Nat} {p p2 : Pos} {env : Env} (h : vs.all (foldedForSure 8) = true) : swappedStores [.Tuple ts k p] (.Tuple vs k2 p2) env = pure none := by
  unfold swappedStores
  simp only [h]
  simp
  repeat' split
  all_goals rfl
end Sd


/-! still more rules -/
namespace Sd
open PySem PySem.Spec PyProof.Rows L2
section
variable {Z : Ctx} {D : DE} {e a b c tg : Expr} {es : List Expr} {ρ : List Slot} {own oa ob : Own} {pos tpos p : Pos} {i j : Int} {s t : Slot} {k : Nat} {ds : List PyData} {x y : PyData} {q : Addr} {R : Slot → Own → Prop}
theorem c_isND : CmpB Z .Is own (.d x) (.d .none) (isNone (.d x)) := c_isN (fun z => nomatch z)
/-- a test that fails: nothing happens -/
theorem sd_ifF {A : List Stmt} (hc : ET Z c ρ own false) (h : D.nx ρ own) : SD Z (.If c A [] pos) D ρ own := sd_if hc (fun e => nomatch e) fun _ => sds_nil h
end
theorem cutD_from (xs : List PyData) (k : Nat) (h : k ≤ xs.length) : cutD xs (some (k : Int)) none = xs.drop k := by
  unfold cutD
  rw [HT.sIx_nat, HT.sIx_none, Nat.min_eq_left h]
  exact List.take_of_length_le (by rw [List.length_drop]; omega)
theorem eqv_bool (a b : Bool) : PyData.eqv (.bool a) (.bool b) = decide (a = b) := by cases a <;> cases b <;> rfl
theorem sh_bool (a : Bool) : SeqAt.shaped (.bool a) = true := (shp_bool a).shaped (by decide)
end Sd


/-! an exception that is caught and kept in a name -/
namespace Sd
open PySem PySem.Spec PyProof.Rows L2
section
variable {X : Cx} {pins : List (Addr × Obj)} {σ : L2.St} {H : Hp} {s : Shared}
end
section
variable {Z : Ctx} {D : DE} {ρ : List Slot} {own : Own} {k : Nat} {x n z : Str} {c : Value} {body : List Stmt} {np pos pos' p1 p2 p3 : Pos}
end
/-! ### isinstance of a kept exception -/
section
variable {Z : Ctx} {a b o e : Expr} {ρ : List Slot} {own : Own} {pos p cpos apos : Pos} {k : Nat} {q D : Addr} {s t : Slot} {ds : List PyData} {x : PyData}
end
/-- what is known of a class of errors beside the others -/
structure ErrK (K : PySem.W.Frag) (C y d n s t o D : Addr) (by_ bd bn bs bt bo : Bool) : Prop where
  xc : ExcC K C
  y : PySem.W.kitOne K (.ref C) (.ref y) = some by_
  d : PySem.W.kitOne K (.ref C) (.ref d) = some bd
  n : PySem.W.kitOne K (.ref C) (.ref n) = some bn
  s : PySem.W.kitOne K (.ref C) (.ref s) = some bs
  t : PySem.W.kitOne K (.ref C) (.ref t) = some bt
  o : PySem.W.kitOne K (.ref C) (.ref o) = some bo
  de : PySem.W.kitOne K (.ref C) (.ref D) = some true
  ve : PySem.W.kitOne K (.ref C) (.type "ValueError") = some true
  ex : PySem.W.exmOne K (.ref C) (.ref D) = some true
end Sd


/-! sets of ints -/
namespace Sd
open PySem PySem.Spec PyProof.Rows L2
theorem ixN_of {n j : Nat} (hj : j < n) : ixN n (j : Int) = some j := by
  unfold ixN
  rw [if_pos (by omega), if_pos (by omega)]
  rfl
section
variable {X : Cx}
end
section
variable {Z : Ctx} {e : Expr} {ρ : List Slot} {own : Own} {pos p p2 q : Pos} {k : Nat} {s : Slot}
end
theorem Sat.nil {B : Bs} {Hf H : Hp} {own : Own} (S : Sat B Hf H own) : Sat B Hf H [] := ⟨S.e0, S.e1, S.eb, S.fr, (fun q hq => nomatch hq), by simp, S.tp⟩
section
variable {Z : Ctx} {D : DE} {ρ : List Slot} {own : Own} {sts : List Stmt} {a b c : Expr} {pos : Pos} {R : Slot → Own → Prop}
theorem sds_rtdrop (h : SDs Z sts { D with rt := fun s _ => D.rt s [] } ρ own) : SDs Z sts D ρ own := fun H0 Hf σ H m0 S E => wSs.imp (h H0 Hf σ H m0 S E) (fun _ _ q => q) (fun v H' ⟨Hf', s, o, m, S', r, hs, q⟩ => ⟨Hf', s, [], m, S'.nil, r, hs, q⟩) (fun _ _ q => q) (fun _ _ q => q)
end
/-! ### one class of errors beside another -/
end Sd


/-! sorted of pairs of ints -/
namespace Sd
open PySem PySem.Spec PyProof.Rows L2
def lexB (p q : Int × Int) : Bool := decide (p.1 < q.1) || (decide (p.1 = q.1) && decide (p.2 ≤ q.2))
def insP (x : Int × Int) : List (Int × Int) → List (Int × Int)
  | [] => [x]
  | y :: ys => if lexB x y then x :: y :: ys else y :: insP x ys
def srtP : List (Int × Int) → List (Int × Int)
  | [] => []
  | x :: xs => insP x (srtP xs)
abbrev pr (p : Int × Int) : PyData := .tuple [.int p.1, .int p.2]
theorem Reps.mem {H : Hp} : ∀ {vs : List V} {ds : List PyData}, Reps H vs ds → ∀ v ∈ vs, ∃ d ∈ ds, Rep H v d
  | _, _, .nil, _, h => nomatch h
  | _, _, .cons a b, v, h => by
    rcases List.mem_cons.mp h with e | h
    · rw [e]; exact ⟨_, by simp, a⟩
    · obtain ⟨d, hd, r⟩ := Reps.mem b v h
      exact ⟨d, by simp [hd], r⟩
section
variable {Z : Ctx} {e : Expr} {ρ : List Slot} {own : Own} {pos p : Pos} {s : Slot}
end
end Sd


/-! texts -/
namespace Sd
open PySem PySem.Spec PyProof.Rows L2
section
variable {Z : Ctx} {e o a b tg : Expr} {ρ : List Slot} {own : Own} {pos p apos cpos : Pos} {s : Slot} {i n : Int} {z y : Str} {k : Nat}
end
end Sd


namespace Sd
open PySem PySem.Spec PyProof.Rows L2
/-! sums over ints, lists given by functions -/
def sumN (f : Nat → Int) : Nat → Int
  | 0 => 0
  | n + 1 => sumN f n + f n
theorem sumN_congr {f g : Nat → Int} : ∀ {n : Nat}, (∀ i, i < n → f i = g i) → sumN f n = sumN g n
  | 0, _ => rfl
  | n + 1, h => by rw [sumN, sumN, sumN_congr fun i hi => h i (by omega), h n (by omega)]
theorem sumN_add (f g : Nat → Int) : ∀ n : Nat, sumN (fun i => f i + g i) n = sumN f n + sumN g n
  | 0 => rfl
  | n + 1 => by simp only [sumN]; rw [sumN_add f g n]; omega
theorem sumN_mul (c : Int) (f : Nat → Int) : ∀ n : Nat, sumN (fun i => c * f i) n = c * sumN f n
  | 0 => by simp [sumN]
  | n + 1 => by simp only [sumN]; rw [sumN_mul c f n, Int.mul_add]
theorem sumN_zero : ∀ n : Nat, sumN (fun _ => 0) n = 0
  | 0 => rfl
  | n + 1 => by rw [sumN, sumN_zero n]; rfl
theorem sumN_nonneg {f : Nat → Int} : ∀ {n : Nat}, (∀ i, i < n → 0 ≤ f i) → 0 ≤ sumN f n
  | 0, _ => Int.le_refl _
  | n + 1, h => by
    have := sumN_nonneg (f := f) (n := n) fun i hi => h i (by omega)
    have := h n (by omega)
    rw [sumN]
    omega
theorem sumN_le {f g : Nat → Int} : ∀ {n : Nat}, (∀ i, i < n → f i ≤ g i) → sumN f n ≤ sumN g n
  | 0, _ => Int.le_refl _
  | n + 1, h => by
    have := sumN_le (f := f) (g := g) (n := n) fun i hi => h i (by omega)
    have := h n (by omega)
    rw [sumN, sumN]
    omega
theorem sumN_shift (f : Nat → Int) : ∀ n : Nat, sumN f (n + 1) = f 0 + sumN (fun i => f (i + 1)) n
  | 0 => by simp [sumN]
  | n + 1 => by rw [sumN, sumN_shift f n, sumN]; omega
theorem sumN_sz {b : Nat} {f : Nat → Int} : ∀ {n : Nat}, (∀ i, i < n → Sz b (f i)) → Sz (b + n) (sumN f n)
  | 0, _ => by unfold Sz; simp only [sumN]; exact Nat.two_pow_pos _
  | n + 1, h => by
    have h1 := sumN_sz (f := f) (n := n) fun i hi => h i (by omega)
    have h2 := h n (by omega)
    exact (h1.add h2).mono (by omega)
theorem rng_nat {i : Int} {n : Nat} (h : i = (n : Int)) : rng 0 i.toNat = (List.range n).map fun (k : Nat) => PyData.int (k : Int) := by
  subst h
  simp [rng]
/-- f 0, f 1, .. as data -/
def tabZ (f : Nat → Int) (n : Nat) : List PyData := (List.range n).map fun (k : Nat) => PyData.int (f k)
theorem tabZ_len (f : Nat → Int) (n : Nat) : (tabZ f n).length = n := by simp [tabZ]
theorem tabZ_get {f : Nat → Int} {n i : Nat} (h : i < n) : (tabZ f n)[i]? = some (.int (f i)) := by
  unfold tabZ
  rw [List.getElem?_map, List.getElem?_range h]
  rfl
theorem tabZ_congr {f g : Nat → Int} {n : Nat} (h : ∀ k, k < n → f k = g k) : tabZ f n = tabZ g n := by
  unfold tabZ
  refine List.map_congr_left fun k hk => ?_
  rw [h k (List.mem_range.mp hk)]
theorem tabZ_set (f : Nat → Int) (n i : Nat) (z : Int) : (tabZ f n).set i (.int z) = tabZ (fun k => if k = i then z else f k) n := by
  refine List.ext_getElem? fun j => ?_
  by_cases hj : j < n
  · rw [tabZ_get hj]
    by_cases e : i = j
    · subst e
      rw [List.getElem?_set_self (by rw [tabZ_len]; exact hj), if_pos rfl]
    · rw [List.getElem?_set_ne e, tabZ_get hj, if_neg (fun z => e z.symm)]
  · rw [List.getElem?_eq_none (by rw [List.length_set, tabZ_len]; omega), List.getElem?_eq_none (by rw [tabZ_len]; omega)]
theorem tabZ_const (z : Int) (n : Nat) : (List.replicate n [PyData.int z]).flatten = tabZ (fun _ => z) n := by
  induction n with
  | zero => rfl
  | succ n ih =>
    rw [List.replicate_succ', List.flatten_append, ih]
    unfold tabZ
    rw [List.range_succ, List.map_append]
    rfl
theorem tabZ_unit (n : Nat) : [PyData.int 1] ++ (List.replicate n [PyData.int 0]).flatten = tabZ (fun k => if k = 0 then 1 else 0) (n + 1) := by
  rw [tabZ_const]
  unfold tabZ
  rw [List.range_succ_eq_map, List.map_cons, List.map_map]
  rfl
theorem tabZ_at {f : Nat → Int} {n i : Nat} (h : i < n) : atI (tabZ f n) (i : Int) = some (.int (f i)) := atI_nat (tabZ_get h)
theorem sz_pw {w : Int} (h : 1 ≤ w ∧ w ≤ 20) {o : Nat} (ho : o ≤ 12) : Sz 61 (w ^ o) := by
  have : Sz 5 w := by unfold Sz; omega
  exact (this.pow o).mono (by omega)
theorem sz_bin {n o : Nat} (hn : n ≤ 12) : Sz 13 (bin n o : Nat) := (bin_sz n o).mono (by omega)

/-! lists of lists under change -/
theorem Sat.perm {B : Bs} {Hf H : Hp} {o o' : Own} (h : o.Perm o') (S : Sat B Hf H o) : Sat B Hf H o' := ⟨S.e0, S.e1, S.eb, S.fr, fun q hq => S.ow q (h.mem_iff.mpr hq), (h.map Prod.fst).nodup_iff.mp S.nd, S.tp⟩
def rowsO : List Addr → (Nat → List PyData) → Own
  | [], _ => []
  | a :: as, tb => (a, .lst (tb 0)) :: rowsO as (fun i => tb (i + 1))
theorem rowsO_congr : ∀ {as : List Addr} {f g : Nat → List PyData}, (∀ k, k < as.length → f k = g k) → rowsO as f = rowsO as g
  | [], _, _, _ => rfl
  | a :: as, f, g, h => by
    show (a, OO.lst (f 0)) :: rowsO as _ = (a, OO.lst (g 0)) :: rowsO as _
    rw [h 0 (by simp), rowsO_congr fun k hk => h (k + 1) (by rw [List.length_cons]; omega)]
theorem rowsO_snoc (a : Addr) : ∀ (as : List Addr) (tb : Nat → List PyData), rowsO (as ++ [a]) tb = rowsO as tb ++ [(a, .lst (tb as.length))]
  | [], _ => rfl
  | b :: as, tb => by
    show (b, OO.lst (tb 0)) :: rowsO (as ++ [a]) _ = (b, OO.lst (tb 0)) :: (rowsO as _ ++ _)
    rw [rowsO_snoc a as]
    rfl
theorem rowsO_split : ∀ {as : List Addr} {tb : Nat → List PyData} {i : Nat}, i < as.length → ∃ oa ob a, as[i]? = some a ∧ rowsO as tb = oa ++ (a, .lst (tb i)) :: ob ∧ ∀ r, rowsO as (fun k => if k = i then r else tb k) = oa ++ (a, .lst r) :: ob
  | [], _, _, h => absurd h (by simp)
  | a :: as, tb, 0, _ => ⟨[], rowsO as (fun i => tb (i + 1)), a, rfl, rfl, fun r => by
      show (a, OO.lst (if 0 = 0 then r else tb 0)) :: rowsO as (fun i => if i + 1 = 0 then r else tb (i + 1)) = _
      rw [if_pos rfl, rowsO_congr (g := fun i => tb (i + 1)) fun k _ => if_neg (by omega)]
      rfl⟩
  | a :: as, tb, i + 1, h => by
    obtain ⟨oa, ob, b, h1, h2, h3⟩ := rowsO_split (as := as) (tb := fun i => tb (i + 1)) (i := i) (by rw [List.length_cons] at h; omega)
    refine ⟨(a, .lst (tb 0)) :: oa, ob, b, by simpa using h1, ?_, fun r => ?_⟩
    · show (a, OO.lst (tb 0)) :: rowsO as _ = _
      rw [h2]
      rfl
    · show (a, OO.lst (if 0 = i + 1 then r else tb 0)) :: rowsO as (fun k => if k + 1 = i + 1 then r else tb (k + 1)) = _
      rw [if_neg (by omega), rowsO_congr (g := fun k => if k = i then r else tb (k + 1)) fun k _ => ?_, h3 r]
      · rfl
      · by_cases e : k = i
        · rw [if_pos e, if_pos (by omega)]
        · rw [if_neg e, if_neg (by omega)]
section
variable {Z : Ctx} {elt tg iter : Expr} {scope : Scope} {ρ : List Slot} {own : Own} {k : Nat} {Po : Own → Prop} {ys : List PyData} {pos : Pos} {D : DE}
/-- a comprehension that makes new lists, all one's own -/
def CPR (Z : Ctx) (elt tg iter : Expr) (scope : Scope) (ρ : List Slot) (own : Own) (tb : Nat → List PyData) (n : Nat) : Prop :=
  ∃ (wi : TI) (g : TG) (tt : TT) (te : TE) (on : List (Str × Nat)), PI Z.X tg iter wi ∧ BlkOk Z.X.N Z.X.env.scope scope on ∧ (∀ (s : Shared) (H : Hp) (C : Addr) (cl : List (Str × Addr)) (fp : List Addr), PG (Z.X.blk s H scope (compEnvC scope cl C Z.X.env) fp) tg g) ∧
    (∀ (s : Shared) (H : Hp) (C : Addr) (cl : List (Str × Addr)) (fp : List Addr), PTs (Z.X.blk s H scope (compEnvC scope cl C Z.X.env) fp) [] tt) ∧ (∀ (s : Shared) (H : Hp) (C : Addr) (cl : List (Str × Addr)) (fp : List Addr), PE (Z.X.blk s H scope (compEnvC scope cl C Z.X.env) fp) elt te) ∧
    ∀ Hf σ H, Sat Z.B Hf H own → EnvR Hf σ ρ → ∀ Q : VK, (∀ p Hf' H' as, Same Hf Hf' → Sat Z.B Hf' H' ((p, .raw (.lst (as.map V.ref))) :: (rowsO as tb ++ own)) → as.length = n → Q (.ref p) H') → tLc wi g tt te (on.map (·.2)) σ H Q
theorem compR (g : Gd Z k) (it : IT Z tg iter ρ own Po ys) (on : List (Str × Nat)) (ok : BlkOk Z.X.N Z.X.env.scope scope on) (tb : Nat → List PyData) (hpo : ∀ D as, Po ((D, .raw (.lst (as.map V.ref))) :: (rowsO as tb ++ own))) (hlen : ys.length < 100000)
    (step : ∀ i y as D, ys[i]? = some y → ∃ ρ2 is, (∀ i ∈ is, i ∈ on.map (·.2)) ∧ (∀ s H C cl fp, GT (blkZ Z scope s H C cl fp) tg y (wipeR ρ (on.map (·.2))) ρ2 is) ∧
      (∀ s H C cl fp, EL (blkZ Z scope s H C cl fp) elt ρ2 ((D, .raw (.lst (as.map V.ref))) :: (rowsO as tb ++ own)) (tb i))) :
    CPR Z elt tg iter scope ρ own tb ys.length := by
  obtain ⟨wi, hi, hw⟩ := it
  refine ⟨wi, fun v σ H Q => ∀ s' H' C cl fp, wG (Z.X.blk s' H' scope (compEnvC scope cl C Z.X.env) fp) tg v σ H Q, fun σ H Q => ∀ s' H' C cl fp, wTs (Z.X.blk s' H' scope (compEnvC scope cl C Z.X.env) fp) [] σ H Q, fun σ H Q => ∀ s' H' C cl fp, wE (Z.X.blk s' H' scope (compEnvC scope cl C Z.X.env) fp) elt σ H Q, on, hi, ok,
    fun s' H' C cl fp => ⟨fun pins s σ H v u Q I r h => (h s' H' C cl fp).run pins s u I r⟩, fun s' H' C cl fp => ⟨fun pins s σ H Q I h => (h s' H' C cl fp).run pins s I⟩, fun s' H' C cl fp => ⟨fun pins s σ H Q I h => (h s' H' C cl fp).run pins s I⟩, fun Hf σ H S E Q q => ?_⟩
  refine hw Hf σ H S E _ fun J Hf1 H1 m1 S1 W D hD => ?_
  refine ⟨fun i m H' => m = ys.length - i ∧ i ≤ ys.length ∧ ∃ Hf' as, Same Hf1 Hf' ∧ Sat Z.B Hf' H' ((D, .raw (.lst (as.map V.ref))) :: (rowsO as tb ++ own)) ∧ as.length = i, ⟨ys.length, by omega, by omega, Hf1, [], Same.refl _, S1.newOwn (oo := .raw (.lst [])) hD upd_same, rfl⟩, ?_⟩
  rintro i m H' ⟨rfl, hil, Hf', as, m', S', q'⟩
  by_cases hlt : i < ys.length
  · refine .inr ⟨W.go i Hf' H' _ m' S' (hpo D as) hlt, fun H2 => ∃ Hf2 as2, Same Hf1 Hf2 ∧ Sat Z.B Hf2 H2 ((D, .raw (.lst (as2.map V.ref))) :: (rowsO as2 tb ++ own)) ∧ as2.length = i + 1, fun H2 ⟨Hf2, as2, m2, S2, q2⟩ => ⟨ys.length - (i + 1), by omega, rfl, hlt, Hf2, as2, m2, S2, q2⟩, fun x H2 hx => ?_⟩
    obtain ⟨Hf2, m2, S2, r2⟩ := W.yld i _ Hf' H' _ x H2 m' S' (hpo D as) (List.getElem?_eq_getElem hlt) hx
    obtain ⟨ρ2, is, hin, gt, h1⟩ := step i _ as D (List.getElem?_eq_getElem hlt)
    have E2 : EnvR Hf2 (wipe σ (on.map (·.2))) (wipeR ρ (on.map (·.2))) := (E.mono ((m1.trans m').trans m2)).wipe _
    intro s' H'' C cl fp
    refine gt s' H'' C cl fp _ Hf2 _ H2 x S2 E2 r2 _ fun σ3 E3 b3 => ⟨wipe_but b3 hin, ?_⟩
    intro s' H'' C cl fp
    refine ets_nil (Z := blkZ Z scope s' H'' C cl fp) Hf2 σ3 H2 S2 E3 _ fun Hf3 H3 m3 S3 => ?_
    refine iteT ?_
    intro s' H'' C cl fp
    refine h1 s' H'' C cl fp Hf3 σ3 H3 S3 (E3.mono m3) _ fun a Hf4 H4 m4 S4 => ?_
    obtain ⟨_, _, g1⟩ := S4.at (p := D) (oo := .raw (.lst (as.map V.ref))) (by simp)
    refine ⟨as.map V.ref, g1, by rw [List.length_map]; exact Nat.lt_of_lt_of_le (by omega : _ < 100000) (by decide), Hf4, as ++ [a], ((m'.trans m2).trans m3).trans m4, ?_, by simp [q']⟩
    have S5 := S4.write (oa := [(a, .lst (tb i))]) (p := D) (o := .lst (as.map V.ref ++ [V.ref a])) (oo' := .raw (.lst (as.map V.ref ++ [V.ref a]))) upd_same
    refine S5.perm ?_
    rw [rowsO_snoc, List.map_append, q']
    simp only [List.cons_append, List.nil_append, List.append_assoc, List.map_cons, List.map_nil]
    refine (List.Perm.swap _ _ _).trans (List.Perm.cons _ ?_)
    exact (List.perm_middle (l₁ := rowsO as tb)).symm
  · have e : i = ys.length := by omega
    subst e
    exact .inl ⟨W.stop _ Hf' H' _ m' S' (hpo D as) (Nat.le_refl _), q D Hf' H' as (m1.trans m') S' q'⟩
theorem sd_setCR (n : Nat) {y : Str} {py spos : Pos} {tb : Nat → List PyData} {N : Nat} (g : Gd Z k) (h : CPR Z elt tg iter scope ρ own tb N) (hn : ∀ p as, as.length = N → D.nx (ρ.set n (.raw (.ref p))) ((p, .raw (.lst (as.map V.ref))) :: (rowsO as tb ++ own)))
    (hsw : swapsWith (.ListComp elt [⟨tg, iter, [], 0⟩] scope pos) (some (.Name y py)) spos.line Z.X.env = pure true) (hy : Z.X.N[n]? = some y := by rfl) (hyl : Z.X.env.scope.names.lookup y = some .local := by rfl) (hs : ∀ x, foldedSetIterable iter Z.X.env x = pure x := by intro _; rfl) :
    SD Z (.Assign [.Name y py] (.ListComp elt [⟨tg, iter, [], 0⟩] scope pos) spos) D ρ own := by
  obtain ⟨wi, gg, tt, te, on, hi, ok, hg, ht, he, hq⟩ := h
  exact fun H0 Hf σ H m0 S E => wS.of (ps_setLc g.calm g.nd hy hyl hsw hi ok hg ht he hs) (hq Hf σ H S E _ fun p Hf' H' as m S' hf => ⟨Hf', _, _, m0.trans m, S', (E.mono m).set (s := .raw (.ref p)) rfl n, hn p as hf⟩)
end
/-- the rows will not change any more -/
theorem Sat.freezeRows {B : Bs} {H : Hp} : ∀ {as : List Addr} {tb : Nat → List PyData} {own : Own} {Hf : Hp}, Sat B Hf H (rowsO as tb ++ own) → ∃ Hf', Same Hf Hf' ∧ Sat B Hf' H own ∧ Reps Hf' (as.map V.ref) ((List.range as.length).map fun k => PyData.list (tb k))
  | [], _, _, Hf, S => ⟨Hf, Same.refl _, S, .nil⟩
  | a :: as, tb, own, Hf, S => by
    obtain ⟨Hf1, m1, S1, r1⟩ := Sat.freeze (oa := []) (p := a) (ob := rowsO as (fun i => tb (i + 1)) ++ own) S
    obtain ⟨Hf2, m2, S2, r2⟩ := Sat.freezeRows (as := as) S1
    refine ⟨Hf2, m1.trans m2, S2, ?_⟩
    rw [List.length_cons, List.range_succ_eq_map, List.map_cons, List.map_cons, List.map_map]
    exact .cons (r1.mono m2) r2
theorem sds_freezeRows {Z : Ctx} {D : DE} {ρ : List Slot} {own : Own} {sts : List Stmt} (i : Nat) {q : Addr} {as : List Addr} {tb : Nat → List PyData} (hi : ρ[i]? = some (.raw (.ref q))) (h : SDs Z sts D (ρ.set i (.d (.list ((List.range as.length).map fun k => PyData.list (tb k))))) own) : SDs Z sts D ρ ((q, .raw (.lst (as.map V.ref))) :: (rowsO as tb ++ own)) := fun H0 Hf σ H m0 S E => by
  have S0 : Sat Z.B Hf H (rowsO as tb ++ (q, .raw (.lst (as.map V.ref))) :: own) := S.perm (List.perm_middle (l₁ := rowsO as tb)).symm
  obtain ⟨Hf1, m1, S1, r1⟩ := Sat.freezeRows S0
  obtain ⟨a1, b1, c1⟩ := S1.at (p := q) (oo := .raw (.lst (as.map V.ref))) (by simp)
  have S2 : Sat Z.B Hf1 H ([] ++ (q, .lst ((List.range as.length).map fun k => PyData.list (tb k))) :: own) := by
    refine ⟨S1.e0, S1.e1, S1.eb, S1.fr, fun z hz => ?_, S1.nd, S1.tp⟩
    rcases List.mem_cons.mp hz with rfl | hz
    · exact ⟨a1, b1, _, c1, r1⟩
    · exact S1.ow z (List.mem_cons_of_mem _ hz)
  obtain ⟨Hf2, m2, S3, r3⟩ := S2.freeze
  have ei : σ[i]? = some (some (.ref q)) := E.raw hi
  have E2 := (E.mono (m1.trans m2)).set (v := .ref q) (s := .d (.list ((List.range as.length).map fun k => PyData.list (tb k)))) r3 i
  have hσ : σ.set i (some (.ref q)) = σ := by
    refine List.ext_getElem? fun j => ?_
    by_cases e : i = j
    · subst e
      rw [List.getElem?_set_self (List.getElem?_eq_some_iff.mp ei).1, ei]
    · rw [List.getElem?_set_ne e]
  rw [hσ] at E2
  exact h H0 Hf2 σ H ((m0.trans m1).trans m2) S3 E2
/-- xs[a][b] += z -/
theorem sd_aug2 {Z : Ctx} {D : DE} {ρ : List Slot} {own : Own} {fr ia ib e : Expr} {q : Addr} {as : List Addr} {F : Nat → Nat → Int} {M a b : Nat} {z : Int} {p1 p2 pos : Pos} (hf : ∀ o, EV Z fr ρ o (.ref q)) (ha : ∀ o, ED Z ia ρ o (.int (a : Int))) (hb : ∀ o, ED Z ib ρ o (.int (b : Int))) (he : ∀ o, ED Z e ρ o (.int z)) (h1 : a < as.length) (h2 : b < M)
    (h : D.nx ρ ((q, .raw (.lst (as.map V.ref))) :: (rowsO as (fun k => tabZ (fun n => if k = a ∧ n = b then F k n + z else F k n) M) ++ own)))
    (hs : PlainIx ia := by exact fun _ _ => rfl) (hq : ∀ ov iv new, augStore ib ov iv new = (do holding [new, ov, iv] (setItem ov iv new); release [new, ov, iv] []; pure .next) := by intros; rfl) :
    SD Z (.AugAssign (.Subscript (.Subscript fr ia p1) ib p2) .Add e pos) D ρ ((q, .raw (.lst (as.map V.ref))) :: (rowsO as (fun k => tabZ (F k) M) ++ own)) := by
  obtain ⟨oa, ob, p, hp, e1, e2⟩ := rowsO_split (tb := fun k => tabZ (F k) M) h1
  have e3 := e2 (tabZ (fun n => if n = b then F a b + z else F a n) M)
  rw [rowsO_congr (f := fun k => if k = a then tabZ (fun n => if n = b then F a b + z else F a n) M else tabZ (F k) M) (g := fun k => tabZ (fun n => if k = a ∧ n = b then F k n + z else F k n) M) fun k _ => by
    by_cases ek : k = a
    · subst ek
      rw [if_pos rfl]
      refine tabZ_congr fun n _ => ?_
      by_cases en : n = b
      · subst en
        rw [if_pos rfl, if_pos ⟨rfl, rfl⟩]
      · rw [if_neg en, if_neg fun z => en z.2]
    · rw [if_neg ek]
      exact tabZ_congr fun n _ => (if_neg fun z => ek z.1).symm] at e3
  rw [e3] at h
  rw [e1]
  have key := sd_augitem (Z := Z) (D := D) (ρ := ρ) (oa := (q, .raw (.lst (as.map V.ref))) :: oa) (ob := ob ++ own) (p := p) (ds := tabZ (F a) M) (n := b) (y := F a b) (z := z) (a := .Subscript fr ia p1) (b := ib) (e := e) (tpos := p2) (pos := pos) iop_addC (es_ixR (s := .raw (.ref p)) (q := q) (vs := as.map V.ref) (v := .ref p) (by simp) (hf _) (ha _) (atI_nat (by rw [List.getElem?_map, hp]; rfl)) (fun _ => rfl) hs) (hb _) (he _) (ixN_of (by rw [tabZ_len]; exact h2)) (tabZ_get h2) trivial (by
    rw [tabZ_set]
    simpa using h) hq
  simpa using key
end Sd


/-! list(range(..)), tuple(range(..)), sorted of a tuple of ints -/
namespace Sd
open PySem PySem.Spec PyProof.Rows L2
section
variable {Z : Ctx} {a b e : Expr} {ρ : List Slot} {own : Own} {pos p p2 q : Pos} {k : Nat} {i j : Int}
end
end Sd


/-! dicts with tuples of ints as keys -/
namespace Sd
open PySem PySem.Spec PyProof.Rows L2
/-! ### walking d.items() -/
section
variable {X : Cx} {pins : List (Addr × Obj)} {σ : L2.St} {H : Hp} {s : Shared}
end

/-! ### a display of one pair -/
def getT {κ α : Type} [DecidableEq κ] (tb : List (κ × α)) (k : κ) : Option α := (tb.find? fun e => decide (e.1 = k)).map (·.2)
def putT {κ α : Type} [DecidableEq κ] (tb : List (κ × α)) (k : κ) (v : α) : List (κ × α) :=
  if (tb.any fun e => decide (e.1 = k)) = true then tb.map (fun e => if e.1 = k then (e.1, v) else e) else tb ++ [(k, v)]
theorem inl_inj : ∀ {a b : List Int}, (a.map Sum.inl : List Key) = b.map Sum.inl → a = b
  | [], [], _ => rfl
  | [], _ :: _, h => nomatch h
  | _ :: _, [], h => nomatch h
  | x :: a, y :: b, h => by
    rw [List.map_cons, List.map_cons] at h
    injection h with h1 h2
    injection h1 with h1
    rw [h1, inl_inj h2]
theorem DtOk.nil {Hf : Hp} : DtOk Hf [] [] := ⟨rfl, .nil⟩
theorem DtOk.inv {Hf : Hp} {kvs : List (List Key × V)} {e : List Int × PyData} {tb : List (List Int × PyData)} (h : DtOk Hf kvs (e :: tb)) : ∃ v r, kvs = (e.1.map Sum.inl, v) :: r ∧ Rep Hf v e.2 ∧ DtOk Hf r tb := by
  obtain ⟨h1, h2⟩ := h
  match kvs, h1, h2 with
  | [], h1, _ => exact nomatch h1
  | (k, v) :: r, h1, h2 =>
    rw [List.map_cons, List.map_cons] at h1
    injection h1 with h3 h4
    cases h2 with
    | cons a b => exact ⟨v, r, by rw [← h3], a, h4, b⟩
theorem DtOk.inv0 {Hf : Hp} {kvs : List (List Key × V)} (h : DtOk Hf kvs []) : kvs = [] := by
  have := h.ks
  simpa using this
theorem DtOk.cons {Hf : Hp} {r : List (List Key × V)} {e : List Int × PyData} {tb : List (List Int × PyData)} {v : V} (a : Rep Hf v e.2) (h : DtOk Hf r tb) : DtOk Hf ((e.1.map Sum.inl, v) :: r) (e :: tb) :=
  ⟨by rw [List.map_cons, List.map_cons, h.ks], .cons a h.vs⟩
theorem DtOk.length {Hf : Hp} {kvs : List (List Key × V)} {tb : List (List Int × PyData)} (h : DtOk Hf kvs tb) : kvs.length = tb.length := by
  have := congrArg List.length h.ks
  simpa using this
theorem DtOk.any {Hf : Hp} (k : List Int) : ∀ {tb : List (List Int × PyData)} {kvs : List (List Key × V)}, DtOk Hf kvs tb → (kvs.any fun kv => decide (kv.1 = k.map Sum.inl)) = tb.any fun e => decide (e.1 = k)
  | [], kvs, h => by rw [h.inv0]; rfl
  | e :: tb, kvs, h => by
    obtain ⟨v, r, rfl, _, h2⟩ := h.inv
    rw [List.any_cons, List.any_cons, DtOk.any k h2]
    congr 1
    refine decide_eq_decide.mpr ⟨fun z => inl_inj z, fun z => by rw [z]⟩
theorem DtOk.get {Hf : Hp} (k : List Int) : ∀ {tb : List (List Int × PyData)} {kvs : List (List Key × V)}, DtOk Hf kvs tb → (getT tb k = none → valV kvs (k.map Sum.inl) = none) ∧ ∀ d, getT tb k = some d → ∃ v, valV kvs (k.map Sum.inl) = some v ∧ Rep Hf v d
  | [], kvs, h => by rw [h.inv0]; exact ⟨fun _ => rfl, fun d z => nomatch z⟩
  | e :: tb, kvs, h => by
    obtain ⟨v, r, rfl, hv, h2⟩ := h.inv
    have ih := DtOk.get k h2
    by_cases hk : e.1 = k
    · have g : getT (e :: tb) k = some e.2 := by simp [getT, List.find?_cons, hk]
      rw [g]
      refine ⟨(fun z => nomatch z), fun d z => ?_⟩
      cases z
      exact ⟨v, valV_pos (by rw [hk]), hv⟩
    · have g : getT (e :: tb) k = getT tb k := by simp [getT, List.find?_cons, hk]
      rw [g, valV_neg (fun z => hk (inl_inj z))]
      exact ih
theorem DtOk.at {Hf : Hp} : ∀ {tb : List (List Int × PyData)} {kvs : List (List Key × V)} {i : Nat} {k : List Key} {v : V}, DtOk Hf kvs tb → kvs[i]? = some (k, v) → ∃ e, tb[i]? = some e ∧ k = e.1.map Sum.inl ∧ Rep Hf v e.2
  | [], kvs, i, k, v, h, q => by rw [h.inv0] at q; simp at q
  | e :: tb, kvs, 0, k, v, h, q => by
    obtain ⟨v', r, rfl, hv, h2⟩ := h.inv
    simp at q
    obtain ⟨rfl, rfl⟩ := q
    exact ⟨e, rfl, rfl, hv⟩
  | e :: tb, kvs, i + 1, k, v, h, q => by
    obtain ⟨v', r, rfl, hv, h2⟩ := h.inv
    exact DtOk.at (i := i) h2 (by simpa using q)
section
variable {Z : Ctx} {D : DE} {e f o a : Expr} {ρ : List Slot} {own oa ob : Own} {pos p tpos apos cpos : Pos} {q : Addr} {tb : List (List Int × PyData)} {k : List Int} {d d0 x : PyData} {n : Nat} {R : Slot → Own → Prop}
end
/-! ### what is not needed any more -/
theorem Sat.sub {B : Bs} {Hf H : Hp} {o o' : Own} (h : o'.Sublist o) (S : Sat B Hf H o) : Sat B Hf H o' := ⟨S.e0, S.e1, S.eb, S.fr, fun q hq => S.ow q (h.subset hq), (h.map Prod.fst).nodup S.nd, S.tp⟩
end Sd


/-! a list of one's own, lent: data while an expression runs -/
namespace Sd
open PySem PySem.Spec PyProof.Rows L2
/-- no list within -/
inductive Fre : PyData → Prop
  | non : Fre .none
  | bl (b : Bool) : Fre (.bool b)
  | int (i : Int) : Fre (.int i)
  | str (z : Str) : Fre (.str z)
  | tup {ds : List PyData} : (∀ d ∈ ds, Fre d) → Fre (.tuple ds)
section
variable {Z : Ctx} {D : DE} {e : Expr} {ρ : List Slot} {own : Own} {p : Addr} {ds : List PyData} {R R' : Slot → Own → Prop}
end
/-! ### a def without parameters -/
end Sd


/-! sorted(d), d a dict with tuples of ints as keys -/
namespace Sd
open PySem PySem.Spec PyProof.Rows L2
section
variable {X : Cx}
end
end Sd
namespace Sd
open PySem PySem.Spec PyProof.Rows L2
section
variable {Z : Ctx} {e : Expr} {ρ : List Slot} {own : Own} {pos p : Pos} {s : Slot} {k : Nat}
end
end Sd
namespace Sd
open PySem PySem.Spec PyProof.Rows L2
/-! a comprehension whose elements read what is owned -/
section
variable {Z : Ctx} {elt tg iter : Expr} {ifs : List Expr} {scope : Scope} {ρ : List Slot} {own : Own} {Fin : List PyData → Own → Prop} {k : Nat} {Po : Own → Prop} {ys : List PyData} {pos : Pos} {D : DE}
end

/-! x in a tuple of ints -/
section
variable {Z : Ctx} {own : Own}
end
end Sd


/-! dicts with int keys -/
namespace Sd
open PySem PySem.Spec PyProof.Rows L2
theorem DkOk.nil {Hf : Hp} : DkOk Hf [] [] := ⟨rfl, .nil⟩
theorem DkOk.inv {Hf : Hp} {kvs : List (Key × V)} {e : Int × PyData} {tb : List (Int × PyData)} (h : DkOk Hf kvs (e :: tb)) : ∃ v r, kvs = ((Sum.inl e.1 : Key), v) :: r ∧ Rep Hf v e.2 ∧ DkOk Hf r tb := by
  obtain ⟨h1, h2⟩ := h
  match kvs, h1, h2 with
  | [], h1, _ => exact nomatch h1
  | (k, v) :: r, h1, h2 =>
    rw [List.map_cons, List.map_cons] at h1
    injection h1 with h3 h4
    cases h2 with
    | cons a b => exact ⟨v, r, by rw [← h3], a, h4, b⟩
theorem DkOk.inv0 {Hf : Hp} {kvs : List (Key × V)} (h : DkOk Hf kvs []) : kvs = [] := by
  have := h.ks
  simpa using this
theorem DkOk.cons {Hf : Hp} {r : List (Key × V)} {e : Int × PyData} {tb : List (Int × PyData)} {v : V} (a : Rep Hf v e.2) (h : DkOk Hf r tb) : DkOk Hf (((Sum.inl e.1 : Key), v) :: r) (e :: tb) :=
  ⟨by rw [List.map_cons, List.map_cons, h.ks], .cons a h.vs⟩
theorem DkOk.length {Hf : Hp} {kvs : List (Key × V)} {tb : List (Int × PyData)} (h : DkOk Hf kvs tb) : kvs.length = tb.length := by
  have := congrArg List.length h.ks
  simpa using this
theorem DkOk.any {Hf : Hp} (k : Int) : ∀ {tb : List (Int × PyData)} {kvs : List (Key × V)}, DkOk Hf kvs tb → (kvs.any fun kv => decide (kv.1 = Sum.inl k)) = tb.any fun e => decide (e.1 = k)
  | [], kvs, h => by rw [h.inv0]; rfl
  | e :: tb, kvs, h => by
    obtain ⟨v, r, rfl, _, h2⟩ := h.inv
    rw [List.any_cons, List.any_cons, DkOk.any k h2]
    congr 1
    refine decide_eq_decide.mpr ⟨fun z => Sum.inl.inj z, fun z => by rw [z]⟩
theorem DkOk.get {Hf : Hp} (k : Int) : ∀ {tb : List (Int × PyData)} {kvs : List (Key × V)}, DkOk Hf kvs tb → (getT tb k = none → valV kvs (Sum.inl k) = none) ∧ ∀ d, getT tb k = some d → ∃ v, valV kvs (Sum.inl k) = some v ∧ Rep Hf v d
  | [], kvs, h => by rw [h.inv0]; exact ⟨fun _ => rfl, fun d z => nomatch z⟩
  | e :: tb, kvs, h => by
    obtain ⟨v, r, rfl, hv, h2⟩ := h.inv
    have ih := DkOk.get k h2
    by_cases hk : e.1 = k
    · have g : getT (e :: tb) k = some e.2 := by simp [getT, List.find?_cons, hk]
      rw [g]
      refine ⟨(fun z => nomatch z), fun d z => ?_⟩
      cases z
      exact ⟨v, valV_pos (by rw [hk]), hv⟩
    · have g : getT (e :: tb) k = getT tb k := by simp [getT, List.find?_cons, hk]
      rw [g, valV_neg (fun z => hk (Sum.inl.inj z))]
      exact ih
section
variable {Z : Ctx} {D : DE} {e f o a : Expr} {ρ : List Slot} {own oa ob : Own} {pos p tpos apos cpos : Pos} {q : Addr} {tb : List (Int × PyData)} {k : Int} {d d0 x : PyData} {n : Nat} {R : Slot → Own → Prop}
end
end Sd


namespace Sd
open PySem PySem.Spec PyProof.Rows L2
/-! displays of constants: the step over a constant is proved once, for any constant (quick) -/
section
variable {Z : Sd.Ctx} {ρ : List Slot} {own : Own} {es : List Expr} {s : Slot} {ss : List Slot} {p pos : Pos} {x1 : Nat}
theorem eb_k {x : Const} {j : Nat} (h : ES Z (.Constant x j p) ρ own s) (hr : EA Z es ρ own ss) : EA Z (.Constant x j p :: es) ρ own (s :: ss) := ea_cons h hr
theorem eb_b {a b : Expr} {op : Operator} (h : ES Z (.BinOp a op b p) ρ own s) (hr : EA Z es ρ own ss) : EA Z (.BinOp a op b p :: es) ρ own (s :: ss) := ea_cons h hr
theorem eb_c {f : Expr} {as : List Expr} {ks : List Keyword} (h : ES Z (.Call f as ks p) ρ own s) (hr : EA Z es ρ own ss) : EA Z (.Call f as ks p :: es) ρ own (s :: ss) := ea_cons h hr
theorem ed_lb1 {x : PyData} (h : EA Z es ρ own [.d x]) : ED Z (.List es pos) ρ own (.list [x]) := ed_lst (ds := [x]) h
theorem ed_tb2 {x y : PyData} (h : EA Z es ρ own [.d x, .d y]) : ED Z (.Tuple es x1 pos) ρ own (.tuple [x, y]) := ed_tup (ds := [x, y]) h
theorem ed_k2 {i i' : Int} {j j' : Nat} {p' : Pos} : ED Z (.Tuple [.Constant (.int i) j p, .Constant (.int i') j' p'] x1 pos) ρ own (.tuple [.int i, .int i']) := by with_reducible exact ed_tb2 (eb_k ed_int (eb_k ed_int ea_nil))
theorem eb_t {xs : List Expr} {j : Nat} (h : ES Z (.Tuple xs j p) ρ own s) (hr : EA Z es ρ own ss) : EA Z (.Tuple xs j p :: es) ρ own (s :: ss) := ea_cons h hr
theorem ed_k1 {i : Int} {j : Nat} : ED Z (.List [.Constant (.int i) j p] pos) ρ own (.list [.int i]) := by with_reducible exact ed_lb1 (eb_k ed_int ea_nil)
end
end Sd


/-! plain defs (no defaults): what the binder makes, once for all -/
namespace Sd
open PySem PySem.Spec PyProof.Rows L2
def plainA (a : Arguments) (ps : List Str) : Bool := a.posonlyargs.isEmpty && (a.args.map (·.arg) == ps && (a.vararg.isNone && (a.kwonlyargs.isEmpty && (a.kwarg.isNone && decide ps.Nodup))))
theorem lookz_bind : ∀ {ps : List Str} {us : List Value}, us.length = ps.length → ∀ n ∈ ps, (List.lookup n (ps.zip us)).isSome = true
  | [], _, _, n, h => nomatch h
  | p :: ps, [], hl, _, _ => nomatch hl
  | p :: ps, u :: us, hl, n, h => by
    rw [List.zip_cons_cons, List.lookup_cons]
    split
    · rfl
    · rename_i hne
      rcases List.mem_cons.mp h with rfl | h
      · simp at hne
      · exact lookz_bind (by simpa using hl) n h
theorem fmc_bind {α β : Type} {f g : α → Option β} : ∀ {l : List α}, (∀ x ∈ l, f x = g x) → l.filterMap f = l.filterMap g
  | [], _ => rfl
  | x :: l, h => by rw [List.filterMap_cons, List.filterMap_cons, h x (.head _), fmc_bind fun y hy => h y (.tail _ hy)]
theorem mapz_bind : ∀ {ps : List Str} {us : List Value}, us.length = ps.length → ps.Nodup → ps.filterMap (fun n => (List.lookup n (ps.zip us)).map (Prod.mk n)) = ps.zip us
  | [], _, _, _ => rfl
  | p :: ps, [], hl, _ => nomatch hl
  | p :: ps, u :: us, hl, nd => by
    rw [List.nodup_cons] at nd
    rw [List.zip_cons_cons, List.filterMap_cons, List.lookup_cons]
    simp only [beq_self_eq_true, Option.map_some]
    congr 1
    refine Eq.trans ?_ (mapz_bind (ps := ps) (us := us) (by simpa using hl) nd.2)
    refine fmc_bind fun n hn => ?_
    rw [List.lookup_cons, beq_eq_false_iff_ne.mpr (show n ≠ p from fun e => nd.1 (by rw [← e]; exact hn))]
theorem bind_plain {fd : FuncData} {ps : List Str} {us : List Value} (h : plainA fd.params ps = true) (hd : fd.defaults = .none) (hl : us.length = ps.length) : bindArgs fd ⟨us, []⟩ = pure (ps.zip us) := by
  simp only [plainA, Bool.and_eq_true, List.isEmpty_iff, beq_iff_eq, Option.isNone_iff_eq_none, decide_eq_true_eq] at h
  obtain ⟨h1, h2, h3, h4, h5, nd⟩ := h
  have hm : (ps.filter fun n => (List.lookup n (ps.zip us)).isNone) = [] := List.filter_eq_nil_iff.mpr fun n hn => by
    have := lookz_bind hl n hn
    cases h : List.lookup n (ps.zip us) <;> simp_all
  have hz := mapz_bind hl nd
  have hq : seqItems? Value.none = pure none := rfl
  have hg : decide (us.length > ps.length) = false := decide_eq_false (by omega)
  unfold bindArgs
  simp only [h1, h2, h3, h4, h5, hd, hq, hg, List.map_nil, List.nil_append, List.append_nil, List.forIn_nil, pure_bind, Option.getD_none, List.drop_nil, List.length_nil, Nat.sub_zero, List.take_length, List.drop_length, List.zip_nil_right, hm, List.isEmpty_nil, Bool.not_true, Bool.false_and, Bool.false_eq_true, if_false]
  exact congrArg pure hz
theorem df_mk2 {K : PySem.W.Frag} {mg : Str → Option Value} {h : Heap} {z : Str} {st : Stmt} {ps : List Str} {f : Addr} {oc : Value} {od an : Option Addr} {sl : Array (Option Value)} {kV dc pm cd ct : Value} (X : K.In h) (G : h.Ns mainGlobals mg) (hb : plainA (defArgs st) ps = true)
    (a : PySem.W.nsIn K mainGlobals z = some (some (.ref f))) (l : K.lookup f = some ⟨oc, od, .func (PySem.W.fnOf z z (defArgs st) (defBody st) (defScope st) .none kV dc pm an cd ct), sl⟩) (c : PySem.W.codeIn K cd z = true) (k : PySem.W.keepIn K (.ref f) = true) : Df K mg z st ps :=
  df_mk X G (fun _ _ _ _ _ _ _ hl => bind_plain hb rfl hl) a l c k
end Sd


/-! sums, binomial laws -/
namespace Sd
def sumTo (f : Nat → Rat) : Nat → Rat
  | 0 => 0
  | n + 1 => sumTo f n + f n
theorem sumTo_shift (f : Nat → Rat) : ∀ n : Nat, sumTo f (n + 1) = f 0 + sumTo (fun i => f (i + 1)) n
  | 0 => by show (0 : Rat) + f 0 = f 0 + 0; grind
  | n + 1 => by
    have ih := sumTo_shift f n
    show sumTo f (n + 1) + f (n + 1) = f 0 + (sumTo (fun i => f (i + 1)) n + f (n + 1))
    rw [ih]
    grind
theorem pow_add1 (a : Rat) (n : Nat) : a ^ (n + 1) = a ^ n * a := Rat.pow_succ a n
theorem pow_ne {w : Rat} (hw : w ≠ 0) : ∀ k : Nat, w ^ k ≠ 0
  | 0 => by simp
  | k + 1 => by
    have := pow_ne hw k
    rw [pow_add1]
    grind
end Sd


namespace Pg
open PySem PySem.Spec PyProof.Rows L2 Sd
def topS (i : Nat) : Stmt := PySem.Challenge.pw_samedays_k17_whole_collected.main.body.getD i (.Pass ⟨0, 0, 0, 0⟩)
abbrev s_is_int : Stmt := topS 6
theorem sc_is_int : FnScope ["value", "low", "high"] ["value", "low", "high"] (defScope s_is_int) := ⟨rfl, rfl, rfl, by decide +kernel, rfl, by decide +kernel, by decide +kernel⟩
theorem pa_is_int : plainA (defArgs s_is_int) ["value", "low", "high"] = true := by decide +kernel
abbrev s_common : Stmt := topS 7
theorem sc_common : FnScope ["one", "other"] ["one", "other"] (defScope s_common) := ⟨rfl, rfl, rfl, by decide +kernel, rfl, by decide +kernel, by decide +kernel⟩
theorem pa_common : plainA (defArgs s_common) ["one", "other"] = true := by decide +kernel
abbrev s_is_year : Stmt := topS 8
theorem sc_is_year : FnScope ["value", "one"] ["value"] (defScope s_is_year) := ⟨rfl, rfl, rfl, by decide +kernel, rfl, by decide +kernel, by decide +kernel⟩
theorem pa_is_year : plainA (defArgs s_is_year) ["value"] = true := by decide +kernel
abbrev s_is_share : Stmt := topS 9
theorem sc_is_share : FnScope ["value", "part"] ["value"] (defScope s_is_share) := ⟨rfl, rfl, rfl, by decide +kernel, rfl, by decide +kernel, by decide +kernel⟩
theorem pa_is_share : plainA (defArgs s_is_share) ["value"] = true := by decide +kernel
abbrev s_check_year : Stmt := topS 10
theorem sc_check_year : FnScope ["value"] ["value"] (defScope s_check_year) := ⟨rfl, rfl, rfl, by decide +kernel, rfl, by decide +kernel, by decide +kernel⟩
theorem pa_check_year : plainA (defArgs s_check_year) ["value"] = true := by decide +kernel
abbrev s_check_many : Stmt := topS 11
theorem sc_check_many : FnScope ["value"] ["value"] (defScope s_check_many) := ⟨rfl, rfl, rfl, by decide +kernel, rfl, by decide +kernel, by decide +kernel⟩
theorem pa_check_many : plainA (defArgs s_check_many) ["value"] = true := by decide +kernel
abbrev s_check_share : Stmt := topS 12
theorem sc_check_share : FnScope ["value"] ["value"] (defScope s_check_share) := ⟨rfl, rfl, rfl, by decide +kernel, rfl, by decide +kernel, by decide +kernel⟩
theorem pa_check_share : plainA (defArgs s_check_share) ["value"] = true := by decide +kernel
abbrev s_lowest : Stmt := topS 14
theorem sc_lowest : FnScope ["top", "below", "divisor"] ["top", "below"] (defScope s_lowest) := ⟨rfl, rfl, rfl, by decide +kernel, rfl, by decide +kernel, by decide +kernel⟩
theorem pa_lowest : plainA (defArgs s_lowest) ["top", "below"] = true := by decide +kernel
abbrev s_plus : Stmt := topS 15
theorem sc_plus : FnScope ["one", "other"] ["one", "other"] (defScope s_plus) := ⟨rfl, rfl, rfl, by decide +kernel, rfl, by decide +kernel, by decide +kernel⟩
theorem pa_plus : plainA (defArgs s_plus) ["one", "other"] = true := by decide +kernel
abbrev s_at_most : Stmt := topS 16
theorem sc_at_most : FnScope ["one", "other"] ["one", "other"] (defScope s_at_most) := ⟨rfl, rfl, rfl, by decide +kernel, rfl, by decide +kernel, by decide +kernel⟩
theorem pa_at_most : plainA (defArgs s_at_most) ["one", "other"] = true := by decide +kernel
abbrev s_power : Stmt := topS 17
theorem sc_power : FnScope ["base", "exponent", "found", "turn"] ["base", "exponent"] (defScope s_power) := ⟨rfl, rfl, rfl, by decide +kernel, rfl, by decide +kernel, by decide +kernel⟩
theorem pa_power : plainA (defArgs s_power) ["base", "exponent"] = true := by decide +kernel
abbrev s_choose : Stmt := topS 18
theorem sc_choose : FnScope ["whole", "part", "found", "k"] ["whole", "part"] (defScope s_choose) := ⟨rfl, rfl, rfl, by decide +kernel, rfl, by decide +kernel, by decide +kernel⟩
theorem pa_choose : plainA (defArgs s_choose) ["whole", "part"] = true := by decide +kernel
abbrev s_ordered : Stmt := topS 19
theorem sc_ordered : FnScope ["many", "found", "k"] ["many"] (defScope s_ordered) := ⟨rfl, rfl, rfl, by decide +kernel, rfl, by decide +kernel, by decide +kernel⟩
theorem pa_ordered : plainA (defArgs s_ordered) ["many"] = true := by decide +kernel
abbrev s_product_sums : Stmt := topS 20
theorem sc_product_sums : FnScope ["year", "found", "weight", "longer", "k"] ["year"] (defScope s_product_sums) := ⟨rfl, rfl, rfl, by decide +kernel, rfl, by decide +kernel, by decide +kernel⟩
theorem pa_product_sums : plainA (defArgs s_product_sums) ["year"] = true := by decide +kernel
abbrev s_used_ways : Stmt := topS 22
theorem sc_used_ways : FnScope ["year", "many", "table", "weight", "fresh", "days", "row", "whole", "ways", "own", "k"] ["year", "many"] (defScope s_used_ways) := ⟨rfl, rfl, rfl, by decide +kernel, rfl, by decide +kernel, by decide +kernel⟩
theorem pa_used_ways : plainA (defArgs s_used_ways) ["year", "many"] = true := by decide +kernel
abbrev s_used_chances : Stmt := topS 23
theorem sc_used_chances : FnScope ["year", "many", "ways"] ["year", "many"] (defScope s_used_chances) := ⟨rfl, rfl, rfl, by decide +kernel, rfl, by decide +kernel, by decide +kernel⟩
theorem pa_used_chances : plainA (defArgs s_used_chances) ["year", "many"] = true := by decide +kernel
abbrev s_all_used_of : Stmt := topS 24
theorem sc_all_used_of : FnScope ["year", "many"] ["year", "many"] (defScope s_all_used_of) := ⟨rfl, rfl, rfl, by decide +kernel, rfl, by decide +kernel, by decide +kernel⟩
theorem pa_all_used_of : plainA (defArgs s_all_used_of) ["year", "many"] = true := by decide +kernel
abbrev s_all_used : Stmt := topS 25
theorem sc_all_used : FnScope ["year", "many"] ["year", "many"] (defScope s_all_used) := ⟨rfl, rfl, rfl, by decide +kernel, rfl, by decide +kernel, by decide +kernel⟩
theorem pa_all_used : plainA (defArgs s_all_used) ["year", "many"] = true := by decide +kernel
abbrev s_mean_until_all : Stmt := topS 26
theorem sc_mean_until_all : FnScope ["year", "found", "whole", "sets", "weight", "one", "sign"] ["year"] (defScope s_mean_until_all) := ⟨rfl, rfl, rfl, by decide +kernel, rfl, by decide +kernel, by decide +kernel⟩
theorem pa_mean_until_all : plainA (defArgs s_mean_until_all) ["year"] = true := by decide +kernel
abbrev s_needed_for_all : Stmt := topS 27
theorem sc_needed_for_all : FnScope ["year", "share", "many"] ["year", "share"] (defScope s_needed_for_all) := ⟨rfl, rfl, rfl, by decide +kernel, rfl, by decide +kernel, by decide +kernel⟩
theorem pa_needed_for_all : plainA (defArgs s_needed_for_all) ["year", "share"] = true := by decide +kernel
abbrev s_unlike_of : Stmt := topS 29
theorem sc_unlike_of : FnScope ["year", "many", "sums"] ["year", "many"] (defScope s_unlike_of) := ⟨rfl, rfl, rfl, by decide +kernel, rfl, by decide +kernel, by decide +kernel⟩
theorem pa_unlike_of : plainA (defArgs s_unlike_of) ["year", "many"] = true := by decide +kernel
abbrev s_all_unlike : Stmt := topS 30
theorem sc_all_unlike : FnScope ["year", "many"] ["year", "many"] (defScope s_all_unlike) := ⟨rfl, rfl, rfl, by decide +kernel, rfl, by decide +kernel, by decide +kernel⟩
theorem pa_all_unlike : plainA (defArgs s_all_unlike) ["year", "many"] = true := by decide +kernel
abbrev s_law_start : Stmt := topS 32
theorem sc_law_start : FnScope ["script"] ["script"] (defScope s_law_start) := ⟨rfl, rfl, rfl, by decide +kernel, rfl, by decide +kernel, by decide +kernel⟩
theorem pa_law_start : plainA (defArgs s_law_start) ["script"] = true := by decide +kernel
abbrev s_law_draw : Stmt := topS 33
theorem sc_law_draw : FnScope ["draws", "limit", "numbers", "at", "cell", "mixed"] ["draws", "limit"] (defScope s_law_draw) := ⟨rfl, rfl, rfl, by decide +kernel, rfl, by decide +kernel, by decide +kernel⟩
theorem pa_law_draw : plainA (defArgs s_law_draw) ["draws", "limit"] = true := by decide +kernel
abbrev s_law_pick : Stmt := topS 34
theorem sc_law_pick : FnScope ["draws", "choices"] ["draws", "choices"] (defScope s_law_pick) := ⟨rfl, rfl, rfl, by decide +kernel, rfl, by decide +kernel, by decide +kernel⟩
theorem pa_law_pick : plainA (defArgs s_law_pick) ["draws", "choices"] = true := by decide +kernel
abbrev s_law_low : Stmt := topS 35
theorem sc_law_low : FnScope ["top", "under", "one", "other"] ["top", "under"] (defScope s_law_low) := ⟨rfl, rfl, rfl, by decide +kernel, rfl, by decide +kernel, by decide +kernel⟩
theorem pa_law_low : plainA (defArgs s_law_low) ["top", "under"] = true := by decide +kernel
abbrev s_law_add : Stmt := topS 36
theorem sc_law_add : FnScope ["one", "other"] ["one", "other"] (defScope s_law_add) := ⟨rfl, rfl, rfl, by decide +kernel, rfl, by decide +kernel, by decide +kernel⟩
theorem pa_law_add : plainA (defArgs s_law_add) ["one", "other"] = true := by decide +kernel
abbrev s_law_less : Stmt := topS 37
theorem sc_law_less : FnScope ["one", "other"] ["one", "other"] (defScope s_law_less) := ⟨rfl, rfl, rfl, by decide +kernel, rfl, by decide +kernel, by decide +kernel⟩
theorem pa_law_less : plainA (defArgs s_law_less) ["one", "other"] = true := by decide +kernel
abbrev s_law_year : Stmt := topS 38
theorem sc_law_year : FnScope ["draws", "most", "wide", "k"] ["draws", "most"] (defScope s_law_year) := ⟨rfl, rfl, rfl, by decide +kernel, rfl, by decide +kernel, by decide +kernel⟩
theorem pa_law_year : plainA (defArgs s_law_year) ["draws", "most"] = true := by decide +kernel
abbrev s_law_power : Stmt := topS 39
theorem sc_law_power : FnScope ["base", "exponent", "found", "turn"] ["base", "exponent"] (defScope s_law_power) := ⟨rfl, rfl, rfl, by decide +kernel, rfl, by decide +kernel, by decide +kernel⟩
theorem pa_law_power : plainA (defArgs s_law_power) ["base", "exponent"] = true := by decide +kernel
abbrev s_law_chance : Stmt := topS 40
theorem sc_law_chance : FnScope ["year", "many", "ways"] ["year", "many", "ways"] (defScope s_law_chance) := ⟨rfl, rfl, rfl, by decide +kernel, rfl, by decide +kernel, by decide +kernel⟩
theorem pa_law_chance : plainA (defArgs s_law_chance) ["year", "many", "ways"] = true := by decide +kernel
abbrev s_law_harmonic : Stmt := topS 41
theorem sc_law_harmonic : FnScope ["year", "size", "harmonic", "k", "share", "told"] ["year", "size"] (defScope s_law_harmonic) := ⟨rfl, rfl, rfl, by decide +kernel, rfl, by decide +kernel, by decide +kernel⟩
theorem pa_law_harmonic : plainA (defArgs s_law_harmonic) ["year", "size"] = true := by decide +kernel
abbrev s_law : Stmt := topS 42
theorem sc_law : FnScope ["script", "draws", "year", "size", "whole", "last", "rest", "many", "ways", "mask", "left", "sign", "own", "rows", "both", "day", "weight"] ["script"] (defScope s_law) := ⟨rfl, rfl, rfl, by decide +kernel, rfl, by decide +kernel, by decide +kernel⟩
theorem pa_law : plainA (defArgs s_law) ["script"] = true := by decide +kernel
structure Tx (K : PySem.W.Frag) (mg : Str → Option Value) (c : Cl) : Prop where
  e_DayError : ErrC K mg "DayError" c.DayError
  e_BadYear : ErrC K mg "BadYear" c.BadYear
  e_BadNumber : ErrC K mg "BadNumber" c.BadNumber
  e_BadShare : ErrC K mg "BadShare" c.BadShare
  k_MOST_THINGS : ∃ t, mg "MOST_THINGS" = some (.int 12 t)
  d_is_int : Df K mg "is_int" s_is_int ["value", "low", "high"]
  d_common : Df K mg "common" s_common ["one", "other"]
  d_is_year : Df K mg "is_year" s_is_year ["value"]
  d_is_share : Df K mg "is_share" s_is_share ["value"]
  d_check_year : Df K mg "check_year" s_check_year ["value"]
  d_check_many : Df K mg "check_many" s_check_many ["value"]
  d_check_share : Df K mg "check_share" s_check_share ["value"]
  d_lowest : Df K mg "lowest" s_lowest ["top", "below"]
  d_plus : Df K mg "plus" s_plus ["one", "other"]
  d_at_most : Df K mg "at_most" s_at_most ["one", "other"]
  d_power : Df K mg "power" s_power ["base", "exponent"]
  d_choose : Df K mg "choose" s_choose ["whole", "part"]
  d_ordered : Df K mg "ordered" s_ordered ["many"]
  d_product_sums : Df K mg "product_sums" s_product_sums ["year"]
  d_used_ways : Df K mg "used_ways" s_used_ways ["year", "many"]
  d_used_chances : Df K mg "used_chances" s_used_chances ["year", "many"]
  d_all_used_of : Df K mg "all_used_of" s_all_used_of ["year", "many"]
  d_all_used : Df K mg "all_used" s_all_used ["year", "many"]
  d_mean_until_all : Df K mg "mean_until_all" s_mean_until_all ["year"]
  d_needed_for_all : Df K mg "needed_for_all" s_needed_for_all ["year", "share"]
  d_unlike_of : Df K mg "unlike_of" s_unlike_of ["year", "many"]
  d_all_unlike : Df K mg "all_unlike" s_all_unlike ["year", "many"]
  d_law_start : Df K mg "_law_start" s_law_start ["script"]
  d_law_draw : Df K mg "_law_draw" s_law_draw ["draws", "limit"]
  d_law_pick : Df K mg "_law_pick" s_law_pick ["draws", "choices"]
  d_law_low : Df K mg "_law_low" s_law_low ["top", "under"]
  d_law_add : Df K mg "_law_add" s_law_add ["one", "other"]
  d_law_less : Df K mg "_law_less" s_law_less ["one", "other"]
  d_law_year : Df K mg "_law_year" s_law_year ["draws", "most"]
  d_law_power : Df K mg "_law_power" s_law_power ["base", "exponent"]
  d_law_chance : Df K mg "_law_chance" s_law_chance ["year", "many", "ways"]
  d_law_harmonic : Df K mg "_law_harmonic" s_law_harmonic ["year", "size"]
  d_law : Df K mg "law" s_law ["script"]
  n_isinstance : mg "isinstance" = none
  n_int : mg "int" = none
  n_bool : mg "bool" = none
  n_all : mg "all" = none
  n_list : mg "list" = none
  n_len : mg "len" = none
  n_tuple : mg "tuple" = none
  n_abs : mg "abs" = none
  n_range : mg "range" = none
  n_enumerate : mg "enumerate" = none
  n_sum : mg "sum" = none
end Pg

namespace Pg
open PySem PySem.Spec PyProof.Rows L2 Sd
section
variable {P : Program} {w : World} {K : PySem.W.Frag} {mg : Str → Option Value} {base : Heap} {c : Cl}
def pre_is_int : Pr := fun ss own post => ∃ x lo hi, ss = [.d x, .d (.int lo), .d (.int hi)] ∧ own = [] ∧ post = fun o => o = .ret (.d (.bool (isInt x lo hi))) []
theorem fn_is_int (T : Tx K mg c) : Fn K mg P w base "is_int" ["value", "low", "high"] 1 pre_is_int := T.d_is_int.fn fun f fd F => okG (k := 0) F sc_is_int (by rintro ss own post ⟨x, lo, hi, rfl, _⟩; rfl) (by
  rintro ss own post ⟨x, lo, hi, rfl, rfl, rfl⟩ cdv A outer s H E B g
  refine sds_nd 0 rfl fun hx => ?_
  have hx := hx.1
  refine sds_one (sd_retD (x := .bool (isInt x lo hi)) (ES.is (ed_and (l := isInt x lo hi) (ed_isi (x := x) (l := (kitB (tyD x) "int").getD false) T.n_isinstance (ed_v 0) .d (ev_ty (T := "int") rfl T.n_int (by decide +kernel)) ?_) fun hk => ?_) ?_) rfl)
  · cases x <;> first | rfl | exact absurd rfl (hx _)
  · refine ES.is (ed_and (l := isInt x lo hi) (ed_not (ed_isi (x := x) (l := (kitB (tyD x) "bool").getD false) T.n_isinstance (ed_v 0) .d (ev_ty (T := "bool") rfl T.n_bool (by decide +kernel)) ?_)) fun hk2 => ed_one ?_) ?_
    · cases x <;> first | rfl | exact absurd rfl (hx _)
    · cases x with
      | int i => exact ed_chain c_le c_le (ed_v 1) (ed_v 0) (ed_v 2)
      | bool b => exact nomatch (show false = true from hk2)
      | none => exact nomatch (show false = true from hk)
      | str z => exact nomatch (show false = true from hk)
      | list z => exact nomatch (show false = true from hk)
      | tuple z => exact nomatch (show false = true from hk)
      | dict z => exact absurd rfl (hx z)
    · cases x <;> first | rfl | exact nomatch (show false = true from hk) | exact absurd rfl (hx _)
  · cases x <;> first | rfl | exact absurd rfl (hx _))
end
end Pg

namespace Pg
open PySem PySem.Spec PyProof.Rows L2 Sd
section
variable {P : Program} {w : World} {K : PySem.W.Frag} {mg : Str → Option Value} {base : Heap} {c : Cl}
def pre_check_many (c : Cl) : Pr := fun ss own post => ∃ x : PyData, ss = [.d x] ∧ own = [] ∧ post = fun o => o = if isInt x 0 12 = true then .ret (.d .none) [] else .exc c.BadNumber []
theorem fn_check_many (T : Tx K mg c) : Fn K mg P w base "check_many" ["value"] 2 (pre_check_many c) := T.d_check_many.fn fun f fd F => okG (k := 1) F sc_check_many (by rintro ss own post ⟨x, rfl, _⟩; rfl) (by
  rintro ss own post ⟨x, rfl, rfl, rfl⟩ cdv A outer s H E B g
  obtain ⟨t, hm⟩ := T.k_MOST_THINGS
  refine sds_one (sd_if (et_not (et_val (es_call (fn_is_int T) g (by decide) (ea_cons (ed_v 0) (ea_cons ed_int (ea_cons (ed_glob rfl hm) ea_nil))) ⟨x, _, _, rfl, rfl, rfl⟩))) (fun h => ?_) fun h => ?_)
  · refine sds_one (sd_raise g T.e_BadNumber ?_)
    show Out.exc c.BadNumber [] = _
    rw [if_neg (by simpa using h)]
  · refine sds_nil ?_
    show Out.ret (.d .none) [] = _
    rw [if_pos (by simpa using h)])
theorem ok_many {c : Cl} {n : Int} (h : 0 ≤ n ∧ n ≤ 12) : pre_check_many c [.d (.int n)] [] (fun o => o = .ret (.d .none) []) := ⟨.int n, rfl, rfl, by
  rw [if_pos]
  simp [Sd.isInt, h.1, h.2]⟩
end
end Pg

namespace Pg
open PySem PySem.Spec PyProof.Rows L2 Sd
section
variable {P : Program} {w : World} {K : PySem.W.Frag} {mg : Str → Option Value} {base : Heap} {c : Cl}
def pre_is_year : Pr := fun ss own post => ∃ x, ss = [.d x] ∧ own = [] ∧ post = fun o => o = .ret (.d (.bool (isYear x))) []
theorem fn_is_year (T : Tx K mg c) : Fn K mg P w base "is_year" ["value"] 2 pre_is_year := T.d_is_year.fn fun f fd F => okG (k := 1) F sc_is_year (by rintro ss own post ⟨x, rfl, _⟩; rfl) (by
  rintro ss own post ⟨x, rfl, rfl, rfl⟩ cdv A outer s H E B g
  refine sds_nd 0 rfl fun hx => ?_
  have hx := hx.1
  by_cases hl : ∃ ds, x = .list ds
  · obtain ⟨ds, rfl⟩ := hl
    refine sds_cons (sd_if (l := !(decide (1 ≤ (ds.length : Int)) && decide ((ds.length : Int) ≤ 8))) (ET.is (EW.et (ew_or (et_not (et_val (ed_isi (x := .list ds) (l := true) T.n_isinstance (ed_v 0) .d (ev_ty (T := "list") rfl T.n_list (by decide +kernel)) rfl))) fun _ => ew_or1 (et_not (et_chain c_le c_le ed_int (ed_len T.n_len (ed_v 0) .d) ed_int)))) (by simp)) (fun h => ?_) fun h => ?_)
    · refine sds_one (sd_retD ed_bl ?_)
      have : isYear (.list ds) = false := by
        unfold isYear
        simp only [Bool.not_eq_true', Bool.and_eq_false_iff] at h ⊢
        exact .inl h
      rw [this]
    · have h : (decide (1 ≤ (ds.length : Int)) && decide ((ds.length : Int) ≤ 8)) = true := by simpa using h
      have hlen : ds.length ≤ 8 := by simp at h; omega
      refine sds_nil (sds_one (sd_retD (ed_all (ns := ds.map fun d => isInt d 1 20) g T.n_all (EL.ed (ds := (ds.map fun d => isInt d 1 20).map PyData.bool) (EL.is (el_comp g (compP g (it_list (ed_v 0)) [("one", 1)] (blkOk_by (N := ["value", "one"]) (sc := defScope s_is_year) (by decide +kernel)) ds id (by simp) (fun d => some (.bool (isInt d 1 20))) (fun d => [.d (.list ds), .d d]) [1] (by simp) (by omega) (fun _ _ => trivial)
        (fun d _ s H C cl fp g' => gt_name 1 g'.nd) (fun d _ s H C cl fp o g' => ets_nil) (fun d _ x hx s H C cl fp o g' => ?_))) ?_)) .d) ?_))
      · cases hx
        exact es_call (fn_is_int T) g' (by decide) (ea_cons (ed_v 1) (ea_cons ed_int (ea_cons ed_int ea_nil))) ⟨d, 1, 20, rfl, rfl, rfl⟩
      · rw [List.map_map]
        exact List.filterMap_eq_map' .. |>.symm ▸ rfl
      · show Out.ret (.d (.bool ((ds.map fun d => isInt d 1 20).all id))) [] = Out.ret (.d (.bool (isYear (.list ds)))) []
        have e : isYear (.list ds) = (decide (1 ≤ (ds.length : Int)) && decide ((ds.length : Int) ≤ 8) && (ds.map fun d => isInt d 1 20).all id) := rfl
        rw [e, h, Bool.true_and]
  · have hk : kitB (tyD x) "list" = some false := by
      cases x <;> first | rfl | exact absurd ⟨_, rfl⟩ hl | exact absurd rfl (hx _)
    refine sds_cons (sd_if (l := true) (EW.et (ew_or (k := true) (l := true) (et_not (k := false) (et_val (ed_isi (x := x) (l := false) T.n_isinstance (ed_v 0) .d (ev_ty (T := "list") rfl T.n_list (by decide +kernel)) hk))) fun h => nomatch h)) (fun h => ?_) fun h => nomatch h)
    refine sds_one (sd_retD ed_bl ?_)
    cases x <;> first | rfl | exact absurd ⟨_, rfl⟩ hl)
end
end Pg

namespace Pg
open PySem PySem.Spec PyProof.Rows L2 Sd
section
variable {P : Program} {w : World} {K : PySem.W.Frag} {mg : Str → Option Value} {base : Heap} {c : Cl}
def pre_check_year (c : Cl) : Pr := fun ss own post => ∃ x, ss = [.d x] ∧ own = [] ∧ post = fun o => o = if isYear x = true then .ret (.d .none) [] else .exc c.BadYear []
theorem fn_check_year (T : Tx K mg c) : Fn K mg P w base "check_year" ["value"] 3 (pre_check_year c) := T.d_check_year.fn fun f fd F => okG (k := 2) F sc_check_year (by rintro ss own post ⟨x, rfl, _⟩; rfl) (by
  rintro ss own post ⟨x, rfl, rfl, rfl⟩ cdv A outer s H E B g
  refine sds_one (sd_if (et_not (et_val (es_call (fn_is_year T) g (by decide) (ea_cons (ed_v 0) ea_nil) ⟨x, rfl, rfl, rfl⟩))) (fun h => ?_) fun h => ?_)
  · refine sds_one (sd_raise g T.e_BadYear ?_)
    show Out.exc c.BadYear [] = _
    rw [if_neg (by simpa using h)]
  · refine sds_nil ?_
    show Out.ret (.d .none) [] = _
    rw [if_pos (by simpa using h)])
/-- a year is checked -/
theorem ok_year {c : Cl} {ys : List Int} (h : Yr ys) : pre_check_year c [.d (li ys)] [] (fun o => o = .ret (.d .none) []) := ⟨li ys, rfl, rfl, by rw [if_pos h.is]⟩
end
end Pg

namespace Pg
open PySem PySem.Spec PyProof.Rows L2 Sd
section
variable {P : Program} {w : World} {K : PySem.W.Frag} {mg : Str → Option Value} {base : Heap} {c : Cl}
def pre_common : Pr := fun ss own post => ∃ a b : Int, ss = [.d (.int a), .d (.int b)] ∧ own = [] ∧ 0 ≤ a ∧ 0 ≤ b ∧ post = fun o => o = .ret (.d (.int (Int.gcd a b : Nat))) []
theorem fn_common (T : Tx K mg c) : Fn K mg P w base "common" ["one", "other"] 1 pre_common := T.d_common.fn fun f fd F => okG (k := 0) F sc_common (by rintro ss own post ⟨a, b, rfl, _⟩; rfl) (by
  rintro ss own post ⟨a, b, rfl, rfl, ha, hb, rfl⟩ cdv A outer s H E B g
  refine sds_cons (sd_while g (fun m ρ own => ∃ x y : Int, 0 ≤ x ∧ 0 ≤ y ∧ ρ = [.d (.int x), .d (.int y)] ∧ own = [] ∧ Int.gcd x y = Int.gcd a b ∧ m = y.toNat) b.toNat ⟨a, b, ha, hb, rfl, rfl, rfl, rfl⟩ ?_)
  rintro m ρ1 own1 ⟨x, y, hx, hy, rfl, rfl, e, rfl⟩
  refine ⟨_, et_cmp c_neI (ed_v 1) ed_int, fun h => ?_, fun h => ?_⟩
  · have h0 : 0 < y := by
      have : y ≠ 0 := fun z => by subst z; simp at h
      omega
    refine sds_one (sd_par 0 1 g (ea_cons (ed_v 1) (ea_cons (ed_mod (ed_v 0) (ed_v 1) h0) ea_nil)) ?_)
    have h1 := Int.emod_nonneg x (Int.ne_of_gt h0)
    have h2 := Int.emod_lt_of_pos x h0
    exact ⟨(x % y).toNat, by omega, y, x % y, hy, h1, rfl, rfl, (gcd_step x y hx h0).trans e, rfl⟩
  · have h0 : y = 0 := by simpa using h
    subst h0
    refine sds_one (sd_retD (ed_v 0) ?_)
    show Out.ret (.d (.int x)) [] = Out.ret (.d (.int (Int.gcd a b : Nat))) []
    rw [← e, Int.gcd_zero_right, Int.natAbs_of_nonneg hx])
end
end Pg

namespace Pg
open PySem PySem.Spec PyProof.Rows L2 Sd
section
variable {P : Program} {w : World} {K : PySem.W.Frag} {mg : Str → Option Value} {base : Heap} {c : Cl}
def pre_lowest : Pr := fun ss own post => ∃ a b : Int, ss = [.d (.int a), .d (.int b)] ∧ own = [] ∧ 0 < b ∧ Sz 8999 b ∧ post = fun o => o = .ret (.d (fr ((a : Rat) / b))) []
theorem fn_lowest (T : Tx K mg c) : Fn K mg P w base "lowest" ["top", "below"] 2 pre_lowest := T.d_lowest.fn fun f fd F => okG (k := 1) F sc_lowest (by rintro ss own post ⟨a, b, rfl, _⟩; rfl) (by
  rintro ss own post ⟨a, b, rfl, rfl, hb, hz, rfl⟩ cdv A outer s H E B g
  have eg : Int.gcd (if a < 0 then -a else a) b = Int.gcd a b := by
    split
    · rw [Int.gcd_comm, Int.gcd_neg, Int.gcd_comm]
    · rfl
  refine sds_cons (sd_set 2 g.nd (es_call (fn_common T) g (by decide) (ea_cons (ed_abs T.n_abs (ed_v 0)) (ea_cons (ed_v 1) ea_nil)) ⟨_, _, rfl, rfl, by split <;> omega, by omega, rfl⟩) ?_)
  rw [eg]
  have g0 : (0 : Int) < (Int.gcd a b : Nat) := by
    have := Int.gcd_pos_of_ne_zero_right a (show b ≠ 0 by omega)
    omega
  have gz : Sz 8999 (Int.gcd a b : Nat) := by
    have := Int.gcd_le_natAbs_right (a := a) (show b ≠ 0 by omega)
    unfold Sz at *
    rw [Int.natAbs_natCast]
    omega
  refine sds_one (sd_retD (ed_tup (ds := [_, _]) (ea_cons (ed_fdiv (ed_v 0) (ed_v 2) (cdiv_of g0 gz (by decide))) (ea_cons (ed_fdiv (ed_v 1) (ed_v 2) (cdiv_of g0 gz (by decide))) ea_nil))) ?_)
  show Out.ret (.d (.tuple [.int (a / (Int.gcd a b : Nat)), .int (b / (Int.gcd a b : Nat))])) [] = _
  rw [fr_low a b hb])
end
end Pg

namespace Pg
open PySem PySem.Spec PyProof.Rows L2 Sd
section
variable {P : Program} {w : World} {K : PySem.W.Frag} {mg : Str → Option Value} {base : Heap} {c : Cl}
def fac : Nat → Nat
  | 0 => 1
  | n + 1 => (n + 1) * fac n
theorem fac_sz : ∀ n : Nat, n ≤ 12 → Sz 30 (fac n : Nat) := by
  have h : ∀ n : Nat, n ≤ 12 → fac n < 2 ^ 30 := by decide
  intro n hn
  unfold Sz
  rw [Int.natAbs_natCast]
  exact h n hn
def pre_ordered : Pr := fun ss own post => ∃ n : Nat, ss = [.d (.int (n : Int))] ∧ own = [] ∧ n ≤ 12 ∧ post = fun o => o = .ret (.d (.int (fac n : Nat))) []
theorem fn_ordered (T : Tx K mg c) : Fn K mg P w base "ordered" ["many"] 1 pre_ordered := T.d_ordered.fn fun f fd F => okG (k := 0) F sc_ordered (by rintro ss own post ⟨n, rfl, _⟩; rfl) (by
  rintro ss own post ⟨n, rfl, rfl, hn, rfl⟩ cdv A outer s H E B g
  refine sds_cons (sd_set 1 g.nd ed_int ?_)
  refine sds_cons (sd_for g (it_range2 T.n_range ed_int (ed_add (ed_v 0) ed_int) ⟨by omega, by omega, by omega, by omega⟩) (fun i ρ own => own = [] ∧ ∃ t, ρ = [.d (.int (n : Int)), .d (.int (fac (i + 1) : Nat)), t]) ⟨rfl, _, rfl⟩ (fun _ _ _ _ => trivial) ?_ ?_)
  · rintro i y ρ1 own1 hy ⟨rfl, t, rfl⟩
    obtain ⟨hi, rfl⟩ := rng_get hy
    have hi : i + 1 < n := by omega
    refine ⟨_, _, gt_name 2 g.nd, sds_one (sd_aug 1 iop_mulW g.nd rfl (ed_v 2) (cmul_of (fac_sz (i + 1) (by omega)) (b := 4) (by unfold Sz; omega) (by decide)) ?_)⟩
    refine ⟨rfl, .d (.int (2 + (i : Int))), ?_⟩
    have e : ((fac (i + 1) : Nat) : Int) * (2 + (i : Int)) = (fac (i + 1 + 1) : Nat) := by
      show _ = (((i + 1 + 1) * fac (i + 1) : Nat) : Int)
      rw [Int.natCast_mul, Int.mul_comm]
      congr 1
      omega
    rw [e]
    rfl
  · rintro ρ1 own1 ⟨rfl, t, rfl⟩
    rw [rng_length]
    refine sds_one (sd_retD (ed_v 1) ?_)
    show Out.ret (.d (.int (fac (((n : Int) + 1 - 2).toNat + 1) : Nat))) [] = _
    have e : fac (((n : Int) + 1 - 2).toNat + 1) = fac n := by
      cases n with
      | zero => rfl
      | succ m =>
        rw [show (((m + 1 : Nat) : Int) + 1 - 2).toNat = m by omega]
    rw [e])
end
end Pg

namespace Pg
open PySem PySem.Spec PyProof.Rows L2 Sd
section
variable {P : Program} {w : World} {K : PySem.W.Frag} {mg : Str → Option Value} {base : Heap} {c : Cl}
def pre_power : Pr := fun ss own post => ∃ (b : Int) (n k : Nat), ss = [.d (.int b), .d (.int (n : Int))] ∧ own = [] ∧ Sz k b ∧ n ≤ 1000 ∧ k ≤ 100 ∧ post = fun o => o = .ret (.d (.int (b ^ n))) []
theorem fn_power (T : Tx K mg c) : Fn K mg P w base "power" ["base", "exponent"] 1 pre_power := T.d_power.fn fun f fd F => okG (k := 0) F sc_power (by rintro ss own post ⟨b, n, k, rfl, _⟩; rfl) (by
  rintro ss own post ⟨b, n, k, rfl, rfl, hb, hn, hk, rfl⟩ cdv A outer s H E B g
  refine sds_cons (sd_set 2 g.nd ed_int ?_)
  refine sds_cons (sd_for g (it_range1 T.n_range (ed_v 1) ⟨by omega, by omega⟩) (fun i ρ own => own = [] ∧ ∃ t, ρ = [.d (.int b), .d (.int (n : Int)), .d (.int (b ^ i)), t]) ⟨rfl, _, by rw [Int.pow_zero]; rfl⟩ (fun _ _ _ _ => trivial) ?_ ?_)
  · rintro i y ρ1 own1 hy ⟨rfl, t, rfl⟩
    obtain ⟨hi, rfl⟩ := rng_get hy
    have hi : i < n := by omega
    refine ⟨_, _, gt_name 3 g.nd, sds_one (sd_aug 2 iop_mulW g.nd rfl (ed_v 0) (cmul_of (hb.pow i) hb ?_) ?_)⟩
    · have : k * i ≤ 100 * 1000 := Nat.mul_le_mul hk (by omega)
      omega
    · exact ⟨rfl, _, by rw [Int.pow_succ]; rfl⟩
  · rintro ρ1 own1 ⟨rfl, t, rfl⟩
    rw [rng_length]
    refine sds_one (sd_retD (ed_v 2) ?_)
    show Out.ret (.d (.int (b ^ (n : Int).toNat))) [] = _
    rw [Int.toNat_natCast])
end
end Pg

namespace Pg
open PySem PySem.Spec PyProof.Rows L2 Sd
section
variable {P : Program} {w : World} {K : PySem.W.Frag} {mg : Str → Option Value} {base : Heap} {c : Cl}
def psK (f : List Int) (y : Int) : Nat → List Int
  | 0 => f ++ [0]
  | k + 1 => (psK f y k).set (k + 1) ((psK f y k).getD (k + 1) 0 + f.getD k 0 * y)
def psS (f : List Int) (y : Int) : List Int := psK f y f.length
def psums (ys : List Int) : List Int := ys.foldl psS [1]
theorem psK_len (f : List Int) (y : Int) : ∀ k, (psK f y k).length = f.length + 1
  | 0 => by simp [psK]
  | k + 1 => by rw [psK, List.length_set, psK_len f y k]
theorem fold_len : ∀ (ys f : List Int), (ys.foldl psS f).length = f.length + ys.length
  | [], f => rfl
  | y :: ys, f => by
    rw [List.foldl_cons, fold_len ys, psS, psK_len, List.length_cons]
    omega
theorem psums_len (ys : List Int) : (psums ys).length = ys.length + 1 := by
  rw [psums, fold_len]
  simp
  omega
theorem psums_take {ys : List Int} {i : Nat} {y : Int} (h : ys[i]? = some y) : psums (ys.take (i + 1)) = psS (psums (ys.take i)) y := by
  unfold psums
  rw [List.take_add_one, h, List.foldl_append]
  rfl
def pre_product_sums : Pr := fun ss own post => ∃ ys : List Int, ss = [.d (li ys)] ∧ own = [] ∧ Yr ys ∧ post = fun o => o = .ret (.d (li (psums ys))) []
theorem fn_product_sums (T : Tx K mg c) : Fn K mg P w base "product_sums" ["year"] 1 pre_product_sums := T.d_product_sums.fn fun f fd F => okG (k := 0) F sc_product_sums (by rintro ss own post ⟨n, rfl, _⟩; rfl) (by
  rintro ss own post ⟨ys, rfl, rfl, hY, rfl⟩ cdv A outer s H E B g
  have hl := hY.hi
  refine sds_cons (sd_setL 1 g.nd (el_lst (ds := [.int 1]) (ea_cons ed_int ea_nil)) fun p0 => ?_)
  refine sds_freeze 1 (oa := []) rfl ?_
  refine sds_cons (sd_for g (it_list (ed_v 0)) (fun i ρ own => own = [] ∧ ∃ t2 t3 t4, ρ = [.d (li ys), .d (li (psums (ys.take i))), t2, t3, t4]) ⟨rfl, _, _, _, rfl⟩ (fun _ _ _ _ => trivial) ?_ ?_)
  · rintro i y ρ1 own1 hy ⟨rfl, t2, t3, t4, rfl⟩
    rw [List.getElem?_map] at hy
    cases ea : ys[i]? with
    | none => rw [ea] at hy; cases hy
    | some y' =>
      rw [ea] at hy
      cases hy
      have hm : y' ∈ ys := List.mem_of_getElem? ea
      have hy := hY.it _ hm
      have hi := (List.getElem?_eq_some_iff.mp ea).1
      have hfl : (psums (ys.take i)).length ≤ 9 := by
        rw [psums_len, List.length_take]
        omega
      rw [psums_take ea]
      generalize psums (ys.take i) = f at hfl ⊢
      refine ⟨_, _, gt_name 2 g.nd, ?_⟩
      refine sds_cons (sd_setL 3 g.nd (el_cat (ed_v 1) (ed_k1 (i := 0)) .d .d (by simp; omega)) fun p => ?_)
      refine sds_cons (sd_for g (it_range1 T.n_range (ed_len T.n_len (ed_v 1) .d) ⟨by rw [List.length_map]; omega, by rw [List.length_map]; omega⟩) (fun j ρ own => own = [(p, .lst ((psK f y' j).map PyData.int))] ∧ ∃ t4, ρ = [.d (li ys), .d (li f), .d (.int y'), .raw (.ref p), t4]) ⟨by rw [psK, List.map_append]; rfl, _, rfl⟩ (fun _ _ _ _ => trivial) ?_ ?_)
      · rintro j yy ρ2 own2 hyy ⟨rfl, t4, rfl⟩
        obtain ⟨hj, rfl⟩ := rng_get hyy
        have hj : j < f.length := by
          rw [List.length_map] at hj
          omega
        have e1 : f[j]? = some (f.getD j 0) := by
          rw [List.getD_eq_getElem?_getD, List.getElem?_eq_getElem hj]
          rfl
        have hjk : j + 1 < (psK f y' j).length := by
          rw [psK_len]
          omega
        have e2 : (psK f y' j)[j + 1]? = some ((psK f y' j).getD (j + 1) 0) := by
          rw [List.getD_eq_getElem?_getD, List.getElem?_eq_getElem hjk]
          rfl
        have e0 : (0 : Int) + (j : Int) = (j : Int) := by omega
        rw [e0]
        refine ⟨_, _, gt_name 4 g.nd, sds_one (sd_augitem (oa := []) (ob := []) (n := j + 1) iop_addC (ev_v 3) (ed_add (ed_v 4) ed_int) (ed_mulS (ed_ixL (ed_v 1) (ed_v 4) .d (getI e1)) (ed_v 2) (.inr ⟨by omega, by omega⟩)) ?_ (by rw [List.getElem?_map, e2]; rfl) trivial ?_)⟩
        · unfold ixN
          rw [List.length_map, if_pos (by omega), if_pos (by omega)]
          congr 1
        · refine ⟨?_, _, rfl⟩
          rw [psK, List.map_set]
          rfl
      · rintro ρ2 own2 ⟨rfl, t4, rfl⟩
        rw [rng_length, Int.toNat_natCast, List.length_map]
        refine sds_cons (sd_set 1 g.nd (ev_v 3) ?_)
        refine sds_freeze 1 (oa := []) rfl ?_
        exact sds_nil ⟨rfl, _, _, _, rfl⟩
  · rintro ρ1 own1 ⟨rfl, t2, t3, t4, rfl⟩
    rw [List.length_map, List.take_length]
    exact sds_one (sd_retD (ed_v 1) rfl))
end
end Pg

namespace Pg
open PySem PySem.Spec PyProof.Rows L2 Sd
section
variable {P : Program} {w : World} {K : PySem.W.Frag} {mg : Str → Option Value} {base : Heap} {c : Cl}
def unl (ys : List Int) (n : Nat) : Rat := ((((fac n : Nat) * (psums ys).getD n 0 : Int) : Rat) / ((ys.sum ^ n : Int) : Rat))
def pre_unlike_of : Pr := fun ss own post => ∃ (ys : List Int) (n : Nat), ss = [.d (li ys), .d (.int (n : Int))] ∧ own = [] ∧ Yr ys ∧ n ≤ 12 ∧ post = fun o => o = .ret (.d (fr (unl ys n))) []
theorem fn_unlike_of (T : Tx K mg c) : Fn K mg P w base "unlike_of" ["year", "many"] 3 pre_unlike_of := T.d_unlike_of.fn fun f fd F => okG (k := 2) F sc_unlike_of (by rintro ss own post ⟨ys, n, rfl, _⟩; rfl) (by
  rintro ss own post ⟨ys, n, rfl, rfl, hY, hn, rfl⟩ cdv A outer s H E B g
  have hl := psums_len ys
  refine sds_cons (sd_set 2 g.nd (es_call (fn_product_sums T) g (by decide) (ea_cons (ed_v 0) ea_nil) ⟨ys, rfl, rfl, hY, rfl⟩) ?_)
  refine sds_cons (sd_if (l := decide (((psums ys).length : Int) ≤ (n : Int))) (et_cmp (c_ge (i := n) (j := (psums ys).length)) (ed_v 1) (ES.is (ed_len T.n_len (ed_v 2) .d) (by rw [List.length_map]))) (fun h => ?_) fun h => sds_nil ?_)
  · have h : (psums ys).length ≤ n := by simpa using h
    refine sds_one (sd_retD (ed_k2 (i := 0) (i' := 1)) ?_)
    have e : unl ys n = 0 := by
      unfold unl
      rw [List.getD_eq_getElem?_getD, List.getElem?_eq_none h]
      simp
      exact Rat.zero_mul _
    rw [e]
    rfl
  · have h : n < (psums ys).length := by simpa using h
    have e1 : (psums ys)[n]? = some ((psums ys).getD n 0) := by
      rw [List.getD_eq_getElem?_getD, List.getElem?_eq_getElem h]
      rfl
    have z := fac_sz n hn
    unfold Sz at z
    have h2 : Sz 97 (ys.sum ^ n) := (hY.szW.pow n).mono (by omega)
    exact sds_one (sd_retD (es_call (fn_lowest T) g (by decide) (ea_cons (ed_mulS (es_call (fn_ordered T) g (by decide) (ea_cons (ed_v 1) ea_nil) ⟨n, rfl, rfl, hn, rfl⟩) (ed_ixL (ed_v 2) (ed_v 1) .d (getI e1)) (.inl ⟨by omega, by omega⟩)) (ea_cons (es_call (fn_power T) g (by decide) (ea_cons (ed_sum g T.n_sum (ed_v 0) .d) (ea_cons (ed_v 1) ea_nil)) ⟨_, n, 8, rfl, rfl, hY.szW, by omega, by decide, rfl⟩) ea_nil)) ⟨_, _, rfl, rfl, hY.posP n, h2.mono (by decide), rfl⟩) rfl))
end
end Pg

namespace Pg
open PySem PySem.Spec PyProof.Rows L2 Sd
section
variable {P : Program} {w : World} {K : PySem.W.Frag} {mg : Str → Option Value} {base : Heap} {c : Cl}
def pre_all_unlike : Pr := fun ss own post => ∃ (ys : List Int) (n : Nat), ss = [.d (li ys), .d (.int (n : Int))] ∧ own = [] ∧ Yr ys ∧ n ≤ 12 ∧ post = fun o => o = .ret (.d (fr (unl ys n))) []
theorem fn_all_unlike (T : Tx K mg c) : Fn K mg P w base "all_unlike" ["year", "many"] 4 pre_all_unlike := T.d_all_unlike.fn fun f fd F => okG (k := 3) F sc_all_unlike (by rintro ss own post ⟨ys, n, rfl, _⟩; rfl) (by
  rintro ss own post ⟨ys, n, rfl, rfl, hY, hn, rfl⟩ cdv A outer s H E B g
  refine sds_cons (sd_expr (es_call (fn_check_year T) g (by decide) (ea_cons (ed_v 0) ea_nil) (ok_year hY)) ?_)
  refine sds_cons (sd_expr (es_call (fn_check_many T) g (by decide) (ea_cons (ed_v 1) ea_nil) (ok_many ⟨by omega, by omega⟩)) ?_)
  exact sds_one (sd_retD (es_call (fn_unlike_of T) g (by decide) (ea_cons (ed_v 0) (ea_cons (ed_v 1) ea_nil)) ⟨ys, n, rfl, rfl, hY, hn, rfl⟩) rfl))
end
end Pg

namespace Pg
open PySem PySem.Spec PyProof.Rows L2 Sd
section
variable {P : Program} {w : World} {K : PySem.W.Frag} {mg : Str → Option Value} {base : Heap} {c : Cl}
/-! ways that use k days -/
def uwT (T : Nat → Int) (w : Int) (n j : Nat) : Int := T j * (bin n (n - j) : Nat) * w ^ (n - j)
def uwS (T : Nat → Nat → Int) (w : Int) (k n : Nat) : Int := T k n + (if k = 0 then 0 else sumN (uwT (T (k - 1)) w n) n)
def uwF (ys : List Int) : Nat → Nat → Int := ys.foldl uwS (fun k n => if k = 0 ∧ n = 0 then 1 else 0)
theorem uwF_take {ys : List Int} {i : Nat} {y : Int} (h : ys[i]? = some y) : uwF (ys.take (i + 1)) = uwS (uwF (ys.take i)) y := by
  unfold uwF
  rw [List.take_add_one, h, List.foldl_append]
  rfl
theorem sumN_zero' {f : Nat → Int} {n : Nat} (h : ∀ i, i < n → f i = 0) : sumN f n = 0 := by rw [sumN_congr h, sumN_zero]
theorem uwF_out {ys : List Int} : ∀ i, i ≤ ys.length → ∀ k n, i < k → uwF (ys.take i) k n = 0
  | 0, _, k, n, hk => if_neg fun z => by omega
  | i + 1, hi, k, n, hk => by
    have hlt : i < ys.length := by omega
    rw [uwF_take (List.getElem?_eq_getElem hlt), uwS, uwF_out i (by omega) k n (by omega), if_neg (by omega), sumN_zero' fun j _ => by
      rw [uwT, uwF_out i (by omega) (k - 1) j (by omega), Int.zero_mul, Int.zero_mul]]
    rfl
theorem uwT_sz {b : Nat} {T : Nat → Int} {w : Int} {n j : Nat} (hT : ∀ n, n ≤ 12 → Sz b (T n)) (hw : 1 ≤ w ∧ w ≤ 20) (hn : n ≤ 12) (hj : j ≤ 12) : Sz (b + 74) (uwT T w n j) :=
  (((hT j hj).mul (sz_bin hn)).mul (sz_pw hw (by omega))).mono (by omega)
theorem uwS_sz {b : Nat} {T : Nat → Nat → Int} {w : Int} {k n : Nat} (hT : ∀ k n, n ≤ 12 → Sz b (T k n)) (hw : 1 ≤ w ∧ w ≤ 20) (hn : n ≤ 12) : Sz (b + 90) (uwS T w k n) := by
  unfold uwS
  split
  · exact ((hT k n hn).add (n := b) (j := 0) (by unfold Sz; exact Nat.two_pow_pos _)).mono (by omega)
  · exact ((hT k n hn).add (sumN_sz (b := b + 74) fun i hi => uwT_sz (hT (k - 1)) hw hn (by omega))).mono (by omega)
theorem uwF_sz {ys : List Int} (hY : ∀ y ∈ ys, 1 ≤ y ∧ y ≤ 20) : ∀ i, i ≤ ys.length → ∀ k n, n ≤ 12 → Sz (90 * i + 1) (uwF (ys.take i) k n)
  | 0, _, k, n, _ => by
    show Sz 1 (if k = 0 ∧ n = 0 then 1 else 0)
    split <;> (unfold Sz; decide)
  | i + 1, hi, k, n, hn => by
    have hlt : i < ys.length := by omega
    rw [uwF_take (List.getElem?_eq_getElem hlt)]
    exact (uwS_sz (uwF_sz hY i (by omega)) (hY _ (List.getElem_mem hlt)) hn).mono (by omega)
theorem uwF_szA {ys : List Int} (hY : Yr ys) (k : Nat) {n : Nat} (hn : n ≤ 12) : Sz 730 (uwF ys k n) := by
  have h := uwF_sz hY.it ys.length (Nat.le_refl _) k n hn
  rw [List.take_length] at h
  have := hY.hi
  exact h.mono (by omega)
/-- under way: rows before d done, of row d those before j -/
def uwU (T : Nat → Nat → Int) (w : Int) (d j k n : Nat) : Int := (if k < d ∨ (k = d ∧ n < j) then T k n else 0) + (if k = 0 then 0 else sumN (uwT (T (k - 1)) w n) (if k - 1 < d then n else if k - 1 = d then min n j else 0))
def uwV (T : Nat → Nat → Int) (w : Int) (d j o k n : Nat) : Int := uwU T w d j k n + (if k = d ∧ n = j then T d j else 0) + (if k = d + 1 ∧ j < n ∧ n ≤ j + o then uwT (T d) w n j else 0)
theorem uwU_zero (T : Nat → Nat → Int) (w : Int) (k n : Nat) : uwU T w 0 0 k n = 0 := by
  unfold uwU
  rw [if_neg (by omega)]
  by_cases h : k = 0
  · rw [if_pos h]; rfl
  · rw [if_neg h, if_neg (by omega)]
    split
    · rw [Nat.min_zero]; rfl
    · rfl
theorem uwV_zero (T : Nat → Nat → Int) (w : Int) (d j k n : Nat) : uwV T w d j 0 k n = if k = d ∧ n = j then uwU T w d j k n + T d j else uwU T w d j k n := by
  unfold uwV
  rw [if_neg (c := k = d + 1 ∧ j < n ∧ n ≤ j + 0) (by omega)]
  split <;> omega
theorem uwV_succ (T : Nat → Nat → Int) (w : Int) (d j o k n : Nat) : (if k = d + 1 ∧ n = j + (o + 1) then uwV T w d j o k n + uwT (T d) w (j + (o + 1)) j else uwV T w d j o k n) = uwV T w d j (o + 1) k n := by
  unfold uwV
  by_cases h : k = d + 1 ∧ n = j + (o + 1)
  · obtain ⟨rfl, rfl⟩ := h
    rw [if_pos ⟨rfl, rfl⟩, if_neg (c := d + 1 = d + 1 ∧ j < j + (o + 1) ∧ j + (o + 1) ≤ j + o) (by omega), if_pos (c := d + 1 = d + 1 ∧ j < j + (o + 1) ∧ j + (o + 1) ≤ j + (o + 1)) (by omega)]
    omega
  · rw [if_neg h]
    by_cases h2 : k = d + 1 ∧ j < n ∧ n ≤ j + o
    · rw [if_pos h2, if_pos (c := k = d + 1 ∧ j < n ∧ n ≤ j + (o + 1)) (by omega)]
    · rw [if_neg h2, if_neg (c := k = d + 1 ∧ j < n ∧ n ≤ j + (o + 1)) (by omega)]
theorem uwV_done (T : Nat → Nat → Int) (w : Int) {d j m k n : Nat} (hj : j ≤ m) (hn : n ≤ m) : uwV T w d j (m - j) k n = uwU T w d (j + 1) k n := by
  unfold uwV uwU
  by_cases h1 : k = d + 1
  · subst h1
    rw [if_neg (c := d + 1 < d ∨ d + 1 = d ∧ n < j) (by omega), if_neg (c := d + 1 < d ∨ d + 1 = d ∧ n < j + 1) (by omega), if_neg (c := d + 1 = d ∧ n = j) (by omega), if_neg (c := d + 1 = 0) (by omega), if_neg (c := d + 1 = 0) (by omega), Nat.add_sub_cancel, if_neg (c := d < d) (by omega), if_neg (c := d < d) (by omega), if_pos rfl, if_pos rfl]
    by_cases h2 : j < n
    · rw [if_pos (by omega), Nat.min_eq_right (by omega), Nat.min_eq_right (by omega), sumN]
      omega
    · rw [if_neg (by omega), Nat.min_eq_left (by omega), Nat.min_eq_left (by omega)]
      omega
  · rw [if_neg (c := k = d + 1 ∧ j < n ∧ n ≤ j + (m - j)) (by omega)]
    have e : (if k = 0 then (0 : Int) else sumN (uwT (T (k - 1)) w n) (if k - 1 < d then n else if k - 1 = d then min n j else 0)) = (if k = 0 then 0 else sumN (uwT (T (k - 1)) w n) (if k - 1 < d then n else if k - 1 = d then min n (j + 1) else 0)) := by
      by_cases h0 : k = 0
      · rw [if_pos h0, if_pos h0]
      · rw [if_neg h0, if_neg h0, if_neg (c := k - 1 = d) (by omega), if_neg (c := k - 1 = d) (by omega)]
    rw [e]
    by_cases h3 : k = d ∧ n = j
    · obtain ⟨rfl, rfl⟩ := h3
      rw [if_pos (c := k = k ∧ n = n) ⟨rfl, rfl⟩, if_neg (c := k < k ∨ k = k ∧ n < n) (by omega), if_pos (c := k < k ∨ k = k ∧ n < n + 1) (by omega)]
      omega
    · rw [if_neg h3]
      by_cases h4 : k < d ∨ k = d ∧ n < j
      · rw [if_pos h4, if_pos (c := k < d ∨ k = d ∧ n < j + 1) (by omega)]
        omega
      · rw [if_neg h4, if_neg (c := k < d ∨ k = d ∧ n < j + 1) (by omega)]
        omega
theorem uwU_next (T : Nat → Nat → Int) (w : Int) {d m k n : Nat} (hn : n ≤ m) : uwU T w d (m + 1) k n = uwU T w (d + 1) 0 k n := by
  unfold uwU
  have e1 : (if k < d ∨ k = d ∧ n < m + 1 then T k n else 0) = (if k < d + 1 ∨ k = d + 1 ∧ n < 0 then T k n else 0) := by
    by_cases h : k < d + 1
    · rw [if_pos (by omega), if_pos (by omega)]
    · rw [if_neg (by omega), if_neg (by omega)]
  rw [e1]
  congr 1
  by_cases h0 : k = 0
  · rw [if_pos h0, if_pos h0]
  · rw [if_neg h0, if_neg h0]
    congr 1
    by_cases h : k - 1 < d
    · rw [if_pos h, if_pos (by omega)]
    · rw [if_neg h]
      by_cases h2 : k - 1 = d
      · rw [if_pos h2, if_pos (by omega), Nat.min_eq_left (by omega)]
      · rw [if_neg h2, if_neg (by omega), Nat.min_zero]
        split <;> rfl
theorem uwU_end {T : Nat → Nat → Int} (w : Int) {D k n : Nat} (hT : ∀ n, T D n = 0) (hk : k ≤ D) : uwU T w D 0 k n = uwS T w k n := by
  unfold uwU uwS
  have e1 : (if k < D ∨ k = D ∧ n < 0 then T k n else 0) = T k n := by
    by_cases h : k < D
    · rw [if_pos (.inl h)]
    · rw [if_neg (by omega), show k = D by omega, hT]
  rw [e1]
  congr 1
  by_cases h0 : k = 0
  · rw [if_pos h0, if_pos h0]
  · rw [if_neg h0, if_neg h0, if_pos (by omega)]
/-- the chance that just k days have some -/
def usd (ys : List Int) (m k : Nat) : Rat := ((uwF ys k m : Int) : Rat) / ((ys.sum ^ m : Int) : Rat)
theorem usd_sq {ys : List Int} (hY : Yr ys) (k : Nat) {m : Nat} (hm : m ≤ 12) : Sq 730 (usd ys m k) := Sq.of_div (hY.posP m) (uwF_szA hY k hm) ((hY.szW.pow m).mono (by omega))
def alu (ys : List Int) (m : Nat) : Rat := usd ys m ys.length
end
end Pg

namespace Pg
open PySem PySem.Spec PyProof.Rows L2 Sd
section
variable {P : Program} {w : World} {K : PySem.W.Frag} {mg : Str → Option Value} {base : Heap} {c : Cl}
def pre_choose : Pr := fun ss own post => ∃ n k : Nat, ss = [.d (.int (n : Int)), .d (.int (k : Int))] ∧ own = [] ∧ k ≤ n ∧ n ≤ 1000 ∧ post = fun o => o = .ret (.d (.int (bin n k : Nat))) []
theorem fn_choose (T : Tx K mg c) : Fn K mg P w base "choose" ["whole", "part"] 1 pre_choose := T.d_choose.fn fun f fd F => okG (k := 0) F sc_choose (by rintro ss own post ⟨n, k, rfl, _⟩; rfl) (by
  rintro ss own post ⟨n, k, rfl, rfl, hk, hn, rfl⟩ cdv A outer s H E B g
  refine sds_cons (sd_set 2 g.nd ed_int ?_)
  refine sds_cons (sd_for g (it_range1 T.n_range (ed_v 1) ⟨by omega, by omega⟩) (fun i ρ own => own = [] ∧ ∃ t, ρ = [.d (.int (n : Int)), .d (.int (k : Int)), .d (.int (bin n i : Nat)), t]) ⟨rfl, _, by rw [bin_zero]; rfl⟩ (fun _ _ _ _ => trivial) ?_ ?_)
  · rintro i y ρ1 own1 hy ⟨rfl, t, rfl⟩
    obtain ⟨hi, rfl⟩ := rng_get hy
    have hi : i < k := by omega
    refine ⟨_, _, gt_name 3 g.nd, sds_one (sd_set 2 g.nd (ed_fdivS (ed_mul (ed_v 2) (ed_sub (ed_v 0) (ed_v 3)) (cmul_of (a := n) (b := 64) ?_ ?_ (by omega))) (ed_add (ed_v 3) ed_int) ⟨by omega, by omega⟩) ?_)⟩
    · unfold Sz
      rw [Int.natAbs_natCast]
      exact bin_lt n i hi hk
    · unfold Sz
      omega
    · refine ⟨rfl, .d (.int (0 + (i : Int))), ?_⟩
      have e : ((bin n i : Nat) : Int) * ((n : Int) - (0 + (i : Int))) / (0 + (i : Int) + 1) = (bin n (i + 1) : Nat) := bin_step n i (by omega)
      rw [e]
      rfl
  · rintro ρ1 own1 ⟨rfl, t, rfl⟩
    rw [rng_length]
    refine sds_one (sd_retD (ed_v 2) ?_)
    show Out.ret (.d (.int (bin n (k : Int).toNat : Nat))) [] = _
    rw [Int.toNat_natCast])
end
end Pg

namespace Pg
open PySem PySem.Spec PyProof.Rows L2 Sd
section
variable {P : Program} {w : World} {K : PySem.W.Frag} {mg : Str → Option Value} {base : Heap} {c : Cl}
def uwN : List Str := ["year", "many", "table", "weight", "fresh", "days", "row", "whole", "ways", "own", "k"]
abbrev uwD (T : Nat → Nat → Int) (D m : Nat) : PyData := .list ((List.range D).map fun k => PyData.list (tabZ (T k) (m + 1)))
def pre_used_ways : Pr := fun ss own post => ∃ (ys : List Int) (m : Nat), ss = [.d (li ys), .d (.int (m : Int))] ∧ own = [] ∧ Yr ys ∧ m ≤ 12 ∧ post = fun o => ∃ p, o = .ret (.raw (.ref p)) [(p, .lst (tabZ (fun k => uwF ys k m) (ys.length + 1)))]
theorem fn_used_ways (T : Tx K mg c) : Fn K mg P w base "used_ways" ["year", "many"] 2 pre_used_ways := T.d_used_ways.fn fun f fd F => okG (k := 1) F sc_used_ways (by rintro ss own post ⟨ys, m, rfl, _⟩; rfl) (by
  rintro ss own post ⟨ys, m, rfl, rfl, hY, hm, rfl⟩ cdv A outer s H E B g
  have hl := hY.hi
  show SDs _ (_ :: _) _ _ _
  with_reducible refine sds_cons ?_
  with_reducible refine sd_set 2 g.nd (s := .d (uwD (uwF (ys.take 0)) 1 m)) ?A ?B ?C1 ?C2 ?C3 ?C4
  case C1 => rfl
  case C2 => first | exact Or.inl rfl | exact Or.inr rfl
  case C3 => rfl
  case C4 => first | exact .inl rfl | exact .inr rfl
  case A =>
    have e0 : uwD (uwF (ys.take 0)) 1 m = .list [.list (tabZ (fun k => if k = 0 then 1 else 0) (m + 1))] := by
      show PyData.list [PyData.list _] = PyData.list [PyData.list _]
      refine congrArg (fun t => PyData.list [PyData.list t]) (tabZ_congr fun k _ => ?_)
      show (if 0 = 0 ∧ k = 0 then (1 : Int) else 0) = _
      by_cases h : k = 0
      · rw [if_pos h, if_pos ⟨rfl, h⟩]
      · rw [if_neg h, if_neg fun z => h z.2]
    rw [e0]
    with_reducible refine ed_lb1 (eb_b ?_ ea_nil)
    exact EL.ed (EL.is (el_cat (xs := [.int 1]) (ys := (List.replicate (m : Int).toNat [PyData.int 0]).flatten) ed_k1 (EL.ed (el_rep ed_k1 (ed_v 1) .d (by omega) (by simp))) .d .d (by rw [Int.toNat_natCast, tabZ_const, tabZ_len]; simp; omega)) (by rw [Int.toNat_natCast, tabZ_unit]))
  case B =>
  refine sds_cons (sd_for g (it_list (ed_v 0)) (fun i ρ own => own = [] ∧ ∃ t3 t4 t5 t6 t7 t8 t9 t10, ρ = [.d (li ys), .d (.int (m : Int)), .d (uwD (uwF (ys.take i)) (i + 1) m), t3, t4, t5, t6, t7, t8, t9, t10]) ⟨rfl, _, _, _, _, _, _, _, _, rfl⟩ (fun _ _ _ _ => trivial) ?_ ?_)
  · rintro i y ρ1 own1 hy ⟨rfl, t3, t4, t5, t6, t7, t8, t9, t10, rfl⟩
    rw [List.getElem?_map] at hy
    cases ea : ys[i]? with
    | none => rw [ea] at hy; cases hy
    | some y' =>
      rw [ea] at hy
      cases hy
      have hmem : y' ∈ ys := List.mem_of_getElem? ea
      have hy20 := hY.it _ hmem
      have hi := (List.getElem?_eq_some_iff.mp ea).1
      have hsz := uwF_sz hY.it i (by omega)
      have hout := fun n => uwF_out (ys := ys) i (by omega) (i + 1) n (by omega)
      rw [uwF_take ea]
      generalize uwF (ys.take i) = W at hsz hout ⊢
      refine ⟨_, _, gt_name 3 g.nd, ?_⟩
      refine sds_cons (sd_setCR 4 g (compR (tb := fun k => tabZ ((fun _ _ => 0) k) (m + 1)) g (it_range1 T.n_range (ed_add (ES.is (y := .int ((i + 1 : Nat) : Int)) (ed_len T.n_len (ed_v 2) .d) (by simp)) ed_int) (by omega)) [("k", 10)] (blkOk_by (N := uwN) (sc := defScope s_used_ways) (by decide +kernel)) (fun _ _ => trivial) (by rw [rng_length]; omega) ?_) ?_ rfl)
      · intro j yy as D _
        exact ⟨_, _, by simp, fun s H C cl fp => gt_name 10 g.nd, fun s H C cl fp => EL.is (el_rep (ed_k1 (i := 0)) (ed_add (ed_v 1) ed_int) .d (by omega) (by simp)) (by rw [show ((m : Int) + 1).toNat = m + 1 by omega, tabZ_const])⟩
      intro q as hal
      have hal : as.length = i + 2 := by
        rw [hal, rng_length]
        omega
      rw [rowsO_congr (f := fun k => tabZ ((fun _ _ => 0) k) (m + 1)) (g := fun k => tabZ (uwU W y' 0 0 k) (m + 1)) fun k _ => tabZ_congr fun n _ => (uwU_zero W y' k n).symm]
      refine sds_cons (sd_for g (it_enum T.n_enumerate (ed_v 2)) (fun d ρ own => own = (q, .raw (.lst (as.map V.ref))) :: (rowsO as (fun k => tabZ (uwU W y' d 0 k) (m + 1)) ++ []) ∧ ∃ t5 t6 t7 t8 t9 t10, ρ = [.d (li ys), .d (.int (m : Int)), .d (uwD W (i + 1) m), .d (.int y'), .raw (.ref q), t5, t6, t7, t8, t9, t10]) ⟨rfl, _, _, _, _, _, _, rfl⟩ (fun _ _ _ _ => trivial) ?_ ?_)
      · rintro d yy ρ2 own2 hyy ⟨rfl, t5, t6, t7, t8, t9, t10, rfl⟩
        obtain ⟨row, hrow, rfl⟩ := enumD_get hyy
        have hd : d < i + 1 ∧ row = .list (tabZ (W d) (m + 1)) := by
          rw [List.getElem?_map, Option.map_eq_some_iff] at hrow
          obtain ⟨d', h1, rfl⟩ := hrow
          have h2 := (List.getElem?_eq_some_iff.mp h1).1
          rw [List.length_range] at h2
          rw [List.getElem?_range h2] at h1
          cases h1
          exact ⟨h2, rfl⟩
        obtain ⟨hd, rfl⟩ := hd
        refine ⟨_, _, gt_tup g.calm (gts_cons (gt_name 5 g.nd) (gts_cons (gt_name 6 g.nd) gts_nil)) rfl, ?_⟩
        refine sds_one (sd_for g (it_enum T.n_enumerate (ed_v 6)) (fun j ρ own => own = (q, .raw (.lst (as.map V.ref))) :: (rowsO as (fun k => tabZ (uwU W y' d j k) (m + 1)) ++ []) ∧ ∃ t7 t8 t9 t10, ρ = [.d (li ys), .d (.int (m : Int)), .d (uwD W (i + 1) m), .d (.int y'), .raw (.ref q), .d (.int (d : Int)), .d (.list (tabZ (W d) (m + 1))), t7, t8, t9, t10]) ⟨rfl, _, _, _, _, rfl⟩ (fun _ _ _ _ => trivial) ?_ ?_)
        · rintro j yz ρ3 own3 hyz ⟨rfl, t7, t8, t9, t10, rfl⟩
          obtain ⟨vv, hvv, rfl⟩ := enumD_get hyz
          have hj : j < m + 1 := by
            have := (List.getElem?_eq_some_iff.mp hvv).1
            rwa [tabZ_len] at this
          rw [tabZ_get hj] at hvv
          cases hvv
          refine ⟨_, _, gt_tup g.calm (gts_cons (gt_name 7 g.nd) (gts_cons (gt_name 8 g.nd) gts_nil)) rfl, ?_⟩
          refine sds_cons (sd_aug2 (a := d) (b := j) (z := W d j) (F := uwU W y' d j) (fun o => ev_v 4) (fun o => ed_v 5) (fun o => ed_v 7) (fun o => ed_v 8) (by omega) hj ?_)
          rw [rowsO_congr (f := fun k => tabZ (fun n => if k = d ∧ n = j then uwU W y' d j k n + W d j else uwU W y' d j k n) (m + 1)) (g := fun k => tabZ (uwV W y' d j 0 k) (m + 1)) fun k _ => tabZ_congr fun n _ => by
            rw [uwV_zero]]
          refine sds_one (sd_for g (it_range2 T.n_range ed_int (ed_add (ed_sub (ed_v 1) (ed_v 7)) ed_int) (by omega)) (fun o ρ own => own = (q, .raw (.lst (as.map V.ref))) :: (rowsO as (fun k => tabZ (uwV W y' d j o k) (m + 1)) ++ []) ∧ ∃ t9 t10, ρ = [.d (li ys), .d (.int (m : Int)), .d (uwD W (i + 1) m), .d (.int y'), .raw (.ref q), .d (.int (d : Int)), .d (.list (tabZ (W d) (m + 1))), .d (.int (j : Int)), .d (.int (W d j)), t9, t10]) ⟨rfl, _, _, rfl⟩ (fun _ _ _ _ => trivial) ?_ ?_)
          · rintro o yo ρ4 own4 hyo ⟨rfl, t9, t10, rfl⟩
            obtain ⟨ho, rfl⟩ := rng_get hyo
            have ho : j + (o + 1) ≤ m := by omega
            rw [show (1 : Int) + (o : Int) = ((o + 1 : Nat) : Int) by omega]
            have e1 : (j : Int) + ((o + 1 : Nat) : Int) = ((j + (o + 1) : Nat) : Int) := by omega
            have z1 := hsz d j (by omega)
            have z2 : Sz 13 (bin (j + (o + 1)) (o + 1) : Nat) := sz_bin (by omega)
            refine ⟨_, _, gt_name 9 g.nd, sds_one (sd_aug2 (a := d + 1) (b := j + (o + 1)) (z := uwT (W d) y' (j + (o + 1)) j) (F := uwV W y' d j o) (fun o => ev_v 4) (fun o => ES.is (ed_add (ed_v 5) ed_int) (by push_cast; rfl)) (fun _ => ES.is (ed_add (ed_v 7) (ed_v 9)) (by rw [e1])) (fun _ => ES.is (ed_mul (ed_mul (ed_v 8) (es_call (fn_choose T) g (by decide) (ea_cons (ES.is (ed_add (ed_v 7) (ed_v 9)) (by rw [e1])) (ea_cons (ed_v 9) ea_nil)) ⟨j + (o + 1), o + 1, rfl, rfl, by omega, by omega, rfl⟩) (cmul_of z1 z2 (by omega))) (es_call (fn_power T) g (by decide) (ea_cons (ed_v 3) (ea_cons (ed_v 9) ea_nil)) ⟨y', o + 1, 5, rfl, rfl, by unfold Sz; omega, by omega, by decide, rfl⟩) (cmul_of (z1.mul z2) (sz_pw hy20 (by omega)) (by omega))) ?_) (by omega) (by omega) ?_)⟩
            · rw [uwT, show j + (o + 1) - j = o + 1 by omega]
            · refine ⟨?_, _, _, rfl⟩
              rw [rowsO_congr (g := fun k => tabZ (uwV W y' d j (o + 1) k) (m + 1)) fun k _ => tabZ_congr fun n _ => uwV_succ W y' d j o k n]
          · rintro ρ4 own4 ⟨rfl, t9, t10, rfl⟩
            rw [rng_length, show ((m : Int) - (j : Int) + 1 - 1).toNat = m - j by omega]
            refine ⟨?_, _, _, _, _, rfl⟩
            rw [rowsO_congr (g := fun k => tabZ (uwU W y' d (j + 1) k) (m + 1)) fun k _ => tabZ_congr fun n hn => uwV_done W y' (by omega) (by omega)]
        · rintro ρ3 own3 ⟨rfl, t7, t8, t9, t10, rfl⟩
          have el : (enumD (tabZ (W d) (m + 1))).length = m + 1 := by simp [enumD, tabZ_len]
          rw [el]
          refine ⟨?_, _, _, _, _, _, _, rfl⟩
          rw [rowsO_congr (g := fun k => tabZ (uwU W y' (d + 1) 0 k) (m + 1)) fun k _ => tabZ_congr fun n hn => uwU_next W y' (by omega)]
      · rintro ρ2 own2 ⟨rfl, t5, t6, t7, t8, t9, t10, rfl⟩
        have el : (enumD ((List.range (i + 1)).map fun k => PyData.list (tabZ (W k) (m + 1)))).length = i + 1 := by simp [enumD]
        rw [el, rowsO_congr (f := fun k => tabZ (uwU W y' (i + 1) 0 k) (m + 1)) (g := fun k => tabZ (uwS W y' k) (m + 1)) fun k hk => tabZ_congr fun n hn => uwU_end y' (hout) (by omega)]
        refine sds_cons (sd_set 2 g.nd (ev_v 4) ?_)
        refine sds_freezeRows 2 rfl ?_
        rw [hal]
        exact sds_nil ⟨rfl, _, _, _, _, _, _, _, _, rfl⟩
  · rintro ρ1 own1 ⟨rfl, t3, t4, t5, t6, t7, t8, t9, t10, rfl⟩
    rw [List.length_map, List.take_length]
    refine sds_one (sd_retL (EL.is (el_comp g (compP g (it_list (ed_v 2)) [("row", 6)] (blkOk_by (N := uwN) (sc := defScope s_used_ways) (by decide +kernel)) (List.range (ys.length + 1)) (fun k => PyData.list (tabZ (uwF ys k) (m + 1))) rfl (fun k => some (.int (uwF ys k m))) (fun k => [.d (li ys), .d (.int (m : Int)), .d (uwD (uwF ys) (ys.length + 1) m), t3, t4, t5, .d (.list (tabZ (uwF ys k) (m + 1))), t7, t8, t9, t10]) [6] (by simp) (by rw [List.length_range]; omega) (fun _ _ => trivial)
      (fun i _ s H C cl fp g' => gt_name 6 g'.nd) (fun i _ s H C cl fp o g' => ets_nil) (fun i hi z hz s H C cl fp o g' => ?_))) ?_) fun p => ⟨p, rfl⟩)
    · cases hz
      exact ed_ixL (ed_v 6) (ed_v 1) .d (tabZ_at (by omega))
    · exact congrFun List.filterMap_eq_map' _)
end
end Pg

namespace Pg
open PySem PySem.Spec PyProof.Rows L2 Sd
section
variable {P : Program} {w : World} {K : PySem.W.Frag} {mg : Str → Option Value} {base : Heap} {c : Cl}
def pre_all_used_of : Pr := fun ss own post => ∃ (ys : List Int) (m : Nat), ss = [.d (li ys), .d (.int (m : Int))] ∧ own = [] ∧ Yr ys ∧ m ≤ 12 ∧ post = fun o => o = .ret (.d (fr (alu ys m))) []
theorem fn_all_used_of (T : Tx K mg c) : Fn K mg P w base "all_used_of" ["year", "many"] 3 pre_all_used_of := T.d_all_used_of.fn fun f fd F => okG (k := 2) F sc_all_used_of (by rintro ss own post ⟨ys, m, rfl, _⟩; rfl) (by
  rintro ss own post ⟨ys, m, rfl, rfl, hY, hm, rfl⟩ cdv A outer s H E B g
  have h2 : Sz 97 (ys.sum ^ m) := (hY.szW.pow m).mono (by omega)
  refine sds_one (sd_retD (es_call (fn_lowest T) g (by decide) (ea_cons (ed_ixL (ds := tabZ (fun k => uwF ys k m) (ys.length + 1)) (d := .int (uwF ys ys.length m)) (EL.ed (el_call (fn_used_ways T) g (by decide) (ea_cons (ed_v 0) (ea_cons (ed_v 1) ea_nil)) ⟨ys, m, rfl, rfl, hY, hm, rfl⟩)) (ed_neg ed_int) .d ?_) (ea_cons (es_call (fn_power T) g (by decide) (ea_cons (ed_sum g T.n_sum (ed_v 0) .d) (ea_cons (ed_v 1) ea_nil)) ⟨_, m, 8, rfl, rfl, hY.szW, by omega, by decide, rfl⟩) ea_nil)) ⟨_, _, rfl, rfl, hY.posP m, h2.mono (by decide), rfl⟩) rfl)
  refine atI_ixN (n := ys.length) ?_ (tabZ_get (by omega))
  unfold ixN
  rw [tabZ_len, if_neg (by omega), if_pos (by omega)]
  congr 1
  omega)
theorem alu_sq {ys : List Int} (hY : Yr ys) {m : Nat} (hm : m ≤ 12) : Sq 730 (alu ys m) := usd_sq hY _ hm
end
end Pg

namespace Pg
open PySem PySem.Spec PyProof.Rows L2 Sd
section
variable {P : Program} {w : World} {K : PySem.W.Frag} {mg : Str → Option Value} {base : Heap} {c : Cl}
def pre_all_used : Pr := fun ss own post => ∃ (ys : List Int) (m : Nat), ss = [.d (li ys), .d (.int (m : Int))] ∧ own = [] ∧ Yr ys ∧ m ≤ 12 ∧ post = fun o => o = .ret (.d (fr (alu ys m))) []
theorem fn_all_used (T : Tx K mg c) : Fn K mg P w base "all_used" ["year", "many"] 4 pre_all_used := T.d_all_used.fn fun f fd F => okG (k := 3) F sc_all_used (by rintro ss own post ⟨ys, m, rfl, _⟩; rfl) (by
  rintro ss own post ⟨ys, m, rfl, rfl, hY, hm, rfl⟩ cdv A outer s H E B g
  refine sds_cons (sd_expr (es_call (fn_check_year T) g (by decide) (ea_cons (ed_v 0) ea_nil) (ok_year hY)) ?_)
  refine sds_cons (sd_expr (es_call (fn_check_many T) g (by decide) (ea_cons (ed_v 1) ea_nil) (ok_many ⟨by omega, by omega⟩)) ?_)
  exact sds_one (sd_retD (es_call (fn_all_used_of T) g (by decide) (ea_cons (ed_v 0) (ea_cons (ed_v 1) ea_nil)) ⟨ys, m, rfl, rfl, hY, hm, rfl⟩) rfl))
end
end Pg

namespace Pg
open PySem PySem.Spec PyProof.Rows L2 Sd
section
variable {P : Program} {w : World} {K : PySem.W.Frag} {mg : Str → Option Value} {base : Heap} {c : Cl}
def pre_law_low : Pr := fun ss own post => ∃ a b : Int, ss = [.d (.int a), .d (.int b)] ∧ own = [] ∧ 0 < b ∧ Sz 8999 b ∧ post = fun o => o = .ret (.d (fr ((a : Rat) / b))) []
theorem fn_law_low (T : Tx K mg c) : Fn K mg P w base "_law_low" ["top", "under"] 1 pre_law_low := T.d_law_low.fn fun f fd F => okG (k := 0) F sc_law_low (by rintro ss own post ⟨a, b, rfl, _⟩; rfl) (by
  rintro ss own post ⟨a, b, rfl, rfl, hb, hz, rfl⟩ cdv A outer s H E B g
  have eg : Int.gcd (if a < 0 then -a else a) b = Int.gcd a b := by
    split
    · rw [Int.gcd_comm, Int.gcd_neg, Int.gcd_comm]
    · rfl
  have ha : 0 ≤ (if a < 0 then -a else a) := by split <;> omega
  refine sds_cons (sd_par 2 3 g (ea_cons (ed_abs T.n_abs (ed_v 0)) (ea_cons (ed_v 1) ea_nil)) ?_)
  generalize (if a < 0 then -a else a) = a' at eg ha
  refine sds_cons (sd_while g (fun m ρ own => ∃ x y : Int, 0 ≤ x ∧ 0 ≤ y ∧ ρ = [.d (.int a), .d (.int b), .d (.int x), .d (.int y)] ∧ own = [] ∧ Int.gcd x y = Int.gcd a b ∧ m = y.toNat) b.toNat ⟨a', b, ha, by omega, rfl, rfl, eg, rfl⟩ ?_)
  rintro m ρ1 own1 ⟨x, y, hx, hy, rfl, rfl, e, rfl⟩
  refine ⟨_, et_cmp c_neI (ed_v 3) ed_int, fun h => ?_, fun h => ?_⟩
  · have h0 : 0 < y := by
      have : y ≠ 0 := fun z => by subst z; simp at h
      omega
    refine sds_one (sd_par 2 3 g (ea_cons (ed_v 3) (ea_cons (ed_mod (ed_v 2) (ed_v 3) h0) ea_nil)) ?_)
    have h1 := Int.emod_nonneg x (Int.ne_of_gt h0)
    have h2 := Int.emod_lt_of_pos x h0
    exact ⟨(x % y).toNat, by omega, y, x % y, hy, h1, rfl, rfl, (gcd_step x y hx h0).trans e, rfl⟩
  · have h0 : y = 0 := by simpa using h
    subst h0
    have ex : x = (Int.gcd a b : Nat) := by rw [← e, Int.gcd_zero_right, Int.natAbs_of_nonneg hx]
    subst ex
    have g0 : (0 : Int) < (Int.gcd a b : Nat) := by
      have := Int.gcd_pos_of_ne_zero_right a (show b ≠ 0 by omega)
      omega
    have gz : Sz 8999 (Int.gcd a b : Nat) := by
      have := Int.gcd_le_natAbs_right (a := a) (show b ≠ 0 by omega)
      unfold Sz at *
      rw [Int.natAbs_natCast]
      omega
    refine sds_one (sd_retD (ed_tup (ds := [_, _]) (ea_cons (ed_fdiv (ed_v 0) (ed_v 2) (cdiv_of g0 gz (by decide))) (ea_cons (ed_fdiv (ed_v 1) (ed_v 2) (cdiv_of g0 gz (by decide))) ea_nil))) ?_)
    show Out.ret (.d (.tuple [.int (a / (Int.gcd a b : Nat)), .int (b / (Int.gcd a b : Nat))])) [] = _
    rw [fr_low a b hb])
end
end Pg

namespace Pg
open PySem PySem.Spec PyProof.Rows L2 Sd
section
variable {P : Program} {w : World} {K : PySem.W.Frag} {mg : Str → Option Value} {base : Heap} {c : Cl}
def pre_law_add : Pr := fun ss own post => ∃ (p q : Rat) (m n : Nat), ss = [.d (fr p), .d (fr q)] ∧ own = [] ∧ Sq m p ∧ Sq n q ∧ m + n ≤ 8990 ∧ post = fun o => o = .ret (.d (fr (p + q))) []
theorem fn_law_add (T : Tx K mg c) : Fn K mg P w base "_law_add" ["one", "other"] 2 pre_law_add := T.d_law_add.fn fun f fd F => okG (k := 1) F sc_law_add (by rintro ss own post ⟨p, q, m, n, rfl, _⟩; rfl) (by
  rintro ss own post ⟨p, q, m, n, rfl, rfl, hp, hq, hmn, rfl⟩ cdv A outer s H E B g
  refine sds_one (sd_retD (es_call (fn_law_low T) g (by decide) (ea_cons (ed_add (ed_mul (ed_ixT (ed_v 0) ed_int rfl) (ed_ixT (ed_v 1) ed_int rfl) (cmul_of hp.num hq.den (by omega))) (ed_mul (ed_ixT (ed_v 1) ed_int rfl) (ed_ixT (ed_v 0) ed_int rfl) (cmul_of hq.num hp.den (by omega))))
    (ea_cons (ed_mul (ed_ixT (ed_v 0) ed_int rfl) (ed_ixT (ed_v 1) ed_int rfl) (cmul_of hp.den hq.den (by omega))) ea_nil)) ⟨_, _, rfl, rfl, Int.mul_pos (den_pos p) (den_pos q), (hp.den.mul hq.den).mono (by omega), rfl⟩) ?_)
  rw [plus_eq])
end
end Pg

namespace Pg
open PySem PySem.Spec PyProof.Rows L2 Sd
section
variable {P : Program} {w : World} {K : PySem.W.Frag} {mg : Str → Option Value} {base : Heap} {c : Cl}
def pre_law_power : Pr := fun ss own post => ∃ (b : Int) (n k : Nat), ss = [.d (.int b), .d (.int (n : Int))] ∧ own = [] ∧ Sz k b ∧ n ≤ 1000 ∧ k ≤ 100 ∧ post = fun o => o = .ret (.d (.int (b ^ n))) []
theorem fn_law_power (T : Tx K mg c) : Fn K mg P w base "_law_power" ["base", "exponent"] 1 pre_law_power := T.d_law_power.fn fun f fd F => okG (k := 0) F sc_law_power (by rintro ss own post ⟨b, n, k, rfl, _⟩; rfl) (by
  rintro ss own post ⟨b, n, k, rfl, rfl, hb, hn, hk, rfl⟩ cdv A outer s H E B g
  refine sds_cons (sd_set 2 g.nd ed_int ?_)
  refine sds_cons (sd_for g (it_range1 T.n_range (ed_v 1) ⟨by omega, by omega⟩) (fun i ρ own => own = [] ∧ ∃ t, ρ = [.d (.int b), .d (.int (n : Int)), .d (.int (b ^ i)), t]) ⟨rfl, _, by rw [Int.pow_zero]; rfl⟩ (fun _ _ _ _ => trivial) ?_ ?_)
  · rintro i y ρ1 own1 hy ⟨rfl, t, rfl⟩
    obtain ⟨hi, rfl⟩ := rng_get hy
    have hi : i < n := by omega
    refine ⟨_, _, gt_name 3 g.nd, sds_one (sd_set 2 g.nd (ed_mul (ed_v 2) (ed_v 0) (cmul_of (hb.pow i) hb ?_)) ?_)⟩
    · have : k * i ≤ 100 * 1000 := Nat.mul_le_mul hk (by omega)
      omega
    · exact ⟨rfl, _, by rw [Int.pow_succ]; rfl⟩
  · rintro ρ1 own1 ⟨rfl, t, rfl⟩
    rw [rng_length]
    refine sds_one (sd_retD (ed_v 2) ?_)
    show Out.ret (.d (.int (b ^ (n : Int).toNat))) [] = _
    rw [Int.toNat_natCast])
end
end Pg

namespace Pg
open PySem PySem.Spec PyProof.Rows L2 Sd
section
variable {P : Program} {w : World} {K : PySem.W.Frag} {mg : Str → Option Value} {base : Heap} {c : Cl}
def pre_law_chance : Pr := fun ss own post => ∃ (ys : List Int) (n : Nat) (z : Int), ss = [.d (li ys), .d (.int (n : Int)), .d (.int z)] ∧ own = [] ∧ Yr ys ∧ n ≤ 100 ∧ post = fun o => o = .ret (.d (fr ((z : Rat) / ((ys.sum ^ n : Int) : Rat)))) []
theorem fn_law_chance (T : Tx K mg c) : Fn K mg P w base "_law_chance" ["year", "many", "ways"] 2 pre_law_chance := T.d_law_chance.fn fun f fd F => okG (k := 1) F sc_law_chance (by rintro ss own post ⟨ys, n, z, rfl, _⟩; rfl) (by
  rintro ss own post ⟨ys, n, z, rfl, rfl, hY, hn, rfl⟩ cdv A outer s H E B g
  have h2 : Sz 801 (ys.sum ^ n) := (hY.szW.pow n).mono (by omega)
  exact sds_one (sd_retD (es_call (fn_law_low T) g (by decide) (ea_cons (ed_v 2) (ea_cons (es_call (fn_law_power T) g (by decide) (ea_cons (ed_sum g T.n_sum (ed_v 0) .d) (ea_cons (ed_v 1) ea_nil)) ⟨_, n, 8, rfl, rfl, hY.szW, by omega, by decide, rfl⟩) ea_nil)) ⟨_, _, rfl, rfl, hY.posP n, h2.mono (by decide), rfl⟩) rfl))
end
end Pg

namespace Pg
open PySem PySem.Spec PyProof.Rows L2 Sd
section
variable {P : Program} {w : World} {K : PySem.W.Frag} {mg : Str → Option Value} {base : Heap} {c : Cl}
def pre_law_less : Pr := fun ss own post => ∃ (p q : Rat) (m n : Nat), ss = [.d (fr p), .d (fr q)] ∧ own = [] ∧ Sq m p ∧ Sq n q ∧ m + n ≤ 8990 ∧ post = fun o => o = .ret (.d (.bool (decide (p < q)))) []
theorem fn_law_less (T : Tx K mg c) : Fn K mg P w base "_law_less" ["one", "other"] 1 pre_law_less := T.d_law_less.fn fun f fd F => okG (k := 0) F sc_law_less (by rintro ss own post ⟨p, q, m, n, rfl, _⟩; rfl) (by
  rintro ss own post ⟨p, q, m, n, rfl, rfl, hp, hq, hmn, rfl⟩ cdv A outer s H E B g
  refine sds_one (sd_retD (ed_cmp c_lt (ed_mul (ed_ixT (ed_v 0) ed_int rfl) (ed_ixT (ed_v 1) ed_int rfl) (cmul_of hp.num hq.den (by omega))) (ed_mul (ed_ixT (ed_v 1) ed_int rfl) (ed_ixT (ed_v 0) ed_int rfl) (cmul_of hq.num hp.den (by omega)))) ?_)
  rw [decide_eq_decide.mpr (lt_fr p q)])
end
end Pg

namespace Pg
open PySem PySem.Spec PyProof.Rows L2 Sd
section
variable {P : Program} {w : World} {K : PySem.W.Frag} {mg : Str → Option Value} {base : Heap} {c : Cl}
end
end Pg

namespace Pg
open PySem PySem.Spec PyProof.Rows L2 Sd
section
variable {P : Program} {w : World} {K : PySem.W.Frag} {mg : Str → Option Value} {base : Heap} {c : Cl}
end
end Pg

namespace Pg
open PySem PySem.Spec PyProof.Rows L2 Sd
section
variable {P : Program} {w : World} {K : PySem.W.Frag} {mg : Str → Option Value} {base : Heap} {c : Cl}
end
end Pg

namespace Pg
open PySem PySem.Spec PyProof.Rows L2 Sd
section
variable {P : Program} {w : World} {K : PySem.W.Frag} {mg : Str → Option Value} {base : Heap} {c : Cl}
end
end Pg

namespace Pg
open PySem PySem.Spec PyProof.Rows L2 Sd
section
variable {P : Program} {w : World} {K : PySem.W.Frag} {mg : Str → Option Value} {base : Heap} {c : Cl}
end
end Pg

namespace Pg
open PySem PySem.Spec PyProof.Rows L2 Sd
section
variable {P : Program} {w : World} {K : PySem.W.Frag} {mg : Str → Option Value} {base : Heap} {c : Cl}
end
end Pg

namespace Pg
open PySem PySem.Spec PyProof.Rows L2 Sd
section
variable {P : Program} {w : World} {K : PySem.W.Frag} {mg : Str → Option Value} {base : Heap} {c : Cl}
/-! elementary symmetric sums -/
def esI : List Int → Nat → Int
  | _, 0 => 1
  | [], _ + 1 => 0
  | a :: l, n + 1 => esI l (n + 1) + a * esI l n
theorem esI_zero (l : List Int) : esI l 0 = 1 := by cases l <;> rfl
theorem esI_cons (a : Int) (l : List Int) (n : Nat) : esI (a :: l) (n + 1) = esI l (n + 1) + a * esI l n := rfl
theorem esI_perm {l l' : List Int} (h : l.Perm l') : ∀ n, esI l n = esI l' n := by
  induction h with
  | nil => intro n; rfl
  | cons x _ ih =>
    intro n
    cases n with
    | zero => rfl
    | succ n => rw [esI_cons, esI_cons, ih, ih]
  | swap x y l =>
    intro n
    cases n with
    | zero => rfl
    | succ n =>
      cases n with
      | zero => simp only [esI_cons, esI_zero]; grind
      | succ n => simp only [esI_cons]; grind
  | trans _ _ h1 h2 => intro n; rw [h1, h2]
theorem psK_get (f : List Int) (y : Int) : ∀ k, k ≤ f.length → ∀ n, (psK f y k).getD n 0 = f.getD n 0 + (if 1 ≤ n ∧ n ≤ k then f.getD (n - 1) 0 * y else 0)
  | 0, _, n => by
    rw [psK, if_neg (by omega)]
    simp only [List.getD_eq_getElem?_getD]
    by_cases h : n < f.length
    · rw [List.getElem?_append_left h]; omega
    · rw [List.getElem?_append_right (by omega), List.getElem?_eq_none (l := f) (by omega)]
      by_cases e : n = f.length
      · subst e; simp
      · rw [List.getElem?_eq_none (by simp; omega)]; rfl
  | k + 1, hk, n => by
    have ih := psK_get f y k (by omega)
    rw [psK]
    by_cases e : n = k + 1
    · subst e
      rw [List.getD_eq_getElem?_getD, List.getElem?_set_self (by rw [psK_len]; omega), Option.getD_some, ih, if_neg (by omega), if_pos (by omega)]
      simp
    · rw [List.getD_eq_getElem?_getD, List.getElem?_set_ne (by omega), ← List.getD_eq_getElem?_getD, ih]
      by_cases h : 1 ≤ n ∧ n ≤ k
      · rw [if_pos h, if_pos (by omega)]
      · rw [if_neg h, if_neg (by omega)]
theorem psS_zero (f : List Int) (y : Int) : (psS f y).getD 0 0 = f.getD 0 0 := by
  rw [psS, psK_get f y _ (Nat.le_refl _), if_neg (by omega)]; omega
theorem psS_succ (f : List Int) (y : Int) (n : Nat) : (psS f y).getD (n + 1) 0 = f.getD (n + 1) 0 + f.getD n 0 * y := by
  rw [psS, psK_get f y _ (Nat.le_refl _)]
  by_cases h : n + 1 ≤ f.length
  · rw [if_pos (by omega)]; rfl
  · rw [if_neg (by omega), show f.getD n 0 = 0 by rw [List.getD_eq_getElem?_getD, List.getElem?_eq_none (by omega)]; rfl]
    simp
theorem foldr_es : ∀ (zs : List Int) (n : Nat), (zs.foldr (fun y f => psS f y) [1]).getD n 0 = esI zs n
  | [], 0 => rfl
  | [], n + 1 => by simp [esI]
  | z :: zs, 0 => by rw [List.foldr_cons, psS_zero, foldr_es zs 0, esI_zero, esI_zero]
  | z :: zs, n + 1 => by rw [List.foldr_cons, psS_succ, foldr_es zs, foldr_es zs, esI_cons, Int.mul_comm]
theorem psums_es (ys : List Int) (n : Nat) : (psums ys).getD n 0 = esI ys n := by
  have e : psums ys = ys.reverse.foldr (fun y f => psS f y) [1] := by rw [psums, List.foldr_reverse]
  rw [e, foldr_es, esI_perm (List.reverse_perm ys)]
theorem unl_es (ys : List Int) (n : Nat) : unl ys n = (((fac n : Nat) * esI ys n : Int) : Rat) / ((ys.sum ^ n : Int) : Rat) := by rw [unl, psums_es]
/-- over the rationals -/
def es : List Rat → Nat → Rat
  | _, 0 => 1
  | [], _ + 1 => 0
  | a :: l, n + 1 => es l (n + 1) + a * es l n
end
end Pg

namespace Pg
open PySem PySem.Spec PyProof.Rows L2 Sd
section
variable {P : Program} {w : World} {K : PySem.W.Frag} {mg : Str → Option Value} {base : Heap} {c : Cl}
/-! evening -/
end
end Pg

namespace Pg
open PySem PySem.Spec PyProof.Rows L2 Sd
section
variable {P : Program} {w : World} {K : PySem.W.Frag} {mg : Str → Option Value} {base : Heap} {c : Cl}
/-! sets of days, with signs -/
/-- the sum over all sets S of l of (-1)^|S| h(w_S) -/
def Vs : List Int → (Int → Rat) → Rat
  | [], h => h 0
  | w :: l, h => Vs l h - Vs l (fun s => h (s + w))
theorem Vs_congr {h h' : Int → Rat} (e : ∀ s, h s = h' s) (l : List Int) : Vs l h = Vs l h' := by
  have : h = h' := funext e
  rw [this]
theorem Vs_mul (c : Rat) : ∀ (l : List Int) (h : Int → Rat), Vs l (fun s => c * h s) = c * Vs l h
  | [], h => rfl
  | w :: l, h => by
    rw [Vs, Vs, Vs_mul c l, Vs_mul c l (fun s => h (s + w))]
    grind
/-- Σ over sets of 1/(x + w_S) -/
def Ts (l : List Int) (x : Int) : Rat := Vs l (fun s => 1 / ((s + x : Int) : Rat))
def Us (l : List Int) : Rat := - Vs l (fun s => 1 / ((s : Int) : Rat))
theorem Us_cons (w : Int) (l : List Int) : Us (w :: l) = Us l + Ts l w := by
  unfold Us Ts
  rw [Vs]
  grind
theorem Ts_cons (w : Int) (l : List Int) (x : Int) : Ts (w :: l) x = Ts l x - Ts l (x + w) := by
  unfold Ts
  rw [Vs]
  congr 1
  exact Vs_congr (fun s => by congr 2; omega) l
def ppr : List Int → Int → Rat
  | [], _ => 1
  | c :: cs, x => 1 / ((x + c : Int) : Rat) * ppr cs x
def pev : List (Int × List Int) → Int → Rat
  | [], _ => 0
  | (k, cs) :: φ, x => (k : Rat) * ppr cs x + pev φ x
def Good (φ : List (Int × List Int)) : Prop := ∀ p ∈ φ, 0 ≤ p.1 ∧ ∀ c ∈ p.2, 0 ≤ c
theorem pos_cast {x : Int} (h : 0 < x) : (0 : Rat) < (x : Rat) := by exact_mod_cast h
theorem ppr_nonneg {x : Int} (hx : 0 < x) : ∀ {cs : List Int}, (∀ c ∈ cs, 0 ≤ c) → 0 ≤ ppr cs x
  | [], _ => by show (0 : Rat) ≤ 1; decide
  | c :: cs, h => by
    have h1 := h c (by simp)
    have h2 : (0 : Rat) < ((x + c : Int) : Rat) := pos_cast (by omega)
    rw [ppr, Rat.div_def, Rat.one_mul]
    exact Rat.mul_nonneg (Rat.le_of_lt (Rat.inv_pos.mpr h2)) (ppr_nonneg hx fun d hd => h d (by simp [hd]))
theorem pev_nonneg {x : Int} (hx : 0 < x) : ∀ {φ : List (Int × List Int)}, Good φ → 0 ≤ pev φ x
  | [], _ => Rat.le_refl
  | (k, cs) :: φ, h => by
    have h1 := h (k, cs) (by simp)
    have h2 : (0 : Rat) ≤ (k : Rat) := by exact_mod_cast h1.1
    exact Rat.add_nonneg (Rat.mul_nonneg h2 (ppr_nonneg hx h1.2)) (pev_nonneg hx fun p hp => h p (by simp [hp]))
theorem pev_app (φ ψ : List (Int × List Int)) (x : Int) : pev (φ ++ ψ) x = pev φ x + pev ψ x := by
  induction φ with
  | nil => show _ = 0 + _; grind
  | cons p φ ih => obtain ⟨k, cs⟩ := p; rw [List.cons_append, pev, pev, ih]; grind
theorem pev_mulc (c : Int) : ∀ (φ : List (Int × List Int)) (x : Int), pev (φ.map fun p => (p.1, c :: p.2)) x = 1 / ((x + c : Int) : Rat) * pev φ x
  | [], x => by show (0 : Rat) = _ * 0; grind
  | (k, cs) :: φ, x => by
    rw [List.map_cons, pev, pev, pev_mulc c φ x, ppr]
    grind
theorem pev_mulk (k : Int) : ∀ (φ : List (Int × List Int)) (x : Int), pev (φ.map fun p => (k * p.1, p.2)) x = (k : Rat) * pev φ x
  | [], x => by show (0 : Rat) = _ * 0; grind
  | (j, cs) :: φ, x => by
    rw [List.map_cons, pev, pev, pev_mulk k φ x]
    push_cast
    grind
theorem ppr_shift (w : Int) : ∀ (cs : List Int) (x : Int), ppr cs (x + w) = ppr (cs.map (· + w)) x
  | [], _ => rfl
  | c :: cs, x => by
    rw [List.map_cons, ppr, ppr, ppr_shift w cs x]
    congr 3
    omega
theorem ppr_diff {w : Int} (hw : 0 ≤ w) : ∀ {cs : List Int}, (∀ c ∈ cs, 0 ≤ c) → ∃ φ, Good φ ∧ ∀ x : Int, 0 < x → ppr cs x - ppr cs (x + w) = pev φ x
  | [], _ => ⟨[], fun p hp => (nomatch hp), fun x _ => by show (1 : Rat) - 1 = 0; grind⟩
  | c :: cs, h => by
    have hc := h c (by simp)
    have hcs : ∀ d ∈ cs, 0 ≤ d := fun d hd => h d (by simp [hd])
    obtain ⟨φ, g1, g2⟩ := ppr_diff hw hcs
    refine ⟨(φ.map fun p => (p.1, c :: p.2)) ++ [(w, c :: (c + w) :: cs.map (· + w))], ?_, fun x hx => ?_⟩
    · intro p hp
      rcases List.mem_append.mp hp with hp | hp
      · obtain ⟨q, hq, rfl⟩ := List.mem_map.mp hp
        refine ⟨(g1 q hq).1, fun d hd => ?_⟩
        rcases List.mem_cons.mp hd with rfl | hd
        · exact hc
        · exact (g1 q hq).2 d hd
      · have e : p = (w, c :: (c + w) :: cs.map (· + w)) := by simpa using hp
        subst e
        refine ⟨hw, fun d hd => ?_⟩
        rcases List.mem_cons.mp hd with rfl | hd
        · exact hc
        · rcases List.mem_cons.mp hd with rfl | hd
          · omega
          · obtain ⟨e, he, rfl⟩ := List.mem_map.mp hd
            have := hcs e he
            omega
    · rw [pev_app, pev_mulc, ← g2 x hx]
      show _ = _ + ((w : Rat) * ppr (c :: (c + w) :: cs.map (· + w)) x + 0)
      rw [ppr, ppr, ppr, ppr, ← ppr_shift w cs x]
      have h1 : (0 : Rat) < ((x + c : Int) : Rat) := pos_cast (by omega)
      have h2 : (0 : Rat) < ((x + w + c : Int) : Rat) := pos_cast (by omega)
      have e : ((x + (c + w) : Int) : Rat) = ((x + w + c : Int) : Rat) := by congr 1; omega
      have e2 : ((x + w + c : Int) : Rat) = ((x + c : Int) : Rat) + (w : Rat) := by rw [← Rat.intCast_add]; congr 1; omega
      rw [e]
      rw [e2] at h2 ⊢
      generalize ((x + c : Int) : Rat) = u at h1 h2 ⊢
      generalize (w : Rat) = v at h2 ⊢
      have h1' : u ≠ 0 := Rat.ne_of_gt h1
      have h2' : u + v ≠ 0 := Rat.ne_of_gt h2
      generalize ppr cs x = A
      generalize ppr cs (x + w) = Bq
      have e3 : v * (1 / u * (1 / (u + v) * Bq)) = (1 / u - 1 / (u + v)) * Bq := by grind
      rw [e3]
      grind
theorem pev_diff {w : Int} (hw : 0 ≤ w) : ∀ {φ : List (Int × List Int)}, Good φ → ∃ ψ, Good ψ ∧ ∀ x : Int, 0 < x → pev φ x - pev φ (x + w) = pev ψ x
  | [], _ => ⟨[], fun p hp => (nomatch hp), fun x _ => by show (0 : Rat) - 0 = 0; grind⟩
  | (k, cs) :: φ, h => by
    obtain ⟨h1, h2⟩ := h (k, cs) (by simp)
    obtain ⟨ψ, g1, g2⟩ := ppr_diff hw h2
    obtain ⟨χ, g3, g4⟩ := pev_diff hw (φ := φ) fun p hp => h p (by simp [hp])
    refine ⟨(ψ.map fun p => (k * p.1, p.2)) ++ χ, fun p hp => ?_, fun x hx => ?_⟩
    · rcases List.mem_append.mp hp with hp | hp
      · obtain ⟨q, hq, rfl⟩ := List.mem_map.mp hp
        exact ⟨Int.mul_nonneg h1 (g1 q hq).1, (g1 q hq).2⟩
      · exact g3 p hp
    · rw [pev_app, pev_mulk, ← g2 x hx, ← g4 x hx, pev, pev]
      grind
theorem Ts_good : ∀ {l : List Int}, (∀ w ∈ l, 0 ≤ w) → ∃ φ, Good φ ∧ ∀ x : Int, 0 < x → Ts l x = pev φ x
  | [], _ => ⟨[(1, [0])], fun p hp => by
      have e : p = (1, [0]) := by simpa using hp
      subst e
      exact ⟨by decide, by simp⟩, fun x _ => by
      show 1 / ((0 + x : Int) : Rat) = ((1 : Int) : Rat) * (1 / ((x + 0 : Int) : Rat) * 1) + 0
      rw [Int.zero_add, Int.add_zero]
      push_cast
      grind⟩
  | w :: l, h => by
    obtain ⟨φ, g1, g2⟩ := Ts_good (l := l) fun v hv => h v (by simp [hv])
    have hw := h w (by simp)
    obtain ⟨ψ, g3, g4⟩ := pev_diff hw g1
    refine ⟨ψ, g3, fun x hx => ?_⟩
    rw [Ts_cons, g2 x hx, g2 (x + w) (by omega), g4 x hx]
theorem Ts_nonneg {l : List Int} (h : ∀ w ∈ l, 0 ≤ w) {x : Int} (hx : 0 < x) : 0 ≤ Ts l x := by
  obtain ⟨φ, g1, g2⟩ := Ts_good h
  rw [g2 x hx]
  exact pev_nonneg hx g1
end
end Pg

namespace Pg
open PySem PySem.Spec PyProof.Rows L2 Sd
section
variable {P : Program} {w : World} {K : PySem.W.Frag} {mg : Str → Option Value} {base : Heap} {c : Cl}
end
end Pg

namespace Pg
open PySem PySem.Spec PyProof.Rows L2 Sd
section
variable {P : Program} {w : World} {K : PySem.W.Frag} {mg : Str → Option Value} {base : Heap} {c : Cl}
def pre_plus : Pr := fun ss own post => ∃ (p q : Rat) (m n : Nat), ss = [.d (fr p), .d (fr q)] ∧ own = [] ∧ Sq m p ∧ Sq n q ∧ m + n ≤ 8990 ∧ post = fun o => o = .ret (.d (fr (p + q))) []
theorem fn_plus (T : Tx K mg c) : Fn K mg P w base "plus" ["one", "other"] 3 pre_plus := T.d_plus.fn fun f fd F => okG (k := 2) F sc_plus (by rintro ss own post ⟨p, q, m, n, rfl, _⟩; rfl) (by
  rintro ss own post ⟨p, q, m, n, rfl, rfl, hp, hq, hmn, rfl⟩ cdv A outer s H E B g
  refine sds_one (sd_retD (es_call (fn_lowest T) g (by decide) (ea_cons (ed_add (ed_mul (ed_ixT (ed_v 0) ed_int rfl) (ed_ixT (ed_v 1) ed_int rfl) (cmul_of hp.num hq.den (by omega))) (ed_mul (ed_ixT (ed_v 1) ed_int rfl) (ed_ixT (ed_v 0) ed_int rfl) (cmul_of hq.num hp.den (by omega))))
    (ea_cons (ed_mul (ed_ixT (ed_v 0) ed_int rfl) (ed_ixT (ed_v 1) ed_int rfl) (cmul_of hp.den hq.den (by omega))) ea_nil)) ⟨_, _, rfl, rfl, Int.mul_pos (den_pos p) (den_pos q), (hp.den.mul hq.den).mono (by omega), rfl⟩) ?_)
  rw [plus_eq])
end
end Pg

namespace Pg
open PySem PySem.Spec PyProof.Rows L2 Sd
section
variable {P : Program} {w : World} {K : PySem.W.Frag} {mg : Str → Option Value} {base : Heap} {c : Cl}
def setsS (s : List (Int × Int)) (w : Int) : List (Int × Int) := s ++ s.map fun p => (p.1 + w, -p.2)
def setsL (l : List Int) : List (Int × Int) := l.foldl setsS [(0, -1)]
def Sg (s : List (Int × Int)) (h : Int → Rat) : Rat := (s.map fun p => (p.2 : Rat) * h p.1).sum
theorem Sg_fold : ∀ (l : List Int) (s : List (Int × Int)) (h : Int → Rat), Sg (l.foldl setsS s) h = (s.map fun p => (p.2 : Rat) * Vs l (fun x => h (p.1 + x))).sum
  | [], s, h => by
    unfold Sg
    rw [List.foldl_nil]
    congr 1
    refine List.map_congr_left fun p _ => ?_
    rw [Vs, Int.add_zero]
  | w :: l, s, h => by
    rw [List.foldl_cons, Sg_fold l, setsS, List.map_append, List.sum_append, List.map_map]
    induction s with
    | nil => show (0 : Rat) + 0 = 0; grind
    | cons p s ih =>
      rw [List.map_cons, List.map_cons, List.map_cons, List.sum_cons, List.sum_cons, List.sum_cons, ← ih, Vs]
      have e : Vs l (fun x => h (p.1 + w + x)) = Vs l (fun x => h (p.1 + (x + w))) := Vs_congr (fun x => by congr 1; omega) l
      show _ + (((-p.2 : Int) : Rat) * Vs l (fun x => h (p.1 + w + x)) + _) = _
      rw [e]
      push_cast
      grind
theorem Sg_sets (l : List Int) (h : Int → Rat) : Sg (setsL l) h = - Vs l h := by
  rw [setsL, Sg_fold]
  have e : Vs l (fun x => h (0 + x)) = Vs l h := Vs_congr (fun x => by rw [Int.zero_add]) l
  show ((-1 : Int) : Rat) * Vs l (fun x => h (0 + x)) + 0 = _
  rw [e]
  push_cast
  grind
theorem setsS_len (s : List (Int × Int)) (w : Int) : (setsS s w).length = 2 * s.length := by unfold setsS; rw [List.length_append, List.length_map]; omega
theorem setsL_take {ys : List Int} {i : Nat} {y : Int} (h : ys[i]? = some y) : setsL (ys.take (i + 1)) = setsS (setsL (ys.take i)) y := by
  unfold setsL
  rw [List.take_add_one, h, List.foldl_append]
  rfl
theorem setsL_spec : ∀ (l : List Int) (s : List (Int × Int)) (m : Int), (∀ y ∈ l, 0 < y) → 0 ≤ m → (∀ p ∈ s, 0 < p.1 ∧ p.1 ≤ m ∧ (p.2 = 1 ∨ p.2 = -1)) → ∃ t, l.foldl setsS ((0, -1) :: s) = (0, -1) :: t ∧ ∀ p ∈ t, 0 < p.1 ∧ p.1 ≤ m + l.sum ∧ (p.2 = 1 ∨ p.2 = -1)
  | [], s, m, _, _, h => ⟨s, rfl, fun p hp => by have := h p hp; simp only [List.sum_nil]; omega⟩
  | y :: l, s, m, hl, hm, h => by
    have hy := hl y (by simp)
    obtain ⟨t, e, ht⟩ := setsL_spec l (s ++ ((0, -1) :: s).map fun p => (p.1 + y, -p.2)) (m + y) (fun z hz => hl z (by simp [hz])) (by omega) (fun p hp => by
      rcases List.mem_append.mp hp with hp | hp
      · have := h p hp
        omega
      · obtain ⟨q, hq, rfl⟩ := List.mem_map.mp hp
        rcases List.mem_cons.mp hq with rfl | hq
        · exact ⟨by show 0 < 0 + y; omega, by show 0 + y ≤ m + y; omega, .inl rfl⟩
        · have := h q hq
          refine ⟨by show 0 < q.1 + y; omega, by show q.1 + y ≤ m + y; omega, ?_⟩
          show -q.2 = 1 ∨ -q.2 = -1
          omega)
    refine ⟨t, ?_, fun p hp => ?_⟩
    · rw [List.foldl_cons, setsS, List.cons_append]
      exact e
    · have := ht p hp
      rw [List.sum_cons]
      omega
def mua (ys : List Int) : Rat := (ys.sum : Rat) * Us ys
def muaP (W : Int) (t : List (Int × Int)) : Rat := (t.map fun p => (((p.2 * W : Int) : Rat) / (p.1 : Rat))).sum
theorem mua_eq {ys : List Int} {t : List (Int × Int)} (h : setsL ys = (0, -1) :: t) : muaP ys.sum t = mua ys := by
  have h1 := Sg_sets ys (fun s => (ys.sum : Rat) * (1 / (s : Rat)))
  rw [Vs_mul, h] at h1
  have h2 : Sg ((0, -1) :: t) (fun s => (ys.sum : Rat) * (1 / (s : Rat))) = muaP ys.sum t := by
    unfold Sg muaP
    rw [List.map_cons, List.sum_cons]
    have e : (((-1 : Int) : Rat) * ((ys.sum : Rat) * (1 / ((0 : Int) : Rat)))) = 0 := by
      have : (1 : Rat) / ((0 : Int) : Rat) = 0 := by rw [Rat.div_def]; simp
      rw [this]
      grind
    rw [e, Rat.zero_add]
    congr 1
    refine List.map_congr_left fun p _ => ?_
    push_cast
    rw [Rat.div_def, Rat.div_def]
    grind
  rw [← h2, h1, mua, Us]
  grind
theorem muaP_take {W : Int} {t : List (Int × Int)} {i : Nat} {p : Int × Int} (h : t[i]? = some p) : muaP W (t.take (i + 1)) = muaP W (t.take i) + ((p.2 * W : Int) : Rat) / (p.1 : Rat) := by
  unfold muaP
  rw [List.take_add_one, h, List.map_append, List.sum_append]
  simp only [Option.toList_some, List.map_cons, List.map_nil, List.sum_cons, List.sum_nil, Rat.add_zero]
theorem muaP_sq {W : Int} (hW : Sz 8 W) {t : List (Int × Int)} (ht : ∀ p ∈ t, 0 < p.1 ∧ p.1 ≤ 160 ∧ (p.2 = 1 ∨ p.2 = -1)) : ∀ i, i ≤ t.length → Sq (9 * i + 1) (muaP W (t.take i))
  | 0, _ => .zero
  | i + 1, hi => by
    have e : t[i]? = some t[i] := List.getElem?_eq_getElem (by omega)
    have hp := ht _ (List.getElem_mem (show i < t.length by omega))
    rw [muaP_take e]
    refine ((muaP_sq hW ht i (by omega)).add (n := 8) (Sq.of_div hp.1 ?_ ?_)).mono (by omega)
    · unfold Sz at *
      rcases hp.2.2 with h | h <;> rw [h] <;> omega
    · unfold Sz
      omega
theorem mua_sq {ys : List Int} (h : Yr ys) : Sq 2400 (mua ys) := by
  obtain ⟨t, e, ht⟩ := setsL_spec ys [] 0 (fun y hy => by have := h.it y hy; omega) (Int.le_refl _) (fun p hp => nomatch hp)
  have hw := h.sum_hi
  have hlen : t.length ≤ 255 := by
    have : ∀ (l : List Int) (s : List (Int × Int)), (l.foldl setsS s).length = s.length * 2 ^ l.length := by
      intro l
      induction l with
      | nil => intro s; simp
      | cons y l ih => intro s; rw [List.foldl_cons, ih, setsS_len, List.length_cons, Nat.pow_succ]; grind
    have h2 := this ys [(0, -1)]
    rw [e] at h2
    have h3 := Nat.pow_le_pow_right (show 0 < 2 by decide) h.hi
    simp at h2 h3
    omega
  rw [← mua_eq e]
  have := muaP_sq h.szW (fun p hp => by have := ht p hp; omega) t.length (Nat.le_refl _)
  rw [List.take_length] at this
  exact this.mono (by omega)
def pre_mean_until_all : Pr := fun ss own post => ∃ (ys : List Int), ss = [.d (li ys)] ∧ own = [] ∧ Yr ys ∧ post = fun o => o = .ret (.d (fr (mua ys))) []
theorem el_k2n {Z : Sd.Ctx} {ρ : List Slot} {own : Own} {j j' x1 : Nat} {p1 p2 p3 p4 p5 : Pos} : EL Z (.List [.Tuple [.Constant (.int 0) j p1, .UnaryOp .USub (.Constant (.int 1) j' p2) p3] x1 p4] p5) ρ own [pr (0, -1)] := by
  have h : ED Z (.UnaryOp .USub (.Constant (.int 1) j' p2) p3) ρ own (.int (-1)) := by with_reducible exact ed_neg ed_int
  have h2 : EA Z [.UnaryOp .USub (.Constant (.int 1) j' p2) p3] ρ own [.d (.int (-1))] := ea_cons h ea_nil
  have h3 : ED Z (.Tuple [.Constant (.int 0) j p1, .UnaryOp .USub (.Constant (.int 1) j' p2) p3] x1 p4) ρ own (.tuple [.int 0, .int (-1)]) := by with_reducible exact ed_tb2 (eb_k ed_int h2)
  have h4 : EA Z [.Tuple [.Constant (.int 0) j p1, .UnaryOp .USub (.Constant (.int 1) j' p2) p3] x1 p4] ρ own [.d (.tuple [.int 0, .int (-1)])] := by with_reducible exact eb_t h3 ea_nil
  exact el_lst (ds := [pr (0, -1)]) h4
theorem fn_mean_until_all (T : Tx K mg c) : Fn K mg P w base "mean_until_all" ["year"] 4 pre_mean_until_all := T.d_mean_until_all.fn fun f fd F => okG (k := 3) F sc_mean_until_all (by rintro ss own post ⟨ys, rfl, _⟩; rfl) (by
  rintro ss own post ⟨ys, rfl, rfl, hY, rfl⟩ cdv A outer s H E B g
  have hl := hY.hi
  refine sds_rtdrop ?_
  refine sds_cons (sd_expr (es_call (fn_check_year T) g (by decide) (ea_cons (ed_v 0) ea_nil) (ok_year hY)) ?_)
  show SDs _ (_ :: _) _ _ _
  with_reducible refine sds_cons ?_
  with_reducible refine sd_par 1 2 (t := .d (.int ys.sum)) g (eb_t (ed_k2 (i := 0) (i' := 1)) (eb_c ?sum ea_nil)) ?nxt ?i1 ?i2 ?i3 ?i4 ?i5 ?i6 ?i7
  case sum => exact ed_sum g T.n_sum (ed_v 0) .d
  case i1 => rfl
  case i2 => rfl
  case i3 => decide
  case i4 => rfl
  case i5 => rfl
  case i6 => rfl
  case i7 => rfl
  show SDs _ (_ :: _) _ _ _
  with_reducible refine sds_cons ?_
  with_reducible refine sd_setL 3 g.nd el_k2n ?nxt2 ?k1 ?k2 ?k3 ?k4
  case k1 => rfl
  case k2 => first | exact Or.inl rfl | exact Or.inr rfl
  case k3 => rfl
  case k4 => first | exact .inl rfl | exact .inr rfl
  intro p
  have hlen : ∀ i, i ≤ ys.length → (setsL (ys.take i)).length = 2 ^ i := fun i => by
    induction i with
    | zero => intro _; rfl
    | succ i ih =>
      intro hi
      rw [setsL_take (List.getElem?_eq_getElem (show i < ys.length by omega)), setsS_len, ih (by omega), Nat.pow_succ]
      omega
  have h256 : ∀ i, i ≤ ys.length → (setsL (ys.take i)).length ≤ 256 := fun i hi => by
    rw [hlen i hi]
    have := Nat.pow_le_pow_right (show 0 < 2 by decide) (show i ≤ 8 by omega)
    omega
  refine sds_cons (sd_for g (it_list (ed_v 0)) (fun i ρ own => own = [(p, .lst ((setsL (ys.take i)).map pr))] ∧ ∃ t4, ρ = [.d (li ys), .d (fr 0), .d (.int ys.sum), .raw (.ref p), t4, .un, .un]) ⟨rfl, _, rfl⟩ (fun _ _ _ _ => trivial) ?_ ?_)
  · rintro i y ρ1 own1 hy ⟨rfl, t4, rfl⟩
    rw [List.getElem?_map] at hy
    cases ea : ys[i]? with
    | none => rw [ea] at hy; cases hy
    | some y' =>
      rw [ea] at hy
      cases hy
      have hi := (List.getElem?_eq_some_iff.mp ea).1
      have hn := h256 i (by omega)
      have hn1 := h256 (i + 1) (by omega)
      rw [setsL_take ea] at hn1 ⊢
      rw [setsS_len] at hn1
      generalize setsL (ys.take i) = sl at hn hn1 ⊢
      refine ⟨_, _, gt_name 4 g.nd, ?_⟩
      refine sds_one (sd_ext 3 (oa := []) (ob := []) (ys := (sl.map fun p => (p.1 + y', -p.2)).map pr) g.nd rfl (EL.ed (EL.is (el_comp g (compP g (it_own (q := p) (ds := sl.map pr) (ev_v 3) (by simp)) [("one", 5), ("sign", 6)] (blkOk_by (N := ["year", "found", "whole", "sets", "weight", "one", "sign"]) (sc := defScope s_mean_until_all) (by decide +kernel)) sl pr rfl (fun r => some (pr (r.1 + y', -r.2))) (fun r => [.d (li ys), .d (fr 0), .d (.int ys.sum), .raw (.ref p), .d (.int y'), .d (.int r.1), .d (.int r.2)]) [5, 6] (by simp) (by omega) (fun _ _ => by simp)
        (fun r _ s H C cl fp g' => gt_tup g'.calm (gts_cons (gt_name 5 g'.nd) (gts_cons (gt_name 6 g'.nd) gts_nil)) rfl) (fun r _ s H C cl fp o g' => ets_nil) (fun r hr x hx s H C cl fp o g' => ?_))) ?_)) .d ?_ ?_)
      · cases hx
        exact ed_tup (ds := [.int (r.1 + y'), .int (-r.2)]) (ea_cons (ed_add (ed_v 5) (ed_v 4)) (ea_cons (ed_neg (ed_v 6)) ea_nil))
      · rw [List.map_map]
        exact congrFun List.filterMap_eq_map' _
      · simp only [List.length_map]
        omega
      · exact ⟨by rw [setsS, List.map_append]; rfl, _, rfl⟩
  · rintro ρ1 own1 ⟨rfl, t4, rfl⟩
    rw [List.length_map, List.take_length]
    have hn := h256 ys.length (Nat.le_refl _)
    rw [List.take_length] at hn
    obtain ⟨t, e, ht⟩ := setsL_spec ys [] 0 (fun y hy => by have := hY.it y hy; omega) (Int.le_refl _) (fun p hp => nomatch hp)
    have hw := hY.sum_hi
    have e : setsL ys = (0, -1) :: t := e
    have hmu := mua_eq e
    have ht2 : ∀ p ∈ t, 0 < p.1 ∧ p.1 ≤ 160 ∧ (p.2 = 1 ∨ p.2 = -1) := fun p hp => by have := ht p hp; omega
    rw [e] at hn ⊢
    simp only [List.length_cons] at hn
    refine sds_freeze 3 (oa := []) rfl ?_
    refine sds_cons (sd_for g (ys := t.map pr) (it_list (EL.ed (EL.is (el_slice (ed_v 3) (po_yes ed_int) po_no .d) ?_))) (fun i ρ own => own = [] ∧ ∃ t5 t6, ρ = [.d (li ys), .d (fr (muaP ys.sum (t.take i))), .d (.int ys.sum), .d (.list (((0, -1) :: t).map pr)), t4, t5, t6]) ⟨rfl, _, _, rfl⟩ (fun _ _ _ _ => trivial) ?_ ?_)
    · exact cutD_from (((0, -1) :: t).map pr) 1 (by simp)
    · rintro i y ρ1 own1 hy ⟨rfl, t5, t6, rfl⟩
      rw [List.getElem?_map] at hy
      cases ea : t[i]? with
      | none => rw [ea] at hy; cases hy
      | some q =>
        rw [ea] at hy
        cases hy
        have hi := (List.getElem?_eq_some_iff.mp ea).1
        have hq := ht2 q (List.mem_of_getElem? ea)
        have hz := hY.szW
        have hsq := muaP_sq hY.szW ht2 i (by omega)
        have hq8 : Sz 8 q.1 := by unfold Sz; omega
        have hqs : Sq 8 (((q.2 * ys.sum : Int) : Rat) / (q.1 : Rat)) := Sq.of_div hq.1 (by
          unfold Sz at *
          rcases hq.2.2 with h | h <;> rw [h] <;> omega) (by unfold Sz; omega)
        rw [muaP_take ea]
        refine ⟨_, _, gt_tup g.calm (gts_cons (gt_name 5 g.nd) (gts_cons (gt_name 6 g.nd) gts_nil)) rfl, ?_⟩
        refine sds_one (sd_set 1 g.nd (es_call (fn_plus T) g (by decide) (ea_cons (ed_v 1) (ea_cons (es_call (fn_lowest T) g (by decide) (ea_cons (ed_mulS (ed_v 6) (ed_v 2) (.inl ⟨by omega, by omega⟩)) (ea_cons (ed_v 5) ea_nil)) ⟨_, _, rfl, rfl, hq.1, hq8.mono (by decide), rfl⟩) ea_nil)) ⟨_, _, _, 8, rfl, rfl, hsq, hqs, by omega, rfl⟩) ?_)
        exact ⟨rfl, _, _, rfl⟩
    · rintro ρ1 own1 ⟨rfl, t5, t6, rfl⟩
      rw [List.length_map, List.take_length, hmu]
      exact sds_one (sd_retD (ed_v 1) rfl))
end
end Pg

namespace Pg
open PySem PySem.Spec PyProof.Rows L2 Sd
section
variable {P : Program} {w : World} {K : PySem.W.Frag} {mg : Str → Option Value} {base : Heap} {c : Cl}
end
end Pg

namespace Pg
open PySem PySem.Spec PyProof.Rows L2 Sd
section
variable {P : Program} {w : World} {K : PySem.W.Frag} {mg : Str → Option Value} {base : Heap} {c : Cl}
end
end Pg

namespace Pg
open PySem PySem.Spec PyProof.Rows L2 Sd
section
variable {P : Program} {w : World} {K : PySem.W.Frag} {mg : Str → Option Value} {base : Heap} {c : Cl}
/-- a share as data -/
structure Shr (q : Rat) : Prop where
  lo : 0 ≤ q
  hi : q ≤ 1
theorem shr_num {q : Rat} (h : Shr q) : 0 ≤ q.num ∧ q.num ≤ (q.den : Int) := by
  have h1 := h.lo
  have h2 := h.hi
  refine ⟨Rat.num_nonneg.mpr h1, ?_⟩
  have := (le_fr q 1).mpr h2
  simpa using this
def pre_is_share : Pr := fun ss own post => ∃ (q : Rat), ss = [.d (fr q)] ∧ own = [] ∧ Shr q ∧ post = fun o => o = .ret (.d (.bool true)) []
theorem fn_is_share (T : Tx K mg c) : Fn K mg P w base "is_share" ["value"] 2 pre_is_share := T.d_is_share.fn fun f fd F => okG (k := 1) F sc_is_share (by rintro ss own post ⟨q, rfl, _⟩; rfl) (by
  rintro ss own post ⟨q, rfl, rfl, hq, rfl⟩ cdv A outer s H E B g
  obtain ⟨h1, h2⟩ := shr_num hq
  have h3 := den_pos q
  refine sds_cons (sd_ifF (ET.is (EW.et (ew_or (et_not (et_val (ed_isi (x := fr q) (l := true) T.n_isinstance (ed_v 0) .d (ev_ty (T := "tuple") rfl T.n_tuple (by decide +kernel)) rfl))) fun _ => ew_or1 (et_cmp c_neI (ed_lenT T.n_len (ed_v 0)) ed_int))) (by simp)) ?_)
  refine sds_cons (sd_ifF (ET.is (et_not (et_val (ed_all (ns := [true, true]) g T.n_all (EL.ed (EL.is (ys := [.bool true, .bool true]) (el_comp g (compP g (it_tup (ed_v 0)) [("part", 1)] (blkOk_by (N := ["value", "part"]) (sc := defScope s_is_share) (by decide +kernel)) [q.num, (q.den : Int)] PyData.int rfl (fun _ => some (.bool true)) (fun i => [.d (fr q), .d (.int i)]) [1] (by simp) (by simp) (fun _ _ => trivial)
      (fun d _ s H C cl fp g' => gt_name 1 g'.nd) (fun d _ s H C cl fp o g' => ets_nil) (fun i _ x hx s H C cl fp o g' => ?_))) rfl)) .d))) rfl) ?_)
  · cases hx
    exact ES.is (ed_and (ed_isi (x := .int i) (l := true) T.n_isinstance (ed_v 1) .d (ev_ty (T := "int") rfl T.n_int (by decide +kernel)) rfl) fun _ => ed_one (ed_not (ed_isi (x := .int i) (l := false) T.n_isinstance (ed_v 1) .d (ev_ty (T := "bool") rfl T.n_bool (by decide +kernel)) rfl))) rfl
  refine sds_one (sd_retD (ES.is (y := .bool true) (ed_and (ed_cmp c_gt (ed_ixT (ed_v 0) ed_int rfl) ed_int) fun _ => ed_and (ed_chain c_le c_le ed_int (ed_ixT (ed_v 0) ed_int rfl) (ed_ixT (ed_v 0) ed_int rfl)) fun _ => ed_one (ed_cmp c_eqI (es_call (fn_common T) g (by decide) (ea_cons (ed_ixT (ed_v 0) ed_int rfl) (ea_cons (ed_ixT (ed_v 0) ed_int rfl) ea_nil)) ⟨_, _, rfl, rfl, h1, by omega, rfl⟩) ed_int)) ?_) rfl)
  have hg : Int.gcd q.num (q.den : Int) = 1 := q.reduced
  rw [hg, decide_eq_true h3, decide_eq_true h1, decide_eq_true h2]
  rfl)
end
end Pg

namespace Pg
open PySem PySem.Spec PyProof.Rows L2 Sd
section
variable {P : Program} {w : World} {K : PySem.W.Frag} {mg : Str → Option Value} {base : Heap} {c : Cl}
def pre_check_share : Pr := fun ss own post => ∃ (q : Rat), ss = [.d (fr q)] ∧ own = [] ∧ Shr q ∧ post = fun o => o = .ret (.d .none) []
theorem fn_check_share (T : Tx K mg c) : Fn K mg P w base "check_share" ["value"] 3 pre_check_share := T.d_check_share.fn fun f fd F => okG (k := 2) F sc_check_share (by rintro ss own post ⟨q, rfl, _⟩; rfl) (by
  rintro ss own post ⟨q, rfl, rfl, hq, rfl⟩ cdv A outer s H E B g
  refine sds_one (sd_ifF (ET.is (et_not (et_val (es_call (fn_is_share T) g (by decide) (ea_cons (ed_v 0) ea_nil) ⟨q, rfl, rfl, hq, rfl⟩))) rfl) rfl))
end
end Pg

namespace Pg
open PySem PySem.Spec PyProof.Rows L2 Sd
section
variable {P : Program} {w : World} {K : PySem.W.Frag} {mg : Str → Option Value} {base : Heap} {c : Cl}
end
end Pg

namespace Pg
open PySem PySem.Spec PyProof.Rows L2 Sd
section
variable {P : Program} {w : World} {K : PySem.W.Frag} {mg : Str → Option Value} {base : Heap} {c : Cl}
/-! more of evening: means -/
theorem mul_powR (x y : Rat) : ∀ n : Nat, (x * y) ^ n = x ^ n * y ^ n
  | 0 => by simp
  | n + 1 => by rw [pow_add1, pow_add1, pow_add1, mul_powR x y n]; grind
end
end Pg

namespace Pg
open PySem PySem.Spec PyProof.Rows L2 Sd
section
variable {P : Program} {w : World} {K : PySem.W.Frag} {mg : Str → Option Value} {base : Heap} {c : Cl}
theorem fr_mk {a b : Int} (hb : 0 < b) (hg : Int.gcd a b = 1) : PyData.tuple [.int a, .int b] = fr ((a : Rat) / b) := by
  have := fr_low a b hb
  rw [hg] at this
  rw [← this]
  simp
end
end Pg

namespace Pg
open PySem PySem.Spec PyProof.Rows L2 Sd
section
variable {P : Program} {w : World} {K : PySem.W.Frag} {mg : Str → Option Value} {base : Heap} {c : Cl}
/-! ways with at most c things on a day -/
end
end Pg

namespace Pg
open PySem PySem.Spec PyProof.Rows L2 Sd
section
variable {P : Program} {w : World} {K : PySem.W.Frag} {mg : Str → Option Value} {base : Heap} {c : Cl}
end
end Pg

namespace Pg
open PySem PySem.Spec PyProof.Rows L2 Sd
section
variable {P : Program} {w : World} {K : PySem.W.Frag} {mg : Str → Option Value} {base : Heap} {c : Cl}
/-! dicts as lists of pairs -/
theorem getT_put {κ α : Type} [DecidableEq κ] (tb : List (κ × α)) (k j : κ) (v : α) : getT (putT tb k v) j = if j = k then some v else getT tb j := by
  unfold putT
  by_cases h : (tb.any fun e => decide (e.1 = k)) = true
  · rw [if_pos h]
    induction tb with
    | nil => cases h
    | cons e tb ih =>
      rw [List.map_cons]
      by_cases he : e.1 = k
      · rw [if_pos he]
        by_cases hj : j = k
        · subst hj
          simp [getT, List.find?_cons, he]
        · have hne : ¬ k = j := fun z => hj z.symm
          have e1 : getT ((e.1, v) :: tb.map fun e => if e.1 = k then (e.1, v) else e) j = getT (tb.map fun e => if e.1 = k then (e.1, v) else e) j := by simp [getT, List.find?_cons, he, hne]
          have e2 : getT (e :: tb) j = getT tb j := by simp [getT, List.find?_cons, he, hne]
          rw [e1, e2, if_neg hj]
          clear ih h
          induction tb with
          | nil => rfl
          | cons a tb ih2 =>
            rw [List.map_cons]
            by_cases ha : a.1 = k
            · rw [if_pos ha]
              have e3 : getT ((a.1, v) :: tb.map fun e => if e.1 = k then (e.1, v) else e) j = getT (tb.map fun e => if e.1 = k then (e.1, v) else e) j := by simp [getT, List.find?_cons, ha, hne]
              have e4 : getT (a :: tb) j = getT tb j := by simp [getT, List.find?_cons, ha, hne]
              rw [e3, e4]
              exact ih2 (by simp [getT, List.find?_cons, he, hne]) (by simp [getT, List.find?_cons, he, hne])
            · rw [if_neg ha]
              by_cases haj : a.1 = j
              · simp [getT, List.find?_cons, haj]
              · have e3 : getT (a :: tb.map fun e => if e.1 = k then (e.1, v) else e) j = getT (tb.map fun e => if e.1 = k then (e.1, v) else e) j := by simp [getT, List.find?_cons, haj]
                have e4 : getT (a :: tb) j = getT tb j := by simp [getT, List.find?_cons, haj]
                rw [e3, e4]
                exact ih2 (by simp [getT, List.find?_cons, he, hne]) (by simp [getT, List.find?_cons, he, hne])
      · rw [if_neg he]
        have h' : (tb.any fun e => decide (e.1 = k)) = true := by
          rw [List.any_cons] at h
          simpa [he] using h
        by_cases hej : e.1 = j
        · have hjk : ¬ j = k := fun z => he (hej.trans z)
          rw [if_neg hjk]
          simp [getT, List.find?_cons, hej]
        · have e3 : getT (e :: tb.map fun e => if e.1 = k then (e.1, v) else e) j = getT (tb.map fun e => if e.1 = k then (e.1, v) else e) j := by simp [getT, List.find?_cons, hej]
          have e4 : getT (e :: tb) j = getT tb j := by simp [getT, List.find?_cons, hej]
          rw [e3, e4]
          exact ih h'
  · rw [if_neg h]
    have h : ∀ e ∈ tb, e.1 ≠ k := fun e he z => h (List.any_eq_true.mpr ⟨e, he, decide_eq_true z⟩)
    unfold getT
    rw [List.find?_append]
    by_cases hj : j = k
    · subst hj
      rw [if_pos rfl, List.find?_eq_none.mpr (fun e he z => h e he (of_decide_eq_true z))]
      simp
    · have hne : ¬ k = j := fun z => hj z.symm
      rw [if_neg hj]
      cases tb.find? (fun e => decide (e.1 = j)) with
      | none => simp [hne]
      | some e => rfl
theorem putT_keys {κ α : Type} [DecidableEq κ] (tb : List (κ × α)) (k : κ) (v : α) : (putT tb k v).map (·.1) = if k ∈ tb.map (·.1) then tb.map (·.1) else tb.map (·.1) ++ [k] := by
  unfold putT
  by_cases h : (tb.any fun e => decide (e.1 = k)) = true
  · have hm : k ∈ tb.map (·.1) := by
      obtain ⟨e, he, hd⟩ := List.any_eq_true.mp h
      exact List.mem_map.mpr ⟨e, he, of_decide_eq_true hd⟩
    rw [if_pos h, if_pos hm, List.map_map]
    refine List.map_congr_left fun e _ => ?_
    show (if e.1 = k then (e.1, v) else e).1 = e.1
    split <;> rfl
  · have hm : k ∉ tb.map (·.1) := fun z => by
      obtain ⟨e, he, rfl⟩ := List.mem_map.mp z
      exact h (List.any_eq_true.mpr ⟨e, he, decide_eq_true rfl⟩)
    rw [if_neg h, if_neg hm, List.map_append]
    rfl
theorem putT_nodup {κ α : Type} [DecidableEq κ] {tb : List (κ × α)} (h : (tb.map (·.1)).Nodup) (k : κ) (v : α) : ((putT tb k v).map (·.1)).Nodup := by
  rw [putT_keys]
  split
  · exact h
  · rename_i hn
    refine List.nodup_append.mpr ⟨h, by simp, fun a ha b hb z => ?_⟩
    have : b = k := by simpa using hb
    rw [z, this] at ha
    exact hn ha
theorem getT_mem {κ α : Type} [DecidableEq κ] {tb : List (κ × α)} (h : (tb.map (·.1)).Nodup) {k : κ} {v : α} : (k, v) ∈ tb ↔ getT tb k = some v := by
  induction tb with
  | nil => simp [getT]
  | cons e tb ih =>
    rw [List.map_cons, List.nodup_cons] at h
    have ih := ih h.2
    by_cases he : e.1 = k
    · have e1 : getT (e :: tb) k = some e.2 := by simp [getT, List.find?_cons, he]
      rw [e1]
      constructor
      · intro hm
        rcases List.mem_cons.mp hm with rfl | hm
        · rfl
        · exact absurd (List.mem_map.mpr ⟨(k, v), hm, he.symm⟩) h.1
      · intro z
        cases z
        rw [← he]
        exact List.mem_cons_self
    · have e1 : getT (e :: tb) k = getT tb k := by simp [getT, List.find?_cons, he]
      rw [e1, ← ih]
      constructor
      · intro hm
        rcases List.mem_cons.mp hm with rfl | hm
        · exact absurd rfl he
        · exact hm
      · exact fun hm => List.mem_cons_of_mem _ hm
theorem nodup_lt : ∀ (n : Nat) (l : List Nat), l.Nodup → (∀ x ∈ l, x < n) → l.length ≤ n
  | 0, [], _, _ => Nat.le_refl _
  | 0, a :: l, _, h => absurd (h a List.mem_cons_self) (by omega)
  | n + 1, l, hn, h => by
    have h1 := nodup_lt n (l.erase n) (hn.erase n) fun x hx => by
      have h2 := h x (List.mem_of_mem_erase hx)
      have h3 : x ≠ n := fun z => (hn.mem_erase_iff.mp hx).1 z
      omega
    have := List.length_erase_le (a := n) (l := l)
    by_cases hm : n ∈ l
    · have := List.length_erase_of_mem hm
      have : 0 < l.length := List.length_pos_of_mem hm
      omega
    · rw [List.erase_of_not_mem hm] at h1
      omega
theorem keys_box {α : Type} {A B : Nat} {tb : List ((Nat × Nat) × α)} (hn : (tb.map (·.1)).Nodup) (h : ∀ e ∈ tb, e.1.1 < A ∧ e.1.2 < B) : tb.length ≤ A * B := by
  have h1 := nodup_lt (A * B) ((tb.map (·.1)).map fun k => k.1 * B + k.2) (by
    refine List.nodup_iff_pairwise_ne.mpr (List.pairwise_map.mpr (List.Pairwise.imp_of_mem ?_ (List.nodup_iff_pairwise_ne.mp hn)))
    · intro a b ha hb hab z
      obtain ⟨e, he, rfl⟩ := List.mem_map.mp ha
      obtain ⟨f, hf, rfl⟩ := List.mem_map.mp hb
      obtain ⟨a1, a2⟩ := h e he
      obtain ⟨b1, b2⟩ := h f hf
      have d1 : (e.1.1 * B + e.1.2) / B = e.1.1 := by rw [Nat.mul_comm, Nat.mul_add_div (by omega), Nat.div_eq_of_lt a2]; rfl
      have d2 : (f.1.1 * B + f.1.2) / B = f.1.1 := by rw [Nat.mul_comm, Nat.mul_add_div (by omega), Nat.div_eq_of_lt b2]; rfl
      have z : e.1.1 * B + e.1.2 = f.1.1 * B + f.1.2 := z
      rw [z, d2] at d1
      rw [← d1] at z
      exact hab (Prod.ext d1.symm (by omega))) fun x hx => by
    obtain ⟨k, hk, rfl⟩ := List.mem_map.mp hx
    obtain ⟨e, he, rfl⟩ := List.mem_map.mp hk
    obtain ⟨a1, a2⟩ := h e he
    have := Nat.mul_le_mul_right B (show e.1.1 + 1 ≤ A from a1)
    rw [Nat.add_mul] at this
    omega
  simpa using h1
abbrev PwT := List ((Nat × Nat) × Int)
def trn (n : Nat) : Nat := n * (n - 1) / 2
def pwV (w : Int) (e : (Nat × Nat) × Int) (o : Nat) : Int := e.2 * (bin (e.1.1 + o) o : Nat) * w ^ o
def addT (f : PwT) (k : Nat × Nat) (z : Int) : PwT := putT f k ((getT f k).getD 0 + z)
def pwO (w : Int) (e : (Nat × Nat) × Int) (f : PwT) : Nat → PwT
  | 0 => f
  | o + 1 => addT (pwO w e f o) (e.1.1 + o, e.1.2 + trn o) (pwV w e o)
def pwI (m : Nat) (w : Int) (kn : PwT) : PwT := kn.foldl (fun f e => pwO w e f (m - e.1.1 + 1)) []
def pwF (m : Nat) (ys : List Int) : PwT := ys.foldl (fun kn w => pwI m w kn) [((0, 0), 1)]
/-- keys in a box, each once, values below s times C -/
structure PwOk (m B s C : Nat) (f : PwT) : Prop where
  nd : (f.map (·.1)).Nodup
  bx : ∀ e ∈ f, e.1.1 < m + 1 ∧ e.1.2 < B
  vl : ∀ e ∈ f, e.2.natAbs ≤ s * C
theorem PwOk.len {m B s C : Nat} {f : PwT} (h : PwOk m B s C f) : f.length ≤ (m + 1) * B := keys_box h.nd h.bx
theorem getT_le {f : PwT} {k : Nat × Nat} {n : Nat} (h : ∀ e ∈ f, e.2.natAbs ≤ n) : ((getT f k).getD 0).natAbs ≤ n := by
  cases hg : getT f k with
  | none => exact Nat.zero_le _
  | some v =>
    unfold getT at hg
    obtain ⟨e, he, rfl⟩ := Option.map_eq_some_iff.mp hg
    exact h e (List.mem_of_find?_eq_some he)
theorem PwOk.add {m B s C : Nat} {f : PwT} (h : PwOk m B s C f) {k : Nat × Nat} {z : Int} (h1 : k.1 < m + 1) (h2 : k.2 < B) (hz : z.natAbs ≤ C) : PwOk m B (s + 1) C (addT f k z) := by
  have hv : ((getT f k).getD 0 + z).natAbs ≤ (s + 1) * C := by
    have := getT_le (k := k) h.vl
    rw [Nat.add_mul]
    omega
  have key : ∀ e ∈ addT f k z, e.1 = k ∧ e.2 = (getT f k).getD 0 + z ∨ e ∈ f := by
    intro e he
    unfold addT putT at he
    split at he
    · obtain ⟨e', he', rfl⟩ := List.mem_map.mp he
      by_cases hk : e'.1 = k
      · rw [if_pos hk]
        exact .inl ⟨hk, rfl⟩
      · rw [if_neg hk]
        exact .inr he'
    · rcases List.mem_append.mp he with he | he
      · exact .inr he
      · have : e = (k, (getT f k).getD 0 + z) := by simpa using he
        rw [this]
        exact .inl ⟨rfl, rfl⟩
  refine ⟨putT_nodup h.nd _ _, fun e he => ?_, fun e he => ?_⟩
  · rcases key e he with ⟨e1, _⟩ | he
    · rw [e1]; exact ⟨h1, h2⟩
    · exact h.bx e he
  · rcases key e he with ⟨_, e2⟩ | he
    · rw [e2]; exact hv
    · have := h.vl e he
      rw [Nat.add_mul]
      omega
/-- the rows: pairs, ways -/
def pwR (ys : List Int) (m : Nat) : List (Int × Int) := srtP ((pwF m ys).filterMap fun e => if e.1.1 = m then some ((e.1.2 : Int), e.2) else none)
end
end Pg

namespace Pg
open PySem PySem.Spec PyProof.Rows L2 Sd
section
variable {P : Program} {w : World} {K : PySem.W.Frag} {mg : Str → Option Value} {base : Heap} {c : Cl}
/-! tables summed against a function -/
def addV {κ : Type} [DecidableEq κ] (tb : List (κ × Int)) (k : κ) (z : Int) : List (κ × Int) := putT tb k ((getT tb k).getD 0 + z)
def tS {κ : Type} (tb : List (κ × Int)) (f : κ → Int) : Int := (tb.map fun e => e.2 * f e.1).sum
theorem lsum_congr {α : Type} {f g : α → Int} : ∀ {l : List α}, (∀ a ∈ l, f a = g a) → (l.map f).sum = (l.map g).sum
  | [], _ => rfl
  | a :: l, h => by rw [List.map_cons, List.map_cons, List.sum_cons, List.sum_cons, h a List.mem_cons_self, lsum_congr fun b hb => h b (List.mem_cons_of_mem _ hb)]
theorem lsum_zero {α : Type} : ∀ l : List α, (l.map fun _ => (0 : Int)).sum = 0
  | [] => rfl
  | a :: l => by simp only [List.map_cons, List.sum_cons, lsum_zero l]; rfl
theorem tS_put {κ : Type} [DecidableEq κ] (f : κ → Int) (k : κ) (z : Int) : ∀ {tb : List (κ × Int)}, (tb.map (·.1)).Nodup → tS (addV tb k z) f = tS tb f + z * f k
  | [], _ => by simp [addV, tS, putT, getT]
  | e :: tb, h => by
    rw [List.map_cons, List.nodup_cons] at h
    have ih := tS_put f k z h.2
    by_cases he : e.1 = k
    · subst he
      have e1 : addV (e :: tb) e.1 z = (e.1, e.2 + z) :: tb := by
        unfold addV putT
        rw [if_pos (by simp)]
        have e2 : getT (e :: tb) e.1 = some e.2 := by simp [getT]
        rw [e2, List.map_cons, if_pos rfl]
        congr 1
        refine (List.map_congr_left fun a ha => ?_).trans (List.map_id _)
        rw [if_neg (fun z => h.1 (List.mem_map.mpr ⟨a, ha, z⟩))]
        rfl
      rw [e1]
      simp only [tS, List.map_cons, List.sum_cons, Int.add_mul]
      omega
    · have e1 : addV (e :: tb) k z = e :: addV tb k z := by
        have e2 : getT (e :: tb) k = getT tb k := by simp [getT, List.find?_cons, he]
        unfold addV
        rw [e2]
        unfold putT
        have e3 : ((e :: tb).any fun e => decide (e.1 = k)) = tb.any fun e => decide (e.1 = k) := by simp [he]
        rw [e3]
        split
        · rw [List.map_cons, if_neg he]
        · rfl
      rw [e1]
      simp only [tS, List.map_cons, List.sum_cons] at ih ⊢
      omega
theorem addV_nodup {κ : Type} [DecidableEq κ] {tb : List (κ × Int)} (h : (tb.map (·.1)).Nodup) (k : κ) (z : Int) : ((addV tb k z).map (·.1)).Nodup := putT_nodup h k _
theorem addV_key {κ : Type} [DecidableEq κ] {tb : List (κ × Int)} {k : κ} {z : Int} {x : κ} (h : x ∈ (addV tb k z).map (·.1)) : x = k ∨ x ∈ tb.map (·.1) := by
  unfold addV at h
  rw [putT_keys] at h
  split at h
  · exact .inr h
  · rcases List.mem_append.mp h with h | h
    · exact .inr h
    · exact .inl (by simpa using h)
theorem addV_nonneg {κ : Type} [DecidableEq κ] {tb : List (κ × Int)} {k : κ} {z : Int} (hz : 0 ≤ z) (hn : (tb.map (·.1)).Nodup) (h : ∀ e ∈ tb, 0 ≤ e.2) : ∀ e ∈ addV tb k z, 0 ≤ e.2 := by
  intro e he
  have h1 := (getT_mem (addV_nodup hn k z) (k := e.1) (v := e.2)).mp he
  unfold addV at h1
  rw [getT_put] at h1
  split at h1
  · have h2 : 0 ≤ (getT tb k).getD 0 := by
      cases hg : getT tb k with
      | none => simp
      | some v => exact h _ ((getT_mem hn).mpr hg)
    have := Option.some.inj h1
    omega
  · exact h _ ((getT_mem hn).mpr h1)
end
end Pg

namespace Pg
open PySem PySem.Spec PyProof.Rows L2 Sd
section
variable {P : Program} {w : World} {K : PySem.W.Frag} {mg : Str → Option Value} {base : Heap} {c : Cl}
/-! all ways in which things fall -/
def inc : List Nat → Nat → List Nat
  | [], _ => []
  | a :: c, 0 => (a + 1) :: c
  | a :: c, d + 1 => a :: inc c d
theorem inc_len : ∀ (c : List Nat) (d : Nat), (inc c d).length = c.length
  | [], _ => rfl
  | _ :: _, 0 => rfl
  | a :: c, d + 1 => by simp [inc, inc_len c d]
theorem inc_sum : ∀ (c : List Nat) (d : Nat), d < c.length → (inc c d).sum = c.sum + 1
  | [], _, h => by simp at h
  | a :: c, 0, _ => by simp [inc]; omega
  | a :: c, d + 1, h => by
    have := inc_sum c d (by simpa using h)
    simp only [inc, List.sum_cons, this]
    omega
def Gf : List Int → Nat → (List Nat → Int) → Int
  | [], 0, f => f []
  | [], _ + 1, _ => 0
  | w :: ys, m, f => sumN (fun o => ((bin m o : Nat) : Int) * w ^ o * Gf ys (m - o) (fun c => f (o :: c))) (m + 1)
theorem Gf_cons (w : Int) (ys : List Int) (m : Nat) (f : List Nat → Int) : Gf (w :: ys) m f = sumN (fun o => ((bin m o : Nat) : Int) * w ^ o * Gf ys (m - o) (fun c => f (o :: c))) (m + 1) := by
  cases m <;> rfl
theorem Gf_congr : ∀ {ys : List Int} {m : Nat} {f g : List Nat → Int}, (∀ c, c.length = ys.length → c.sum = m → f c = g c) → Gf ys m f = Gf ys m g
  | [], 0, f, g, h => h [] rfl rfl
  | [], m + 1, f, g, _ => rfl
  | w :: ys, m, f, g, h => by
    rw [Gf_cons, Gf_cons]
    refine sumN_congr fun o ho => ?_
    rw [Gf_congr (ys := ys) (m := m - o) (f := fun c => f (o :: c)) (g := fun c => g (o :: c)) fun c h1 h2 => h (o :: c) (by simp [h1]) (by simp [h2]; omega)]
theorem Gf_add : ∀ (ys : List Int) (m : Nat) (f g : List Nat → Int), Gf ys m (fun c => f c + g c) = Gf ys m f + Gf ys m g
  | [], 0, f, g => rfl
  | [], m + 1, f, g => rfl
  | w :: ys, m, f, g => by
    rw [Gf_cons, Gf_cons, Gf_cons, ← sumN_add]
    refine sumN_congr fun o _ => ?_
    rw [Gf_add ys (m - o) (fun c => f (o :: c)) (fun c => g (o :: c)), Int.mul_add]
theorem Gf_mul (z : Int) : ∀ (ys : List Int) (m : Nat) (f : List Nat → Int), Gf ys m (fun c => z * f c) = z * Gf ys m f
  | [], 0, f => rfl
  | [], m + 1, f => by simp [Gf]
  | w :: ys, m, f => by
    rw [Gf_cons, Gf_cons, ← sumN_mul]
    refine sumN_congr fun o _ => ?_
    rw [Gf_mul z ys (m - o) (fun c => f (o :: c))]
    grind
theorem Gf_nonneg : ∀ {ys : List Int} {m : Nat} {f : List Nat → Int}, (∀ y ∈ ys, 0 ≤ y) → (∀ c, 0 ≤ f c) → 0 ≤ Gf ys m f
  | [], 0, f, _, h => h []
  | [], m + 1, f, _, _ => by simp [Gf]
  | w :: ys, m, f, hy, h => by
    rw [Gf_cons]
    exact sumN_nonneg fun o _ => Int.mul_nonneg (Int.mul_nonneg (by omega) (Int.pow_nonneg (hy w (by simp)))) (Gf_nonneg (fun y hy' => hy y (by simp [hy'])) fun c => h (o :: c))
/-- one thing more -/
def stF (ys : List Int) (f : List Nat → Int) (c : List Nat) (n : Nat) : Int := sumN (fun d => ys.getD d 0 * f (inc c d)) n
theorem stF_cons (w : Int) (ys : List Int) (f : List Nat → Int) (o : Nat) (c : List Nat) (n : Nat) : stF (w :: ys) f (o :: c) (n + 1) = w * f ((o + 1) :: c) + stF ys (fun c => f (o :: c)) c n := by
  unfold stF
  rw [sumN_shift]
  rfl
theorem Gf_step : ∀ (ys : List Int) (m : Nat) (f : List Nat → Int), Gf ys (m + 1) f = Gf ys m (fun c => stF ys f c ys.length)
  | [], 0, f => rfl
  | [], m + 1, f => rfl
  | w :: ys, m, f => by
    rw [Gf_cons, Gf_cons]
    -- the right side, split
    have e1 : sumN (fun o => ((bin m o : Nat) : Int) * w ^ o * Gf ys (m - o) (fun c => stF (w :: ys) f (o :: c) (ys.length + 1))) (m + 1)
        = sumN (fun o => ((bin m o : Nat) : Int) * w ^ (o + 1) * Gf ys (m - o) (fun c => f ((o + 1) :: c))) (m + 1) + sumN (fun o => ((bin m o : Nat) : Int) * w ^ o * Gf ys (m - o + 1) (fun c => f (o :: c))) (m + 1) := by
      rw [← sumN_add]
      refine sumN_congr fun o _ => ?_
      have e : Gf ys (m - o) (fun c => stF (w :: ys) f (o :: c) (ys.length + 1)) = w * Gf ys (m - o) (fun c => f ((o + 1) :: c)) + Gf ys (m - o + 1) (fun c => f (o :: c)) := by
        rw [Gf_step ys (m - o) (fun c => f (o :: c)), ← Gf_mul w ys (m - o) (fun c => f ((o + 1) :: c)), ← Gf_add]
        exact Gf_congr fun c _ _ => stF_cons w ys f o c ys.length
      rw [e, Int.pow_succ]
      grind
    show _ = sumN (fun o => ((bin m o : Nat) : Int) * w ^ o * Gf ys (m - o) (fun c => stF (w :: ys) f (o :: c) (ys.length + 1))) (m + 1)
    rw [e1]
    -- the left side by Pascal
    rw [sumN_shift (fun o => ((bin (m + 1) o : Nat) : Int) * w ^ o * Gf ys (m + 1 - o) (fun c => f (o :: c))) (m + 1)]
    have e2 : sumN (fun o => ((bin (m + 1) (o + 1) : Nat) : Int) * w ^ (o + 1) * Gf ys (m + 1 - (o + 1)) (fun c => f ((o + 1) :: c))) (m + 1)
        = sumN (fun o => ((bin m o : Nat) : Int) * w ^ (o + 1) * Gf ys (m - o) (fun c => f ((o + 1) :: c))) (m + 1) + sumN (fun o => ((bin m (o + 1) : Nat) : Int) * w ^ (o + 1) * Gf ys (m - o) (fun c => f ((o + 1) :: c))) (m + 1) := by
      rw [← sumN_add]
      refine sumN_congr fun o _ => ?_
      rw [bin_succ, show m + 1 - (o + 1) = m - o by omega]
      push_cast
      grind
    rw [e2]
    have e3 : sumN (fun o => ((bin m o : Nat) : Int) * w ^ o * Gf ys (m - o + 1) (fun c => f (o :: c))) (m + 1) = ((bin (m + 1) 0 : Nat) : Int) * w ^ 0 * Gf ys (m + 1 - 0) (fun c => f (0 :: c)) + sumN (fun o => ((bin m (o + 1) : Nat) : Int) * w ^ (o + 1) * Gf ys (m - o) (fun c => f ((o + 1) :: c))) (m + 1) := by
      rw [sumN_shift (fun o => ((bin m o : Nat) : Int) * w ^ o * Gf ys (m - o + 1) (fun c => f (o :: c))) m]
      show _ = _ + (sumN (fun o => ((bin m (o + 1) : Nat) : Int) * w ^ (o + 1) * Gf ys (m - o) (fun c => f ((o + 1) :: c))) m + ((bin m (m + 1) : Nat) : Int) * w ^ (m + 1) * Gf ys (m - m) (fun c => f ((m + 1) :: c)))
      rw [bin_out m (m + 1) (by omega), bin_zero, bin_zero]
      have e4 : sumN (fun o => ((bin m (o + 1) : Nat) : Int) * w ^ (o + 1) * Gf ys (m - (o + 1) + 1) (fun c => f ((o + 1) :: c))) m = sumN (fun o => ((bin m (o + 1) : Nat) : Int) * w ^ (o + 1) * Gf ys (m - o) (fun c => f ((o + 1) :: c))) m := sumN_congr fun o ho => by rw [show m - (o + 1) + 1 = m - o by omega]
      rw [e4]
      simp
    rw [e3]
    omega
theorem sumN_getD : ∀ (ys : List Int), sumN (fun d => ys.getD d 0) ys.length = ys.sum
  | [] => rfl
  | y :: ys => by
    have := sumN_getD ys
    rw [List.length_cons, sumN_shift, List.sum_cons]
    simp only [List.getD_cons_zero, List.getD_cons_succ]
    rw [this]
theorem Gf_one (ys : List Int) : ∀ m, Gf ys m (fun _ => 1) = ys.sum ^ m
  | 0 => by
    induction ys with
    | nil => rfl
    | cons w ys ih =>
      rw [Gf_cons]
      show 0 + ((bin 0 0 : Nat) : Int) * w ^ 0 * Gf ys 0 (fun _ => 1) = _
      rw [ih]
      simp [bin_zero]
  | m + 1 => by
    rw [Gf_step]
    have : ∀ c, stF ys (fun _ => 1) c ys.length = ys.sum * 1 := fun c => by
      unfold stF
      simp only [Int.mul_one]
      exact sumN_getD ys
    simp only [this]
    rw [Gf_mul ys.sum ys m (fun _ => 1), Gf_one ys m, Int.pow_succ, Int.mul_comm]
abbrev TabN := List (List Nat × Int)
structure Kt (ys : List Int) (m : Nat) (k : List Nat) : Prop where
  len : k.length = ys.length
  sum : k.sum = m
structure Fl (ys : List Int) (m : Nat) (kn : TabN) : Prop where
  nd : (kn.map (·.1)).Nodup
  ks : ∀ e ∈ kn, Kt ys m e.1
  nn : ∀ e ∈ kn, 0 ≤ e.2
  su : ∀ f, tS kn f = Gf ys m f
structure FiN (ys : List Int) (m : Nat) (kn : TabN) (j : Nat) (fr : TabN) : Prop where
  nd : (fr.map (·.1)).Nodup
  ks : ∀ k ∈ fr.map (·.1), Kt ys (m + 1) k
  nn : ∀ e ∈ fr, 0 ≤ e.2
  su : ∀ f, tS fr f = tS (kn.take j) (fun c => stF ys f c ys.length)
structure FjN (ys : List Int) (m : Nat) (kn : TabN) (j : Nat) (e : List Nat × Int) (n : Nat) (fr : TabN) : Prop where
  nd : (fr.map (·.1)).Nodup
  ks : ∀ k ∈ fr.map (·.1), Kt ys (m + 1) k
  nn : ∀ e ∈ fr, 0 ≤ e.2
  su : ∀ f, tS fr f = tS (kn.take j) (fun c => stF ys f c ys.length) + e.2 * stF ys f e.1 n
theorem Gf_zero : ∀ (ys : List Int) (f : List Nat → Int), Gf ys 0 f = f (List.replicate ys.length 0)
  | [], f => rfl
  | w :: ys, f => by
    rw [Gf_cons]
    show 0 + ((bin 0 0 : Nat) : Int) * w ^ 0 * Gf ys 0 (fun c => f (0 :: c)) = _
    rw [Gf_zero ys]
    simp [bin_zero, List.replicate_succ]
theorem Fl.zero (ys : List Int) : Fl ys 0 [(List.replicate ys.length 0, 1)] := ⟨by simp, fun e he => by
  have : e = (List.replicate ys.length 0, 1) := by simpa using he
  subst this
  exact ⟨by simp, by simp⟩, by simp, fun f => by rw [Gf_zero]; simp [tS]⟩
theorem FiN.zero (ys : List Int) (m : Nat) (kn : TabN) : FiN ys m kn 0 [] := ⟨by simp, by simp, by simp, fun f => by simp [tS]⟩
theorem FjN.add {ys : List Int} {m : Nat} {kn fr : TabN} {j n : Nat} {e : List Nat × Int} (hy : ∀ y ∈ ys, 0 ≤ y) (hn : n < ys.length) (he : Kt ys m e.1) (hv : 0 ≤ e.2) (h : FjN ys m kn j e n fr) : FjN ys m kn j e (n + 1) (addV fr (inc e.1 n) (e.2 * ys.getD n 0)) := by
  have hw : 0 ≤ ys.getD n 0 := by
    rw [List.getD_eq_getElem?_getD, List.getElem?_eq_getElem hn]
    exact hy _ (List.getElem_mem hn)
  refine ⟨addV_nodup h.nd _ _, fun k hk => ?_, addV_nonneg (Int.mul_nonneg hv hw) h.nd h.nn, fun f => ?_⟩
  · rcases addV_key hk with rfl | hk
    · exact ⟨by rw [inc_len]; exact he.len, by rw [inc_sum _ _ (by rw [he.len]; exact hn), he.sum]⟩
    · exact h.ks k hk
  · rw [tS_put _ _ _ h.nd, h.su f]
    show _ = _ + e.2 * (stF ys f e.1 n + ys.getD n 0 * f (inc e.1 n))
    grind
end
end Pg

namespace Pg
open PySem PySem.Spec PyProof.Rows L2 Sd
section
variable {P : Program} {w : World} {K : PySem.W.Frag} {mg : Str → Option Value} {base : Heap} {c : Cl}
end
end Pg

namespace Pg
open PySem PySem.Spec PyProof.Rows L2 Sd
section
variable {P : Program} {w : World} {K : PySem.W.Frag} {mg : Str → Option Value} {base : Heap} {c : Cl}
/-! sums over the falls: lists, and one day alone -/
theorem fm_if {α β : Type} (p : α → Bool) (g : α → β) : ∀ l : List α, (l.filterMap fun x => if p x = true then some (g x) else none) = (l.filter p).map g
  | [] => rfl
  | x :: l => by
    rw [List.filterMap_cons, List.filter_cons, fm_if p g l]
    by_cases h : p x = true
    · rw [if_pos h, if_pos h]; rfl
    · rw [if_neg h, if_neg h]
theorem sumN_only {f : Nat → Int} {k : Nat} : ∀ {n : Nat}, k < n → (∀ i, i < n → i ≠ k → f i = 0) → sumN f n = f k
  | 0, h, _ => absurd h (by omega)
  | n + 1, h, hz => by
    show sumN f n + f n = f k
    by_cases hk : k = n
    · subst hk
      rw [sumN_congr (g := fun _ => 0) fun i hi => hz i (by omega) (by omega), sumN_zero]
      omega
    · rw [sumN_only (k := k) (n := n) (by omega) fun i hi hik => hz i (by omega) hik, hz n (by omega) (by omega)]
      omega
theorem Gf_plc : ∀ {ys : List Int} {m : Nat} {k : List Nat}, Kt ys m k → Gf ys m (fun c => if c = k then 1 else 0) = plcW ys k m
  | [], m, k, h => by
    have hk : k = [] := List.eq_nil_of_length_eq_zero h.len
    subst hk
    have := h.sum
    simp at this
    subst this
    rfl
  | w :: ys, m, [], h => by have := h.len; simp at this
  | w :: ys, m, a :: k, h => by
    have hs := h.sum
    rw [List.sum_cons] at hs
    rw [Gf_cons, sumN_only (k := a) (by omega) fun i _ hi => ?_]
    · have e : (fun c => if a :: c = a :: k then (1 : Int) else 0) = fun c => if c = k then 1 else 0 := by
        funext c
        by_cases h : c = k
        · rw [if_pos (by rw [h]), if_pos h]
        · rw [if_neg (by simpa using h), if_neg h]
      rw [e, Gf_plc (m := m - a) ⟨by simpa using h.len, by omega⟩]
      rfl
    · have e : (fun c => if i :: c = a :: k then (1 : Int) else 0) = fun c => 0 * 0 := by
        funext c
        rw [if_neg (by simp [hi])]
        rfl
      rw [e, Gf_mul]
      simp
end
end Pg

namespace Pg
open PySem PySem.Spec PyProof.Rows L2 Sd
section
variable {P : Program} {w : World} {K : PySem.W.Frag} {mg : Str → Option Value} {base : Heap} {c : Cl}
/-! Gf by the last day; in any order -/
theorem RR_step {w : Int} {ys : List Int} {f : List Nat → Int} (J : Nat → List Nat → List Nat) (St : List Nat → Int) (m : Nat) (hst : ∀ o c, c.length = ys.length → St (J o c) = w * f (J (o + 1) c) + stF ys (fun c => f (J o c)) c ys.length) :
    sumN (fun o => ((bin (m + 1) o : Nat) : Int) * w ^ o * Gf ys (m + 1 - o) (fun c => f (J o c))) (m + 1 + 1) = sumN (fun o => ((bin m o : Nat) : Int) * w ^ o * Gf ys (m - o) (fun c => St (J o c))) (m + 1) := by
  have e1 : sumN (fun o => ((bin m o : Nat) : Int) * w ^ o * Gf ys (m - o) (fun c => St (J o c))) (m + 1)
      = sumN (fun o => ((bin m o : Nat) : Int) * w ^ (o + 1) * Gf ys (m - o) (fun c => f (J (o + 1) c))) (m + 1) + sumN (fun o => ((bin m o : Nat) : Int) * w ^ o * Gf ys (m - o + 1) (fun c => f (J o c))) (m + 1) := by
    rw [← sumN_add]
    refine sumN_congr fun o _ => ?_
    have e : Gf ys (m - o) (fun c => St (J o c)) = w * Gf ys (m - o) (fun c => f (J (o + 1) c)) + Gf ys (m - o + 1) (fun c => f (J o c)) := by
      rw [Gf_step ys (m - o) (fun c => f (J o c)), ← Gf_mul w ys (m - o) (fun c => f (J (o + 1) c)), ← Gf_add]
      exact Gf_congr fun c hc _ => hst o c hc
    rw [e, Int.pow_succ]
    grind
  rw [e1]
  rw [sumN_shift (fun o => ((bin (m + 1) o : Nat) : Int) * w ^ o * Gf ys (m + 1 - o) (fun c => f (J o c))) (m + 1)]
  have e2 : sumN (fun o => ((bin (m + 1) (o + 1) : Nat) : Int) * w ^ (o + 1) * Gf ys (m + 1 - (o + 1)) (fun c => f (J (o + 1) c))) (m + 1)
      = sumN (fun o => ((bin m o : Nat) : Int) * w ^ (o + 1) * Gf ys (m - o) (fun c => f (J (o + 1) c))) (m + 1) + sumN (fun o => ((bin m (o + 1) : Nat) : Int) * w ^ (o + 1) * Gf ys (m - o) (fun c => f (J (o + 1) c))) (m + 1) := by
    rw [← sumN_add]
    refine sumN_congr fun o _ => ?_
    rw [bin_succ, show m + 1 - (o + 1) = m - o by omega]
    push_cast
    grind
  rw [e2]
  have e3 : sumN (fun o => ((bin m o : Nat) : Int) * w ^ o * Gf ys (m - o + 1) (fun c => f (J o c))) (m + 1) = ((bin (m + 1) 0 : Nat) : Int) * w ^ 0 * Gf ys (m + 1 - 0) (fun c => f (J 0 c)) + sumN (fun o => ((bin m (o + 1) : Nat) : Int) * w ^ (o + 1) * Gf ys (m - o) (fun c => f (J (o + 1) c))) (m + 1) := by
    rw [sumN_shift (fun o => ((bin m o : Nat) : Int) * w ^ o * Gf ys (m - o + 1) (fun c => f (J o c))) m]
    show _ = _ + (sumN (fun o => ((bin m (o + 1) : Nat) : Int) * w ^ (o + 1) * Gf ys (m - o) (fun c => f (J (o + 1) c))) m + ((bin m (m + 1) : Nat) : Int) * w ^ (m + 1) * Gf ys (m - m) (fun c => f (J (m + 1) c)))
    rw [bin_out m (m + 1) (by omega), bin_zero, bin_zero]
    have e4 : sumN (fun o => ((bin m (o + 1) : Nat) : Int) * w ^ (o + 1) * Gf ys (m - (o + 1) + 1) (fun c => f (J (o + 1) c))) m = sumN (fun o => ((bin m (o + 1) : Nat) : Int) * w ^ (o + 1) * Gf ys (m - o) (fun c => f (J (o + 1) c))) m := sumN_congr fun o ho => by rw [show m - (o + 1) + 1 = m - o by omega]
    rw [e4]
    simp
  rw [e3]
  omega
theorem inc_app_lt : ∀ {c : List Nat} {d : Nat} (o : Nat), d < c.length → inc (c ++ [o]) d = inc c d ++ [o]
  | [], _, _, h => by simp at h
  | a :: c, 0, o, _ => rfl
  | a :: c, d + 1, o, h => by
    show a :: inc (c ++ [o]) d = _
    rw [inc_app_lt o (by simpa using h)]
    rfl
theorem inc_app_last : ∀ (c : List Nat) (o : Nat), inc (c ++ [o]) c.length = c ++ [o + 1]
  | [], _ => rfl
  | a :: c, o => by
    show a :: inc (c ++ [o]) c.length = _
    rw [inc_app_last c o]
    rfl
theorem Gf_snoc (w : Int) (ys : List Int) : ∀ (m : Nat) (f : List Nat → Int), Gf (ys ++ [w]) m f = sumN (fun o => ((bin m o : Nat) : Int) * w ^ o * Gf ys (m - o) (fun c => f (c ++ [o]))) (m + 1)
  | 0, f => by
    show _ = 0 + ((bin 0 0 : Nat) : Int) * w ^ 0 * Gf ys 0 (fun c => f (c ++ [0]))
    rw [Gf_zero, Gf_zero, bin_zero]
    have : List.replicate (ys ++ [w]).length 0 = List.replicate ys.length 0 ++ [0] := by
      rw [List.length_append, List.length_singleton, List.replicate_succ']
    rw [this]
    simp
  | m + 1, f => by
    rw [Gf_step, Gf_snoc w ys m]
    symm
    refine RR_step (fun o c => c ++ [o]) (fun c => stF (ys ++ [w]) f c (ys ++ [w]).length) m fun o c hc => ?_
    unfold stF
    rw [List.length_append, List.length_singleton]
    show sumN _ ys.length + _ = _
    have e1 : sumN (fun d => (ys ++ [w]).getD d 0 * f (inc (c ++ [o]) d)) ys.length = sumN (fun d => ys.getD d 0 * f (inc c d ++ [o])) ys.length := sumN_congr fun d hd => by
      rw [inc_app_lt o (by omega), List.getD_eq_getElem?_getD, List.getD_eq_getElem?_getD, List.getElem?_append_left hd]
    rw [e1]
    have e2 : (ys ++ [w]).getD ys.length 0 = w := by
      rw [List.getD_eq_getElem?_getD, List.getElem?_append_right (Nat.le_refl _), Nat.sub_self]
      rfl
    show _ + (ys ++ [w]).getD ys.length 0 * f (inc (c ++ [o]) ys.length) = w * f (c ++ [o + 1]) + sumN (fun d => ys.getD d 0 * f (inc c d ++ [o])) ys.length
    rw [e2]
    have e3 := inc_app_last c o
    rw [hc] at e3
    rw [e3]
    omega
/-- the crowd's ways -/
def alB (k : Nat) (c : List Nat) : Int := if (c.all fun o => decide (o ≤ k)) = true then 1 else 0
theorem sumN_cut {f : Nat → Int} {a : Nat} : ∀ {n : Nat}, a ≤ n → (∀ i, a ≤ i → i < n → f i = 0) → sumN f n = sumN f a
  | 0, h, _ => by rw [show a = 0 by omega]
  | n + 1, h, hz => by
    by_cases e : a = n + 1
    · rw [e]
    · show sumN f n + f n = _
      rw [hz n (by omega) (by omega), sumN_cut (by omega) fun i h1 h2 => hz i h1 (by omega)]
      omega
theorem rev_ind {P : List Int → Prop} (h0 : P []) (hs : ∀ l w, P l → P (l ++ [w])) : ∀ l, P l := fun l => by
  have : ∀ r : List Int, P r.reverse := fun r => by
    induction r with
    | nil => exact h0
    | cons a r ih => rw [List.reverse_cons]; exact hs _ a ih
  have := this l.reverse
  rwa [List.reverse_reverse] at this
theorem cwF_one : ∀ (ys : List Int) (m : Nat), Gf ys m (alB 1) = ((fac m : Nat) : Int) * esI ys m
  | [], 0 => rfl
  | [], m + 1 => by simp [Gf, esI]
  | w :: ys, 0 => by
    rw [Gf_zero, esI_zero]
    have : alB 1 (List.replicate (w :: ys).length 0) = 1 := by
      unfold alB
      rw [if_pos]
      rw [List.all_eq_true]
      intro x hx
      have := List.eq_of_mem_replicate hx
      simp [this]
    rw [this]
    rfl
  | w :: ys, m + 1 => by
    have i1 := cwF_one ys (m + 1)
    have i2 := cwF_one ys m
    have e0 : ∀ o c, alB 1 (o :: c) = if o ≤ 1 then alB 1 c else 0 := fun o c => by
      unfold alB
      rw [List.all_cons]
      by_cases h : o ≤ 1
      · rw [if_pos h]; simp [h]
      · rw [if_neg h, if_neg]; simp [h]
    rw [Gf_cons, sumN_cut (a := 2) (by omega) fun i h1 _ => ?_]
    · show 0 + ((bin (m + 1) 0 : Nat) : Int) * w ^ 0 * Gf ys (m + 1 - 0) (fun c => alB 1 (0 :: c)) + ((bin (m + 1) 1 : Nat) : Int) * w ^ 1 * Gf ys (m + 1 - 1) (fun c => alB 1 (1 :: c)) = _
      have e1 : Gf ys (m + 1 - 0) (fun c => alB 1 (0 :: c)) = Gf ys (m + 1) (alB 1) := Gf_congr fun c _ _ => by rw [e0, if_pos (by omega)]
      have e2 : Gf ys (m + 1 - 1) (fun c => alB 1 (1 :: c)) = Gf ys m (alB 1) := Gf_congr fun c _ _ => by rw [e0, if_pos (by omega)]
      have e3 : bin (m + 1) 1 = m + 1 := by
        have := bin_mul m 0
        rw [bin_zero] at this
        simpa using this.symm
      rw [e1, e2, i1, i2, bin_zero, e3, esI_cons]
      show _ = (((m + 1) * fac m : Nat) : Int) * _
      rw [show ((fac (m + 1) : Nat) : Int) = (((m + 1) * fac m : Nat) : Int) from rfl]
      push_cast
      grind
    · have : Gf ys (m + 1 - i) (fun c => alB 1 (i :: c)) = 0 := by
        rw [Gf_congr (g := fun c => 0 * 0) fun c _ _ => by rw [e0, if_neg (by omega)]; rfl, Gf_mul]
        simp
      rw [this, Int.mul_zero]
/-- sums reversed, by diagonals -/
theorem sumN_rev (f : Nat → Int) : ∀ n, sumN (fun i => f (n - i)) (n + 1) = sumN f (n + 1)
  | 0 => rfl
  | n + 1 => by
    rw [sumN_shift]
    have := sumN_rev f n
    rw [sumN_congr (f := fun i => f (n + 1 - (i + 1))) (g := fun i => f (n - i)) fun i _ => by rw [show n + 1 - (i + 1) = n - i by omega], this]
    show f (n + 1) + sumN f (n + 1) = sumN f (n + 1) + f (n + 1)
    omega
end
end Pg

namespace Pg
open PySem PySem.Spec PyProof.Rows L2 Sd
section
variable {P : Program} {w : World} {K : PySem.W.Frag} {mg : Str → Option Value} {base : Heap} {c : Cl}
end
end Pg

namespace Pg
open PySem PySem.Spec PyProof.Rows L2 Sd
section
variable {P : Program} {w : World} {K : PySem.W.Frag} {mg : Str → Option Value} {base : Heap} {c : Cl}
/-! days that have some, by all falls -/
def usN (c : List Nat) : Nat := (c.filter fun o => decide (0 < o)).length
theorem usN_app (c : List Nat) (o : Nat) : usN (c ++ [o]) = usN c + if 0 < o then 1 else 0 := by
  unfold usN
  rw [List.filter_append, List.length_append, List.filter_cons]
  by_cases h : 0 < o
  · rw [if_pos h, if_pos (decide_eq_true h)]; rfl
  · rw [if_neg h, if_neg (by simpa using h)]; rfl
theorem usN_app0 (c : List Nat) : usN (c ++ [0]) = usN c := by rw [usN_app, if_neg (by omega)]; rfl
theorem usN_appS (c : List Nat) (o : Nat) : usN (c ++ [o + 1]) = usN c + 1 := by rw [usN_app, if_pos (by omega)]
def usB (k : Nat) (c : List Nat) : Int := if usN c = k then 1 else 0
theorem uwF_gf : ∀ (ys : List Int) (k n : Nat), uwF ys k n = Gf ys n (usB k) := by
  refine rev_ind (fun k n => ?_) fun ys w ih k n => ?_
  · cases n with
    | zero =>
      show (if k = 0 ∧ 0 = 0 then (1 : Int) else 0) = if usN [] = k then 1 else 0
      by_cases h : k = 0
      · subst h; rfl
      · rw [if_neg (by omega), if_neg (by intro z; exact h z.symm)]
    | succ n =>
      show (if k = 0 ∧ n + 1 = 0 then (1 : Int) else 0) = 0
      rw [if_neg (by omega)]
  · have e : uwF (ys ++ [w]) k n = uwS (uwF ys) w k n := by
      unfold uwF
      rw [List.foldl_append]
      rfl
    rw [e, Gf_snoc, sumN_shift]
    unfold uwS
    have e0 : ((bin n 0 : Nat) : Int) * w ^ 0 * Gf ys (n - 0) (fun c => usB k (c ++ [0])) = uwF ys k n := by
      rw [bin_zero, ih, Nat.sub_zero, Gf_congr (g := usB k) fun c _ _ => by unfold usB; rw [usN_app0]]
      simp
    rw [e0]
    congr 1
    by_cases hk : k = 0
    · rw [if_pos hk]
      symm
      rw [← sumN_zero n]
      refine sumN_congr fun o _ => ?_
      rw [Gf_congr (g := fun c => 0 * 0) fun c _ _ => by unfold usB; rw [usN_appS, if_neg (by omega)]; rfl, Gf_mul]
      simp
    · rw [if_neg hk]
      have e1 : ∀ o, Gf ys (n - (o + 1)) (fun c => usB k (c ++ [o + 1])) = uwF ys (k - 1) (n - (o + 1)) := fun o => by
        rw [ih]
        refine Gf_congr fun c _ _ => ?_
        unfold usB
        rw [usN_appS]
        by_cases h : usN c = k - 1
        · rw [if_pos (by omega), if_pos h]
        · rw [if_neg (by omega), if_neg h]
      cases n with
      | zero => rfl
      | succ n =>
        rw [← sumN_rev (uwT (uwF ys (k - 1)) w (n + 1)) n]
        refine sumN_congr fun o ho => ?_
        rw [e1]
        unfold uwT
        rw [show n + 1 - (n - o) = o + 1 by omega, show n + 1 - (o + 1) = n - o by omega]
        grind
theorem usN_le (c : List Nat) : usN c ≤ c.length := List.length_filter_le _ _
end
end Pg

namespace Pg
open PySem PySem.Spec PyProof.Rows L2 Sd
section
variable {P : Program} {w : World} {K : PySem.W.Frag} {mg : Str → Option Value} {base : Heap} {c : Cl}
/-! the mean until all, state by state -/
/-- the same by places -/
def esum (h : List Int → Rat) (l : List Int) (n : Nat) : Rat := sumTo (fun i => ((l.getD i 0 : Int) : Rat) * h (l.eraseIdx i)) n
theorem esum_cons (h : List Int → Rat) (w : Int) (l : List Int) (n : Nat) : esum h (w :: l) (n + 1) = (w : Rat) * h l + esum (fun r => h (w :: r)) l n := by
  unfold esum
  rw [sumTo_shift]
  rfl
theorem esum_sub (h h' : List Int → Rat) (l : List Int) : ∀ n, esum (fun r => h r - h' r) l n = esum h l n - esum h' l n
  | 0 => by show (0 : Rat) = 0 - 0; grind
  | n + 1 => by
    have := esum_sub h h' l n
    unfold esum at *
    show sumTo _ n + _ = (sumTo _ n + _) - (sumTo _ n + _)
    rw [this]
    grind
theorem Vs_addf (h h2 : Int → Rat) : ∀ l : List Int, Vs l (fun s => h s + h2 s) = Vs l h + Vs l h2 := fun l => by
  induction l generalizing h h2 with
  | nil => rfl
  | cons w l ih =>
    show Vs l (fun s => h s + h2 s) - Vs l (fun s => h (s + w) + h2 (s + w)) = _
    rw [ih h h2, ih (fun s => h (s + w)) (fun s => h2 (s + w))]
    show _ = Vs l h - Vs l (fun s => h (s + w)) + (Vs l h2 - Vs l (fun s => h2 (s + w)))
    grind
theorem Vs_subf (h h2 : Int → Rat) : ∀ l : List Int, Vs l (fun s => h s - h2 s) = Vs l h - Vs l h2 := fun l => by
  induction l generalizing h h2 with
  | nil => rfl
  | cons w l ih =>
    show Vs l (fun s => h s - h2 s) - Vs l (fun s => h (s + w) - h2 (s + w)) = _
    rw [ih h h2, ih (fun s => h (s + w)) (fun s => h2 (s + w))]
    show _ = Vs l h - Vs l (fun s => h (s + w)) - (Vs l h2 - Vs l (fun s => h2 (s + w)))
    grind
theorem esum_Vs : ∀ (l : List Int) (h : Int → Rat), esum (fun r => Vs r h) l l.length = Vs l (fun s => ((l.sum : Int) : Rat) * h s - (s : Rat) * h s)
  | [], h => by
    show (0 : Rat) = ((0 : Int) : Rat) * h 0 - ((0 : Int) : Rat) * h 0
    grind
  | w :: l, h => by
    rw [List.length_cons, esum_cons]
    have e1 : esum (fun r => Vs (w :: r) h) l l.length = esum (fun r => Vs r h) l l.length - esum (fun r => Vs r (fun s => h (s + w))) l l.length := esum_sub _ _ l _
    rw [e1, esum_Vs l h, esum_Vs l (fun s => h (s + w))]
    show _ = Vs l (fun s => (((w :: l).sum : Int) : Rat) * h s - (s : Rat) * h s) - Vs l (fun s => (((w :: l).sum : Int) : Rat) * h (s + w) - ((s + w : Int) : Rat) * h (s + w))
    have e2 : Vs l (fun s => (((w :: l).sum : Int) : Rat) * h s - (s : Rat) * h s) = (w : Rat) * Vs l h + Vs l (fun s => ((l.sum : Int) : Rat) * h s - (s : Rat) * h s) := by
      rw [← Vs_mul, ← Vs_addf]
      refine Vs_congr (fun s => ?_) l
      rw [List.sum_cons, Rat.intCast_add]
      grind
    have e3 : Vs l (fun s => (((w :: l).sum : Int) : Rat) * h (s + w) - ((s + w : Int) : Rat) * h (s + w)) = Vs l (fun s => ((l.sum : Int) : Rat) * h (s + w) - (s : Rat) * h (s + w)) := by
      refine Vs_congr (fun s => ?_) l
      rw [List.sum_cons, Rat.intCast_add, Rat.intCast_add]
      grind
    rw [e2, e3]
    grind
theorem Vs_ne {h h' : Int → Rat} : ∀ {l : List Int} (x : Int), (∀ w ∈ l, 0 < w) → 0 < x → (∀ s, 0 < s → h s = h' s) → Vs l (fun s => h (s + x)) = Vs l (fun s => h' (s + x))
  | [], x, _, hx, e => e _ (by omega)
  | w :: l, x, hl, hx, e => by
    show Vs l (fun s => h (s + x)) - Vs l (fun s => h (s + w + x)) = Vs l (fun s => h' (s + x)) - Vs l (fun s => h' (s + w + x))
    have hw := hl w List.mem_cons_self
    have hl' : ∀ v ∈ l, 0 < v := fun v hv => hl v (List.mem_cons_of_mem _ hv)
    rw [Vs_ne x hl' hx e]
    have := Vs_ne (h := h) (h' := h') (x + w) hl' (by omega) e
    have e1 : ∀ g : Int → Rat, Vs l (fun s => g (s + w + x)) = Vs l (fun s => g (s + (x + w))) := fun g => Vs_congr (fun s => by congr 1; omega) l
    rw [e1, e1, this]
end
end Pg

namespace Pg
open PySem PySem.Spec PyProof.Rows L2 Sd
section
variable {P : Program} {w : World} {K : PySem.W.Frag} {mg : Str → Option Value} {base : Heap} {c : Cl}
end
end Pg

namespace Pg
open PySem PySem.Spec PyProof.Rows L2 Sd
section
variable {P : Program} {w : World} {K : PySem.W.Frag} {mg : Str → Option Value} {base : Heap} {c : Cl}
end
end Pg

namespace Pg
open PySem PySem.Spec PyProof.Rows L2 Sd
section
variable {P : Program} {w : World} {K : PySem.W.Frag} {mg : Str → Option Value} {base : Heap} {c : Cl}
theorem trn_int (o : Nat) : (o : Int) * ((o : Int) - 1) / 2 = ((trn o : Nat) : Int) := by
  unfold trn
  cases o with
  | zero => rfl
  | succ n =>
    rw [show ((n + 1 : Nat) : Int) - 1 = (n : Int) by omega, show n + 1 - 1 = n by omega, ← Int.natCast_mul]
    omega
end
end Pg

namespace Pg
open PySem PySem.Spec PyProof.Rows L2 Sd
section
variable {P : Program} {w : World} {K : PySem.W.Frag} {mg : Str → Option Value} {base : Heap} {c : Cl}
end
end Pg

namespace Pg
open PySem PySem.Spec PyProof.Rows L2 Sd
section
variable {P : Program} {w : World} {K : PySem.W.Frag} {mg : Str → Option Value} {base : Heap} {c : Cl}
end
end Pg

namespace Pg
open PySem PySem.Spec PyProof.Rows L2 Sd
section
variable {P : Program} {w : World} {K : PySem.W.Frag} {mg : Str → Option Value} {base : Heap} {c : Cl}
/-! pairs on one day, by all falls -/
def prs' (c : List Nat) : Nat := (c.map trn).sum
theorem bin_pos : ∀ {n k : Nat}, k ≤ n → 0 < bin n k
  | n, 0, _ => by rw [bin_zero]; exact Nat.one_pos
  | 0, k + 1, h => by omega
  | n + 1, k + 1, h => by
    rw [bin_succ]
    have := bin_pos (n := n) (k := k) (by omega)
    omega
/-- a table of a function of the falls: each key once, all values above 0 -/
structure Tbl (ys : List Int) (m : Nat) (h : List Nat → Nat) (tb : List (Nat × Int)) : Prop where
  nd : (tb.map (·.1)).Nodup
  ps : ∀ e ∈ tb, 0 < e.2
  su : ∀ f : Nat → Int, tS tb f = Gf ys m (fun c => f (h c))
theorem tS_atN : ∀ {kn : List (Nat × Int)} {e : Nat × Int}, (kn.map (·.1)).Nodup → e ∈ kn → tS kn (fun c => if c = e.1 then 1 else 0) = e.2
  | a :: kn, e, hn, he => by
    rw [List.map_cons, List.nodup_cons] at hn
    simp only [tS, List.map_cons, List.sum_cons]
    rcases List.mem_cons.mp he with rfl | he
    · have : (kn.map fun a => a.2 * (if a.1 = e.1 then 1 else 0)).sum = 0 := by
        rw [lsum_congr (g := fun _ => 0) fun b hb => by rw [if_neg (fun z => hn.1 (List.mem_map.mpr ⟨b, hb, z⟩)), Int.mul_zero]]
        exact lsum_zero kn
      rw [this]
      simp
    · have := tS_atN hn.2 he
      simp only [tS] at this
      rw [this, if_neg (fun z => hn.1 (List.mem_map.mpr ⟨e, he, z.symm⟩))]
      simp
theorem tS_out {kn : List (Nat × Int)} {k : Nat} (h : k ∉ kn.map (·.1)) : tS kn (fun c => if c = k then 1 else 0) = 0 := by
  unfold tS
  rw [lsum_congr (g := fun _ => 0) fun b hb => by
    show b.2 * (if b.1 = k then 1 else 0) = 0
    rw [if_neg (fun z => h (List.mem_map.mpr ⟨b, hb, z⟩)), Int.mul_zero]]
  exact lsum_zero kn
theorem Tbl.mem {ys : List Int} {m : Nat} {h : List Nat → Nat} {tb : List (Nat × Int)} (t : Tbl ys m h tb) {e : Nat × Int} : e ∈ tb ↔ 0 < e.2 ∧ e.2 = Gf ys m (fun c => if h c = e.1 then 1 else 0) := by
  have hs := t.su (fun c => if c = e.1 then 1 else 0)
  constructor
  · intro he
    exact ⟨t.ps e he, by rw [← tS_atN t.nd he]; exact hs⟩
  · rintro ⟨h1, h2⟩
    by_cases hk : e.1 ∈ tb.map (·.1)
    · obtain ⟨a, ha, ea⟩ := List.mem_map.mp hk
      have h3 := tS_atN t.nd ha
      rw [ea] at h3
      have : a = e := Prod.ext ea (by rw [h2, ← h3, hs])
      rw [← this]
      exact ha
    · rw [tS_out hk] at hs
      omega
theorem nd_of {l : List (Nat × Int)} (h : (l.map (·.1)).Nodup) : l.Nodup := by
  have h1 := List.pairwise_map.mp (List.nodup_iff_pairwise_ne.mp h)
  exact List.nodup_iff_pairwise_ne.mpr (h1.imp fun hab z => hab (by rw [z]))
theorem Tbl.perm {ys : List Int} {m : Nat} {h : List Nat → Nat} {a b : List (Nat × Int)} (ta : Tbl ys m h a) (tb : Tbl ys m h b) : a.Perm b := by
  refine (List.perm_ext_iff_of_nodup ?_ ?_).mpr fun e => by rw [ta.mem, tb.mem]
  · exact nd_of ta.nd
  · exact nd_of tb.nd
end
end Pg

namespace Pg
open PySem PySem.Spec PyProof.Rows L2 Sd
section
variable {P : Program} {w : World} {K : PySem.W.Frag} {mg : Str → Option Value} {base : Heap} {c : Cl}
/-! rows of pairs: R = pwR ys m -/
theorem trn_add (a b : Nat) : trn a + trn b ≤ trn (a + b) := by
  have ha := trn_int a
  have hb := trn_int b
  have hab := trn_int (a + b)
  have e : ((a + b : Nat) : Int) * (((a + b : Nat) : Int) - 1) = (a : Int) * ((a : Int) - 1) + (b : Int) * ((b : Int) - 1) + 2 * ((a : Int) * b) := by push_cast; grind
  have h0 : 0 ≤ (a : Int) * b := Int.mul_nonneg (by omega) (by omega)
  rw [e] at hab
  generalize (a : Int) * b = ab at *
  omega
theorem prs_le : ∀ c : List Nat, prs' c ≤ trn c.sum
  | [] => Nat.le_refl _
  | o :: c => by
    have ih := prs_le c
    unfold prs' at *
    rw [List.map_cons, List.sum_cons, List.sum_cons]
    have := trn_add o c.sum
    omega
theorem Tbl.le {ys : List Int} {m : Nat} {tb : List (Nat × Int)} (t : Tbl ys m prs' tb) {e : Nat × Int} (he : e ∈ tb) : e.1 ≤ trn m := by
  obtain ⟨h1, h2⟩ := t.mem.mp he
  by_cases h : e.1 ≤ trn m
  · exact h
  · exfalso
    have : Gf ys m (fun c => if prs' c = e.1 then 1 else 0) = Gf ys m (fun c => 0 * 0) := Gf_congr fun c _ hc => by
      have := prs_le c
      rw [hc] at this
      rw [if_neg (by omega)]
      rfl
    rw [this, Gf_mul] at h2
    simp at h2
    omega
theorem Tbl.len {ys : List Int} {m : Nat} {tb : List (Nat × Int)} (t : Tbl ys m prs' tb) : tb.length ≤ trn m + 1 := by
  have := nodup_lt (trn m + 1) (tb.map (·.1)) t.nd fun x hx => by
    obtain ⟨e, he, rfl⟩ := List.mem_map.mp hx
    have := t.le he
    omega
  simpa using this
end
end Pg

namespace Pg
open PySem PySem.Spec PyProof.Rows L2 Sd
section
variable {P : Program} {w : World} {K : PySem.W.Frag} {mg : Str → Option Value} {base : Heap} {c : Cl}
def pre_at_most : Pr := fun ss own post => ∃ (p q : Rat) (m n : Nat), ss = [.d (fr p), .d (fr q)] ∧ own = [] ∧ Sq m p ∧ Sq n q ∧ m + n ≤ 8990 ∧ post = fun o => o = .ret (.d (.bool (decide (p ≤ q)))) []
theorem fn_at_most (T : Tx K mg c) : Fn K mg P w base "at_most" ["one", "other"] 1 pre_at_most := T.d_at_most.fn fun f fd F => okG (k := 0) F sc_at_most (by rintro ss own post ⟨p, q, m, n, rfl, _⟩; rfl) (by
  rintro ss own post ⟨p, q, m, n, rfl, rfl, hp, hq, hmn, rfl⟩ cdv A outer s H E B g
  refine sds_one (sd_retD (ed_cmp c_le (ed_mul (ed_ixT (ed_v 0) ed_int rfl) (ed_ixT (ed_v 1) ed_int rfl) (cmul_of hp.num hq.den (by omega))) (ed_mul (ed_ixT (ed_v 1) ed_int rfl) (ed_ixT (ed_v 0) ed_int rfl) (cmul_of hq.num hp.den (by omega)))) ?_)
  rw [decide_eq_decide.mpr (le_fr p q)])
end
end Pg

namespace Pg
open PySem PySem.Spec PyProof.Rows L2 Sd
section
variable {P : Program} {w : World} {K : PySem.W.Frag} {mg : Str → Option Value} {base : Heap} {c : Cl}
def nfaF (ys : List Int) (q : Rat) : Nat → Nat → PyData
  | _, 0 => .none
  | s, m + 1 => if q ≤ alu ys s then .int (s : Int) else nfaF ys q (s + 1) m
def nfa (ys : List Int) (q : Rat) : PyData := nfaF ys q 0 13
def pre_needed_for_all : Pr := fun ss own post => ∃ (ys : List Int) (q : Rat), ss = [.d (li ys), .d (fr q)] ∧ own = [] ∧ Yr ys ∧ Shr q ∧ Sq 100 q ∧ post = fun o => o = .ret (.d (nfa ys q)) []
theorem fn_needed_for_all (T : Tx K mg c) : Fn K mg P w base "needed_for_all" ["year", "share"] 4 pre_needed_for_all := T.d_needed_for_all.fn fun f fd F => okG (k := 3) F sc_needed_for_all (by rintro ss own post ⟨ys, q, rfl, _⟩; rfl) (by
  rintro ss own post ⟨ys, q, rfl, rfl, hY, hq, hz, rfl⟩ cdv A outer s H E B g
  refine sds_cons (sd_expr (es_call (fn_check_year T) g (by decide) (ea_cons (ed_v 0) ea_nil) (ok_year hY)) ?_)
  refine sds_cons (sd_expr (es_call (fn_check_share T) g (by decide) (ea_cons (ed_v 1) ea_nil) ⟨q, rfl, rfl, hq, rfl⟩) ?_)
  refine sds_cons (sd_for g (it_range1 T.n_range ed_int (by omega)) (fun i ρ own => own = [] ∧ nfa ys q = nfaF ys q i (13 - i) ∧ ∃ t, ρ = [.d (li ys), .d (fr q), t]) ⟨rfl, rfl, _, rfl⟩ (fun _ _ _ _ => trivial) ?_ ?_)
  · rintro i y ρ1 own1 hy ⟨rfl, hn, t, rfl⟩
    obtain ⟨hi, rfl⟩ := rng_get hy
    have hi : i < 13 := hi
    rw [show (0 : Int) + (i : Int) = (i : Int) by omega]
    rw [show 13 - i = (12 - i) + 1 by omega, nfaF] at hn
    refine ⟨_, _, gt_name 2 g.nd, sds_one (sd_if (et_val (es_call (fn_at_most T) g (by decide) (ea_cons (ed_v 1) (ea_cons (es_call (fn_all_used_of T) g (by decide) (ea_cons (ed_v 0) (ea_cons (ed_v 2) ea_nil)) ⟨ys, i, rfl, rfl, hY, by omega, rfl⟩) ea_nil)) ⟨q, _, 100, _, rfl, rfl, hz, alu_sq hY (by omega), by decide, rfl⟩)) (fun h => ?_) fun h => sds_nil ?_)⟩
    · have h : q ≤ alu ys i := by simpa using h
      rw [if_pos h] at hn
      refine sds_one (sd_retD (ed_v 2) ?_)
      rw [hn]
    · have h : ¬ q ≤ alu ys i := by simpa using h
      rw [if_neg h] at hn
      exact ⟨rfl, by rw [hn, show 13 - (i + 1) = 12 - i by omega], _, rfl⟩
  · rintro ρ1 own1 ⟨rfl, hn, t, rfl⟩
    refine sds_one (sd_retD ed_non ?_)
    rw [hn]
    rfl)
end
end Pg

namespace Pg
open PySem PySem.Spec PyProof.Rows L2 Sd
section
variable {P : Program} {w : World} {K : PySem.W.Frag} {mg : Str → Option Value} {base : Heap} {c : Cl}
/-! all days by sets of days left out -/
def Vi : List Int → (Int → Int) → Int
  | [], h => h 0
  | w :: l, h => Vi l h - Vi l (fun s => h (s + w))
theorem Vi_congr {h h' : Int → Int} (e : ∀ s, h s = h' s) (l : List Int) : Vi l h = Vi l h' := by
  rw [show h = h' from funext e]
theorem Vi_cast : ∀ (l : List Int) (h : Int → Int), ((Vi l h : Int) : Rat) = Vs l (fun s => ((h s : Int) : Rat))
  | [], h => rfl
  | w :: l, h => by
    show ((Vi l h - Vi l (fun s => h (s + w)) : Int) : Rat) = Vs l _ - Vs l _
    rw [Rat.intCast_sub, Vi_cast l h, Vi_cast l (fun s => h (s + w))]
theorem Vi_snoc (w : Int) : ∀ (l : List Int) (h : Int → Int), Vi (l ++ [w]) h = Vi l h - Vi l (fun s => h (s + w))
  | [], h => rfl
  | v :: l, h => by
    show Vi (l ++ [w]) h - Vi (l ++ [w]) (fun s => h (s + v)) = Vi l h - Vi l (fun s => h (s + v)) - (Vi l (fun s => h (s + w)) - Vi l (fun s => h (s + v + w)))
    rw [Vi_snoc w l h, Vi_snoc w l (fun s => h (s + v)), Vi_congr (h := fun s => h (s + w + v)) (h' := fun s => h (s + v + w)) (fun s => by congr 1; omega)]
    omega
theorem Vi_sumN (F : Nat → Int → Int) : ∀ (l : List Int) (n : Nat), Vi l (fun s => sumN (fun o => F o s) n) = sumN (fun o => Vi l (F o)) n
  | [], n => rfl
  | w :: l, n => by
    show Vi l (fun s => sumN (fun o => F o s) n) - Vi l (fun s => sumN (fun o => F o (s + w)) n) = sumN (fun o => Vi l (F o) - Vi l (fun s => F o (s + w))) n
    rw [Vi_sumN F l n, Vi_sumN (fun o s => F o (s + w)) l n]
    have h := sumN_add (fun o => Vi l (F o) - Vi l (fun s => F o (s + w))) (fun o => Vi l (fun s => F o (s + w))) n
    rw [sumN_congr (g := fun o => Vi l (F o)) fun o _ => by omega] at h
    omega
theorem Vi_mul (z : Int) : ∀ (l : List Int) (h : Int → Int), Vi l (fun s => z * h s) = z * Vi l h
  | [], h => rfl
  | w :: l, h => by
    show Vi l (fun s => z * h s) - Vi l (fun s => z * h (s + w)) = z * (Vi l h - Vi l (fun s => h (s + w)))
    rw [Vi_mul z l h, Vi_mul z l (fun s => h (s + w)), Int.mul_sub]
theorem binom (w y : Int) (m : Nat) : sumN (fun o => ((bin m o : Nat) : Int) * w ^ o * y ^ (m - o)) (m + 1) = (w + y) ^ m := by
  have h := Gf_one [w, y] m
  rw [Gf_cons] at h
  have e : [w, y].sum = w + y := by simp
  rw [e] at h
  rw [← h]
  refine sumN_congr fun o _ => ?_
  rw [Gf_one [y] (m - o)]
  simp
theorem usN_cons (o : Nat) (c : List Nat) : usN (o :: c) = usN c + if 0 < o then 1 else 0 := by
  unfold usN
  rw [List.filter_cons]
  by_cases h : 0 < o
  · rw [if_pos (by simpa using h), if_pos h, List.length_cons]
  · rw [if_neg (by simpa using h), if_neg h]; rfl
theorem usd_ie : ∀ (ys : List Int) (m : Nat), Gf ys m (usB ys.length) = Vi ys (fun s => (ys.sum - s) ^ m)
  | [], 0 => rfl
  | [], m + 1 => by
    show (0 : Int) = (0 - 0) ^ (m + 1)
    rw [Int.sub_zero, Int.zero_pow (by omega)]
  | w :: ys, m => by
    rw [Gf_cons, sumN_shift]
    have e0 : Gf ys (m - 0) (fun c => usB (w :: ys).length (0 :: c)) = 0 := by
      have : Gf ys (m - 0) (fun c => usB (w :: ys).length (0 :: c)) = Gf ys (m - 0) (fun c => 0 * 0) := Gf_congr fun c hc _ => by
        have := usN_le c
        unfold usB
        rw [usN_cons, if_neg]
        · rfl
        simp only [List.length_cons]
        simp
        omega
      rw [this, Gf_mul]
      simp
    have e1 : ∀ o, Gf ys (m - (o + 1)) (fun c => usB (w :: ys).length ((o + 1) :: c)) = Gf ys (m - (o + 1)) (usB ys.length) := fun o => Gf_congr fun c hc _ => by
      unfold usB
      rw [usN_cons, if_pos (show 0 < o + 1 by omega), List.length_cons]
      by_cases h : usN c = ys.length
      · rw [if_pos h, if_pos (by omega)]
      · rw [if_neg h, if_neg (by omega)]
    rw [e0]
    have e2 : sumN (fun i => ((bin m (i + 1) : Nat) : Int) * w ^ (i + 1) * Gf ys (m - (i + 1)) (fun c => usB (w :: ys).length ((i + 1) :: c))) m = sumN (fun o => ((bin m o : Nat) : Int) * w ^ o * Gf ys (m - o) (usB ys.length)) (m + 1) - Gf ys m (usB ys.length) := by
      rw [sumN_shift (fun o => ((bin m o : Nat) : Int) * w ^ o * Gf ys (m - o) (usB ys.length)), sumN_congr fun i _ => by rw [e1 i]]
      simp [bin_zero]
      omega
    rw [e2]
    have e3 : sumN (fun o => ((bin m o : Nat) : Int) * w ^ o * Gf ys (m - o) (usB ys.length)) (m + 1) = Vi ys (fun s => ((w :: ys).sum - s) ^ m) := by
      rw [sumN_congr (g := fun o => Vi ys (fun s => ((bin m o : Nat) : Int) * w ^ o * (ys.sum - s) ^ (m - o))) fun o _ => by rw [usd_ie ys (m - o), Vi_mul], ← Vi_sumN]
      refine Vi_congr (fun s => ?_) ys
      rw [binom, List.sum_cons]
      congr 1
      omega
    rw [e3, usd_ie ys m]
    show _ = Vi ys (fun s => ((w :: ys).sum - s) ^ m) - Vi ys (fun s => ((w :: ys).sum - (s + w)) ^ m)
    rw [Vi_congr (h := fun s => ((w :: ys).sum - (s + w)) ^ m) (h' := fun s => (ys.sum - s) ^ m) fun s => by rw [List.sum_cons]; congr 1; omega]
    simp
/-- by masks -/
def inM (n mask : Nat) : List Nat := (List.range n).filter fun d => decide (mask / 2 ^ d % 2 = 1)
def sgM (n mask : Nat) : Int := if (inM n mask).length % 2 = 0 then 1 else -1
def wM (ys : List Int) (n mask : Nat) : Int := ((inM n mask).map fun d => ys.getD d 0).sum
theorem inM_low {n mask : Nat} (h : mask < 2 ^ n) : inM (n + 1) mask = inM n mask := by
  unfold inM
  rw [List.range_succ, List.filter_append, List.filter_cons, if_neg, List.filter_nil, List.append_nil]
  rw [Nat.div_eq_of_lt h]
  decide
theorem inM_high {n mask : Nat} (h : mask < 2 ^ n) : inM (n + 1) (2 ^ n + mask) = inM n mask ++ [n] := by
  unfold inM
  rw [List.range_succ, List.filter_append, List.filter_cons, if_pos, List.filter_nil]
  · congr 1
    refine List.filter_congr fun d hd => ?_
    have hd := List.mem_range.mp hd
    have e : 2 ^ n = 2 ^ d * (2 * 2 ^ (n - d - 1)) := by
      rw [← Nat.pow_succ', ← Nat.pow_add]
      congr 1
      omega
    rw [e, Nat.mul_add_div (Nat.two_pow_pos d)]
    congr 1
    rw [eq_iff_iff]
    omega
  · rw [Nat.add_comm, Nat.add_div_right _ (Nat.two_pow_pos n), Nat.div_eq_of_lt h]
    decide
theorem sumN_split (f : Nat → Int) (a : Nat) : ∀ b, sumN f (a + b) = sumN f a + sumN (fun i => f (a + i)) b
  | 0 => by simp [sumN]
  | b + 1 => by
    show sumN f (a + b) + f (a + b) = sumN f a + (sumN (fun i => f (a + i)) b + f (a + b))
    rw [sumN_split f a b]
    omega
theorem mask_sum (ys : List Int) : ∀ (n : Nat) (h : Int → Int), n ≤ ys.length → sumN (fun mask => sgM n mask * h (wM ys n mask)) (2 ^ n) = Vi (ys.take n) h
  | 0, h, _ => by
    show 0 + sgM 0 0 * h (wM ys 0 0) = _
    have e1 : sgM 0 0 = 1 := rfl
    have e2 : wM ys 0 0 = 0 := rfl
    rw [e1, e2, List.take_zero]
    show 0 + 1 * h 0 = h 0
    omega
  | n + 1, h, hn => by
    have hlt : n < ys.length := by omega
    rw [List.take_add_one, List.getElem?_eq_getElem hlt]
    show _ = Vi (ys.take n ++ [ys[n]]) h
    rw [Vi_snoc, Nat.pow_succ, Nat.mul_two, sumN_split, ← mask_sum ys n h (by omega), ← mask_sum ys n (fun s => h (s + ys[n])) (by omega)]
    have e1 : sumN (fun mask => sgM (n + 1) mask * h (wM ys (n + 1) mask)) (2 ^ n) = sumN (fun mask => sgM n mask * h (wM ys n mask)) (2 ^ n) := sumN_congr fun mask hm => by
      unfold sgM wM
      rw [inM_low hm]
    have e2 : sumN (fun i => sgM (n + 1) (2 ^ n + i) * h (wM ys (n + 1) (2 ^ n + i))) (2 ^ n) = -1 * sumN (fun mask => sgM n mask * h (wM ys n mask + ys[n])) (2 ^ n) := by
      rw [← sumN_mul]
      refine sumN_congr fun mask hm => ?_
      unfold sgM wM
      rw [inM_high hm, List.length_append, List.map_append, List.sum_append]
      have e3 : (List.map (fun d => ys.getD d 0) [n]).sum = ys[n] := by
        rw [List.map_cons, List.map_nil, List.sum_cons, List.sum_nil, List.getD_eq_getElem?_getD, List.getElem?_eq_getElem hlt]
        simp
      rw [e3]
      generalize h (((inM n mask).map fun d => ys.getD d 0).sum + ys[n]) = z
      generalize (inM n mask).length = k
      show (if (k + 1) % 2 = 0 then (1 : Int) else -1) * z = -1 * ((if k % 2 = 0 then (1 : Int) else -1) * z)
      by_cases hk : k % 2 = 0
      · rw [if_pos hk, if_neg (by omega)]; omega
      · rw [if_neg hk, if_pos (by omega)]; omega
    rw [e1, e2]
    omega
theorem alu_Vi (ys : List Int) (m : Nat) : alu ys m = ((Vi ys (fun s => (ys.sum - s) ^ m) : Int) : Rat) / ((ys.sum ^ m : Int) : Rat) := by
  unfold alu usd
  rw [uwF_gf, usd_ie]
theorem alu_mask {ys : List Int} (m : Nat) : alu ys m = ((sumN (fun mask => sgM ys.length mask * (ys.sum - wM ys ys.length mask) ^ m) (2 ^ ys.length) : Int) : Rat) / ((ys.sum ^ m : Int) : Rat) := by
  rw [alu_Vi, mask_sum ys ys.length (fun s => (ys.sum - s) ^ m) (Nat.le_refl _), List.take_length]
end
end Pg

namespace Pg
open PySem PySem.Spec PyProof.Rows L2 Sd
section
variable {P : Program} {w : World} {K : PySem.W.Frag} {mg : Str → Option Value} {base : Heap} {c : Cl}
theorem Gf_le {ys : List Int} {m : Nat} {f g : List Nat → Int} (hy : ∀ y ∈ ys, 0 ≤ y) (h : ∀ c, c.length = ys.length → c.sum = m → f c ≤ g c) : Gf ys m f ≤ Gf ys m g := by
  have e : Gf ys m g = Gf ys m f + Gf ys m (fun c => if f c ≤ g c then g c - f c else 0) := by
    rw [← Gf_add]
    exact Gf_congr fun c h1 h2 => by rw [if_pos (h c h1 h2)]; omega
  have : 0 ≤ Gf ys m (fun c => if f c ≤ g c then g c - f c else 0) := Gf_nonneg hy fun c => by split <;> omega
  omega
theorem usB_01 (k : Nat) (c : List Nat) : 0 ≤ usB k c ∧ usB k c ≤ 1 := by
  unfold usB
  split <;> decide
theorem gf_bd {ys : List Int} (hY : Yr ys) {m : Nat} (hm : m ≤ 12) {f : List Nat → Int} (h0 : ∀ c, 0 ≤ f c ∧ f c ≤ 1) : Sz 97 (Gf ys m f) := by
  have hy : ∀ y ∈ ys, 0 ≤ y := fun y h => by have := hY.it y h; omega
  have a1 := Gf_nonneg (ys := ys) (m := m) hy fun c => (h0 c).1
  have a2 : Gf ys m f ≤ ys.sum ^ m := by
    rw [← Gf_one ys m]
    exact Gf_le hy fun c _ _ => (h0 c).2
  have a3 : Sz 97 (ys.sum ^ m) := (hY.szW.pow m).mono (by omega)
  unfold Sz at *
  omega
theorem usd_eq (ys : List Int) (m k : Nat) : usd ys m k = ((Gf ys m (usB k) : Int) : Rat) / ((ys.sum ^ m : Int) : Rat) := by
  unfold usd
  rw [uwF_gf]
theorem usd_sq97 {ys : List Int} (hY : Yr ys) {m : Nat} (hm : m ≤ 12) (k : Nat) : Sq 97 (usd ys m k) := by
  rw [usd_eq]
  exact Sq.of_div (hY.posP m) (gf_bd hY hm (usB_01 k)) ((hY.szW.pow m).mono (by omega))
theorem divR_le {a b w : Int} (hw : 0 < w) (h : a ≤ b) : (a : Rat) / (w : Rat) ≤ (b : Rat) / (w : Rat) := by
  have h1 : (a : Rat) ≤ (b : Rat) := by exact_mod_cast h
  have h2 : (0 : Rat) < (w : Rat) := by exact_mod_cast hw
  rw [Rat.div_def, Rat.div_def]
  exact Rat.mul_le_mul_of_nonneg_right h1 (Rat.le_of_lt (Rat.inv_pos.mpr h2))
theorem inc_usN : ∀ (c : List Nat) (d : Nat), usN c ≤ usN (inc c d)
  | [], _ => Nat.le_refl _
  | a :: c, 0 => by
    show usN (a :: c) ≤ usN ((a + 1) :: c)
    rw [usN_cons, usN_cons, if_pos (show 0 < a + 1 by omega)]
    split <;> omega
  | a :: c, d + 1 => by
    show usN (a :: c) ≤ usN (a :: inc c d)
    have := inc_usN c d
    rw [usN_cons, usN_cons]
    omega
theorem alu_grow {ys : List Int} (hY : Yr ys) (m : Nat) : alu ys m ≤ alu ys (m + 1) := by
  have hy : ∀ y ∈ ys, 0 ≤ y := fun y h => by have := hY.it y h; omega
  have hs := hY.sum_lo
  have h1 : ys.sum * Gf ys m (usB ys.length) ≤ Gf ys (m + 1) (usB ys.length) := by
    rw [Gf_step, ← Gf_mul]
    refine Gf_le hy fun c hc _ => ?_
    unfold stF
    rw [← sumN_getD ys, Int.mul_comm, ← sumN_mul]
    refine sumN_le fun d hd => ?_
    rw [Int.mul_comm]
    refine Int.mul_le_mul_of_nonneg_left ?_ ?_
    · have h2 := inc_usN c d
      have h3 := usN_le (inc c d)
      rw [inc_len, hc] at h3
      unfold usB
      by_cases e : usN c = ys.length
      · rw [if_pos e, if_pos (by omega)]; decide
      · rw [if_neg e]; split <;> decide
    · rw [List.getD_eq_getElem?_getD, List.getElem?_eq_getElem hd]
      exact hy _ (List.getElem_mem hd)
  unfold alu
  rw [usd_eq, usd_eq]
  have e : ((Gf ys m (usB ys.length) : Int) : Rat) / ((ys.sum ^ m : Int) : Rat) = ((ys.sum * Gf ys m (usB ys.length) : Int) : Rat) / ((ys.sum ^ (m + 1) : Int) : Rat) := by
    have hp : ((ys.sum ^ m : Int) : Rat) ≠ 0 := by
      rw [Rat.intCast_pow]
      exact pow_ne (by exact_mod_cast (show ys.sum ≠ 0 by omega)) m
    have hw : (ys.sum : Rat) ≠ 0 := by exact_mod_cast (show ys.sum ≠ 0 by omega)
    rw [Int.pow_succ]
    generalize ys.sum ^ m = X at hp ⊢
    push_cast
    grind
  rw [e]
  exact divR_le (hY.posP (m + 1)) h1
theorem Gf_pt {ys : List Int} {m : Nat} {f : List Nat → Int} (hy : ∀ y ∈ ys, 0 < y) (hf : ∀ c, 0 ≤ f c) {c : List Nat} (hc : Kt ys m c) (h : 0 < f c) : 0 < Gf ys m f := by
  have h1 : Gf ys m (fun c' => f c * if c' = c then 1 else 0) ≤ Gf ys m f := Gf_le (fun y h => Int.le_of_lt (hy y h)) fun c' _ _ => by
    by_cases e : c' = c
    · rw [if_pos e, e]; omega
    · rw [if_neg e]
      have := hf c'
      omega
  rw [Gf_mul, Gf_plc hc] at h1
  have h2 : 0 < plcW ys c m := by
    have key : ∀ {ys : List Int} {k : List Nat} {m : Nat}, (∀ y ∈ ys, 0 < y) → Kt ys m k → 0 < plcW ys k m := fun {ys} => by
      induction ys with
      | nil =>
        intro k m _ h
        have hk : k = [] := List.eq_nil_of_length_eq_zero h.len
        subst hk
        exact Int.one_pos
      | cons y ys ih =>
        intro k m hy h
        cases k with
        | nil => have := h.len; simp at this
        | cons a k =>
          have hs := h.sum
          rw [List.sum_cons] at hs
          have := bin_pos (n := m) (k := a) (by omega)
          exact Int.mul_pos (Int.mul_pos (by omega) (Int.pow_pos (hy y (by simp)))) (ih (fun z hz => hy z (by simp [hz])) ⟨by simpa using h.len, by omega⟩)
    exact key hy hc
  have := Int.mul_pos h h2
  omega
theorem usN_sum : ∀ c : List Nat, usN c ≤ c.sum
  | [] => Nat.le_refl _
  | a :: c => by
    have := usN_sum c
    rw [usN_cons, List.sum_cons]
    split <;> omega
theorem usN_rep (n : Nat) : usN (List.replicate n 1) = n ∧ (List.replicate n 1).sum = n := by
  induction n with
  | zero => exact ⟨rfl, rfl⟩
  | succ n ih =>
    rw [List.replicate_succ, usN_cons, List.sum_cons, ih.1, ih.2]
    exact ⟨rfl, by omega⟩
theorem div_zero_iff {a w : Int} (hw : 0 < w) : ((a : Rat) / (w : Rat) = 0) ↔ a = 0 := by
  have hp : (w : Rat) ≠ 0 := by exact_mod_cast (show w ≠ 0 by omega)
  constructor
  · intro h
    have h2 : (a : Rat) / (w : Rat) * (w : Rat) = 0 * (w : Rat) := by rw [h]
    rw [Rat.div_mul_cancel hp, Rat.zero_mul] at h2
    exact_mod_cast h2
  · intro h
    rw [h, Rat.div_def]
    simp
theorem Gf_null {ys : List Int} {m : Nat} {f : List Nat → Int} (h : ∀ c, c.length = ys.length → c.sum = m → f c = 0) : Gf ys m f = 0 := by
  have : Gf ys m f = Gf ys m (fun c => 0 * 0) := Gf_congr fun c h1 h2 => by rw [h c h1 h2]; rfl
  rw [this, Gf_mul]
  simp
theorem alu_zero {ys : List Int} (hY : Yr ys) (m : Nat) : alu ys m = 0 ↔ m < ys.length := by
  have hlo := hY.lo
  unfold alu
  rw [usd_eq, div_zero_iff (hY.posP m)]
  constructor
  · intro h
    refine Nat.not_le.mp fun hm => ?_
    obtain ⟨n, hn⟩ : ∃ n, ys.length = n + 1 := ⟨ys.length - 1, by omega⟩
    have hr := usN_rep n
    have hc : Kt ys m ((m - n) :: List.replicate n 1) := ⟨by rw [List.length_cons, List.length_replicate, hn], by rw [List.sum_cons, hr.2]; omega⟩
    have := Gf_pt (fun y h => by have := hY.it y h; omega) (fun c => (usB_01 ys.length c).1) hc (by
      unfold usB
      rw [usN_cons, hr.1, if_pos (show 0 < m - n by omega), hn, if_pos rfl]
      decide)
    omega
  · intro h
    refine Gf_null fun c hc hs => ?_
    have := usN_sum c
    unfold usB
    rw [if_neg (by omega)]
theorem usB0_gf : ∀ (ys : List Int) (m : Nat), Gf ys m (usB 0) = if m = 0 then 1 else 0
  | ys, 0 => by
    rw [Gf_zero, if_pos rfl]
    unfold usB
    rw [if_pos]
    induction ys with
    | nil => rfl
    | cons y ys ih => rw [List.length_cons, List.replicate_succ, usN_cons, ih]; rfl
  | ys, m + 1 => by
    rw [if_neg (by omega)]
    refine Gf_null fun c _ hs => ?_
    unfold usB
    rw [if_neg]
    intro h
    have key : ∀ c : List Nat, usN c = 0 → c.sum = 0 := fun c => by
      induction c with
      | nil => intro _; rfl
      | cons a c ih =>
        intro h
        rw [usN_cons] at h
        by_cases ha : 0 < a
        · rw [if_pos ha] at h; omega
        · rw [List.sum_cons, ih (by omega)]; omega
    have := key c h
    omega
theorem usd_none {ys : List Int} (hY : Yr ys) (m : Nat) : usd ys m 0 = 1 ↔ m = 0 := by
  rw [usd_eq, usB0_gf]
  by_cases h : m = 0
  · subst h
    rw [if_pos rfl]
    refine ⟨fun _ => rfl, fun _ => ?_⟩
    rw [Int.pow_zero]
    decide +kernel
  · rw [if_neg h]
    refine ⟨fun z => ?_, fun z => absurd z h⟩
    rw [Rat.div_def] at z
    simp at z
theorem usB1_gf : ∀ (ys : List Int) (m : Nat), 0 < m → Gf ys m (usB 1) = (ys.map fun y => y ^ m).sum
  | [], 0, h => by omega
  | [], m + 1, _ => rfl
  | w :: ys, m, hm => by
    rw [Gf_cons, sumN_shift, List.map_cons, List.sum_cons]
    have e0 : Gf ys (m - 0) (fun c => usB 1 (0 :: c)) = (ys.map fun y => y ^ m).sum := by
      rw [← usB1_gf ys m hm]
      exact Gf_congr fun c _ _ => by unfold usB; rw [usN_cons]; rfl
    have e1 : ∀ o, o < m → Gf ys (m - (o + 1)) (fun c => usB 1 ((o + 1) :: c)) = if o = m - 1 then 1 else 0 := fun o ho => by
      have : Gf ys (m - (o + 1)) (fun c => usB 1 ((o + 1) :: c)) = Gf ys (m - (o + 1)) (usB 0) := Gf_congr fun c _ _ => by
        unfold usB
        rw [usN_cons, if_pos (show 0 < o + 1 by omega)]
        by_cases h : usN c = 0
        · rw [if_pos h, if_pos (by omega)]
        · rw [if_neg h, if_neg (by omega)]
      rw [this, usB0_gf]
      by_cases h : o = m - 1
      · rw [if_pos h, if_pos (by omega)]
      · rw [if_neg h, if_neg (by omega)]
    rw [e0, sumN_only (k := m - 1) (by omega) fun i hi hne => by rw [e1 i hi, if_neg hne]; simp, e1 (m - 1) (by omega), if_pos rfl, show m - 1 + 1 = m by omega, bin_self, bin_zero]
    simp
    omega
theorem usd_one (ys : List Int) (m : Nat) : usd ys m 1 = (((if 0 < m then (ys.map fun y => y ^ m).sum else 0 : Int)) : Rat) / ((ys.sum ^ m : Int) : Rat) := by
  rw [usd_eq]
  by_cases h : 0 < m
  · rw [if_pos h, usB1_gf ys m h]
  · rw [if_neg h]
    have : m = 0 := by omega
    subst this
    congr 2
    refine Gf_null fun c _ hs => ?_
    have := usN_sum c
    unfold usB
    rw [if_neg (by omega)]
theorem usN_all : ∀ c : List Nat, usN c = c.sum ↔ (c.all fun o => decide (o ≤ 1)) = true
  | [] => by simp [usN]
  | a :: c => by
    have ih := usN_all c
    have h1 := usN_sum c
    rw [usN_cons, List.sum_cons, List.all_cons, Bool.and_eq_true, ← ih, decide_eq_true_eq]
    split <;> omega
theorem usd_unl {ys : List Int} (m : Nat) : usd ys m m = unl ys m := by
  rw [usd_eq, unl_es, ← cwF_one]
  congr 2
  refine Gf_congr fun c _ hs => ?_
  have := usN_all c
  unfold usB alB
  by_cases h : (c.all fun o => decide (o ≤ 1)) = true
  · rw [if_pos h, if_pos (by rw [this.mpr h, hs])]
  · rw [if_neg h, if_neg (fun z => h (this.mp (by rw [z, hs])))]
end
end Pg

namespace Pg
open PySem PySem.Spec PyProof.Rows L2 Sd
section
variable {P : Program} {w : World} {K : PySem.W.Frag} {mg : Str → Option Value} {base : Heap} {c : Cl}
def Nm (W : Int) (l : List Int) (M : Nat) : Rat := Vs l (fun s => (W : Rat) / (s : Rat) * (((W - s : Int) : Rat) / (W : Rat)) ^ M)
theorem Us_nonneg : ∀ {l : List Int}, (∀ w ∈ l, 0 < w) → 0 ≤ Us l
  | [], _ => by
    show (0 : Rat) ≤ -(1 / ((0 : Int) : Rat))
    have : (1 : Rat) / ((0 : Int) : Rat) = 0 := by grind
    rw [this]
    decide
  | w :: l, h => by
    rw [Us_cons]
    have h1 := Us_nonneg fun v hv => h v (List.mem_cons_of_mem _ hv)
    have h2 := Ts_nonneg (l := l) (fun v hv => by have := h v (List.mem_cons_of_mem _ hv); omega) (h w List.mem_cons_self)
    grind
theorem Nm_zero (W : Int) (l : List Int) : Nm W l 0 = -((W : Rat) * Us l) := by
  have e : Nm W l 0 = Vs l (fun s => (W : Rat) * (1 / (s : Rat))) := Vs_congr (fun s => by rw [Rat.pow_zero]; grind) l
  rw [e, Vs_mul]
  unfold Us
  grind
theorem Nm_step {W : Int} (hW : (W : Rat) ≠ 0) (l : List Int) (M : Nat) : (W : Rat) * Nm W l (M + 1) = ((W : Rat) - ((l.sum : Int) : Rat)) * Nm W l M + esum (fun r => Nm W r M) l l.length := by
  unfold Nm
  rw [esum_Vs, ← Vs_mul, ← Vs_mul, ← Vs_addf]
  refine Vs_congr (fun s => ?_) l
  rw [pow_add1, Rat.intCast_sub]
  generalize (((W : Rat) - (s : Rat)) / (W : Rat)) ^ M = x
  generalize (W : Rat) / (s : Rat) = y
  grind
theorem sumTo_nonpos {f : Nat → Rat} : ∀ {n : Nat}, (∀ i, i < n → f i ≤ 0) → sumTo f n ≤ 0
  | 0, _ => Rat.le_refl
  | n + 1, h => by
    have h1 := sumTo_nonpos (n := n) fun i hi => h i (by omega)
    have h2 := h n (by omega)
    show sumTo f n + f n ≤ 0
    grind
theorem erase_sum : ∀ {l : List Int} {i : Nat} (h : i < l.length), l.sum = l.getD i 0 + (l.eraseIdx i).sum
  | w :: l, 0, _ => by simp
  | w :: l, i + 1, h => by
    have := erase_sum (l := l) (i := i) (by simpa using h)
    rw [List.eraseIdx_cons_succ, List.sum_cons, List.sum_cons, List.getD_cons_succ]
    omega
theorem Nm_nonpos {W : Int} (hW : 0 < W) : ∀ (M : Nat) (l : List Int), (∀ w ∈ l, 0 < w) → l.sum ≤ W → Nm W l M ≤ 0
  | 0, l, hl, _ => by
    rw [Nm_zero]
    have h1 := Us_nonneg hl
    have h2 : (0 : Rat) ≤ (W : Rat) := by exact_mod_cast (show (0 : Int) ≤ W by omega)
    have := Rat.mul_nonneg h2 h1
    grind
  | M + 1, l, hl, hs => by
    have hp : (0 : Rat) < (W : Rat) := by exact_mod_cast hW
    have hne : (W : Rat) ≠ 0 := fun z => by rw [z] at hp; exact absurd hp Rat.lt_irrefl
    have e := Nm_step hne l M
    have h1 := Nm_nonpos hW M l hl hs
    have h2 : (0 : Rat) ≤ (W : Rat) - ((l.sum : Int) : Rat) := by
      rw [← Rat.intCast_sub]
      exact_mod_cast (show (0 : Int) ≤ W - l.sum by omega)
    have h3 : ((W : Rat) - ((l.sum : Int) : Rat)) * Nm W l M ≤ 0 := by
      have := Rat.mul_nonneg h2 (show 0 ≤ -Nm W l M by grind)
      grind
    have h4 : esum (fun r => Nm W r M) l l.length ≤ 0 := sumTo_nonpos fun i hi => by
      have hg : l.getD i 0 ∈ l := by
        rw [List.getD_eq_getElem?_getD, List.getElem?_eq_getElem hi]
        exact List.getElem_mem hi
      have hw := hl _ hg
      have h5 := Nm_nonpos hW M (l.eraseIdx i) (fun v hv => hl v (List.mem_of_mem_eraseIdx hv)) (by have := erase_sum hi; omega)
      have h6 : (0 : Rat) ≤ ((l.getD i 0 : Int) : Rat) := by exact_mod_cast (show (0 : Int) ≤ l.getD i 0 by omega)
      have := Rat.mul_nonneg h6 (show 0 ≤ -Nm W (l.eraseIdx i) M by grind)
      show ((l.getD i 0 : Int) : Rat) * Nm W (l.eraseIdx i) M ≤ 0
      grind
    have h7 : (W : Rat) * Nm W l (M + 1) ≤ 0 := by rw [e]; grind
    refine Rat.not_lt.mp fun hc => ?_
    have := Rat.mul_pos hp hc
    exact absurd h7 (Rat.not_le.mpr this)
theorem Vs_drop (k : Int → Rat) : ∀ {l : List Int}, (∀ w ∈ l, 0 < w) → Vs l (fun s => if s = 0 then 0 else k s) = Vs l k - k 0
  | [], _ => by
    show (if (0 : Int) = 0 then (0 : Rat) else k 0) = k 0 - k 0
    rw [if_pos rfl]
    grind
  | w :: l, h => by
    have h1 := Vs_drop k fun v hv => h v (List.mem_cons_of_mem _ hv)
    have h2 := Vs_ne (l := l) (h := fun s => if s = 0 then 0 else k s) (h' := k) w (fun v hv => h v (List.mem_cons_of_mem _ hv)) (h w List.mem_cons_self) fun s hs => if_neg (by omega)
    show Vs l (fun s => if s = 0 then 0 else k s) - Vs l (fun s => if s + w = 0 then 0 else k (s + w)) = Vs l k - Vs l (fun s => k (s + w)) - k 0
    rw [h1, h2]
    grind
theorem Nm_diff {W : Int} (hW : (W : Rat) ≠ 0) {l : List Int} (hl : ∀ w ∈ l, 0 < w) (M : Nat) : Nm W l M - Nm W l (M + 1) = Vs l (fun s => (((W - s : Int) : Rat) / (W : Rat)) ^ M) - 1 := by
  have e1 : (1 : Rat) = (fun s : Int => (((W - s : Int) : Rat) / (W : Rat)) ^ M) 0 := by
    show (1 : Rat) = (((W - 0 : Int) : Rat) / (W : Rat)) ^ M
    rw [Int.sub_zero]
    have : (W : Rat) / (W : Rat) = 1 := by grind
    rw [this]
    have : ∀ n : Nat, (1 : Rat) ^ n = 1 := fun n => by
      induction n with
      | zero => exact Rat.pow_zero _
      | succ n ih => rw [pow_add1, ih]; grind
    rw [this]
  rw [e1]
  rw [← Vs_drop _ hl]
  unfold Nm
  rw [← Vs_subf]
  refine Vs_congr (fun s => ?_) l
  rw [pow_add1]
  by_cases hs : s = 0
  · rw [if_pos hs]
    subst hs
    have : (W : Rat) / ((0 : Int) : Rat) = 0 := by grind
    rw [this]
    grind
  · rw [if_neg hs]
    have hs' : (s : Rat) ≠ 0 := by exact_mod_cast hs
    rw [Rat.intCast_sub]
    generalize (((W : Rat) - (s : Rat)) / (W : Rat)) ^ M = x
    grind
theorem div_powR (x a : Rat) (ha : a ≠ 0) (n : Nat) : (x / a) ^ n = x ^ n / a ^ n := by
  have h := mul_powR (x / a) a n
  have e : x / a * a = x := by grind
  rw [e] at h
  have := pow_ne ha n
  rw [h]
  generalize (x / a) ^ n = y
  generalize a ^ n = z at *
  grind
theorem alu_Vs {ys : List Int} (hW : ys.sum ≠ 0) (m : Nat) : alu ys m = Vs ys (fun s => (((ys.sum - s : Int) : Rat) / (ys.sum : Rat)) ^ m) := by
  have hw : (ys.sum : Rat) ≠ 0 := by exact_mod_cast hW
  rw [alu_Vi, Vi_cast, Rat.div_def, Rat.mul_comm, ← Vs_mul]
  refine Vs_congr (fun s => ?_) ys
  rw [div_powR _ _ hw, Rat.intCast_pow, Rat.intCast_pow]
  generalize ((ys.sum - s : Int) : Rat) ^ m = x
  generalize (ys.sum : Rat) ^ m = z at *
  grind
def rst (ys : List Int) (n : Nat) : Rat := sumTo (fun m => 1 - alu ys m) n
theorem rst_Nm {ys : List Int} (hY : Yr ys) : ∀ n, rst ys n = Nm ys.sum ys n + mua ys
  | 0 => by
    rw [Nm_zero]
    show (0 : Rat) = _
    unfold mua
    grind
  | n + 1 => by
    have hs := hY.sum_lo
    have hd := Nm_diff (W := ys.sum) (by exact_mod_cast (show ys.sum ≠ 0 by omega)) (l := ys) (fun y h => by have := hY.it y h; omega) n
    rw [← alu_Vs (by omega)] at hd
    show rst ys n + (1 - alu ys n) = _
    rw [rst_Nm hY n]
    grind
theorem rst_le {ys : List Int} (hY : Yr ys) (n : Nat) : rst ys n ≤ mua ys := by
  have hs := hY.sum_lo
  have := Nm_nonpos (W := ys.sum) (by omega) n ys (fun y h => by have := hY.it y h; omega) (Int.le_refl _)
  rw [rst_Nm hY]
  grind
theorem rst_sq {ys : List Int} (hY : Yr ys) : ∀ n, n ≤ 13 → Sq (100 * n + 1) (rst ys n)
  | 0, _ => Sq.zero
  | n + 1, hn => ((rst_sq hY n (by omega)).add (Sq.one.sub (usd_sq97 hY (m := n) (by omega) ys.length))).mono (by omega)
theorem fr_sub (q : Rat) : PyData.tuple [.int ((q.den : Int) - q.num), .int (q.den : Int)] = fr (1 - q) := by
  have hd := den_pos q
  have hg : Int.gcd ((q.den : Int) - q.num) (q.den : Int) = 1 := by
    rw [Int.gcd_self_sub_left]
    exact q.reduced
  have h := fr_low ((q.den : Int) - q.num) (q.den : Int) hd
  rw [hg] at h
  simp only [Int.natCast_one, Int.ediv_one] at h
  have e : ((((q.den : Int) - q.num : Int) : Rat)) / ((q.den : Int) : Rat) = 1 - q := by
    have h1 := num_eq q
    have h2 := den_ne q
    rw [Rat.intCast_sub, h1]
    generalize ((q.den : Int) : Rat) = D at *
    grind
  rw [← e]
  exact h
def hrm (n k : Nat) : Rat := sumTo (fun i => ((n : Int) : Rat) / (((i : Nat) : Int) + 1 : Int)) k
theorem hrm_all : ∀ n, n ≤ 6 → 1 ≤ n → mua (List.replicate n 3) = hrm n n := by decide +kernel
theorem hrm_sq {n : Nat} (hn : n ≤ 8) : ∀ k, k ≤ n → Sq (10 * k + 1) (hrm n k)
  | 0, _ => Sq.zero
  | k + 1, hk => by
    have h1 : Sq 5 (((n : Int) : Rat) / (((k : Nat) : Int) + 1 : Int)) := Sq.of_div (by omega) (by unfold Sz; omega) (by unfold Sz; omega)
    exact ((hrm_sq hn k (by omega)).add h1).mono (by omega)
theorem mua_one {a : Int} (ha : 0 < a) : mua [a] = 1 := by
  have h : (a : Rat) ≠ 0 := by exact_mod_cast (show a ≠ 0 by omega)
  show (([a].sum : Int) : Rat) * -(1 / ((0 : Int) : Rat) - 1 / ((0 + a : Int) : Rat)) = 1
  have e : [a].sum = a := by simp
  rw [e, Int.zero_add]
  have : (1 : Rat) / ((0 : Int) : Rat) = 0 := by grind
  rw [this]
  grind
theorem mua_two {a b : Int} (ha : 0 < a) (hb : 0 < b) : mua [a, b] = ((a + b : Int) : Rat) / (a : Rat) + ((a + b : Int) : Rat) / (b : Rat) + (-1) := by
  have h1 : (a : Rat) ≠ 0 := by exact_mod_cast (show a ≠ 0 by omega)
  have h2 : (b : Rat) ≠ 0 := by exact_mod_cast (show b ≠ 0 by omega)
  have h3 : ((a + b : Int) : Rat) ≠ 0 := by exact_mod_cast (show a + b ≠ 0 by omega)
  show (([a, b].sum : Int) : Rat) * -((1 / ((0 : Int) : Rat) - 1 / ((0 + b : Int) : Rat)) - (1 / ((0 + a : Int) : Rat) - 1 / ((0 + b + a : Int) : Rat))) = _
  have e : [a, b].sum = a + b := by simp
  rw [e, Int.zero_add, Int.zero_add, Int.add_comm b a]
  have : (1 : Rat) / ((0 : Int) : Rat) = 0 := by grind
  rw [this]
  generalize ((a + b : Int) : Rat) = W at *
  grind
theorem nfaF_spec (ys : List Int) (q : Rat) : ∀ m s, (nfaF ys q s m = .none ∧ ∀ i, s ≤ i → i < s + m → alu ys i < q) ∨ (∃ k : Nat, nfaF ys q s m = .int ((k : Nat) : Int) ∧ s ≤ k ∧ k < s + m ∧ q ≤ alu ys k ∧ ∀ i, s ≤ i → i < k → alu ys i < q)
  | 0, s => .inl ⟨rfl, fun i h1 h2 => by omega⟩
  | m + 1, s => by
    unfold nfaF
    by_cases hc : q ≤ alu ys s
    · rw [if_pos hc]
      exact .inr ⟨s, rfl, Nat.le_refl _, by omega, hc, fun i h1 h2 => by omega⟩
    · rw [if_neg hc]
      rcases nfaF_spec ys q m (s + 1) with ⟨h1, h2⟩ | ⟨k, h1, h2, h3, h4, h5⟩
      · refine .inl ⟨h1, fun i h3 h4 => ?_⟩
        by_cases e : i = s
        · rw [e]; exact Rat.not_le.mp hc
        · exact h2 i (by omega) (by omega)
      · refine .inr ⟨k, h1, by omega, by omega, h4, fun i h6 h7 => ?_⟩
        by_cases e : i = s
        · rw [e]; exact Rat.not_le.mp hc
        · exact h5 i (by omega) (by omega)
end
end Pg

namespace Pg
open PySem PySem.Spec PyProof.Rows L2 Sd
section
variable {P : Program} {w : World} {K : PySem.W.Frag} {mg : Str → Option Value} {base : Heap} {c : Cl}
theorem rep_ints (z : Int) : ∀ n : Nat, (List.replicate n [PyData.int z]).flatten = (List.replicate n z).map PyData.int
  | 0 => rfl
  | n + 1 => by rw [List.replicate_succ, List.flatten_cons, rep_ints z n, List.replicate_succ, List.map_cons]; rfl
theorem rep_yr {n : Nat} (h1 : 1 ≤ n) (h2 : n ≤ 8) : Yr (List.replicate n (3 : Int)) := ⟨by simpa using h1, by simpa using h2, fun y hy => by
  have := (List.mem_replicate.mp hy).2
  omega⟩
def pre_law_harmonic : Pr := fun ss own post => ∃ (ys : List Int), ss = [.d (li ys), .d (.int (ys.length : Int))] ∧ own = [] ∧ Yr ys ∧ ys.length ≤ 6 ∧ post = fun o => o = .ret (.d (.bool true)) []
theorem fn_law_harmonic (T : Tx K mg c) : Fn K mg P w base "_law_harmonic" ["year", "size"] 6 pre_law_harmonic := T.d_law_harmonic.fn fun f fd F => okG (k := 5) F sc_law_harmonic (by rintro ss own post ⟨ys, rfl, _⟩; rfl) (by
  rintro ss own post ⟨ys, rfl, rfl, hY, hl6, rfl⟩ cdv A outer s H E B g
  have hlo := hY.lo
  have hlo : 1 ≤ ys.length := by omega
  refine sds_cons (sd_set 2 g.nd (s := .d (fr 0)) (ed_tup (ds := [.int 0, .int 1]) (ea_cons ed_int (ea_cons ed_int ea_nil))) ?_)
  refine sds_cons (sd_for g (it_range2 T.n_range ed_int (ed_add (ed_v 1) ed_int) ⟨by omega, by omega, by omega, by omega⟩) (fun i ρ own => own = [] ∧ ∃ t, ρ = [.d (li ys), .d (.int (ys.length : Int)), .d (fr (hrm ys.length i)), t, .un, .un]) ⟨rfl, _, rfl⟩ (fun _ _ _ _ => trivial) ?_ ?_)
  · rintro i y ρ1 own1 hyy ⟨rfl, t, rfl⟩
    obtain ⟨hi, rfl⟩ := rng_get hyy
    have hi : i < ys.length := by omega
    have h1 : Sq 5 (((ys.length : Int) : Rat) / (((i : Nat) : Int) + 1 : Int)) := Sq.of_div (by omega) (by unfold Sz; omega) (by unfold Sz; omega)
    have hz : Sz 4 (((i : Nat) : Int) + 1) := by unfold Sz; omega
    rw [show (1 : Int) + (i : Int) = ((i : Nat) : Int) + 1 by omega]
    refine ⟨_, _, gt_name 3 g.nd, ?_⟩
    exact sds_one (sd_set 2 g.nd (s := .d (fr (hrm ys.length (i + 1)))) (es_call (fn_law_add T) g (by decide) (ea_cons (ed_v 2) (ea_cons (es_call (fn_law_low T) g (by decide) (ea_cons (ed_v 1) (ea_cons (ed_v 3) ea_nil)) ⟨_, _, rfl, rfl, by omega, hz.mono (by decide), rfl⟩) ea_nil)) ⟨_, _, 10 * i + 1, 5, rfl, rfl, hrm_sq (by omega) i (by omega), h1, by omega, rfl⟩) ⟨rfl, _, rfl⟩)
  rintro ρ1 own1 ⟨rfl, t, rfl⟩
  rw [rng_length, show ((ys.length : Int) + 1 - 1).toNat = ys.length by omega]
  refine sds_cons (sd_ifF (ET.is (et_cmp (c_ne g .d .d (sh_fr _) (sh_fr _)) (es_call (fn_mean_until_all T) g (by decide) (ea_cons (ES.is (y := li (List.replicate ys.length 3)) (EL.ed (el_rep (ed_lst (ds := [.int 3]) (ea_cons ed_int ea_nil)) (ed_v 1) .d (by omega) (by simp))) (by rw [Int.toNat_natCast, rep_ints])) ea_nil) ⟨List.replicate ys.length 3, rfl, rfl, rep_yr hlo (by omega), rfl⟩) (ed_v 2)) (by rw [eqv_fr, hrm_all _ hl6 hlo]; simp)) ?_)
  obtain ⟨sh, hsh⟩ : ∃ sh : Rat, sh = ((1 : Int) : Rat) / ((2 : Int) : Rat) := ⟨_, rfl⟩
  have efr : PyData.tuple [.int 1, .int 2] = fr sh := by rw [hsh]; exact fr_mk (by decide) (by decide)
  have hshq : Sq 2 sh := by rw [hsh]; exact Sq.of_div (by decide) (by unfold Sz; decide) (by unfold Sz; decide)
  have hshr : Shr sh := by
    rw [hsh]
    constructor <;> decide +kernel
  refine sds_cons (sd_set 4 g.nd (s := .d (fr sh)) (ES.is (ed_tup (ds := [.int 1, .int 2]) (ea_cons ed_int (ea_cons ed_int ea_nil))) efr) ?_)
  refine sds_cons (sd_set 5 g.nd (s := .d (nfa ys sh)) (es_call (fn_needed_for_all T) g (by decide) (ea_cons (ed_v 0) (ea_cons (ed_v 4) ea_nil)) ⟨ys, sh, rfl, rfl, hY, hshr, hshq.mono (by decide), rfl⟩) ?_)
  have hsp := nfaF_spec ys sh 13 0
  rw [show nfaF ys sh 0 13 = nfa ys sh from rfl] at hsp
  have hq : ∀ m, m ≤ 12 → Sq 97 (alu ys m) := fun m hm => usd_sq97 hY hm ys.length
  rcases hsp with ⟨h1, h2⟩ | ⟨k, h1, _, h3, h4, h5⟩
  · rw [h1]
    refine sds_cons (sd_if (l := true) (ET.is (et_cmp c_isND (ed_v 5) ed_non) rfl) (fun _ => ?_) fun h => nomatch h)
    exact sds_one (sd_retD (ES.is (es_call (fn_law_less T) g (by decide) (ea_cons (es_call (fn_all_used T) g (by decide) (ea_cons (ed_v 0) (ea_cons ed_int ea_nil)) ⟨ys, 12, rfl, rfl, hY, by decide, rfl⟩) (ea_cons (ed_v 4) ea_nil)) ⟨_, _, 97, 2, rfl, rfl, hq 12 (by decide), hshq, by decide, rfl⟩) (by rw [decide_eq_true (h2 12 (by decide) (by decide))])) rfl)
  · rw [h1]
    refine sds_cons (sd_ifF (ET.is (et_cmp c_isND (ed_v 5) ed_non) rfl) ?_)
    refine sds_cons (sd_ifF (ET.is (et_val (es_call (fn_law_less T) g (by decide) (ea_cons (es_call (fn_all_used T) g (by decide) (ea_cons (ed_v 0) (ea_cons (ed_v 5) ea_nil)) ⟨ys, k, rfl, rfl, hY, by omega, rfl⟩) (ea_cons (ed_v 4) ea_nil)) ⟨_, _, 97, 2, rfl, rfl, hq k (by omega), hshq, by decide, rfl⟩)) (by rw [decide_eq_false (Rat.not_lt.mpr h4)])) ?_)
    refine sds_one (sd_retD (ES.is (ed_or (l := true) (ed_cmp c_eqI (ed_v 5) ed_int) fun h => ed_one ?_) (by simp)) rfl)
    have hk : k ≠ 0 := fun z => by
      subst z
      simp at h
    exact ES.is (es_call (fn_law_less T) g (by decide) (ea_cons (es_call (fn_all_used T) g (by decide) (ea_cons (ed_v 0) (ea_cons (ES.is (y := .int ((k - 1 : Nat) : Int)) (ed_sub (ed_v 5) ed_int) (by congr 1; omega)) ea_nil)) ⟨ys, k - 1, rfl, rfl, hY, by omega, rfl⟩) (ea_cons (ed_v 4) ea_nil)) ⟨_, _, 97, 2, rfl, rfl, hq (k - 1) (by omega), hshq, by decide, rfl⟩) (by rw [decide_eq_true (h5 (k - 1) (by omega) (by omega))]))
end
end Pg

namespace Pg
open PySem PySem.Spec PyProof.Rows L2 Sd
section
variable {P : Program} {w : World} {K : PySem.W.Frag} {mg : Str → Option Value} {base : Heap} {c : Cl}
def evN : List Str := ["script", "draws", "year", "size", "whole", "last", "rest", "many", "ways", "mask", "left", "sign", "own", "rows", "both", "day", "weight"]
def forB : Stmt → List Stmt
  | .For _ _ b _ _ => b
  | _ => []
abbrev bodyL : List Stmt := forB ((defBody s_law).getD 4 (.Pass ⟨0, 0, 0, 0⟩))
theorem inM_mem {n mask d : Nat} (h : d ∈ inM n mask) : d < n := List.mem_range.mp (List.mem_filter.mp h).1
theorem inM_len (n mask : Nat) : (inM n mask).length ≤ n := by
  unfold inM
  have := List.length_filter_le (fun d => decide (mask / 2 ^ d % 2 = 1)) (List.range n)
  rwa [List.length_range] at this
theorem wM_sz {ys : List Int} (hY : Yr ys) (mask : Nat) : Sz 8 (ys.sum - wM ys ys.length mask) := by
  have hl := inM_len ys.length mask
  have hy : ∀ y ∈ (inM ys.length mask).map fun d => ys.getD d 0, 0 ≤ y ∧ y ≤ 20 := fun y hy => by
    obtain ⟨d, hd, rfl⟩ := List.mem_map.mp hy
    have hd := inM_mem hd
    rw [List.getD_eq_getElem?_getD, List.getElem?_eq_getElem hd]
    have := hY.it _ (List.getElem_mem hd)
    show 0 ≤ ys[d] ∧ ys[d] ≤ 20
    omega
  have h1 := sum_le_mul (b := 20) fun y h => (hy y h).2
  have h2 := sum_ge_mul (b := 0) fun y h => (hy y h).1
  have h3 := hY.sum_lo
  have h4 := hY.sum_hi
  have h5 := hY.hi
  rw [List.length_map] at h1
  unfold Sz wM
  omega
theorem law_in (T : Tx K mg c) {f : Addr} {cdv : Value} {A : Around} {outer : List Env} {s : Shared} {H : Hp} {E : XK} {B : Bs} {ex : Addr → List Slot → Own → Prop} (g : Gd (ctxOf P w K mg base evN "law" s_law f cdv A outer s H E B ex) 6)
    {ys : List Int} (hY : Yr ys) (hl6 : ys.length ≤ 6) {m : Nat} (hm : m ≤ 12) {s0 s1 s5 s6 s9 s10 s11 s12 s13 : Slot} {own0 : Own} {D : DE}
    (h : ∀ t9 t10 t11, D.nx [s0, s1, .d (li ys), .d (.int (ys.length : Int)), .d (.int ys.sum), s5, s6, .d (.int (m : Int)), .d (.int (sumN (fun mask => sgM ys.length mask * (ys.sum - wM ys ys.length mask) ^ m) (2 ^ ys.length))), t9, t10, t11, s12, s13, .un, .un, .un] own0) :
    SD (ctxOf P w K mg base evN "law" s_law f cdv A outer s H E B ex) (bodyL.getD 1 (.Pass ⟨0, 0, 0, 0⟩)) D [s0, s1, .d (li ys), .d (.int (ys.length : Int)), .d (.int ys.sum), s5, s6, .d (.int (m : Int)), .d (.int 0), s9, s10, s11, s12, s13, .un, .un, .un] own0 := by
  have h64 : 2 ^ ys.length ≤ 2 ^ 6 := Nat.pow_le_pow_right (by decide) hl6
  have hp2 : (((2 ^ ys.length : Nat)) : Int) = (2 : Int) ^ ys.length := by push_cast; rfl
  refine sd_for g (it_range1 T.n_range (ES.is (y := .int ((2 ^ ys.length : Nat) : Int)) (es_call (fn_law_power T) g (by decide) (ea_cons ed_int (ea_cons (ed_v 3) ea_nil)) ⟨2, ys.length, 2, rfl, rfl, by unfold Sz; decide, by omega, by decide, rfl⟩) (by rw [hp2])) ⟨Int.le_trans (by decide) (Int.natCast_nonneg _), Int.le_trans (Int.ofNat_le.mpr h64) (by decide)⟩) (fun i ρ own => own = own0 ∧ ∃ t9 t10 t11, ρ = [s0, s1, .d (li ys), .d (.int (ys.length : Int)), .d (.int ys.sum), s5, s6, .d (.int (m : Int)), .d (.int (sumN (fun mask => sgM ys.length mask * (ys.sum - wM ys ys.length mask) ^ m) i)), t9, t10, t11, s12, s13, .un, .un, .un]) ⟨rfl, _, _, _, rfl⟩ (fun _ _ _ _ => trivial) ?_ ?_
  · rintro i y ρ1 own1 hyy ⟨rfl, t9, t10, t11, rfl⟩
    obtain ⟨hi, rfl⟩ := rng_get hyy
    have hi : i < 2 ^ ys.length := by omega
    rw [show (0 : Int) + (i : Int) = (i : Int) by omega]
    have hn := inM_len ys.length i
    refine ⟨_, _, gt_name 9 g.nd, ?_⟩
    refine sds_cons (sd_setC 10 g (compP g (it_range1 T.n_range (ed_v 3) ⟨by omega, by omega⟩) [("day", 15)] (blkOk_by (N := evN) (sc := defScope s_law) (by decide +kernel)) (List.range ys.length) (fun (d : Nat) => PyData.int ((d : Nat) : Int)) (rng_nat (by omega)) (fun d => if decide (i / 2 ^ d % 2 = 1) = true then some (.int ((d : Nat) : Int)) else none) (fun d => [s0, s1, .d (li ys), .d (.int (ys.length : Int)), .d (.int ys.sum), s5, s6, .d (.int (m : Int)), .d (.int (sumN (fun mask => sgM ys.length mask * (ys.sum - wM ys ys.length mask) ^ m) i)), .d (.int (i : Int)), t10, t11, s12, s13, .un, .d (.int ((d : Nat) : Int)), .un]) [15] (by simp) (by simp; omega) (fun _ _ => trivial)
      (fun d _ s H C cl fp g' => gt_name 15 g'.nd) (fun d hd s H C cl fp o g' => ets_one ?_) (fun d hd x hx s H C cl fp o g' => ?_)) ?_ (sw_true rfl rfl rfl (by decide +kernel)))
    · have hd := List.mem_range.mp hd
      have hpd : 2 ^ d ≤ 2 ^ 6 := Nat.pow_le_pow_right (by decide) (by omega)
      have hp1 := Nat.two_pow_pos d
      have hpc : ((2 : Int) ^ d) = ((2 ^ d : Nat) : Int) := by push_cast; rfl
      refine ET.is (et_cmp c_eqI (ed_mod (ed_fdivS (ed_v 9) (ES.is (y := .int ((2 ^ d : Nat) : Int)) (es_call (fn_law_power T) g' (by decide) (ea_cons ed_int (ea_cons (ed_v 15) ea_nil)) ⟨2, d, 2, rfl, rfl, by unfold Sz; decide, by omega, by decide, rfl⟩) (by rw [hpc])) ⟨by omega, by omega⟩) ed_int (by decide)) ed_int) ?_
      rw [show (i : Int) / ((2 ^ d : Nat) : Int) = ((i / 2 ^ d : Nat) : Int) by push_cast; rfl]
      by_cases h : i / 2 ^ d % 2 = 1
      · rw [if_pos (decide_eq_true h), decide_eq_true (by omega)]; rfl
      · rw [if_neg (by simpa using h), decide_eq_false (by omega)]; rfl
    · split at hx
      · cases hx; exact ed_v 15
      · cases hx
    rintro p ds o ⟨rfl, rfl⟩
    refine sds_freeze 10 (oa := []) rfl ?_
    rw [fm_if (fun d => decide (i / 2 ^ d % 2 = 1)) (fun (d : Nat) => PyData.int ((d : Nat) : Int)), show ((List.range ys.length).filter fun d => decide (i / 2 ^ d % 2 = 1)) = inM ys.length i from rfl]
    refine sds_cons (sd_set 11 g.nd (s := .d (.int (sgM ys.length i))) (es_if (et_cmp c_eqI (ed_mod (ES.is (y := .int (((inM ys.length i).length : Nat) : Int)) (ed_len T.n_len (ed_v 10) .d) (by rw [List.length_map])) ed_int (by decide)) ed_int) (fun h => ES.is ed_int ?_) fun h => ES.is (ed_sub ed_int ed_int) ?_) ?_)
    · have h := of_decide_eq_true h
      unfold sgM
      rw [if_pos (by omega)]
    · have h := of_decide_eq_false h
      unfold sgM
      rw [if_neg (by omega)]
      rfl
    obtain ⟨S, hS⟩ : ∃ S, S = sumN (fun mask => sgM ys.length mask * (ys.sum - wM ys ys.length mask) ^ m) i := ⟨_, rfl⟩
    have hsg : Sz 1 (sgM ys.length i) := by
      unfold sgM Sz
      split <;> decide
    have hwz := wM_sz hY i
    have hpz : Sz 97 ((ys.sum - wM ys ys.length i) ^ m) := (hwz.pow m).mono (by omega)
    rw [← hS]
    refine sds_one (sd_set 8 g.nd (s := .d (.int (S + sgM ys.length i * (ys.sum - wM ys ys.length i) ^ m))) (ed_add (ed_v 8) (ed_mul (ed_v 11) (es_call (fn_law_power T) g (by decide) (ea_cons (ed_sub (ed_v 4) (ES.is (y := .int (wM ys ys.length i)) (ed_sum (ns := (inM ys.length i).map fun d => ys.getD d 0) g T.n_sum (EL.ed (EL.is (el_comp g (compP g (it_list (ed_v 10)) [("day", 15)] (blkOk_by (N := evN) (sc := defScope s_law) (by decide +kernel)) (inM ys.length i) (fun (d : Nat) => PyData.int ((d : Nat) : Int)) rfl (fun d => some (.int (ys.getD d 0))) (fun d => [s0, s1, .d (li ys), .d (.int (ys.length : Int)), .d (.int ys.sum), s5, s6, .d (.int (m : Int)), .d (.int S), .d (.int (i : Int)), .d (.list ((inM ys.length i).map fun (d : Nat) => PyData.int ((d : Nat) : Int))), .d (.int (sgM ys.length i)), s12, s13, .un, .d (.int ((d : Nat) : Int)), .un]) [15] (by simp) (by omega) (fun _ _ => trivial)
      (fun d _ s H C cl fp g' => gt_name 15 g'.nd) (fun d hd s H C cl fp o g' => ets_nil) (fun d hd x hx s H C cl fp o g' => ?_))) (by rw [List.map_map]; exact congrFun List.filterMap_eq_map' _))) .d) rfl)) (ea_cons (ed_v 7) ea_nil)) ⟨_, m, 8, rfl, rfl, hwz, by omega, by decide, rfl⟩) (cmul_of hsg hpz (by decide)))) ?_)
    · cases hx
      have hd := inM_mem hd
      exact ed_ixL (ed_v 2) (ed_v 15) .d (getI (by rw [List.getD_eq_getElem?_getD, List.getElem?_eq_getElem hd]; rfl))
    · exact ⟨rfl, _, _, _, by rw [hS]; rfl⟩
  · rintro ρ1 own1 ⟨rfl, t9, t10, t11, rfl⟩
    rw [rng_length, Int.toNat_natCast]
    exact h t9 t10 t11
end
end Pg

namespace Pg
open PySem PySem.Spec PyProof.Rows L2 Sd
section
variable {P : Program} {w : World} {K : PySem.W.Frag} {mg : Str → Option Value} {base : Heap} {c : Cl}
def pre_law_start (K : PySem.W.Frag) : Pr := fun ss own post => ∃ (a : Addr) (ns : List Int), ss = [.raw (.ref a)] ∧ ScrAt K own a ns ∧ post = fun o => ∃ d n cells, cells ≠ [] ∧ o = .ret (.raw (.ref d)) (drw d n cells 0 ++ own)
theorem fn_law_start (T : Tx K mg c) : Fn K mg P w base "_law_start" ["script"] 1 (pre_law_start K) := T.d_law_start.fn fun f fd F => okG (k := 0) F sc_law_start (by rintro ss own post ⟨a, ns, rfl, _⟩; rfl) (by
  rintro ss own post ⟨a, ns, rfl, hs, rfl⟩ cdv A outer s H E B g
  refine sds_one (sd_retG (eg_lst2 (P := fun v o => ∃ n, v = .ref n ∧ o = (n, .lst ((if ns = [] then [0] else ns).map PyData.int)) :: own) (EL.toEG (el_if (et_cmp (c_neScr g hs) (ev_v 0) (ed_lst (ds := []) ea_nil)) (fun h => EL.is (el_listScr T.n_list (ev_v 0) hs) ?_) fun h => EL.is (el_lst (ds := [.int 0]) (ea_cons ed_int ea_nil)) ?_) fun p => ⟨_, rfl, p, rfl, rfl⟩) fun v o _ => ed_int) ?_)
  · rw [if_neg (by simpa using h)]
  · rw [if_pos (by simpa using h)]
    rfl
  · rintro t o ⟨q, v, o', rfl, rfl, n, rfl, rfl⟩
    exact ⟨q, n, if ns = [] then [0] else ns, by split <;> simp_all, rfl⟩)
end
end Pg

namespace Pg
open PySem PySem.Spec PyProof.Rows L2 Sd
section
variable {P : Program} {w : World} {K : PySem.W.Frag} {mg : Str → Option Value} {base : Heap} {c : Cl}
def pre_law_draw : Pr := fun ss own post => ∃ (d n : Addr) (cells : List Int) (cnt limit : Int), ss = [.raw (.ref d), .d (.int limit)] ∧ own = drw d n cells cnt ∧ cells ≠ [] ∧ 0 < limit ∧ limit < 1073741824 ∧
  post = fun o => ∃ r cells' cnt', 0 ≤ r ∧ r < limit ∧ cells' ≠ [] ∧ o = .ret (.d (.int r)) (drw d n cells' cnt')
theorem fn_law_draw (T : Tx K mg c) : Fn K mg P w base "_law_draw" ["draws", "limit"] 1 pre_law_draw := T.d_law_draw.fn fun f fd F => okG (k := 0) F sc_law_draw (by rintro ss own post ⟨d, n, cells, cnt, limit, rfl, _⟩; rfl) (by
  rintro ss own post ⟨d, n, cells, cnt, limit, rfl, rfl, hc, hl, hl2, rfl⟩ cdv A outer s H E B g
  unfold drw
  have hpos : (0 : Int) < cells.length := by
    have := List.length_pos_iff.mpr hc
    omega
  refine sds_cons (sd_set 2 g.nd (es_ixR (s := .raw (.ref n)) (q := d) (vs := [.ref n, .int cnt]) (by simp) (ev_v 0) ed_int rfl fun _ => rfl) ?_)
  refine sds_cons (sd_setitemR (oa := []) (q := d) (vs := [.ref n, .int cnt]) (n := 1) (v := .int (cnt + 1)) (ed_add (es_ixR (s := .d (.int cnt)) (q := d) (vs := [.ref n, .int cnt]) (by simp) (ev_v 0) ed_int rfl fun _ => Rep.int _) ed_int) (fun _ _ h => by cases h; rfl) (ev_v 0) ed_int rfl ?_)
  have eset : ([.ref n, .int cnt] : List V).set 1 (.int (cnt + 1)) = [.ref n, .int (cnt + 1)] := rfl
  rw [eset]
  refine sds_cons (sd_set 3 g.nd (ed_mod (es_ixR (s := .d (.int (cnt + 1))) (q := d) (vs := [.ref n, .int (cnt + 1)]) (by simp) (ev_v 0) ed_int rfl fun _ => Rep.int _) (ed_len (ds := cells.map PyData.int) T.n_len (ev_v 2) (Lst.o (by simp))) (by rw [List.length_map]; exact hpos)) ?_)
  rw [List.length_map]
  have h1 := Int.emod_nonneg (cnt + 1) (Int.ne_of_gt hpos)
  have h2 := Int.emod_lt_of_pos (cnt + 1) hpos
  obtain ⟨j, hj⟩ : ∃ j : Nat, (cnt + 1) % (cells.length : Int) = (j : Int) := ⟨((cnt + 1) % (cells.length : Int)).toNat, by omega⟩
  rw [hj]
  have hjl : j < cells.length := by omega
  have hat : (cells.map PyData.int)[j]? = some (.int cells[j]) := by
    rw [List.getElem?_map, List.getElem?_eq_getElem hjl]
    rfl
  have hix : ixN (cells.map PyData.int).length (j : Int) = some j := by
    unfold ixN
    rw [if_pos (by omega), if_pos (by rw [List.length_map]; omega)]
    simp
  refine sds_cons (sd_set 4 g.nd (ed_ixL (ds := cells.map PyData.int) (ev_v 2) (ed_v 3) (Lst.o (by simp)) (atI_ixN hix hat)) ?_)
  refine sds_cons (sd_if (et_cmp c_ge (ed_v 4) ed_int) (fun h => ?_) fun h => ?_)
  · refine sds_cons (sd_setitem (oa := [_]) (p := n) (n := j) (ed_fdivS (ed_v 4) (ed_v 1) ⟨hl, hl2⟩) (ev_v 2) (ed_v 3) hix ?_)
    refine sds_one (sd_retD (ed_mod (ed_v 4) (ed_v 1) hl) ?_)
    refine ⟨cells[j] % limit, cells.set j (cells[j] / limit), cnt + 1, Int.emod_nonneg _ (Int.ne_of_gt hl), Int.emod_lt_of_pos _ hl, fun z => hc (by simpa using z), ?_⟩
    rw [List.map_set]
    rfl
  · refine sds_nil ?_
    have m1 := fun x : Int => Int.emod_nonneg x (show (4294967291 : Int) ≠ 0 by decide)
    have m2 := fun x : Int => Int.emod_lt_of_pos x (show (0 : Int) < 4294967291 by decide)
    have m3 := fun x : Int => Int.emod_nonneg x (show (4294967279 : Int) ≠ 0 by decide)
    have m4 := fun x : Int => Int.emod_lt_of_pos x (show (0 : Int) < 4294967279 by decide)
    refine sds_cons (sd_set 5 g.nd (ed_mod (ed_add (ed_v 4) (ed_mulS ed_int (es_ixR (s := .d (.int (cnt + 1))) (q := d) (vs := [.ref n, .int (cnt + 1)]) (by simp) (ev_v 0) ed_int rfl fun _ => Rep.int _) (.inl ⟨by decide, by decide⟩))) ed_int (by decide)) ?_)
    refine sds_cons (sd_set 5 g.nd (ed_mod (ed_pow (ed_v 5) ed_int ⟨by decide, by decide, ?_⟩) ed_int (by decide)) ?_)
    · have a1 := m1 (cells[j] + 104729 * (cnt + 1))
      have a2 := m2 (cells[j] + 104729 * (cnt + 1))
      generalize (cells[j] + 104729 * (cnt + 1)) % 4294967291 = x at a1 a2
      show x.natAbs < 2 ^ 64
      omega
    · refine sds_one (sd_retD (ed_mod (ed_fdivS (ed_mod (ed_add (ed_mulS (ed_fdivS (ed_v 5) ed_int ⟨by decide, by decide⟩) ed_int (.inr ⟨by decide, by decide⟩)) (ed_v 5)) ed_int (by decide)) ed_int ⟨by decide, by decide⟩) (ed_v 1) hl) ?_)
      exact ⟨_, cells, cnt + 1, Int.emod_nonneg _ (Int.ne_of_gt hl), Int.emod_lt_of_pos _ hl, hc, rfl⟩)
end
end Pg

namespace Pg
open PySem PySem.Spec PyProof.Rows L2 Sd
section
variable {P : Program} {w : World} {K : PySem.W.Frag} {mg : Str → Option Value} {base : Heap} {c : Cl}
def pre_law_pick : Pr := fun ss own post => ∃ (d n : Addr) (cells : List Int) (cnt : Int) (ds : List PyData), ss = [.raw (.ref d), .d (.list ds)] ∧ own = drw d n cells cnt ∧ cells ≠ [] ∧ ds ≠ [] ∧ ds.length ≤ 1000000 ∧
  post = fun o => ∃ x cells' cnt', x ∈ ds ∧ cells' ≠ [] ∧ o = .ret (.d x) (drw d n cells' cnt')
theorem fn_law_pick (T : Tx K mg c) : Fn K mg P w base "_law_pick" ["draws", "choices"] 2 pre_law_pick := T.d_law_pick.fn fun f fd F => okG (k := 1) F sc_law_pick (by rintro ss own post ⟨d, n, cells, cnt, ds, rfl, _⟩; rfl) (by
  rintro ss own post ⟨d, n, cells, cnt, ds, rfl, rfl, hc, hd, hl, rfl⟩ cdv A outer s H E B g
  have hpos : 0 < ds.length := List.length_pos_iff.mpr hd
  refine sds_one (sd_retG (eg_ixL (P := fun i o => ∃ cells' cnt', 0 ≤ i ∧ i < (ds.length : Int) ∧ cells' ≠ [] ∧ o = drw d n cells' cnt') (R := fun t o => ∃ x cells' cnt', x ∈ ds ∧ cells' ≠ [] ∧ t = .d x ∧ o = drw d n cells' cnt') (ed_v 1) (eg_call (oa := []) (o1 := drw d n cells cnt) (ob := []) (fn_law_draw T) g (by decide) (ea_cons (ev_v 0) (ea_cons (ed_len T.n_len (ed_v 1) .d) ea_nil)) ⟨d, n, cells, cnt, _, rfl, rfl, hc, by omega, by omega, rfl⟩ ?_ ?_) ?_) ?_)
  · rintro t o1 ⟨r, cells', cnt', h0, h1, h2, e⟩
    cases e
    exact ⟨r, rfl, cells', cnt', h0, h1, h2, by simp⟩
  · rintro C o1 ⟨r, cells', cnt', h0, h1, h2, e⟩
    cases e
  · rintro i o ⟨cells', cnt', h0, h1, h2, rfl⟩
    obtain ⟨j, rfl⟩ : ∃ j : Nat, i = (j : Int) := ⟨i.toNat, by omega⟩
    have hj : j < ds.length := by omega
    exact ⟨ds[j], atI_nat (List.getElem?_eq_getElem hj), ds[j], cells', cnt', List.getElem_mem hj, h2, rfl, rfl⟩
  · rintro t o ⟨x, cells', cnt', h1, h2, rfl, rfl⟩
    exact ⟨x, cells', cnt', h1, h2, rfl⟩)
end
end Pg

namespace Pg
open PySem PySem.Spec PyProof.Rows L2 Sd
section
variable {P : Program} {w : World} {K : PySem.W.Frag} {mg : Str → Option Value} {base : Heap} {c : Cl}
def pre_law_year : Pr := fun ss own post => ∃ (d n : Addr) (cells : List Int) (cnt most : Int), ss = [.raw (.ref d), .d (.int most)] ∧ own = drw d n cells cnt ∧ cells ≠ [] ∧ 1 ≤ most ∧ most ≤ 8 ∧
  post = fun o => ∃ p ys cells' cnt', Yr ys ∧ (ys.length : Int) ≤ most ∧ cells' ≠ [] ∧ o = .ret (.raw (.ref p)) ((p, .lst (ys.map PyData.int)) :: drw d n cells' cnt')
theorem fn_law_year (T : Tx K mg c) : Fn K mg P w base "_law_year" ["draws", "most"] 3 pre_law_year := T.d_law_year.fn fun f fd F => okG (k := 2) F sc_law_year (by rintro ss own post ⟨d, n, cells, cnt, most, rfl, _⟩; rfl) (by
  rintro ss own post ⟨d, n, cells, cnt, most, rfl, rfl, hc, hm1, hm8, rfl⟩ cdv A outer s H E B g
  refine sds_cons (sd_setG 2 g.nd (R := fun t o => ∃ wd cells' cnt', (1 ≤ wd ∧ wd ≤ 20) ∧ cells' ≠ [] ∧ t = .d (.int wd) ∧ o = drw d n cells' cnt') (eg_call (oa := []) (o1 := drw d n cells cnt) (ob := []) (fn_law_pick T) g (by decide) (ea_cons (ev_v 0) (ea_cons (ed_lst (ds := [.int 1, .int 3, .int 20]) (ea_cons ed_int (ea_cons ed_int (ea_cons ed_int ea_nil)))) ea_nil)) ⟨d, n, cells, cnt, _, rfl, rfl, hc, by simp, by simp, rfl⟩ ?_ ?_) ?_)
  · rintro t o1 ⟨x, cells', cnt', h1, h2, e⟩
    cases e
    simp only [List.mem_cons, List.not_mem_nil, or_false] at h1
    rcases h1 with rfl | rfl | rfl
    · exact ⟨1, cells', cnt', by decide, h2, rfl, by simp⟩
    · exact ⟨3, cells', cnt', by decide, h2, rfl, by simp⟩
    · exact ⟨20, cells', cnt', by decide, h2, rfl, by simp⟩
  · rintro C o1 ⟨x, cells', cnt', h1, h2, e⟩
    cases e
  rintro t o ⟨wd, cells', cnt', hw, hc', rfl, rfl⟩
  refine sds_one (sd_retG (eg_comp g (compG g (itg_range1 (P := fun i o => (1 ≤ i ∧ i ≤ most) ∧ ∃ cells' cnt', cells' ≠ [] ∧ o = drw d n cells' cnt') T.n_range (EG.imp (eg_add (P := fun j o => (0 ≤ j ∧ j < most) ∧ ∃ cells' cnt', cells' ≠ [] ∧ o = drw d n cells' cnt') ed_int (eg_call (oa := []) (o1 := drw d n cells' cnt') (ob := []) (fn_law_draw T) g (by decide) (ea_cons (ev_v 0) (ea_cons (ed_v 1) ea_nil)) ⟨d, n, cells', cnt', _, rfl, rfl, hc', by omega, by omega, rfl⟩ ?_ ?_)) ?_)) [("k", 3)] (blkOk_by (N := ["draws", "most", "wide", "k"]) (sc := defScope s_law_year) (by decide +kernel))
    (fun ys i acc o => ∃ m : Int, (1 ≤ m ∧ m ≤ most) ∧ ys.length = m.toNat ∧ (∃ vs : List Int, acc = vs.map PyData.int ∧ vs.length = i ∧ ∀ v ∈ vs, 1 ≤ v ∧ v ≤ 20) ∧ i ≤ ys.length ∧ ∃ cells' cnt', cells' ≠ [] ∧ o = drw d n cells' cnt') ?_ ?_ ?_)) ?_)
  · rintro t o1 ⟨r, cells'', cnt'', h0, h1, h2, e⟩
    cases e
    exact ⟨r, rfl, ⟨h0, h1⟩, cells'', cnt'', h2, by simp⟩
  · rintro C o1 ⟨r, cells'', cnt'', h0, h1, h2, e⟩
    cases e
  · rintro t o ⟨j, rfl, hj, cells'', cnt'', h2, rfl⟩
    exact ⟨1 + j, rfl, by omega, by omega, cells'', cnt'', h2, rfl⟩
  · rintro ys o ⟨i, rfl, hi, cells'', cnt'', h2, rfl⟩
    exact ⟨i, hi, rng_length _ _, ⟨[], rfl, rfl, by simp⟩, Nat.zero_le _, cells'', cnt'', h2, rfl⟩
  · rintro ys i acc o ⟨m, hm, hl, ⟨vs, rfl, hv, _⟩, hi, _⟩
    rw [List.length_map]
    omega
  · rintro ys i y acc o D hy ⟨m, hm, hl, ⟨vs, rfl, hv, hvs⟩, hi, cells'', cnt'', h2, rfl⟩
    have hlt : i < ys.length := (List.getElem?_eq_some_iff.mp hy).1
    refine ⟨_, _, true, ?_, fun s H C cl fp => gt_name 3 g.nd, fun s H C cl fp => ets_nil, fun _ s H C cl fp => ?_, fun h => nomatch h⟩
    · intro i hi
      simpa using hi
    · refine EG.imp (eg_add (P := fun j o => (0 ≤ j ∧ j < wd) ∧ ∃ cells' cnt', cells' ≠ [] ∧ o = (D, .lst (vs.map PyData.int)) :: drw d n cells' cnt') ed_int (eg_call (oa := [(D, .lst (vs.map PyData.int))]) (o1 := drw d n cells'' cnt'') (ob := []) (fn_law_draw T) (g.blk ..) (by decide) (ea_cons (ev_v 0) (ea_cons (ed_v 2) ea_nil)) ⟨d, n, cells'', cnt'', _, rfl, rfl, h2, by omega, by omega, rfl⟩ ?_ ?_)) ?_
      · rintro t o1 ⟨r, cells3, cnt3, h0, h1, h2, e⟩
        cases e
        exact ⟨r, rfl, ⟨h0, h1⟩, cells3, cnt3, h2, by simp⟩
      · rintro C o1 ⟨r, cells3, cnt3, h0, h1, h2, e⟩
        cases e
      · rintro t o ⟨j, rfl, hj, cells3, cnt3, h3, rfl⟩
        refine ⟨.int (1 + j), drw d n cells3 cnt3, rfl, rfl, m, hm, hl, ⟨vs ++ [1 + j], by simp, by simp [hv], ?_⟩, hlt, cells3, cnt3, h3, rfl⟩
        intro v hv'
        rcases List.mem_append.mp hv' with h | h
        · exact hvs v h
        · have : v = 1 + j := by simpa using h
          omega
  · rintro t o ⟨p, ds, o', rfl, rfl, ys, m, hm, hl, ⟨vs, rfl, hv, hvs⟩, hi, cells3, cnt3, h3, rfl⟩
    exact ⟨p, vs, cells3, cnt3, ⟨by omega, by omega, hvs⟩, by omega, h3, rfl⟩)
end
end Pg

namespace Pg
open PySem PySem.Spec PyProof.Rows L2 Sd
section
variable {P : Program} {w : World} {K : PySem.W.Frag} {mg : Str → Option Value} {base : Heap} {c : Cl}
end
end Pg

namespace Pg
open PySem PySem.Spec PyProof.Rows L2 Sd
section
variable {P : Program} {w : World} {K : PySem.W.Frag} {mg : Str → Option Value} {base : Heap} {c : Cl}
theorem eg_year {Z : Sd.Ctx} {k : Nat} {ρ : List Slot} {ob : Own} {e1 e2 : Expr} {p pos : Pos} {d n : Addr} {cells : List Int} {cnt most : Int} (F : Fn Z.X.K Z.X.mg Z.X.prog Z.X.w Z.X.base "_law_year" ["draws", "most"] 3 pre_law_year) (g : Gd Z k) (hk : 3 ≤ k) (hc : cells ≠ []) (ha : EA Z [e1, e2] ρ (drw d n cells cnt ++ ob) [.raw (.ref d), .d (.int most)]) (hl : 1 ≤ most) (hl2 : most ≤ 8)
    (hg : Gl Z.X "_law_year" := by rfl) (he : starEach [e1, e2] Z.X.env = (false, eval e1 Z.X.env) :: starEach [e2] Z.X.env := by rfl) (hpl : (backTo pos (starEach [e2] Z.X.env)).any (·.1) = false := by rfl) :
    EG Z (.Call (.Name "_law_year" p) [e1, e2] [] pos) ρ (drw d n cells cnt ++ ob) (fun t o => ∃ (ys cells' : List Int) (cnt' : Int), Yr ys ∧ (ys.length : Int) ≤ most ∧ cells' ≠ [] ∧ t = .d (li ys) ∧ o = drw d n cells' cnt' ++ ob) :=
  EG.frz (P := fun ds o => ∃ (ys cells' : List Int) (cnt' : Int), ds = ys.map PyData.int ∧ Yr ys ∧ (ys.length : Int) ≤ most ∧ cells' ≠ [] ∧ o = drw d n cells' cnt' ++ ob)
    (eg_call (oa := []) (o1 := drw d n cells cnt) F g hk ha ⟨d, n, cells, cnt, most, rfl, rfl, hc, hl, hl2, rfl⟩ (by
      rintro t o1 ⟨q, ys, cells', cnt', h1, h2, h3, e⟩
      cases e
      exact ⟨q, _, _, rfl, rfl, ys, cells', cnt', rfl, h1, h2, h3, rfl⟩) (by
      rintro C o1 ⟨q, ys, cells', cnt', h1, h2, h3, e⟩
      cases e) hg (by decide) he hpl) (by
    rintro ds o ⟨ys, cells', cnt', rfl, h1, h2, h3, rfl⟩
    exact ⟨ys, cells', cnt', h1, h2, h3, rfl, rfl⟩)
end
end Pg

namespace Pg
open PySem PySem.Spec PyProof.Rows L2 Sd
section
variable {P : Program} {w : World} {K : PySem.W.Frag} {mg : Str → Option Value} {base : Heap} {c : Cl}
def pre_used_chances : Pr := fun ss own post => ∃ (ys : List Int) (m : Nat), ss = [.d (li ys), .d (.int (m : Int))] ∧ own = [] ∧ Yr ys ∧ m ≤ 12 ∧ post = fun o => ∃ p, o = .ret (.raw (.ref p)) [(p, .lst (((List.range (ys.length + 1)).map (usd ys m)).map fr))]
theorem fn_used_chances (T : Tx K mg c) : Fn K mg P w base "used_chances" ["year", "many"] 4 pre_used_chances := T.d_used_chances.fn fun f fd F => okG (k := 3) F sc_used_chances (by rintro ss own post ⟨ys, m, rfl, _⟩; rfl) (by
  rintro ss own post ⟨ys, m, rfl, rfl, hY, hm, rfl⟩ cdv A outer s H E B g
  have hl := hY.hi
  refine sds_cons (sd_expr (es_call (fn_check_year T) g (by decide) (ea_cons (ed_v 0) ea_nil) (ok_year hY)) ?_)
  refine sds_cons (sd_expr (es_call (fn_check_many T) g (by decide) (ea_cons (ed_v 1) ea_nil) (ok_many ⟨by omega, by omega⟩)) ?_)
  have h2 : Sz 97 (ys.sum ^ m) := (hY.szW.pow m).mono (by omega)
  refine sds_one (sd_retL (EL.is (el_comp g (compP g (it_list (EL.ed (el_call (fn_used_ways T) g (by decide) (ea_cons (ed_v 0) (ea_cons (ed_v 1) ea_nil)) ⟨ys, m, rfl, rfl, hY, hm, rfl⟩))) [("ways", 2)] (blkOk_by (N := ["year", "many", "ways"]) (sc := defScope s_used_chances) (by decide +kernel)) (List.range (ys.length + 1)) (fun k => PyData.int (uwF ys k m)) rfl (fun k => some (fr (usd ys m k))) (fun k => [.d (li ys), .d (.int (m : Int)), .d (.int (uwF ys k m))]) [2] (by simp) (by rw [List.length_range]; omega) (fun _ _ => trivial)
      (fun i _ s H C cl fp g' => gt_name 2 g'.nd) (fun i _ s H C cl fp o g' => ets_nil) (fun i hi z hz s H C cl fp o g' => ?_))) ?_) fun p => ⟨p, rfl⟩)
  · cases hz
    exact es_call (fn_lowest T) g' (by decide) (ea_cons (ed_v 2) (ea_cons (es_call (fn_power T) g' (by decide) (ea_cons (ed_sum g' T.n_sum (ed_v 0) .d) (ea_cons (ed_v 1) ea_nil)) ⟨_, m, 8, rfl, rfl, hY.szW, by omega, by decide, rfl⟩) ea_nil)) ⟨_, _, rfl, rfl, hY.posP m, h2.mono (by decide), rfl⟩
  · rw [List.map_map]
    exact congrFun List.filterMap_eq_map' _)
end
end Pg

namespace Pg
open PySem PySem.Spec PyProof.Rows L2 Sd
section
variable {P : Program} {w : World} {K : PySem.W.Frag} {mg : Str → Option Value} {base : Heap} {c : Cl}
def rwU (ys : List Int) (m : Nat) : List Rat := (List.range (ys.length + 1)).map (usd ys m)
theorem rwU_get {ys : List Int} {m i : Nat} (h : i < ys.length + 1) : ((rwU ys m).map fr)[i]? = some (fr (usd ys m i)) := by
  unfold rwU
  rw [List.map_map, List.getElem?_map, List.getElem?_range h]
  rfl
def lasT (ys : List Int) : Nat → Rat
  | 0 => 0
  | m + 1 => alu ys m
theorem ok_law (T : Tx K mg c) {f : Addr} {fd : FuncData} (F : Fun K "law" "law" s_law f fd) : FnOk P w K mg base (L2.CX P w) 7 f fd ["script"] (spG (pre_law K)) := okG (k := 6) F sc_law (by rintro ss own post ⟨a, ns, rfl, _⟩; rfl) (by
  rintro ss own0 post ⟨a, ns, rfl, hs, hns, rfl⟩ cdv A outer s H E B g
  refine sds_cons (sd_setG 1 g.nd (R := fun t o => ∃ (d q : Addr) (cells : List Int), cells ≠ [] ∧ t = .raw (.ref d) ∧ o = drw d q cells 0 ++ own0) (eg_callW (fn_law_start T) g (by decide) (ea_cons (ev_v 0) ea_nil) ⟨a, ns, rfl, hs, rfl⟩ ?_ ?_) ?_)
  · rintro t o ⟨d, n, cells, hc, e⟩
    cases e
    exact ⟨d, n, cells, hc, rfl, rfl⟩
  · rintro C o ⟨d, n, cells, hc, e⟩
    cases e
  rintro t o ⟨d, q, cells, hc, rfl, rfl⟩
  refine sds_cons (sd_setG 2 g.nd (eg_year (fn_law_year T) g (by decide) hc (ea_cons (ev_v 1) (ea_cons ed_int ea_nil)) (by decide) (by decide)) ?_)
  rintro t o ⟨ys, cells2, cnt2, hY, hl6, hc2, rfl, rfl⟩
  have hl6 : ys.length ≤ 6 := by omega
  have hlo := hY.lo
  have hsum := hY.sum_lo
  have hW : ys.sum ≠ 0 := by omega
  refine sds_cons (sd_par 3 4 g (ea_cons (ES.is (y := .int (ys.length : Int)) (ed_len T.n_len (ed_v 2) .d) (by rw [List.length_map])) (ea_cons (ed_sum g T.n_sum (ed_v 2) .d) ea_nil)) ?_)
  obtain ⟨ow, how⟩ : ∃ ow, ow = drw d q cells2 cnt2 ++ own0 := ⟨_, rfl⟩
  rw [← how]
  refine sds_cons (sd_asg (x := .tuple [fr 0, fr 0]) (ed_tup (ds := [fr 0, fr 0]) (ea_cons (ed_tup (ds := [.int 0, .int 1]) (ea_cons ed_int (ea_cons ed_int ea_nil))) (ea_cons (ed_tup (ds := [.int 0, .int 1]) (ea_cons ed_int (ea_cons ed_int ea_nil))) ea_nil))) (gt_tup g.calm (gts_cons (gt_name 5 g.nd) (gts_cons (gt_name 6 g.nd) gts_nil)) rfl) ?_ (hw := sw_const rfl))
  refine sds_cons (sd_for g (it_range1 T.n_range ed_int ⟨by decide, by decide⟩) (fun i ρ own => own = ow ∧ ∃ t7 t8 t9 t10 t11 t12 t13, ρ = [.raw (.ref a), .raw (.ref d), .d (li ys), .d (.int (ys.length : Int)), .d (.int ys.sum), .d (fr (lasT ys i)), .d (fr (rst ys i)), t7, t8, t9, t10, t11, t12, t13, .un, .un, .un]) ⟨rfl, _, _, _, _, _, _, _, rfl⟩ (fun _ _ _ _ => trivial) ?_ ?_)
  · rintro m y ρ1 own1 hyy ⟨rfl, t7, t8, t9, t10, t11, t12, t13, rfl⟩
    obtain ⟨hm, rfl⟩ := rng_get hyy
    have hm : m ≤ 12 := by
      have : m < 13 := hm
      omega
    rw [show (0 : Int) + (m : Int) = (m : Int) by omega]
    have hq : ∀ k, Sq 97 (usd ys m k) := fun k => usd_sq97 hY hm k
    have hqa : Sq 97 (alu ys m) := hq ys.length
    have hql : Sq 97 (lasT ys m) := by
      cases m with
      | zero => exact Sq.zero.mono (by decide)
      | succ j => exact usd_sq97 hY (by omega) ys.length
    have hge : lasT ys m ≤ alu ys m := by
      cases m with
      | zero =>
        show (0 : Rat) ≤ alu ys 0
        unfold alu
        rw [usd_eq, Rat.div_def]
        have h1 : (0 : Rat) ≤ ((Gf ys 0 (usB ys.length) : Int) : Rat) := by exact_mod_cast Gf_nonneg (fun y h => by have := hY.it y h; omega) fun c => (usB_01 ys.length c).1
        have h2 : (0 : Rat) < ((ys.sum ^ 0 : Int) : Rat) := by exact_mod_cast hY.posP 0
        exact Rat.mul_nonneg h1 (Rat.le_of_lt (Rat.inv_pos.mpr h2))
      | succ j => exact alu_grow hY j
    have hzero := alu_zero hY m
    have hmask := alu_mask (ys := ys) m
    have hone := usd_one ys m
    have hnone := usd_none hY m
    have hrs := rst_sq hY m (by omega)
    refine ⟨_, _, gt_name 7 g.nd, ?_⟩
    refine sds_cons (sd_set 8 g.nd ed_int ?_)
    refine sds_cons (law_in T g hY hl6 hm fun t9 t10 t11 => ?_)
    rw [show (alu ys m) = usd ys m ys.length from rfl] at hmask
    obtain ⟨S, hS⟩ : ∃ S, S = sumN (fun mask => sgM ys.length mask * (ys.sum - wM ys ys.length mask) ^ m) (2 ^ ys.length) := ⟨_, rfl⟩
    rw [← hS] at hmask ⊢
    refine sds_cons (sd_set 12 g.nd (s := .d (fr (alu ys m))) (es_call (fn_all_used T) g (by decide) (ea_cons (ed_v 2) (ea_cons (ed_v 7) ea_nil)) ⟨ys, m, rfl, rfl, hY, hm, rfl⟩) ?_)
    refine sds_cons (sd_ifF (ET.is (EW.et (ew_or (et_cmp (c_ne g .d .d (sh_fr (alu ys m)) (sh_fr _)) (ed_v 12) (es_call (fn_law_chance T) g (by decide) (ea_cons (ed_v 2) (ea_cons (ed_v 7) (ea_cons (ed_v 8) ea_nil))) ⟨ys, m, S, rfl, rfl, hY, by omega, rfl⟩)) fun _ => ew_or (et_val (es_call (fn_law_less T) g (by decide) (ea_cons (ed_v 12) (ea_cons (ed_v 5) ea_nil)) ⟨_, _, 97, 97, rfl, rfl, hqa, hql, by decide, rfl⟩)) fun _ => ew_or1 (et_cmp (c_ne g .d .d (sh_bool _) (sh_bool _)) (ed_cmp (c_eq g .d .d (sh_fr (alu ys m)) (sh_fr 0)) (ed_v 12) (ed_tup (ds := [.int 0, .int 1]) (ea_cons ed_int (ea_cons ed_int ea_nil)))) (ed_cmp c_lt (ed_v 7) (ed_v 3))))) ?_) ?_)
    · have e1 : decide (alu ys m = 0) = decide ((m : Int) < (ys.length : Int)) := by
        rw [decide_eq_decide, hzero]
        omega
      rw [eqv_fr, eqv_bool, eqv_fr, e1, decide_eq_false (Rat.not_lt.mpr hge), ← hmask, show (alu ys m) = usd ys m ys.length from rfl]
      simp
    refine sds_cons (sd_set 13 g.nd (s := .d (.list ((rwU ys m).map fr))) (EL.ed (el_call (fn_used_chances T) g (by decide) (ea_cons (ed_v 2) (ea_cons (ed_v 7) ea_nil)) ⟨ys, m, rfl, rfl, hY, hm, rfl⟩)) ?_)
    refine sds_cons (sd_ifF (ET.is (EW.et (ew_or (et_cmp (c_ne g .d .d (sh_fr (usd ys m ys.length)) (sh_fr (alu ys m))) (ed_ixL (ed_v 13) (ed_v 3) .d (atI_nat (rwU_get (by omega)))) (ed_v 12)) fun _ => ew_or (et_cmp c_neI (ES.is (y := .int ((ys.length : Int) + 1)) (ed_len T.n_len (ed_v 13) .d) (by unfold rwU; simp)) (ed_add (ed_v 3) ed_int)) fun _ => ew_or1 (et_cmp (c_ne g .d .d (sh_bool _) (sh_bool _)) (ed_cmp (c_eq g .d .d (sh_fr (usd ys m 0)) (sh_fr 1)) (ed_ixL (ed_v 13) ed_int .d (atI_nat (j := 0) (rwU_get (by omega)))) (ed_tup (ds := [.int 1, .int 1]) (ea_cons ed_int (ea_cons ed_int ea_nil)))) (ed_cmp c_eqI (ed_v 7) ed_int)))) ?_) ?_)
    · have e1 : decide (usd ys m 0 = 1) = decide ((m : Int) = 0) := by
        rw [decide_eq_decide, hnone]
        omega
      rw [eqv_fr, eqv_bool, eqv_fr, e1]
      simp [alu]
    refine sds_cons (sd_ifF (ET.is (et_cmp (c_ne g .d .d (sh_fr (usd ys m 1)) (sh_fr _)) (ed_ixL (ed_v 13) ed_int .d (atI_nat (j := 1) (rwU_get (by omega)))) (es_call (fn_law_chance T) g (by decide) (ea_cons (ed_v 2) (ea_cons (ed_v 7) (ea_cons (es_if (s := .d (.int (if 0 < m then (ys.map fun y => y ^ m).sum else 0))) (et_cmp c_gt (ed_v 7) ed_int) (fun h => ES.is (ed_sum (ns := ys.map fun y => y ^ m) g T.n_sum (EL.ed (EL.is (el_comp g (compP g (it_list (ed_v 2)) [("weight", 16)] (blkOk_by (N := evN) (sc := defScope s_law) (by decide +kernel)) ys PyData.int rfl (fun y => some (.int (y ^ m))) (fun y => [.raw (.ref a), .raw (.ref d), .d (li ys), .d (.int (ys.length : Int)), .d (.int ys.sum), .d (fr (lasT ys m)), .d (fr (rst ys m)), .d (.int (m : Int)), .d (.int S), t9, t10, t11, .d (fr (alu ys m)), .d (.list ((rwU ys m).map fr)), .un, .un, .d (.int y)]) [16] (by simp) (by omega) (fun _ _ => trivial)
      (fun y _ s H C cl fp g' => gt_name 16 g'.nd) (fun y hy s H C cl fp o g' => ets_nil) (fun y hy x hx s H C cl fp o g' => ?_))) (by rw [List.map_map]; exact congrFun List.filterMap_eq_map' _))) .d) (by have := of_decide_eq_true h; rw [if_pos (by omega)])) fun h => ES.is ed_int (by have := of_decide_eq_false h; rw [if_neg (by omega)])) ea_nil))) ⟨ys, m, _, rfl, rfl, hY, by omega, rfl⟩)) (by rw [eqv_fr, ← hone]; simp)) ?_)
    · cases hx
      exact es_call (fn_law_power T) g' (by decide) (ea_cons (ed_v 16) (ea_cons (ed_v 7) ea_nil)) ⟨y, m, 8, rfl, rfl, hY.szy hy, by omega, by decide, rfl⟩
    refine sds_cons (sd_ifF (ET.is (EW.et (ew_and (et_cmp c_le (ed_v 7) (ed_v 3)) fun hle => ew_and1 (et_cmp (c_ne g .d .d (sh_fr (usd ys m m)) (sh_fr _)) (ed_ixL (ed_v 13) (ed_v 7) .d (atI_nat (rwU_get (by have := of_decide_eq_true hle; omega)))) (es_call (fn_all_unlike T) g (by decide) (ea_cons (ed_v 2) (ea_cons (ed_v 7) ea_nil)) ⟨ys, m, rfl, rfl, hY, hm, rfl⟩)))) (by rw [eqv_fr, usd_unl]; simp)) ?_)
    have hq1 : Sq 99 (1 - alu ys m) := Sq.one.sub hqa
    refine sds_cons (sd_set 6 g.nd (s := .d (fr (rst ys (m + 1)))) (es_call (fn_law_add T) g (by decide) (ea_cons (ed_v 6) (ea_cons (es_if (s := .d (fr (1 - alu ys m))) (et_cmp (c_ne g .d .d (sh_fr (alu ys m)) (sh_fr 0)) (ed_v 12) (ed_tup (ds := [.int 0, .int 1]) (ea_cons ed_int (ea_cons ed_int ea_nil)))) (fun h => ES.is (ed_tup (ds := [_, _]) (ea_cons (ed_sub (ed_ixT (ed_v 12) ed_int rfl) (ed_ixT (ed_v 12) ed_int rfl)) (ea_cons (ed_ixT (ed_v 12) ed_int rfl) ea_nil))) (fr_sub (alu ys m))) fun h => ES.is (ed_tup (ds := [.int 1, .int 1]) (ea_cons ed_int (ea_cons ed_int ea_nil))) ?_) ea_nil)) ⟨_, _, 100 * m + 1, 99, rfl, rfl, hrs, hq1, by omega, rfl⟩) ?_)
    · rw [eqv_fr] at h
      have h0 : alu ys m = 0 := by simpa using h
      rw [h0]
      have : (1 : Rat) - 0 = 1 := by grind
      rw [this]
      rfl
    refine sds_one (sd_set 5 g.nd (s := .d (fr (alu ys m))) (ed_v 12) ⟨rfl, _, _, _, _, _, _, _, rfl⟩)
  rintro ρ1 own1 ⟨rfl, t7, t8, t9, t10, t11, t12, t13, rfl⟩
  rw [rng_length, show ((13 : Int)).toNat = 13 from rfl]
  have hrs := rst_sq hY 13 (by decide)
  have hrl := rst_le hY 13
  have hms := mua_sq hY
  generalize rst ys 13 = r at hrs hrl
  have elow : ((r.num : Int) : Rat) / ((r.den : Int) : Rat) = r := num_den r
  refine sds_cons (sd_ifF (ET.is (et_val (es_call (fn_law_less T) g (by decide) (ea_cons (es_call (fn_mean_until_all T) g (by decide) (ea_cons (ed_v 2) ea_nil) ⟨ys, rfl, rfl, hY, rfl⟩) (ea_cons (ES.is (y := fr r) (es_call (fn_law_low T) g (by decide) (ea_cons (ed_ixT (ed_v 6) ed_int rfl) (ea_cons (ed_ixT (ed_v 6) ed_int rfl) ea_nil)) ⟨_, _, rfl, rfl, den_pos r, hrs.den.mono (by decide), rfl⟩) (by rw [elow])) ea_nil)) ⟨_, _, 2400, 1301, rfl, rfl, hms, hrs, by decide, rfl⟩)) (by rw [decide_eq_false (Rat.not_lt.mpr hrl)])) ?_)
  refine sds_cons (sd_ifF (ET.is (EW.et (ew_and (et_cmp c_eqI (ed_v 3) ed_int) fun _ => ew_and1 (et_cmp (c_ne g .d .d (sh_fr _) (sh_fr 1)) (es_call (fn_mean_until_all T) g (by decide) (ea_cons (ed_v 2) ea_nil) ⟨ys, rfl, rfl, hY, rfl⟩) (ed_tup (ds := [.int 1, .int 1]) (ea_cons ed_int (ea_cons ed_int ea_nil)))))) ?_) ?_)
  · rw [eqv_fr]
    by_cases h : ys.length = 1
    · match ys, h with
      | [x], _ =>
        have hx := (hY.it x (by simp)).1
        rw [mua_one (by omega)]
        simp
    · rw [decide_eq_false (by omega)]
      rfl
  refine sds_cons (sd_if (l := decide ((ys.length : Int) = 2)) (et_cmp c_eqI (ed_v 3) ed_int) (fun h2 => ?_) fun _ => sds_nil ?_)
  · have h2 := of_decide_eq_true h2
    obtain ⟨x, z, hxz⟩ : ∃ x z, ys = [x, z] := by
      match ys, h2 with
      | [x, z], _ => exact ⟨x, z, rfl⟩
      | [], h => exact absurd h (by decide)
      | [_], h => exact absurd h (by simp)
      | _ :: _ :: _ :: _, h => simp at h; omega
    have hx := hY.it x (by rw [hxz]; simp)
    have hz := hY.it z (by rw [hxz]; simp)
    have g0 : ys[0]? = some x := by rw [hxz]; rfl
    have g1 : ys[1]? = some z := by rw [hxz]; rfl
    have hWs := hY.szW
    have q0 : Sq 8 ((ys.sum : Rat) / (x : Rat)) := Sq.of_div (by omega) hWs (by unfold Sz; omega)
    have q1 : Sq 8 ((ys.sum : Rat) / (z : Rat)) := Sq.of_div (by omega) hWs (by unfold Sz; omega)
    have emu : (ys.sum : Rat) / (x : Rat) + (ys.sum : Rat) / (z : Rat) + ((-1 : Int) : Rat) = mua ys := by
      have e := mua_two (show 0 < x by omega) (show 0 < z by omega)
      have es : ys.sum = x + z := by rw [hxz]; simp
      rw [es, hxz, e]
      rfl
    refine sds_cons (sd_set 14 g.nd (es_call (fn_law_add T) g (by decide) (ea_cons (es_call (fn_law_low T) g (by decide) (ea_cons (ed_v 4) (ea_cons (ed_ixL (ed_v 2) ed_int .d (getI (j := 0) g0)) ea_nil)) ⟨_, _, rfl, rfl, by omega, (show Sz 8 x by unfold Sz; omega).mono (by decide), rfl⟩) (ea_cons (es_call (fn_law_low T) g (by decide) (ea_cons (ed_v 4) (ea_cons (ed_ixL (ed_v 2) ed_int .d (getI (j := 1) g1)) ea_nil)) ⟨_, _, rfl, rfl, by omega, (show Sz 8 z by unfold Sz; omega).mono (by decide), rfl⟩) ea_nil)) ⟨_, _, 8, 8, rfl, rfl, q0, q1, by decide, rfl⟩) ?_)
    refine sds_one (sd_ifF (ET.is (et_cmp (c_ne g .d .d (sh_fr _) (sh_fr _)) (es_call (fn_mean_until_all T) g (by decide) (ea_cons (ed_v 2) ea_nil) ⟨ys, rfl, rfl, hY, rfl⟩) (es_call (fn_law_add T) g (by decide) (ea_cons (ed_v 14) (ea_cons (ES.is (y := fr ((-1 : Int) : Rat)) (ed_tup (ds := [.int (0 - 1), .int 1]) (ea_cons (ed_sub ed_int ed_int) (ea_cons ed_int ea_nil))) rfl) ea_nil)) ⟨_, _, 17, 2, rfl, rfl, q0.add q1, ⟨by decide, by decide⟩, by decide, rfl⟩)) (by rw [eqv_fr, emu]; simp)) ?_)
    refine sds_one (sd_retD (ES.is (es_call (fn_law_harmonic T) g (by decide) (ea_cons (ed_v 2) (ea_cons (ed_v 3) ea_nil)) ⟨ys, rfl, rfl, hY, hl6, rfl⟩) rfl) ⟨_, rfl⟩)
  · exact sds_one (sd_retD (es_call (fn_law_harmonic T) g (by decide) (ea_cons (ed_v 2) (ea_cons (ed_v 3) ea_nil)) ⟨ys, rfl, rfl, hY, hl6, rfl⟩) ⟨_, rfl⟩))
end
end Pg

namespace Pg
open PySem PySem.Spec PyProof.Rows L2 Sd
section
variable {P : Program} {w : World} {K : PySem.W.Frag} {mg : Str → Option Value} {base : Heap} {c : Cl}
theorem int_mk {h : Heap} {z : Str} {i : Int} {t : Tok} (X : K.In h) (G : h.Ns mainGlobals mg) (a : PySem.W.nsIn K mainGlobals z = some (some (.int i t))) : ∃ t, mg z = some (.int i t) := ⟨t, PySem.W.mg_of X G a⟩
theorem law_end {fa cDayError cBadYear cBadDay cBadNumber cBadShare cBadText cNotFound cCalendar : Addr} (T : Tx K mg ⟨cDayError, cBadYear, cBadDay, cBadNumber, cBadShare, cBadText, cNotFound, cCalendar⟩) (hmg : mg "law" = some (.ref fa)) : ∃ fd : FuncData, (∀ (s : Shared) (u : Value), BindsTo s fd ⟨[u], []⟩ [("script", u)]) ∧ ∀ base : Heap, K.In base → base.Ns mainGlobals mg → FnOk P w K mg base (L2.CX P w) 7 fa fd ["script"] (spG (pre_law K)) := by
  obtain ⟨f, fd, F, hm, hb⟩ := T.d_law.ex
  rw [hmg] at hm
  cases hm
  exact ⟨fd, fun s u => .of_eq (hb [u] rfl), fun base _ _ => ok_law T F⟩
end
end Pg

open PySem PySem.W PyProof.Rows
set_option maxRecDepth 100000 in
set_option maxHeartbeats 0 in
theorem PySem.Challenge.cw_samedays_k17_whole_collected_holds : PySem.Challenge.rw_samedays_k17_whole_collected.Holds := by
  w_on; o_law; k_head; (case hw => w_witness2)
  k_fill
  refine L2.walk_of (l := PySem.Challenge.rw_samedays_k17_whole_collected) (n := 63) (k := 7) (x := "script") (CX := fun w => L2.CX PySem.Challenge.rw_samedays_k17_whole_collected.prog w) (sp := fun w => Sd.spG (Sd.pre_law _)) rfl (by decide) rfl ⟨rfl, by decide, by decide⟩ (fun w h Y => PySem.W.kIn_of Y) ?F (fun _ H a ns hl hO hS => Sd.law_in hl hO hS) (fun _ _ _ _ _ h => Sd.cx_no h)
  case F =>
    intro w mg fa h KX G hmg
    refine' Pg.law_end (cBadDay := 0) (cBadText := 0) (cNotFound := 0) (cCalendar := 0) ⟨Sd.err_mk KX G ?a0 ?x0 ?k0 ?b0 ?t0, Sd.err_mk KX G ?a1 ?x1 ?k1 ?b1 ?t1, Sd.err_mk KX G ?a2 ?x2 ?k2 ?b2 ?t2, Sd.err_mk KX G ?a3 ?x3 ?k3 ?b3 ?t3, Pg.int_mk KX G ?a4, Sd.df_mk2 KX G Pg.pa_is_int ?a5 ?l5 ?c5 ?k5, Sd.df_mk2 KX G Pg.pa_common ?a6 ?l6 ?c6 ?k6, Sd.df_mk2 KX G Pg.pa_is_year ?a7 ?l7 ?c7 ?k7, Sd.df_mk2 KX G Pg.pa_is_share ?a8 ?l8 ?c8 ?k8, Sd.df_mk2 KX G Pg.pa_check_year ?a9 ?l9 ?c9 ?k9, Sd.df_mk2 KX G Pg.pa_check_many ?a10 ?l10 ?c10 ?k10, Sd.df_mk2 KX G Pg.pa_check_share ?a11 ?l11 ?c11 ?k11, Sd.df_mk2 KX G Pg.pa_lowest ?a12 ?l12 ?c12 ?k12, Sd.df_mk2 KX G Pg.pa_plus ?a13 ?l13 ?c13 ?k13, Sd.df_mk2 KX G Pg.pa_at_most ?a14 ?l14 ?c14 ?k14, Sd.df_mk2 KX G Pg.pa_power ?a15 ?l15 ?c15 ?k15, Sd.df_mk2 KX G Pg.pa_choose ?a16 ?l16 ?c16 ?k16, Sd.df_mk2 KX G Pg.pa_ordered ?a17 ?l17 ?c17 ?k17, Sd.df_mk2 KX G Pg.pa_product_sums ?a18 ?l18 ?c18 ?k18, Sd.df_mk2 KX G Pg.pa_used_ways ?a19 ?l19 ?c19 ?k19, Sd.df_mk2 KX G Pg.pa_used_chances ?a20 ?l20 ?c20 ?k20, Sd.df_mk2 KX G Pg.pa_all_used_of ?a21 ?l21 ?c21 ?k21, Sd.df_mk2 KX G Pg.pa_all_used ?a22 ?l22 ?c22 ?k22, Sd.df_mk2 KX G Pg.pa_mean_until_all ?a23 ?l23 ?c23 ?k23, Sd.df_mk2 KX G Pg.pa_needed_for_all ?a24 ?l24 ?c24 ?k24, Sd.df_mk2 KX G Pg.pa_unlike_of ?a25 ?l25 ?c25 ?k25, Sd.df_mk2 KX G Pg.pa_all_unlike ?a26 ?l26 ?c26 ?k26, Sd.df_mk2 KX G Pg.pa_law_start ?a27 ?l27 ?c27 ?k27, Sd.df_mk2 KX G Pg.pa_law_draw ?a28 ?l28 ?c28 ?k28, Sd.df_mk2 KX G Pg.pa_law_pick ?a29 ?l29 ?c29 ?k29, Sd.df_mk2 KX G Pg.pa_law_low ?a30 ?l30 ?c30 ?k30, Sd.df_mk2 KX G Pg.pa_law_add ?a31 ?l31 ?c31 ?k31, Sd.df_mk2 KX G Pg.pa_law_less ?a32 ?l32 ?c32 ?k32, Sd.df_mk2 KX G Pg.pa_law_year ?a33 ?l33 ?c33 ?k33, Sd.df_mk2 KX G Pg.pa_law_power ?a34 ?l34 ?c34 ?k34, Sd.df_mk2 KX G Pg.pa_law_chance ?a35 ?l35 ?c35 ?k35, Sd.df_mk2 KX G Pg.pa_law_harmonic ?a36 ?l36 ?c36 ?k36, Sd.df_mk2 KX G Pg.pa_law ?a37 ?l37 ?c37 ?k37, PySem.W.mg_none_of KX G ?z38, PySem.W.mg_none_of KX G ?z39, PySem.W.mg_none_of KX G ?z40, PySem.W.mg_none_of KX G ?z41, PySem.W.mg_none_of KX G ?z42, PySem.W.mg_none_of KX G ?z43, PySem.W.mg_none_of KX G ?z44, PySem.W.mg_none_of KX G ?z45, PySem.W.mg_none_of KX G ?z46, PySem.W.mg_none_of KX G ?z47, PySem.W.mg_none_of KX G ?z48⟩ hmg
    (case a0 => k_is)
    (case a1 => k_is)
    (case a2 => k_is)
    (case a3 => k_is)
    (case a4 => k_is)
    (case a5 => k_is)
    (case a6 => k_is)
    (case a7 => k_is)
    (case a8 => k_is)
    (case a9 => k_is)
    (case a10 => k_is)
    (case a11 => k_is)
    (case a12 => k_is)
    (case a13 => k_is)
    (case a14 => k_is)
    (case a15 => k_is)
    (case a16 => k_is)
    (case a17 => k_is)
    (case a18 => k_is)
    (case a19 => k_is)
    (case a20 => k_is)
    (case a21 => k_is)
    (case a22 => k_is)
    (case a23 => k_is)
    (case a24 => k_is)
    (case a25 => k_is)
    (case a26 => k_is)
    (case a27 => k_is)
    (case a28 => k_is)
    (case a29 => k_is)
    (case a30 => k_is)
    (case a31 => k_is)
    (case a32 => k_is)
    (case a33 => k_is)
    (case a34 => k_is)
    (case a35 => k_is)
    (case a36 => k_is)
    (case a37 => k_is)
    (case x0 => k_exc)
    (case k0 => k_is)
    (case b0 => k_is)
    (case t0 => k_is)
    (case x1 => k_exc)
    (case k1 => k_is)
    (case b1 => k_is)
    (case t1 => k_is)
    (case x2 => k_exc)
    (case k2 => k_is)
    (case b2 => k_is)
    (case t2 => k_is)
    (case x3 => k_exc)
    (case k3 => k_is)
    (case b3 => k_is)
    (case t3 => k_is)
    (case l5 => k_is)
    (case c5 => k_is)
    (case k5 => k_is)
    (case l6 => k_is)
    (case c6 => k_is)
    (case k6 => k_is)
    (case l7 => k_is)
    (case c7 => k_is)
    (case k7 => k_is)
    (case l8 => k_is)
    (case c8 => k_is)
    (case k8 => k_is)
    (case l9 => k_is)
    (case c9 => k_is)
    (case k9 => k_is)
    (case l10 => k_is)
    (case c10 => k_is)
    (case k10 => k_is)
    (case l11 => k_is)
    (case c11 => k_is)
    (case k11 => k_is)
    (case l12 => k_is)
    (case c12 => k_is)
    (case k12 => k_is)
    (case l13 => k_is)
    (case c13 => k_is)
    (case k13 => k_is)
    (case l14 => k_is)
    (case c14 => k_is)
    (case k14 => k_is)
    (case l15 => k_is)
    (case c15 => k_is)
    (case k15 => k_is)
    (case l16 => k_is)
    (case c16 => k_is)
    (case k16 => k_is)
    (case l17 => k_is)
    (case c17 => k_is)
    (case k17 => k_is)
    (case l18 => k_is)
    (case c18 => k_is)
    (case k18 => k_is)
    (case l19 => k_is)
    (case c19 => k_is)
    (case k19 => k_is)
    (case l20 => k_is)
    (case c20 => k_is)
    (case k20 => k_is)
    (case l21 => k_is)
    (case c21 => k_is)
    (case k21 => k_is)
    (case l22 => k_is)
    (case c22 => k_is)
    (case k22 => k_is)
    (case l23 => k_is)
    (case c23 => k_is)
    (case k23 => k_is)
    (case l24 => k_is)
    (case c24 => k_is)
    (case k24 => k_is)
    (case l25 => k_is)
    (case c25 => k_is)
    (case k25 => k_is)
    (case l26 => k_is)
    (case c26 => k_is)
    (case k26 => k_is)
    (case l27 => k_is)
    (case c27 => k_is)
    (case k27 => k_is)
    (case l28 => k_is)
    (case c28 => k_is)
    (case k28 => k_is)
    (case l29 => k_is)
    (case c29 => k_is)
    (case k29 => k_is)
    (case l30 => k_is)
    (case c30 => k_is)
    (case k30 => k_is)
    (case l31 => k_is)
    (case c31 => k_is)
    (case k31 => k_is)
    (case l32 => k_is)
    (case c32 => k_is)
    (case k32 => k_is)
    (case l33 => k_is)
    (case c33 => k_is)
    (case k33 => k_is)
    (case l34 => k_is)
    (case c34 => k_is)
    (case k34 => k_is)
    (case l35 => k_is)
    (case c35 => k_is)
    (case k35 => k_is)
    (case l36 => k_is)
    (case c36 => k_is)
    (case k36 => k_is)
    (case l37 => k_is)
    (case c37 => k_is)
    (case k37 => k_is)
    (case z38 => k_is)
    (case z39 => k_is)
    (case z40 => k_is)
    (case z41 => k_is)
    (case z42 => k_is)
    (case z43 => k_is)
    (case z44 => k_is)
    (case z45 => k_is)
    (case z46 => k_is)
    (case z47 => k_is)
    (case z48 => k_is)
