import PyProof.Rows.All
import Wide.All
import OpenK.AllK
import Wide.FinOn
import HandS.Base
import HandS.Call
import HandS.List
import HandS.Comp
import HandS.Ends
import HandS.Dict
import HandS.Iter
import HandS.Text
import HandS.Exc
import HandS.TryOnly
import HandS.ExcOwn
import HandS.ExcValue
import HandS.IsInst
import HandS.Wide
import HandS.Words
import HandS.WordsList
import HandS.WordsDict
import HandS.WordsExc
import HandS.Style
import HandS.Deep
import HandS.ExcIs
import KE.DataFind
import HandS.Strs
import HandS.More
import HandS.SortRule
import HandS.Conv
import HandS.DictTup
import KE.KDictDisplayH
import HandS.TupSets
import HandS.SortOrd
import KE.GoesComp
import KE.GoesRaise
import PySem.Challenge.RW_samedays_k09_whole_texts
set_option Elab.async false
set_option linter.all false
set_option maxRecDepth 100000
set_option maxHeartbeats 16000000
/-! data over the layer: what a value stands for, what is owned, judgements over data -/
namespace Sd
open PySem PySem.Spec PyProof.Rows L2

mutual
inductive Rep (H : Hp) : V → PyData → Prop
  | non : Rep H .non .none
  | bl (b : Bool) : Rep H (.bl b) (.bool b)
  | int (i : Int) : Rep H (.int i) (.int i)
  | str (x : Str) : Rep H (.str x) (.str x)
  | lst {a : Addr} {xs : List V} {ds : List PyData} : H a = some (.lst xs) → Reps H xs ds → Rep H (.ref a) (.list ds)
  | tup {a : Addr} {xs : List V} {ds : List PyData} : H a = some (.tup xs) → Reps H xs ds → Rep H (.ref a) (.tuple ds)
inductive Reps (H : Hp) : List V → List PyData → Prop
  | nil : Reps H [] []
  | cons {v : V} {vs : List V} {d : PyData} {ds : List PyData} : Rep H v d → Reps H vs ds → Reps H (v :: vs) (d :: ds)
end
section
variable {H H' : Hp} {K : PySem.W.Frag}
theorem Rep.mono (e : Same H H') {v : V} {d : PyData} (h : Rep H v d) : Rep H' v d :=
  Rep.rec (motive_1 := fun v d _ => Rep H' v d) (motive_2 := fun vs ds _ => Reps H' vs ds) .non .bl .int .str (fun h _ r => .lst (e _ _ h) r) (fun h _ r => .tup (e _ _ h) r) .nil (fun _ _ a b => .cons a b) h
theorem Reps.mono (e : Same H H') {v : List V} {d : List PyData} (h : Reps H v d) : Reps H' v d :=
  Reps.rec (motive_1 := fun v d _ => Rep H' v d) (motive_2 := fun vs ds _ => Reps H' vs ds) .non .bl .int .str (fun h _ r => .lst (e _ _ h) r) (fun h _ r => .tup (e _ _ h) r) .nil (fun _ _ a b => .cons a b) h
theorem Rep.dp {v : V} {d : PyData} (h : Rep H v d) : Dp K H v d :=
  Rep.rec (motive_1 := fun v d _ => Dp K H v d) (motive_2 := fun vs ds _ => DpAll K H vs ds) .non .bl .int .str (fun h _ r => .lst (SqL.of h) r) (fun h _ r => .tup (SqT.of h) r) .nil (fun _ _ a b => .cons a b) h
theorem Reps.length : ∀ {vs : List V} {ds : List PyData}, Reps H vs ds → vs.length = ds.length
  | _, _, .nil => rfl
  | _, _, .cons _ r => congrArg (· + 1) r.length
theorem Reps.get : ∀ {vs : List V} {ds : List PyData} {i : Nat} {d : PyData}, Reps H vs ds → ds[i]? = some d → ∃ v, vs[i]? = some v ∧ Rep H v d
  | _, _, _, _, .nil, e => by simp at e
  | _, _, 0, _, .cons a _, e => by simp at e; subst e; exact ⟨_, rfl, a⟩
  | _, _, i + 1, d, .cons _ r, e => by
    obtain ⟨v, h1, h2⟩ := Reps.get (i := i) (d := d) r (by simpa using e)
    exact ⟨v, by simpa using h1, h2⟩
theorem Reps.append : ∀ {xs ys : List V} {us ws : List PyData}, Reps H xs us → Reps H ys ws → Reps H (xs ++ ys) (us ++ ws)
  | _, _, _, _, .nil, s => s
  | _, _, _, _, .cons r t, s => .cons r (Reps.append t s)
theorem Reps.take : ∀ {xs : List V} {us : List PyData} (n : Nat), Reps H xs us → Reps H (xs.take n) (us.take n)
  | _, _, 0, _ => .nil
  | _, _, _ + 1, .nil => .nil
  | _, _, n + 1, .cons r t => .cons r (Reps.take n t)
theorem Reps.drop : ∀ {xs : List V} {us : List PyData} (n : Nat), Reps H xs us → Reps H (xs.drop n) (us.drop n)
  | _, _, 0, r => r
  | _, _, _ + 1, .nil => .nil
  | _, _, n + 1, .cons _ t => Reps.drop n t
theorem Reps.set {x : V} {u : PyData} (r : Rep H x u) : ∀ {xs : List V} {us : List PyData} (i : Nat), Reps H xs us → Reps H (xs.set i x) (us.set i u)
  | _, _, _, .nil => .nil
  | _, _, 0, .cons _ t => .cons r t
  | _, _, i + 1, .cons q t => .cons q (Reps.set r i t)
theorem Reps.ints : ∀ (ns : List Int), Reps H (ns.map V.int) (ns.map PyData.int)
  | [] => .nil
  | n :: r => .cons (.int n) (Reps.ints r)
theorem Reps.of_bls : ∀ {ns : List Bool} {vs : List V}, Reps H vs (ns.map PyData.bool) → vs = ns.map V.bl
  | [], _, .nil => rfl
  | n :: r, _, .cons h t => by
    cases h
    rw [Reps.of_bls t]
    rfl
theorem Reps.of_strs : ∀ {ns : List Str} {vs : List V}, Reps H vs (ns.map PyData.str) → vs = ns.map V.str
  | [], _, .nil => rfl
  | n :: r, _, .cons h t => by
    cases h
    rw [Reps.of_strs t]
    rfl
theorem Reps.strs : ∀ (ns : List Str), Reps H (ns.map V.str) (ns.map PyData.str)
  | [] => .nil
  | n :: r => .cons (.str n) (Reps.strs r)
end

/-! ### weakest readings -/
section
variable {X : Cx}
structure wE (X : Cx) (e : Expr) (σ : L2.St) (H : Hp) (Q : VK) : Prop where
  run : ∀ (pins : List (Addr × Obj)) (s : Shared), Inv X pins σ H s → wpAny (model X.prog X.w) X.A (eval e X.env) (EP X pins σ Q) X.xe s
structure wT (X : Cx) (e : Expr) (σ : L2.St) (H : Hp) (Q : Bool → Hp → Prop) : Prop where
  run : ∀ (pins : List (Addr × Obj)) (s : Shared), Inv X pins σ H s → wpAny (model X.prog X.w) X.A (isTrue e X.env (eval e X.env)) (TP X pins σ Q) X.xe s
structure wW (X : Cx) (e : Expr) (σ : L2.St) (H : Hp) (Q : Bool → Hp → Prop) : Prop where
  run : ∀ (whole : Sem Value) (pins : List (Addr × Obj)) (s : Shared), Inv X pins σ H s → wpAny (model X.prog X.w) X.A (isTrue e X.env whole) (TP X pins σ Q) X.xe s
structure wA (X : Cx) (es : List Expr) (σ : L2.St) (H : Hp) (Q : List V → Hp → Prop) : Prop where
  run : ∀ (pos : Pos) (pins : List (Addr × Obj)) (s : Shared), Inv X pins σ H s → wpAny (model X.prog X.w) X.A (spliced (backTo pos (starEach es X.env))) (AP X pins σ Q) X.xe s
structure wS (X : Cx) (st : Stmt) (D : Ends) (σ : L2.St) (H : Hp) : Prop where
  run : ∀ (pins : List (Addr × Obj)) (s : Shared), Inv X pins σ H s → wpAny (model X.prog X.w) X.A (exec st X.env) (SP X pins D) X.xe s
structure wSs (X : Cx) (st : List Stmt) (D : Ends) (σ : L2.St) (H : Hp) : Prop where
  run : ∀ (pins : List (Addr × Obj)) (s : Shared), Inv X pins σ H s → wpAny (model X.prog X.w) X.A (execs st X.env) (SP X pins D) X.xe s
theorem peW {e : Expr} : PE X e (wE X e) := ⟨fun pins s _ _ _ I h => h.run pins s I⟩
theorem ptW {e : Expr} : PT X e (wT X e) := ⟨fun pins s _ _ _ I h => h.run pins s I⟩
theorem pwW {e : Expr} : PW X e (wW X e) := ⟨fun wh pins s _ _ _ I h => h.run wh pins s I⟩
theorem paW {es : List Expr} : PA X es (wA X es) := ⟨fun pos pins s _ _ _ I h => h.run pos pins s I⟩
theorem psW {st : Stmt} : PS X st (wS X st) := ⟨fun pins s _ _ _ I h => h.run pins s I⟩
theorem pssW {st : List Stmt} : PSs X st (wSs X st) := ⟨fun pins s _ _ _ I h => h.run pins s I⟩
theorem wE.of {e : Expr} {t : TE} (h : PE X e t) {σ : L2.St} {H : Hp} {Q : VK} (q : t σ H Q) : wE X e σ H Q := ⟨fun pins s I => h.run pins s σ H Q I q⟩
theorem wT.of {e : Expr} {t : TT} (h : PT X e t) {σ : L2.St} {H : Hp} {Q : Bool → Hp → Prop} (q : t σ H Q) : wT X e σ H Q := ⟨fun pins s I => h.run pins s σ H Q I q⟩
theorem wW.of {e : Expr} {t : TT} (h : PW X e t) {σ : L2.St} {H : Hp} {Q : Bool → Hp → Prop} (q : t σ H Q) : wW X e σ H Q := ⟨fun wh pins s I => h.run wh pins s σ H Q I q⟩
theorem wA.of {es : List Expr} {t : TA} (h : PA X es t) {σ : L2.St} {H : Hp} {Q : List V → Hp → Prop} (q : t σ H Q) : wA X es σ H Q := ⟨fun pos pins s I => h.run pos pins s σ H Q I q⟩
theorem wS.of {st : Stmt} {t : TS} (h : PS X st t) {σ : L2.St} {H : Hp} {D : Ends} (q : t D σ H) : wS X st D σ H := ⟨fun pins s I => h.run pins s σ H D I q⟩
theorem wSs.of {st : List Stmt} {t : TS} (h : PSs X st t) {σ : L2.St} {H : Hp} {D : Ends} (q : t D σ H) : wSs X st D σ H := ⟨fun pins s I => h.run pins s σ H D I q⟩
end

/-! ### what is known of the heap -/
inductive Slot where
  | un
  | d (x : PyData)
  | raw (v : V)
inductive OO where
  | lst (ds : List PyData)
  | raw (o : HO)
  | dt (tb : List (List Int × PyData))
  | dl (od : Obj) (kvs : List (List Key × V)) (tb : List (List Int × PyData))
  | dk (tb : List (Int × PyData))
abbrev Own := List (Addr × OO)
structure Bs where
  Hf : Hp
  HB : Hp
/-- a dict with tuples of ints as keys, as data -/
structure DtOk (Hf : Hp) (kvs : List (List Key × V)) (tb : List (List Int × PyData)) : Prop where
  ks : kvs.map (·.1) = tb.map fun e => e.1.map Sum.inl
  vs : Reps Hf (kvs.map (·.2)) (tb.map (·.2))
structure DkOk (Hf : Hp) (kvs : List (Key × V)) (tb : List (Int × PyData)) : Prop where
  ks : kvs.map (·.1) = tb.map fun e => Sum.inl e.1
  vs : Reps Hf (kvs.map (·.2)) (tb.map (·.2))
def OwnOk (Hf H : Hp) (p : Addr) : OO → Prop
  | .lst ds => ∃ vs, H p = some (.lst vs) ∧ Reps Hf vs ds
  | .raw o => H p = some o
  | .dt tb => ∃ kvs, H p = some (.dT kvs) ∧ DtOk Hf kvs tb
  | .dl od kvs tb => H p = some (.frz od (.dT kvs)) ∧ DtOk Hf kvs tb
  | .dk tb => ∃ kvs, H p = some (.dK kvs) ∧ DkOk Hf kvs tb
theorem OwnOk.mono {Hf Hf' H H' : Hp} {p : Addr} {o : OO} (e : Same Hf Hf') (h : ∀ u, H p = some u → H' p = some u) (x : OwnOk Hf H p o) : OwnOk Hf' H' p o := by
  cases o with
  | lst ds => obtain ⟨vs, h1, h2⟩ := x; exact ⟨vs, h _ h1, h2.mono e⟩
  | raw o => exact h _ x
  | dt tb => obtain ⟨vs, h1, h2⟩ := x; exact ⟨vs, h _ h1, h2.ks, h2.vs.mono e⟩
  | dl od kvs tb => obtain ⟨h1, h2⟩ := x; exact ⟨h _ h1, h2.ks, h2.vs.mono e⟩
  | dk tb => obtain ⟨vs, h1, h2⟩ := x; exact ⟨vs, h _ h1, h2.ks, h2.vs.mono e⟩
theorem OwnOk.there {Hf H : Hp} {p : Addr} {o : OO} (x : OwnOk Hf H p o) : ∃ u, H p = some u := by
  cases o with
  | lst ds => obtain ⟨vs, h1, h2⟩ := x; exact ⟨_, h1⟩
  | raw o => exact ⟨_, x⟩
  | dt tb => obtain ⟨vs, h1, h2⟩ := x; exact ⟨_, h1⟩
  | dl od kvs tb => obtain ⟨h1, h2⟩ := x; exact ⟨_, h1⟩
  | dk tb => obtain ⟨vs, h1, h2⟩ := x; exact ⟨_, h1⟩
structure Sat (B : Bs) (Hf H : Hp) (own : Own) : Prop where
  e0 : Same B.Hf Hf
  e1 : Same Hf H
  eb : Same B.HB H
  fr : ∀ p o, Hf p = some o → B.Hf p = none → B.HB p = none
  ow : ∀ q ∈ own, Hf q.1 = none ∧ B.HB q.1 = none ∧ OwnOk Hf H q.1 q.2
  nd : (own.map Prod.fst).Nodup
  tp : ∀ p xs, H p = some (.tup xs) → Hf p = some (.tup xs)
theorem same_upd {H H' : Hp} {p : Addr} {o : HO} (e : Same H H') (h : H p = none) : Same H (upd H' p o) := fun b x q => by
  rw [upd_ne (ne_of_none q h)]
  exact e b x q
theorem same_upd2 {H H' : Hp} {p : Addr} {o : HO} (e : Same H H') : Same (upd H p o) (upd H' p o) := fun b x q => by
  by_cases hb : b = p
  · subst hb; rw [upd_same] at q ⊢; exact q
  · rw [upd_ne hb] at q ⊢; exact e b x q
section
variable {B : Bs} {Hf H : Hp} {own : Own} {p : Addr}
theorem Sat.none_f (S : Sat B Hf H own) (n : H p = none) : Hf p = none := S.e1.free n
theorem Sat.none_b (S : Sat B Hf H own) (n : H p = none) : B.HB p = none := S.eb.free n
theorem Sat.none_0 (S : Sat B Hf H own) (n : H p = none) : B.Hf p = none := S.e0.free (S.e1.free n)
theorem Sat.ne (S : Sat B Hf H own) (n : H p = none) {q : Addr × OO} (hq : q ∈ own) : q.1 ≠ p := by
  obtain ⟨_, _, c⟩ := S.ow q hq
  obtain ⟨u, hu⟩ := c.there
  exact ne_of_none hu n
/-- a new thing that will not change -/
theorem Sat.new (S : Sat B Hf H own) (n : H p = none) (o : HO) : Sat B (upd Hf p o) (upd H p o) own where
  e0 := same_upd S.e0 (S.none_0 n)
  e1 := same_upd2 S.e1
  eb := same_upd S.eb (S.none_b n)
  fr := fun q u h hb => by
    by_cases e : q = p
    · rw [e]; exact S.none_b n
    · rw [upd_ne e] at h; exact S.fr q u h hb
  ow := fun q hq => by
    obtain ⟨a, b, c⟩ := S.ow q hq
    have ne := S.ne n hq
    exact ⟨by rw [upd_ne ne]; exact a, b, c.mono (same_upd (Same.refl _) (S.none_f n)) fun u hu => by rw [upd_ne ne]; exact hu⟩
  nd := S.nd
  tp := fun q xs h => by
    by_cases e : q = p
    · subst e; rw [upd_same] at h ⊢; exact h
    · rw [upd_ne e] at h ⊢; exact S.tp q xs h
/-- a new thing of one's own -/
theorem Sat.newOwn (S : Sat B Hf H own) (n : H p = none) {o : HO} {oo : OO} (ok : OwnOk Hf (upd H p o) p oo) (nt : ∀ xs, o ≠ .tup xs := by intro _ z; cases z) : Sat B Hf (upd H p o) ((p, oo) :: own) where
  e0 := S.e0
  e1 := same_upd S.e1 (S.none_f n)
  eb := same_upd S.eb (S.none_b n)
  fr := S.fr
  ow := fun q hq => by
    rcases List.mem_cons.mp hq with rfl | hq
    · exact ⟨S.none_f n, S.none_b n, ok⟩
    · obtain ⟨a, b, c⟩ := S.ow q hq
      have ne := S.ne n hq
      exact ⟨a, b, c.mono (Same.refl _) fun u hu => by rw [upd_ne ne]; exact hu⟩
  nd := by
    rw [List.map_cons, List.nodup_cons]
    refine ⟨fun hm => ?_, S.nd⟩
    obtain ⟨q, hq, e⟩ := List.mem_map.mp hm
    exact S.ne n hq e
  tp := fun q xs h => by
    by_cases e : q = p
    · subst e; rw [upd_same] at h; exact absurd (Option.some.inj h) (nt xs)
    · rw [upd_ne e] at h; exact S.tp q xs h
theorem Sat.at (S : Sat B Hf H own) {oo : OO} (h : (p, oo) ∈ own) : Hf p = none ∧ B.HB p = none ∧ OwnOk Hf H p oo := S.ow _ h
/-- a thing of one's own changes -/
theorem Sat.write {oa ob : Own} {oo oo' : OO} {o : HO} (S : Sat B Hf H (oa ++ (p, oo) :: ob)) (ok : OwnOk Hf (upd H p o) p oo') (nt : ∀ xs, o ≠ .tup xs := by intro _ z; cases z) : Sat B Hf (upd H p o) (oa ++ (p, oo') :: ob) := by
  obtain ⟨a, b, _⟩ := S.at (p := p) (oo := oo) (by simp)
  have nd := S.nd
  rw [List.map_append, List.map_cons] at nd
  refine ⟨S.e0, same_upd S.e1 a, same_upd S.eb b, S.fr, fun q hq => ?_, by rw [List.map_append, List.map_cons]; exact nd, fun q xs h => ?_⟩
  rotate_left
  · by_cases e : q = p
    · subst e; rw [upd_same] at h; exact absurd (Option.some.inj h) (nt xs)
    · rw [upd_ne e] at h; exact S.tp q xs h
  have key : q ∈ oa ∨ q ∈ ob → Hf q.1 = none ∧ B.HB q.1 = none ∧ OwnOk Hf (upd H p o) q.1 q.2 := fun hq => by
    have hm : q ∈ oa ++ (p, oo) :: ob := by
      rcases hq with h | h
      · exact List.mem_append_left _ h
      · exact List.mem_append_right _ (List.mem_cons_of_mem _ h)
    obtain ⟨a', b', c'⟩ := S.ow q hm
    have ne : q.1 ≠ p := fun e => by
      rcases hq with h | h
      · exact (List.nodup_append.mp nd).2.2 q.1 (List.mem_map.mpr ⟨q, h, rfl⟩) p (List.mem_cons_self) e
      · have := (List.nodup_cons.mp (List.nodup_append.mp nd).2.1).1
        exact this (List.mem_map.mpr ⟨q, h, e⟩)
    exact ⟨a', b', c'.mono (Same.refl _) fun u hu => by rw [upd_ne ne]; exact hu⟩
  rcases List.mem_append.mp hq with h | h
  · exact key (.inl h)
  · rcases List.mem_cons.mp h with rfl | h
    · exact ⟨a, b, ok⟩
    · exact key (.inr h)
/-- a list of one's own will not change any more -/
theorem Sat.freeze {oa ob : Own} {ds : List PyData} (S : Sat B Hf H (oa ++ (p, .lst ds) :: ob)) : ∃ Hf', Same Hf Hf' ∧ Sat B Hf' H (oa ++ ob) ∧ Rep Hf' (.ref p) (.list ds) := by
  obtain ⟨a, b, vs, hp, hr⟩ := S.at (p := p) (oo := .lst ds) (by simp)
  have nd := S.nd
  rw [List.map_append, List.map_cons] at nd
  have sm : Same Hf (upd Hf p (.lst vs)) := same_upd (Same.refl _) a
  refine ⟨upd Hf p (.lst vs), sm, ⟨S.e0.trans sm, fun q u h => ?_, S.eb, fun q u h hb => ?_, fun q hq => ?_, ?_, fun q xs h => sm _ _ (S.tp q xs h)⟩, .lst upd_same (hr.mono sm)⟩
  · by_cases e : q = p
    · subst e; rw [upd_same] at h; rw [hp]; exact h
    · rw [upd_ne e] at h; exact S.e1 q u h
  · by_cases e : q = p
    · subst e; exact b
    · rw [upd_ne e] at h; exact S.fr q u h hb
  · have hm : q ∈ oa ++ (p, .lst ds) :: ob := by
      rcases List.mem_append.mp hq with h | h
      · exact List.mem_append_left _ h
      · exact List.mem_append_right _ (List.mem_cons_of_mem _ h)
    obtain ⟨a', b', c'⟩ := S.ow q hm
    have ne : q.1 ≠ p := fun e => by
      rcases List.mem_append.mp hq with h | h
      · exact (List.nodup_append.mp nd).2.2 q.1 (List.mem_map.mpr ⟨q, h, rfl⟩) p (List.mem_cons_self) e
      · have := (List.nodup_cons.mp (List.nodup_append.mp nd).2.1).1
        exact this (List.mem_map.mpr ⟨q, h, e⟩)
    exact ⟨by rw [upd_ne ne]; exact a', b', c'.mono sm fun u hu => hu⟩
  · rw [List.map_append]
    refine List.nodup_append.mpr ⟨(List.nodup_append.mp nd).1, (List.nodup_cons.mp (List.nodup_append.mp nd).2.1).2, fun x hx y hy => (List.nodup_append.mp nd).2.2 x hx y (List.mem_cons_of_mem _ hy)⟩
/-- forget a thing of one's own -/
theorem Sat.drop {oa ob : Own} {oo : OO} (S : Sat B Hf H (oa ++ (p, oo) :: ob)) : Sat B Hf H (oa ++ ob) := by
  have nd := S.nd
  rw [List.map_append, List.map_cons] at nd
  refine ⟨S.e0, S.e1, S.eb, S.fr, fun q hq => S.ow q ?_, ?_, S.tp⟩
  · rcases List.mem_append.mp hq with h | h
    · exact List.mem_append_left _ h
    · exact List.mem_append_right _ (List.mem_cons_of_mem _ h)
  · rw [List.map_append]
    refine List.nodup_append.mpr ⟨(List.nodup_append.mp nd).1, (List.nodup_cons.mp (List.nodup_append.mp nd).2.1).2, fun x hx y hy => (List.nodup_append.mp nd).2.2 x hx y (List.mem_cons_of_mem _ hy)⟩
end

/-! ### slots -/
def SlotR (Hf : Hp) (v : V) : Slot → Prop
  | .un => True
  | .d x => Rep Hf v x
  | .raw w => v = w
theorem SlotR.mono {Hf Hf' : Hp} (e : Same Hf Hf') {v : V} {s : Slot} (h : SlotR Hf v s) : SlotR Hf' v s := by
  cases s with
  | un => trivial
  | d x => exact Rep.mono e h
  | raw w => exact h
structure EnvR (Hf : Hp) (σ : L2.St) (ρ : List Slot) : Prop where
  len : σ.length = ρ.length
  at_ : ∀ (i : Nat) (s : Slot), ρ[i]? = some s → s = .un ∨ ∃ v, σ[i]? = some (some v) ∧ SlotR Hf v s
section
variable {Hf Hf' : Hp} {σ : L2.St} {ρ : List Slot}
theorem EnvR.mono (e : Same Hf Hf') (h : EnvR Hf σ ρ) : EnvR Hf' σ ρ := ⟨h.len, fun i s q => by
  rcases h.at_ i s q with z | ⟨v, z, r⟩
  · exact .inl z
  · exact .inr ⟨v, z, r.mono e⟩⟩
theorem EnvR.set (h : EnvR Hf σ ρ) {v : V} {s : Slot} (r : SlotR Hf v s) (i : Nat) : EnvR Hf (σ.set i (some v)) (ρ.set i s) := by
  refine ⟨by rw [List.length_set, List.length_set]; exact h.len, fun j t q => ?_⟩
  by_cases e : i = j
  · subst e
    by_cases hi : i < ρ.length
    · rw [List.getElem?_set_self hi] at q
      cases q
      exact .inr ⟨v, by rw [List.getElem?_set_self (by rw [h.len]; exact hi)], r⟩
    · rw [List.getElem?_eq_none (by simpa using hi)] at q
      cases q
  · rw [List.getElem?_set_ne e] at q
    rcases h.at_ j t q with z | ⟨w, z, r'⟩
    · exact .inl z
    · exact .inr ⟨w, by rw [List.getElem?_set_ne e]; exact z, r'⟩
theorem EnvR.unset (h : EnvR Hf σ ρ) (i : Nat) (o : Option V) : EnvR Hf (σ.set i o) (ρ.set i .un) := by
  refine ⟨by rw [List.length_set, List.length_set]; exact h.len, fun j t q => ?_⟩
  by_cases e : i = j
  · subst e
    by_cases hi : i < ρ.length
    · rw [List.getElem?_set_self hi] at q
      cases q
      exact .inl rfl
    · rw [List.getElem?_eq_none (by simpa using hi)] at q
      cases q
  · rw [List.getElem?_set_ne e] at q
    rcases h.at_ j t q with z | ⟨w, z, r'⟩
    · exact .inl z
    · exact .inr ⟨w, by rw [List.getElem?_set_ne e]; exact z, r'⟩
theorem EnvR.d (h : EnvR Hf σ ρ) {i : Nat} {x : PyData} (e : ρ[i]? = some (.d x)) : ∃ v, σ[i]? = some (some v) ∧ Rep Hf v x := by
  rcases h.at_ i _ e with z | z
  · cases z
  · exact z
theorem EnvR.raw (h : EnvR Hf σ ρ) {i : Nat} {w : V} (e : ρ[i]? = some (.raw w)) : σ[i]? = some (some w) := by
  rcases h.at_ i _ e with z | ⟨v, z, r⟩
  · cases z
  · rw [z, show v = w from r]
def wipeR (ρ : List Slot) : List Nat → List Slot
  | [] => ρ
  | v :: vs => (wipeR ρ vs).set v .un
theorem EnvR.wipe (h : EnvR Hf σ ρ) : ∀ is : List Nat, EnvR Hf (wipe σ is) (wipeR ρ is)
  | [] => h
  | i :: is => (EnvR.wipe h is).unset i none
/-- weaker: slots forgotten, or read otherwise -/
theorem EnvR.weak {ρ' : List Slot} (h : EnvR Hf σ ρ) (hl : ρ'.length = ρ.length) (hw : ∀ (i : Nat) s', ρ'[i]? = some s' → s' = .un ∨ ρ[i]? = some s') : EnvR Hf σ ρ' := ⟨by rw [hl]; exact h.len, fun i s q => by
  rcases hw i s q with z | z
  · exact .inl z
  · exact h.at_ i s z⟩
end

/-! ### judgements over data -/
structure Ctx where
  X : Cx
  B : Bs
  ex : Addr → List Slot → Own → Prop
def Wish (Z : Ctx) : WX := fun cls d σ H => ∃ C Hf ρ own, cls = .ref C ∧ d = none ∧ Sat Z.B Hf H own ∧ EnvR Hf σ ρ ∧ Z.ex C ρ own
structure Gd (Z : Ctx) (k : Nat) : Prop where
  tk : Takes Z.X (Wish Z)
  po : PassesOwn (model Z.X.prog Z.X.w) Z.X.A Z.X.env Z.X.xe
  calm : Z.X.calm = true
  nd : Z.X.N.Nodup
  hr : Room k Z.X.A
theorem Gd.mono {Z : Ctx} {j k : Nat} (g : Gd Z k) (h : j ≤ k) : Gd Z j := ⟨g.tk, g.po, g.calm, g.nd, g.hr.mono h⟩
/-- e evaluates to what s says -/
def ES (Z : Ctx) (e : Expr) (ρ : List Slot) (own : Own) (s : Slot) : Prop := ∀ Hf σ H, Sat Z.B Hf H own → EnvR Hf σ ρ → ∀ Q : VK, (∀ v Hf' H', Same Hf Hf' → Sat Z.B Hf' H' own → SlotR Hf' v s → Q v H') → wE Z.X e σ H Q
abbrev ED (Z : Ctx) (e : Expr) (ρ : List Slot) (own : Own) (x : PyData) : Prop := ES Z e ρ own (.d x)
abbrev EV (Z : Ctx) (e : Expr) (ρ : List Slot) (own : Own) (v : V) : Prop := ES Z e ρ own (.raw v)
/-- a new list of one's own -/
def EL (Z : Ctx) (e : Expr) (ρ : List Slot) (own : Own) (ds : List PyData) : Prop := ∀ Hf σ H, Sat Z.B Hf H own → EnvR Hf σ ρ → ∀ Q : VK, (∀ p Hf' H', Same Hf Hf' → Sat Z.B Hf' H' ((p, .lst ds) :: own) → Q (.ref p) H') → wE Z.X e σ H Q
def ET (Z : Ctx) (e : Expr) (ρ : List Slot) (own : Own) (b : Bool) : Prop := ∀ Hf σ H, Sat Z.B Hf H own → EnvR Hf σ ρ → ∀ Q : Bool → Hp → Prop, (∀ Hf' H', Same Hf Hf' → Sat Z.B Hf' H' own → Q b H') → wT Z.X e σ H Q
def EW (Z : Ctx) (e : Expr) (ρ : List Slot) (own : Own) (b : Bool) : Prop := ∀ Hf σ H, Sat Z.B Hf H own → EnvR Hf σ ρ → ∀ Q : Bool → Hp → Prop, (∀ Hf' H', Same Hf Hf' → Sat Z.B Hf' H' own → Q b H') → wW Z.X e σ H Q
inductive SlotsR (Hf : Hp) : List V → List Slot → Prop
  | nil : SlotsR Hf [] []
  | cons {v : V} {vs : List V} {s : Slot} {ss : List Slot} : SlotR Hf v s → SlotsR Hf vs ss → SlotsR Hf (v :: vs) (s :: ss)
theorem SlotsR.mono {Hf Hf' : Hp} (e : Same Hf Hf') : ∀ {vs : List V} {ss : List Slot}, SlotsR Hf vs ss → SlotsR Hf' vs ss
  | _, _, .nil => .nil
  | _, _, .cons a b => .cons (a.mono e) (b.mono e)
theorem SlotsR.length {Hf : Hp} : ∀ {vs : List V} {ss : List Slot}, SlotsR Hf vs ss → vs.length = ss.length
  | _, _, .nil => rfl
  | _, _, .cons _ r => congrArg (· + 1) r.length
theorem SlotsR.data {Hf : Hp} : ∀ {vs : List V} {ds : List PyData}, SlotsR Hf vs (ds.map Slot.d) → Reps Hf vs ds
  | _, [], .nil => .nil
  | _, _ :: _, .cons a b => .cons a b.data
def EA (Z : Ctx) (es : List Expr) (ρ : List Slot) (own : Own) (ss : List Slot) : Prop := ∀ Hf σ H, Sat Z.B Hf H own → EnvR Hf σ ρ → ∀ Q : List V → Hp → Prop, (∀ vs Hf' H', Same Hf Hf' → Sat Z.B Hf' H' own → SlotsR Hf' vs ss → Q vs H') → wA Z.X es σ H Q

section
variable {Z : Ctx} {e a b c : Expr} {ρ : List Slot} {own : Own} {pos : Pos} {x y : PyData} {i j : Int} {s t : Slot} {k : Nat}
theorem ES.is (h : ED Z e ρ own x) (q : x = y) : ED Z e ρ own y := q ▸ h
theorem ET.is {b b' : Bool} (h : ET Z e ρ own b) (q : b = b') : ET Z e ρ own b' := q ▸ h
theorem EL.is {xs ys : List PyData} (h : EL Z e ρ own xs) (q : xs = ys) : EL Z e ρ own ys := q ▸ h
/-- a new list is data -/
theorem EL.ed {ds : List PyData} (h : EL Z e ρ own ds) : ED Z e ρ own (.list ds) := fun Hf σ H S R Q q => h Hf σ H S R Q fun p Hf' H' m S' => by
  obtain ⟨Hf2, m2, S2, r⟩ := Sat.freeze (oa := []) S'
  exact q _ Hf2 H' (m.trans m2) S2 r
/-! names, constants -/
theorem es_v (n : Nat) {z : Str} {s : Slot} (he : ρ[n]? = some s) (hs : s ≠ .un) (hN : Z.X.N[n]? = some z := by rfl) (hv : Vis Z.X.env.scope z := by first | exact Or.inl rfl | exact Or.inr (Or.inl rfl) | exact Or.inr (Or.inr rfl)) (hd : (z == ("__debug__" : Str)) = false := by decide)
    (hcd : (z == ("__classdict__" : Str)) = false := by decide) : ES Z (.Name z pos) ρ own s := fun Hf σ H S R Q q => wE.of (pe_var hN hv hd hcd) (by
  rcases R.at_ n s he with z | ⟨v, e, r⟩
  · exact absurd z hs
  · exact ⟨v, e, q v Hf H (Same.refl _) S r⟩)
theorem ed_v (n : Nat) {z : Str} {x : PyData} (he : ρ[n]? = some (.d x) := by rfl) (hN : Z.X.N[n]? = some z := by rfl) (hv : Vis Z.X.env.scope z := by first | exact Or.inl rfl | exact Or.inr (Or.inl rfl) | exact Or.inr (Or.inr rfl)) (hd : (z == ("__debug__" : Str)) = false := by decide)
    (hcd : (z == ("__classdict__" : Str)) = false := by decide) : ED Z (.Name z pos) ρ own x := es_v n he (fun q => nomatch q) hN hv hd hcd
theorem ev_v (n : Nat) {z : Str} {x : V} (he : ρ[n]? = some (.raw x) := by rfl) (hN : Z.X.N[n]? = some z := by rfl) (hv : Vis Z.X.env.scope z := by first | exact Or.inl rfl | exact Or.inr (Or.inl rfl) | exact Or.inr (Or.inr rfl)) (hd : (z == ("__debug__" : Str)) = false := by decide)
    (hcd : (z == ("__classdict__" : Str)) = false := by decide) : EV Z (.Name z pos) ρ own x := es_v n he (fun q => nomatch q) hN hv hd hcd
theorem ed_int {j : Nat} {i : Int} : ED Z (.Constant (.int i) j pos) ρ own (.int i) := fun Hf σ H S R Q q => wE.of pe_int (q _ Hf H (Same.refl _) S (.int i))
theorem ed_bl {j : Nat} {b : Bool} : ED Z (.Constant (.bool b) j pos) ρ own (.bool b) := fun Hf σ H S R Q q => wE.of pe_bl (q _ Hf H (Same.refl _) S (.bl b))
theorem ed_non {j : Nat} : ED Z (.Constant .none j pos) ρ own .none := fun Hf σ H S R Q q => wE.of pe_non (q _ Hf H (Same.refl _) S .non)
theorem ed_str {j : Nat} {z : Str} : ED Z (.Constant (.str z) j pos) ρ own (.str z) := fun Hf σ H S R Q q => wE.of pe_str (q _ Hf H (Same.refl _) S (.str z))
theorem ed_globS {z y : Str} {t : Tok} (hg : Gl Z.X z) (hm : Z.X.mg z = some (.str y t)) (hd : (z == ("__debug__" : Str)) = false := by decide) : ED Z (.Name z pos) ρ own (.str y) := fun Hf σ H S R Q q => wE.of (pe_glob hg hm (v := .str y) ⟨_, rfl⟩ hd) (q _ Hf H (Same.refl _) S (.str y))
theorem ev_glob {z : Str} {C : Addr} (hg : Gl Z.X z) (hm : Z.X.mg z = some (.ref C)) (hd : (z == ("__debug__" : Str)) = false := by decide) : EV Z (.Name z pos) ρ own (.ref C) := fun Hf σ H S R Q q => wE.of (pe_glob hg hm (v := .ref C) rfl hd) (q _ Hf H (Same.refl _) S rfl)
theorem ev_ty {z : Str} {T : String} (hg : Gl Z.X z) (hm : Z.X.mg z = none) (hv : bootBuiltins z = some (.type T)) (hn : z ≠ "__name__" := by decide) (hd : (z == ("__debug__" : Str)) = false := by decide) : EV Z (.Name z pos) ρ own (.ty T) := fun Hf σ H S R Q q => wE.of (pe_bltn hg hm hv (v := .ty T) rfl hn hd) (q _ Hf H (Same.refl _) S rfl)

end
end Sd


namespace Sd
open PySem PySem.Spec PyProof.Rows L2
section
variable {Z : Ctx} {e a b c : Expr} {es : List Expr} {ρ : List Slot} {own : Own} {pos : Pos} {x y : PyData} {i j : Int} {s t u : Slot} {k : Nat}
theorem es_bin {op : Operator} {r : R2} {u : Slot} (ho : OpR Z.X (binaryOp op) r) (ha : ES Z a ρ own s) (hb : ES Z b ρ own t)
    (hr : ∀ v w Hf H, Sat Z.B Hf H own → SlotR Hf v s → SlotR Hf w t → ∀ Q : VK, (∀ z Hf' H', Same Hf Hf' → Sat Z.B Hf' H' own → SlotR Hf' z u → Q z H') → r v w H Q) : ES Z (.BinOp a op b pos) ρ own u := fun Hf σ H S R Q q =>
  wE.of (pe_op ho peW peW) (ha Hf σ H S R _ fun v Hf1 H1 m1 S1 r1 => hb Hf1 σ H1 S1 (R.mono m1) _ fun w Hf2 H2 m2 S2 r2 => hr v w Hf2 H2 S2 (r1.mono m2) r2 Q fun z Hf3 H3 m3 S3 r3 => q z Hf3 H3 ((m1.trans m2).trans m3) S3 r3)
theorem el_bin {op : Operator} {r : R2} {ds : List PyData} (ho : OpR Z.X (binaryOp op) r) (ha : ES Z a ρ own s) (hb : ES Z b ρ own t)
    (hr : ∀ v w Hf H, Sat Z.B Hf H own → SlotR Hf v s → SlotR Hf w t → ∀ Q : VK, (∀ p Hf' H', Same Hf Hf' → Sat Z.B Hf' H' ((p, .lst ds) :: own) → Q (.ref p) H') → r v w H Q) : EL Z (.BinOp a op b pos) ρ own ds := fun Hf σ H S R Q q =>
  wE.of (pe_op ho peW peW) (ha Hf σ H S R _ fun v Hf1 H1 m1 S1 r1 => hb Hf1 σ H1 S1 (R.mono m1) _ fun w Hf2 H2 m2 S2 r2 => hr v w Hf2 H2 S2 (r1.mono m2) r2 Q fun z Hf3 H3 m3 S3 => q z Hf3 H3 ((m1.trans m2).trans m3) S3)
theorem ed_add (ha : ED Z a ρ own (.int i)) (hb : ED Z b ρ own (.int j)) : ED Z (.BinOp a .Add b pos) ρ own (.int (i + j)) := es_bin op_add ha hb fun v w Hf H S r1 r2 Q q => by
  cases r1; cases r2
  exact ⟨i, j, rfl, rfl, q _ Hf H (Same.refl _) S (.int _)⟩
theorem ed_mulS (ha : ED Z a ρ own (.int i)) (hb : ED Z b ρ own (.int j)) (h : CMul i j) : ED Z (.BinOp a .Mult b pos) ρ own (.int (i * j)) := es_bin op_mul ha hb fun v w Hf H S r1 r2 Q q => by
  cases r1; cases r2
  exact ⟨i, j, rfl, rfl, h, q _ Hf H (Same.refl _) S (.int _)⟩
theorem ed_fdivS (ha : ED Z a ρ own (.int i)) (hb : ED Z b ρ own (.int j)) (h : 0 < j ∧ j < 1073741824) : ED Z (.BinOp a .FloorDiv b pos) ρ own (.int (i / j)) := es_bin op_fdiv ha hb fun v w Hf H S r1 r2 Q q => by
  cases r1; cases r2
  exact ⟨i, j, rfl, rfl, h, q _ Hf H (Same.refl _) S (.int _)⟩
theorem ed_mod (ha : ED Z a ρ own (.int i)) (hb : ED Z b ρ own (.int j)) (h : 0 < j) : ED Z (.BinOp a .Mod b pos) ρ own (.int (i % j)) := es_bin op_mod ha hb fun v w Hf H S r1 r2 Q q => by
  cases r1; cases r2
  exact ⟨i, j, rfl, rfl, h, q _ Hf H (Same.refl _) S (.int _)⟩
theorem ed_pow (ha : ED Z a ρ own (.int i)) (hb : ED Z b ρ own (.int j)) (h : CPow i j) : ED Z (.BinOp a .Pow b pos) ρ own (.int (i ^ j.toNat)) := es_bin op_pow ha hb fun v w Hf H S r1 r2 Q q => by
  cases r1; cases r2
  exact ⟨i, j, rfl, rfl, h, q _ Hf H (Same.refl _) S (.int _)⟩
theorem ed_addS {z w : Str} (ha : ED Z a ρ own (.str z)) (hb : ED Z b ρ own (.str w)) (h : z.length + w.length ≤ sizeLine) : ED Z (.BinOp a .Add b pos) ρ own (.str (z ++ w)) := es_bin op_add_str ha hb fun v w Hf H S r1 r2 Q q => by
  cases r1; cases r2
  exact ⟨_, _, rfl, rfl, h, q _ Hf H (Same.refl _) S (.str _)⟩

/-! lists that are read: data, or one's own -/
def Lst (own : Own) (s : Slot) (ds : List PyData) : Prop := s = .d (.list ds) ∨ ∃ p, s = .raw (.ref p) ∧ (p, OO.lst ds) ∈ own
theorem Lst.d {ds : List PyData} : Lst own (.d (.list ds)) ds := .inl rfl
theorem Lst.o {p : Addr} {ds : List PyData} (h : (p, OO.lst ds) ∈ own) : Lst own (.raw (.ref p)) ds := .inr ⟨p, rfl, h⟩
theorem Lst.at {B : Bs} {Hf H : Hp} {ds : List PyData} {v : V} (L : Lst own s ds) (S : Sat B Hf H own) (r : SlotR Hf v s) : ∃ p vs, v = .ref p ∧ H p = some (.lst vs) ∧ Reps Hf vs ds := by
  rcases L with rfl | ⟨p, rfl, h⟩
  · cases r with
    | lst h1 h2 => exact ⟨_, _, rfl, S.e1 _ _ h1, h2⟩
  · obtain ⟨_, _, vs, h1, h2⟩ := S.at h
    exact ⟨p, vs, r, h1, h2⟩
/-- a + b of lists -/
theorem el_cat {xs ys : List PyData} (ha : ES Z a ρ own s) (hb : ES Z b ρ own t) (l1 : Lst own s xs) (l2 : Lst own t ys) (h : xs.length + ys.length ≤ 100000) : EL Z (.BinOp a .Add b pos) ρ own (xs ++ ys) := el_bin op_cat ha hb fun v w Hf H S r1 r2 Q q => by
  obtain ⟨p, vs, rfl, h1, g1⟩ := l1.at S r1
  obtain ⟨p', vs', rfl, h2, g2⟩ := l2.at S r2
  have e1 := g1.length
  have e2 := g2.length
  refine ⟨p, p', vs, vs', rfl, rfl, h1, h2, Nat.le_trans (by omega : _ ≤ 100000) (by decide), fun l hl => q l Hf _ (Same.refl _) (S.newOwn hl ⟨_, upd_same, g1.append g2⟩)⟩
theorem Reps.rep {H : Hp} {xs : List V} {us : List PyData} (h : Reps H xs us) : ∀ k : Nat, Reps H (List.replicate k xs).flatten (List.replicate k us).flatten
  | 0 => .nil
  | k + 1 => by
    rw [List.replicate_succ, List.replicate_succ, List.flatten_cons, List.flatten_cons]
    exact h.append (h.rep k)
/-- xs * n -/
theorem el_rep {xs : List PyData} (ha : ES Z a ρ own s) (hb : ED Z b ρ own (.int i)) (l1 : Lst own s xs) (h : i ≤ 1000 ∧ -1000 ≤ i) (h2 : xs.length ≤ 1000) : EL Z (.BinOp a .Mult b pos) ρ own (List.replicate i.toNat xs).flatten := el_bin op_rep ha hb fun v w Hf H S r1 r2 Q q => by
  obtain ⟨p, vs, rfl, h1, g1⟩ := l1.at S r1
  cases r2
  have e1 := g1.length
  refine ⟨p, i, vs, rfl, rfl, h1, by omega, by omega, ?_, fun l hl => q l Hf _ (Same.refl _) (S.newOwn hl ⟨_, upd_same, g1.rep _⟩)⟩
  have : vs.length * i.toNat ≤ 1000 * 1000 := Nat.mul_le_mul (by omega) (by omega)
  exact Nat.le_trans this (by decide)

/-! comparisons, tests -/
theorem es_cmp {op : CmpOp} {r : R2} {u : Slot} (ho : OpR Z.X (compareOp op) r) (hm : behindInMarks op b = false) (ha : ES Z a ρ own s) (hb : ES Z b ρ own t)
    (hr : ∀ v w Hf H, Sat Z.B Hf H own → SlotR Hf v s → SlotR Hf w t → ∀ Q : VK, (∀ z Hf' H', Same Hf Hf' → Sat Z.B Hf' H' own → SlotR Hf' z u → Q z H') → r v w H Q) : ES Z (.Compare a [op] [b] pos) ρ own u := fun Hf σ H S R Q q =>
  wE.of (pe_cmpR ho peW peW hm) (ha Hf σ H S R _ fun v Hf1 H1 m1 S1 r1 => hb Hf1 σ H1 S1 (R.mono m1) _ fun w Hf2 H2 m2 S2 r2 => hr v w Hf2 H2 S2 (r1.mono m2) r2 Q fun z Hf3 H3 m3 S3 r3 => q z Hf3 H3 ((m1.trans m2).trans m3) S3 r3)
/-- a comparison that is a bool: as a value and as a test -/
def CmpB (Z : Ctx) (op : CmpOp) (own : Own) (s t : Slot) (k : Bool) : Prop := ∃ r : R2, OpR Z.X (compareOp op) r ∧ ∀ v w Hf H, Sat Z.B Hf H own → SlotR Hf v s → SlotR Hf w t → ∀ Q : VK, Q (.bl k) H → r v w H Q
theorem ed_cmp {op : CmpOp} {k : Bool} (hc : CmpB Z op own s t k) (ha : ES Z a ρ own s) (hb : ES Z b ρ own t) (hm : behindInMarks op b = false := by first | exact nomark _ | rfl) : ED Z (.Compare a [op] [b] pos) ρ own (.bool k) := by
  obtain ⟨r, ho, hr⟩ := hc
  exact es_cmp ho hm ha hb fun v w Hf H S r1 r2 Q q => hr v w Hf H S r1 r2 Q (q _ Hf H (Same.refl _) S (.bl k))
theorem et_cmp {op : CmpOp} {k : Bool} (hc : CmpB Z op own s t k) (ha : ES Z a ρ own s) (hb : ES Z b ρ own t) (hm : behindInMarks op b = false := by first | exact nomark _ | rfl) : ET Z (.Compare a [op] [b] pos) ρ own k := by
  obtain ⟨r, ho, hr⟩ := hc
  exact fun Hf σ H S R Q q => wT.of (pt_cmpR ho peW peW hm) (ha Hf σ H S R _ fun v Hf1 H1 m1 S1 r1 => hb Hf1 σ H1 S1 (R.mono m1) _ fun w Hf2 H2 m2 S2 r2 => hr v w Hf2 H2 S2 (r1.mono m2) r2 _ ⟨k, rfl, q Hf2 H2 (m1.trans m2) S2⟩)
theorem c_le : CmpB Z .LtE own (.d (.int i)) (.d (.int j)) (decide (i ≤ j)) := ⟨_, op_le, fun v w Hf H S r1 r2 Q q => by cases r1; cases r2; exact ⟨i, j, rfl, rfl, q⟩⟩
theorem c_ge : CmpB Z .GtE own (.d (.int i)) (.d (.int j)) (decide (j ≤ i)) := ⟨_, op_ge, fun v w Hf H S r1 r2 Q q => by cases r1; cases r2; exact ⟨i, j, rfl, rfl, q⟩⟩
theorem c_neI : CmpB Z .NotEq own (.d (.int i)) (.d (.int j)) (!decide (i = j)) := ⟨_, op_ne, fun v w Hf H S r1 r2 Q q => by
  cases r1; cases r2
  refine ⟨rfl, ?_⟩
  rw [dec_int, Bool.beq_eq_decide_eq]
  exact q⟩
theorem c_neS {z w : Str} : CmpB Z .NotEq own (.d (.str z)) (.d (.str w)) (!decide (z = w)) := ⟨_, op_ne, fun v w Hf H S r1 r2 Q q => by
  cases r1; cases r2
  refine ⟨rfl, ?_⟩
  rw [dec_str, Bool.beq_eq_decide_eq]
  exact q⟩
/-- data, or a list of one's own, as data -/
def Dat (own : Own) (s : Slot) (x : PyData) : Prop := s = .d x ∨ ∃ ds, x = .list ds ∧ Lst own s ds
theorem Dat.at {B : Bs} {Hf H : Hp} {v : V} (L : Dat own s x) (S : Sat B Hf H own) (r : SlotR Hf v s) : Rep H v x := by
  rcases L with rfl | ⟨ds, rfl, L⟩
  · exact Rep.mono S.e1 r
  · obtain ⟨p, vs, rfl, h1, h2⟩ := L.at S r
    exact .lst h1 (h2.mono S.e1)
theorem Dat.d : Dat own (.d x) x := .inl rfl
theorem Dat.o {p : Addr} {ds : List PyData} (h : (p, OO.lst ds) ∈ own) : Dat own (.raw (.ref p)) (.list ds) := .inr ⟨ds, rfl, .o h⟩
theorem c_eq (g : Gd Z k) (d1 : Dat own s x) (d2 : Dat own t y) (h1 : SeqAt.shaped x = true) (h2 : SeqAt.shaped y = true) : CmpB Z .Eq own s t (PyData.eqv x y) := ⟨_, op_eqD g.hr.units, fun v w Hf H S r1 r2 Q q => ⟨x, y, (d1.at S r1).dp, (d2.at S r2).dp, h1, h2, q⟩⟩
theorem c_ne (g : Gd Z k) (d1 : Dat own s x) (d2 : Dat own t y) (h1 : SeqAt.shaped x = true) (h2 : SeqAt.shaped y = true) : CmpB Z .NotEq own s t (!PyData.eqv x y) := ⟨_, op_neD g.hr.units, fun v w Hf H S r1 r2 Q q => ⟨x, y, (d1.at S r1).dp, (d2.at S r2).dp, h1, h2, q⟩⟩
/-- is None -/
def isNone : Slot → Bool
  | .d .none => true
  | .raw .non => true
  | _ => false
theorem isNone_at {Hf : Hp} {v : V} (hs : s ≠ .un) (r : SlotR Hf v s) : decide (v = .non) = isNone s := by
  cases s with
  | un => exact absurd rfl hs
  | d x => cases r <;> rfl
  | raw w =>
    cases (show v = w from r)
    cases v <;> rfl
theorem c_isN (hs : s ≠ .un) : CmpB Z .Is own s (.d .none) (isNone s) := ⟨_, op_isN, fun v w Hf H S r1 r2 Q q => by
  cases r2
  exact ⟨rfl, by rw [isNone_at hs r1]; exact q⟩⟩
/-- a bool as a test -/
theorem et_val {k : Bool} (h : ED Z e ρ own (.bool k)) (he : ∀ whole, isTrue e Z.X.env whole = (do let v ← whole; standAt e.pos; holding [v] (truthy v)) := by intro _; rfl) : ET Z e ρ own k := fun Hf σ H S R Q q =>
  wT.of (pt_val peW he) (h Hf σ H S R _ fun v Hf1 H1 m1 S1 r1 => by cases r1; exact ⟨k, rfl, q Hf1 H1 m1 S1⟩)
theorem EW.et {k : Bool} (h : EW Z e ρ own k) : ET Z e ρ own k := fun Hf σ H S R Q q => wT.of pwW.pt (h Hf σ H S R Q q)
theorem et_not {k : Bool} (h : ET Z e ρ own k) : ET Z (.UnaryOp .Not e pos) ρ own (!k) := fun Hf σ H S R Q q => wT.of (pt_not ptW) (h Hf σ H S R _ fun Hf1 H1 m1 S1 => q Hf1 H1 m1 S1)
variable {rest : List Expr}
theorem ew_and1 {k : Bool} (h : ET Z a ρ own k) : EW Z (.BoolOp .And [a] pos) ρ own k := fun Hf σ H S R Q q => wW.of (pw_and1 ptW) (h Hf σ H S R Q q)
theorem ew_or1 {k : Bool} (h : ET Z a ρ own k) : EW Z (.BoolOp .Or [a] pos) ρ own k := fun Hf σ H S R Q q => wW.of (pw_or1 ptW) (h Hf σ H S R Q q)
theorem ew_and {k l : Bool} (h1 : ET Z a ρ own k) (h2 : k = true → EW Z (.BoolOp .And (b :: rest) pos) ρ own l) : EW Z (.BoolOp .And (a :: b :: rest) pos) ρ own (k && l) := fun Hf σ H S R Q q => wW.of (pw_and ptW pwW) (h1 Hf σ H S R _ fun Hf1 H1 m1 S1 => by
  cases k with
  | true =>
    refine iteT (h2 rfl Hf1 σ H1 S1 (R.mono m1) Q fun Hf2 H2 m2 S2 => q Hf2 H2 (m1.trans m2) S2)
  | false => exact iteF (q Hf1 H1 m1 S1))
theorem ew_or {k l : Bool} (h1 : ET Z a ρ own k) (h2 : k = false → EW Z (.BoolOp .Or (b :: rest) pos) ρ own l) : EW Z (.BoolOp .Or (a :: b :: rest) pos) ρ own (k || l) := fun Hf σ H S R Q q => wW.of (pw_or ptW pwW) (h1 Hf σ H S R _ fun Hf1 H1 m1 S1 => by
  cases k with
  | true => exact iteT (q Hf1 H1 m1 S1)
  | false =>
    refine iteF (h2 rfl Hf1 σ H1 S1 (R.mono m1) Q fun Hf2 H2 m2 S2 => q Hf2 H2 (m1.trans m2) S2))
theorem ed_one {op : BoolOp} (h : ES Z a ρ own s) : ES Z (.BoolOp op [a] pos) ρ own s := fun Hf σ H S R Q q => wE.of (pe_one peW) (h Hf σ H S R Q q)
theorem ed_and {k l : Bool} (h1 : ED Z a ρ own (.bool k)) (h2 : k = true → ED Z (.BoolOp .And (b :: rest) pos) ρ own (.bool l)) : ED Z (.BoolOp .And (a :: b :: rest) pos) ρ own (.bool (k && l)) := fun Hf σ H S R Q q => wE.of (pe_and peW peW) (h1 Hf σ H S R _ fun v Hf1 H1 m1 S1 r1 => by
  cases r1
  refine ⟨k, rfl, ?_⟩
  cases k with
  | true => exact iteT (h2 rfl Hf1 σ H1 S1 (R.mono m1) Q fun v Hf2 H2 m2 S2 r2 => q v Hf2 H2 (m1.trans m2) S2 r2)
  | false => exact iteF (q _ Hf1 H1 m1 S1 (.bl false)))
theorem ed_not {k : Bool} (h : ED Z a ρ own (.bool k)) : ED Z (.UnaryOp .Not a pos) ρ own (.bool (!k)) := fun Hf σ H S R Q q => wE.of (pe_not peW) (h Hf σ H S R _ fun v Hf1 H1 m1 S1 r1 => by
  cases r1
  exact ⟨k, rfl, q _ Hf1 H1 m1 S1 (.bl _)⟩)
theorem es_if {k : Bool} (h : ET Z c ρ own k) (h1 : k = true → ES Z a ρ own s) (h2 : k = false → ES Z b ρ own s) : ES Z (.IfExp c a b pos) ρ own s := fun Hf σ H S R Q q => wE.of (pe_ifExp ptW peW peW) (h Hf σ H S R _ fun Hf1 H1 m1 S1 => by
  cases k with
  | true => exact iteT (h1 rfl Hf1 σ H1 S1 (R.mono m1) Q fun v Hf2 H2 m2 S2 r2 => q v Hf2 H2 (m1.trans m2) S2 r2)
  | false => exact iteF (h2 rfl Hf1 σ H1 S1 (R.mono m1) Q fun v Hf2 H2 m2 S2 r2 => q v Hf2 H2 (m1.trans m2) S2 r2))
theorem el_if {k : Bool} {ds : List PyData} (h : ET Z c ρ own k) (h1 : k = true → EL Z a ρ own ds) (h2 : k = false → EL Z b ρ own ds) : EL Z (.IfExp c a b pos) ρ own ds := fun Hf σ H S R Q q => wE.of (pe_ifExp ptW peW peW) (h Hf σ H S R _ fun Hf1 H1 m1 S1 => by
  cases k with
  | true => exact iteT (h1 rfl Hf1 σ H1 S1 (R.mono m1) Q fun v Hf2 H2 m2 S2 => q v Hf2 H2 (m1.trans m2) S2)
  | false => exact iteF (h2 rfl Hf1 σ H1 S1 (R.mono m1) Q fun v Hf2 H2 m2 S2 => q v Hf2 H2 (m1.trans m2) S2))
theorem et_chain {op op' : CmpOp} {k l : Bool} (hc1 : CmpB Z op own s t k) (hc2 : CmpB Z op' own t u l) (ha : ES Z a ρ own s) (hb : ES Z b ρ own t) (hd : ES Z c ρ own u) (hm : lastMarks [op, op'] [b, c] = false := by with_unfolding_all rfl) :
    ET Z (.Compare a [op, op'] [b, c] pos) ρ own (k && l) := by
  obtain ⟨r, ho, hr⟩ := hc1
  obtain ⟨r', ho', hr'⟩ := hc2
  refine fun Hf σ H S R Q q => wT.of (pt_chain ho ho' peW peW peW hm) (ha Hf σ H S R _ fun v Hf1 H1 m1 S1 r1 => hb Hf1 σ H1 S1 (R.mono m1) _ fun w Hf2 H2 m2 S2 r2 => hr v w Hf2 H2 S2 (r1.mono m2) r2 _ ⟨k, rfl, ?_⟩)
  cases k with
  | false => exact iteF ⟨_, rfl, q Hf2 H2 (m1.trans m2) S2⟩
  | true => exact iteT (hd Hf2 σ H2 S2 (R.mono (m1.trans m2)) _ fun z Hf3 H3 m3 S3 r3 => hr' w z Hf3 H3 S3 (r2.mono m3) r3 _ ⟨l, rfl, q Hf3 H3 ((m1.trans m2).trans m3) S3⟩)
theorem ed_chain {op op' : CmpOp} {k l : Bool} (hc1 : CmpB Z op own s t k) (hc2 : CmpB Z op' own t u l) (ha : ES Z a ρ own s) (hb : ES Z b ρ own t) (hd : ES Z c ρ own u) (hm : lastMarks [op, op'] [b, c] = false := by with_unfolding_all rfl) :
    ED Z (.Compare a [op, op'] [b, c] pos) ρ own (.bool (k && l)) := by
  obtain ⟨r, ho, hr⟩ := hc1
  obtain ⟨r', ho', hr'⟩ := hc2
  refine fun Hf σ H S R Q q => wE.of (pe_chain ho ho' peW peW peW hm) (ha Hf σ H S R _ fun v Hf1 H1 m1 S1 r1 => hb Hf1 σ H1 S1 (R.mono m1) _ fun w Hf2 H2 m2 S2 r2 => hr v w Hf2 H2 S2 (r1.mono m2) r2 _ ⟨k, rfl, ?_⟩)
  cases k with
  | false => exact iteF (q _ Hf2 H2 (m1.trans m2) S2 (.bl false))
  | true => exact iteT (hd Hf2 σ H2 S2 (R.mono (m1.trans m2)) _ fun z Hf3 H3 m3 S3 r3 => hr' w z Hf3 H3 S3 (r2.mono m3) r3 _ (q _ Hf3 H3 ((m1.trans m2).trans m3) S3 (.bl l)))

/-! arguments, displays -/
theorem ea_nil : EA Z [] ρ own [] := fun Hf σ H S R Q q => wA.of pa_nil (q [] Hf H (Same.refl _) S .nil)
theorem ea_cons {ss : List Slot} (h : ES Z e ρ own s) (hr : EA Z es ρ own ss) (hs : starEach (e :: es) Z.X.env = (false, eval e Z.X.env) :: starEach es Z.X.env := by rfl) : EA Z (e :: es) ρ own (s :: ss) := fun Hf σ H S R Q q => wA.of (pa_cons peW paW hs) (h Hf σ H S R _ fun v Hf1 H1 m1 S1 r1 =>
  hr Hf1 σ H1 S1 (R.mono m1) _ fun vs Hf2 H2 m2 S2 r2 => q (v :: vs) Hf2 H2 (m1.trans m2) S2 (.cons (r1.mono m2) r2))
theorem el_lst {ds : List PyData} (h : EA Z es ρ own (ds.map Slot.d)) (hl : ds.length ≤ 1000 := by exact Nat.le_of_ble_eq_true rfl) : EL Z (.List es pos) ρ own ds := fun Hf σ H S R Q q => wE.of (pe_lst paW) (h Hf σ H S R _ fun vs Hf1 H1 m1 S1 r1 => by
  have r := r1.data
  refine ⟨Nat.le_trans (by rw [r.length]; exact hl) (by decide), fun p hp => q p _ _ m1 (S1.newOwn hp ⟨_, upd_same, r⟩)⟩)
theorem ed_lst {ds : List PyData} (h : EA Z es ρ own (ds.map Slot.d)) (hl : ds.length ≤ 1000 := by exact Nat.le_of_ble_eq_true rfl) : ED Z (.List es pos) ρ own (.list ds) := (el_lst h hl).ed

/-! items, slices -/
theorem atI_rep {H : Hp} {vs : List V} {ds : List PyData} {i : Int} {d : PyData} (r : Reps H vs ds) (h : atI ds i = some d) : ∃ v, atI vs i = some v ∧ Rep H v d := by
  unfold atI at h ⊢
  rw [r.length]
  cases e : ixN ds.length i with
  | none => rw [e] at h; cases h
  | some j =>
    rw [e] at h
    obtain ⟨v, h1, h2⟩ := r.get (show ds[j]? = some d from h)
    exact ⟨v, h1, h2⟩
theorem ed_ixL {ds : List PyData} {d : PyData} (ha : ES Z a ρ own s) (hb : ED Z b ρ own (.int i)) (l : Lst own s ds) (h : atI ds i = some d) (hs : PlainIx b := by exact fun _ _ => rfl) : ED Z (.Subscript a b pos) ρ own d := fun Hf σ H S R Q q =>
  wE.of (pe_ix ix_list peW peW hs) (ha Hf σ H S R _ fun v Hf1 H1 m1 S1 r1 => hb Hf1 σ H1 S1 (R.mono m1) _ fun w Hf2 H2 m2 S2 r2 => by
    obtain ⟨p, vs, rfl, h1, g1⟩ := l.at S2 (r1.mono m2)
    cases r2
    obtain ⟨z, h2, g2⟩ := atI_rep g1 h
    exact ⟨p, vs, i, z, rfl, rfl, SqL.of h1, h2, q z Hf2 H2 (m1.trans m2) S2 g2⟩)
/-- an optional part of a slice -/
def PT2 (Z : Ctx) (e : Option Expr) (ρ : List Slot) (own : Own) (o : Option Int) : Prop := ∃ t : TO, PO Z.X e t ∧ ∀ Hf σ H, Sat Z.B Hf H own → EnvR Hf σ ρ → ∀ Q : Option Int → Hp → Prop, (∀ Hf' H', Same Hf Hf' → Sat Z.B Hf' H' own → Q o H') → t σ H Q
theorem po_no : PT2 Z none ρ own none := ⟨_, po_none, fun Hf σ H S R Q q => q Hf H (Same.refl _) S⟩
theorem po_yes (h : ED Z e ρ own (.int i)) : PT2 Z (some e) ρ own (some i) := ⟨_, po_some peW, fun Hf σ H S R Q q => h Hf σ H S R _ fun v Hf1 H1 m1 S1 r1 => by
  cases r1
  exact ⟨i, rfl, q Hf1 H1 m1 S1⟩⟩
end

/-! ### statements -/
structure DE where
  nx : List Slot → Own → Prop
  rt : Slot → Own → Prop
  bk : List Slot → Own → Prop := fun _ _ => False
  ct : List Slot → Own → Prop := fun _ _ => False
def lift (B : Bs) (H0 : Hp) (D : DE) : Ends where
  nx := fun σ H => ∃ Hf ρ own, Same H0 Hf ∧ Sat B Hf H own ∧ EnvR Hf σ ρ ∧ D.nx ρ own
  rt := fun v H => ∃ Hf s own, Same H0 Hf ∧ Sat B Hf H own ∧ SlotR Hf v s ∧ s ≠ .un ∧ D.rt s own
  bk := fun σ H => ∃ Hf ρ own, Same H0 Hf ∧ Sat B Hf H own ∧ EnvR Hf σ ρ ∧ D.bk ρ own
  ct := fun σ H => ∃ Hf ρ own, Same H0 Hf ∧ Sat B Hf H own ∧ EnvR Hf σ ρ ∧ D.ct ρ own
def SD (Z : Ctx) (st : Stmt) (D : DE) (ρ : List Slot) (own : Own) : Prop := ∀ H0 Hf σ H, Same H0 Hf → Sat Z.B Hf H own → EnvR Hf σ ρ → wS Z.X st (lift Z.B H0 D) σ H
def SDs (Z : Ctx) (st : List Stmt) (D : DE) (ρ : List Slot) (own : Own) : Prop := ∀ H0 Hf σ H, Same H0 Hf → Sat Z.B Hf H own → EnvR Hf σ ρ → wSs Z.X st (lift Z.B H0 D) σ H
section
variable {Z : Ctx} {D : DE} {ρ : List Slot} {own : Own} {pos : Pos} {st : Stmt} {sts A B : List Stmt} {e a b c : Expr} {x : PyData} {s t : Slot} {k : Nat}
theorem SP.imp {X : Cx} {pins : List (Addr × Obj)} {D D' : Ends} {f : Flow} {s' : Shared} (h : SP X pins D f s') (h1 : ∀ σ H, D.nx σ H → D'.nx σ H) (h2 : ∀ v H, D.rt v H → D'.rt v H) (h3 : ∀ σ H, D.bk σ H → D'.bk σ H) (h4 : ∀ σ H, D.ct σ H → D'.ct σ H) : SP X pins D' f s' := by
  cases f with
  | next => obtain ⟨σ, H, I, q⟩ := h; exact ⟨σ, H, I, h1 _ _ q⟩
  | brk => obtain ⟨σ, H, I, q⟩ := h; exact ⟨σ, H, I, h3 _ _ q⟩
  | cont => obtain ⟨σ, H, I, q⟩ := h; exact ⟨σ, H, I, h4 _ _ q⟩
  | ret u => obtain ⟨v, σ, H, I, r, q⟩ := h; exact ⟨v, σ, H, I, r, h2 _ _ q⟩
theorem wS.imp {X : Cx} {D D' : Ends} {σ : L2.St} {H : Hp} (h : wS X st D σ H) (h1 : ∀ σ H, D.nx σ H → D'.nx σ H) (h2 : ∀ v H, D.rt v H → D'.rt v H) (h3 : ∀ σ H, D.bk σ H → D'.bk σ H) (h4 : ∀ σ H, D.ct σ H → D'.ct σ H) : wS X st D' σ H :=
  ⟨fun pins s I => thn (h.run pins s I) fun f s' q => SP.imp q h1 h2 h3 h4⟩
theorem wSs.imp {X : Cx} {D D' : Ends} {σ : L2.St} {H : Hp} (h : wSs X sts D σ H) (h1 : ∀ σ H, D.nx σ H → D'.nx σ H) (h2 : ∀ v H, D.rt v H → D'.rt v H) (h3 : ∀ σ H, D.bk σ H → D'.bk σ H) (h4 : ∀ σ H, D.ct σ H → D'.ct σ H) : wSs X sts D' σ H :=
  ⟨fun pins s I => thn (h.run pins s I) fun f s' q => SP.imp q h1 h2 h3 h4⟩
theorem sds_nil (h : D.nx ρ own) : SDs Z [] D ρ own := fun H0 Hf σ H m0 S R => wSs.of pss_nil ⟨Hf, ρ, own, m0, S, R, h⟩
theorem sds_cons (h : SD Z st { D with nx := fun ρ own => SDs Z sts D ρ own } ρ own) : SDs Z (st :: sts) D ρ own := fun H0 Hf σ H m0 S R => wSs.of (pss_cons psW pssW) (wS.imp (h H0 Hf σ H m0 S R) (fun σ' H' ⟨Hf', ρ', own', m', S', R', q⟩ => q H0 Hf' σ' H' m' S' R') (fun _ _ q => q) (fun _ _ q => q) (fun _ _ q => q))
theorem sds_one (h : SD Z st D ρ own) : SDs Z [st] D ρ own := fun H0 Hf σ H m0 S R => wSs.of (pss_one psW) (h H0 Hf σ H m0 S R)
/-- name = e -/
theorem sd_set (i : Nat) {z : Str} {pos' : Pos} (hN : Z.X.N.Nodup) (he : ES Z e ρ own s) (h : D.nx (ρ.set i s) own) (hi : Z.X.N[i]? = some z := by rfl) (hx : Loc Z.X.env.scope z := by first | exact Or.inl rfl | exact Or.inr rfl) (hs : swapsWith e (some (.Name z pos')) pos.line Z.X.env = pure false := by rfl)
    (hf : Z.X.fn z = true ∨ Z.X.env.scope.names.lookup z = some .local := by first | exact .inl rfl | exact .inr rfl | assumption) : SD Z (.Assign [.Name z pos'] e pos) D ρ own := fun H0 Hf σ H m0 S R => wS.of (ps_set hN hi hx peW hs hf) (he Hf σ H S R _ fun v Hf1 H1 m1 S1 r1 => ⟨Hf1, _, own, m0.trans m1, S1, (R.mono m1).set r1 i, h⟩)
theorem sd_ret (he : ES Z e ρ own s) (hs : s ≠ .un) (h : D.rt s own) : SD Z (.Return (some e) pos) D ρ own := fun H0 Hf σ H m0 S R => wS.of (ps_ret peW) (he Hf σ H S R _ fun v Hf1 H1 m1 S1 r1 => ⟨Hf1, s, own, m0.trans m1, S1, r1, hs, h⟩)
theorem sd_retD (he : ED Z e ρ own x) (h : D.rt (.d x) own) : SD Z (.Return (some e) pos) D ρ own := sd_ret he (fun q => nomatch q) h
theorem sd_expr (he : ES Z e ρ own s) (h : D.nx ρ own) (hs : swapsWith e none pos.line Z.X.env = pure false := by rfl) : SD Z (.Expr e pos) D ρ own := fun H0 Hf σ H m0 S R => wS.of (ps_expr peW hs) (he Hf σ H S R _ fun v Hf1 H1 m1 S1 r1 => ⟨Hf1, ρ, own, m0.trans m1, S1, R.mono m1, h⟩)
theorem sd_if {l : Bool} (hc : ET Z c ρ own l) (h1 : l = true → SDs Z A D ρ own) (h2 : l = false → SDs Z B D ρ own) : SD Z (.If c A B pos) D ρ own := fun H0 Hf σ H m0 S R => wS.of (ps_if ptW pssW pssW) (hc Hf σ H S R _ fun Hf1 H1 m1 S1 => by
  cases l with
  | true => exact iteT (h1 rfl H0 Hf1 σ H1 (m0.trans m1) S1 (R.mono m1))
  | false => exact iteF (h2 rfl H0 Hf1 σ H1 (m0.trans m1) S1 (R.mono m1)))
/-- weaker ends -/
theorem SDs.imp {D' : DE} (h : SDs Z sts D ρ own) (h1 : ∀ ρ own, D.nx ρ own → D'.nx ρ own) (h2 : ∀ s own, D.rt s own → D'.rt s own) (h3 : ∀ ρ own, D.bk ρ own → D'.bk ρ own) (h4 : ∀ ρ own, D.ct ρ own → D'.ct ρ own) : SDs Z sts D' ρ own := fun H0 Hf σ H m0 S R => wSs.imp (h H0 Hf σ H m0 S R)
  (fun _ _ ⟨a, b, c, m, d, e, f⟩ => ⟨a, b, c, m, d, e, h1 _ _ f⟩) (fun _ _ ⟨a, b, c, m, d, e, g, f⟩ => ⟨a, b, c, m, d, e, g, h2 _ _ f⟩) (fun _ _ ⟨a, b, c, m, d, e, f⟩ => ⟨a, b, c, m, d, e, h3 _ _ f⟩) (fun _ _ ⟨a, b, c, m, d, e, f⟩ => ⟨a, b, c, m, d, e, h4 _ _ f⟩)
/-- a list of one's own is data from here on (its name: slot i) -/
theorem sds_freeze (i : Nat) {oa ob : Own} {p : Addr} {ds : List PyData} (hi : ρ[i]? = some (.raw (.ref p))) (h : SDs Z sts D (ρ.set i (.d (.list ds))) (oa ++ ob)) : SDs Z sts D ρ (oa ++ (p, .lst ds) :: ob) := fun H0 Hf σ H m0 S R => by
  obtain ⟨Hf', m, S', r⟩ := S.freeze
  refine h H0 Hf' σ H (m0.trans m) S' ?_
  have hv := (R.mono m).raw hi
  have R' := (R.mono m).set (v := .ref p) (s := .d (.list ds)) r i
  have e : σ.set i (some (.ref p)) = σ := by
    refine List.ext_getElem? fun j => ?_
    by_cases hj : i = j
    · subst hj
      have hl : i < σ.length := by
        obtain ⟨h, _⟩ := List.getElem?_eq_some_iff.mp hv
        exact h
      rw [List.getElem?_set_self hl, hv]
    · rw [List.getElem?_set_ne hj]
  rw [e] at R'
  exact R'
end
end Sd


namespace Sd
open PySem PySem.Spec PyProof.Rows L2
/-! ### values with a change of what is owned -/
def EG (Z : Ctx) (e : Expr) (ρ : List Slot) (own : Own) (R : Slot → Own → Prop) : Prop := ∀ Hf σ H, Sat Z.B Hf H own → EnvR Hf σ ρ → ∀ Q : VK, (∀ v Hf' H' s own', Same Hf Hf' → Sat Z.B Hf' H' own' → SlotR Hf' v s → s ≠ .un → R s own' → Q v H') → wE Z.X e σ H Q
section
variable {Z : Ctx} {e a b c : Expr} {es : List Expr} {ρ : List Slot} {own : Own} {pos : Pos} {x y : PyData} {i j : Int} {s t u : Slot} {k : Nat} {R : Slot → Own → Prop}
theorem ES.toEG (h : ES Z e ρ own s) (hs : s ≠ .un) (q : R s own) : EG Z e ρ own R := fun Hf σ H S E Q k => h Hf σ H S E Q fun v Hf' H' m S' r => k v Hf' H' s own m S' r hs q
theorem EG.toES (h : EG Z e ρ own fun t o => t = s ∧ o = own) : ES Z e ρ own s := fun Hf σ H S E Q k => h Hf σ H S E Q fun v Hf' H' t o m S' r _ q => by
  obtain ⟨rfl, rfl⟩ := q
  exact k v Hf' H' m S' r
theorem EG.toEL {ds : List PyData} (h : EG Z e ρ own fun t o => ∃ p, t = .raw (.ref p) ∧ o = (p, .lst ds) :: own) : EL Z e ρ own ds := fun Hf σ H S E Q k => h Hf σ H S E Q fun v Hf' H' t o m S' r _ q => by
  obtain ⟨p, rfl, rfl⟩ := q
  cases (show v = .ref p from r)
  exact k p Hf' H' m S'
theorem EL.toEG {ds : List PyData} (h : EL Z e ρ own ds) (q : ∀ p, R (.raw (.ref p)) ((p, .lst ds) :: own)) : EG Z e ρ own R := fun Hf σ H S E Q k => h Hf σ H S E Q fun p Hf' H' m S' => k _ Hf' H' (.raw (.ref p)) _ m S' rfl (fun z => nomatch z) (q p)
theorem EG.imp {R' : Slot → Own → Prop} (h : EG Z e ρ own R) (q : ∀ s o, R s o → R' s o) : EG Z e ρ own R' := fun Hf σ H S E Q k => h Hf σ H S E Q fun v Hf' H' s o m S' r hs z => k v Hf' H' s o m S' r hs (q s o z)
/-- a op b, the right one with a change -/
theorem eg_bin {op : Operator} {r : R2} {R1 : Slot → Own → Prop} (ho : OpR Z.X (binaryOp op) r) (ha : ES Z a ρ own s) (hb : EG Z b ρ own R1)
    (hr : ∀ v w Hf H t own', Sat Z.B Hf H own' → SlotR Hf v s → SlotR Hf w t → R1 t own' → ∀ Q : VK, (∀ z Hf' H' u, Same Hf Hf' → Sat Z.B Hf' H' own' → SlotR Hf' z u → u ≠ .un → R u own' → Q z H') → r v w H Q) : EG Z (.BinOp a op b pos) ρ own R := fun Hf σ H S E Q q =>
  wE.of (pe_op ho peW peW) (ha Hf σ H S E _ fun v Hf1 H1 m1 S1 r1 => hb Hf1 σ H1 S1 (E.mono m1) _ fun w Hf2 H2 t own' m2 S2 r2 _ q2 => hr v w Hf2 H2 t own' S2 (r1.mono m2) r2 q2 Q fun z Hf3 H3 u m3 S3 r3 hu q3 => q z Hf3 H3 u own' ((m1.trans m2).trans m3) S3 r3 hu q3)
theorem eg_add {P : Int → Own → Prop} (ha : ED Z a ρ own (.int i)) (hb : EG Z b ρ own fun t o => ∃ j, t = .d (.int j) ∧ P j o) : EG Z (.BinOp a .Add b pos) ρ own (fun t o => ∃ j, t = .d (.int (i + j)) ∧ P j o) := eg_bin op_add ha hb fun v w Hf H t own' S r1 r2 q2 Q q => by
  obtain ⟨j, rfl, hp⟩ := q2
  cases r1; cases r2
  exact ⟨i, j, rfl, rfl, q _ Hf H (.d (.int (i + j))) (Same.refl _) S (Rep.int (i + j)) (fun z => nomatch z) ⟨j, rfl, hp⟩⟩
end

/-! ### built-ins called by name -/
section
variable {Z : Ctx} {e a b c : Expr} {es : List Expr} {ρ : List Slot} {own : Own} {pos p : Pos} {x y : PyData} {i j : Int} {s t u : Slot} {k : Nat} {ss : List Slot}
theorem es_callB {id : String} {z : Str} {r : List V → Hp → VK → Prop} (hc : CallR Z.X (.builtin id) r) (hg : Gl Z.X z) (hm : Z.X.mg z = none) (hv : bootBuiltins z = some (.builtin id)) (ha : EA Z (e :: es) ρ own ss)
    (hr : ∀ vs Hf H, Sat Z.B Hf H own → SlotsR Hf vs ss → ∀ Q : VK, (∀ v Hf' H', Same Hf Hf' → Sat Z.B Hf' H' own → SlotR Hf' v s → Q v H') → r vs H Q)
    (hn : z ≠ "__name__" := by decide) (hdb : (z == ("__debug__" : Str)) = false := by decide) (hs : starEach (e :: es) Z.X.env = (false, eval e Z.X.env) :: starEach es Z.X.env := by first | assumption | rfl) (hpl : (backTo pos (starEach es Z.X.env)).any (·.1) = false := by first | assumption | rfl) : ES Z (.Call (.Name z p) (e :: es) [] pos) ρ own s := fun Hf σ H S E Q q =>
  wE.of (pe_callB hc hg hm hv paW hn hdb hs hpl) (ha Hf σ H S E _ fun vs Hf1 H1 m1 S1 r1 => hr vs Hf1 H1 S1 r1 Q fun v Hf2 H2 m2 S2 r2 => q v Hf2 H2 (m1.trans m2) S2 r2)
theorem es_callTy {T : String} {z : Str} {r : List V → Hp → VK → Prop} (hc : CallR Z.X (.type T) r) (hg : Gl Z.X z) (hm : Z.X.mg z = none) (hv : bootBuiltins z = some (.type T)) (ha : EA Z (e :: es) ρ own ss)
    (hr : ∀ vs Hf H, Sat Z.B Hf H own → SlotsR Hf vs ss → ∀ Q : VK, (∀ v Hf' H', Same Hf Hf' → Sat Z.B Hf' H' own → SlotR Hf' v s → Q v H') → r vs H Q)
    (hn : z ≠ "__name__" := by decide) (hdb : (z == ("__debug__" : Str)) = false := by decide) (hs : starEach (e :: es) Z.X.env = (false, eval e Z.X.env) :: starEach es Z.X.env := by first | assumption | rfl) (hpl : (backTo pos (starEach es Z.X.env)).any (·.1) = false := by first | assumption | rfl) : ES Z (.Call (.Name z p) (e :: es) [] pos) ρ own s := fun Hf σ H S E Q q =>
  wE.of (pe_callTy hc hg hm hv paW hn hdb hs hpl) (ha Hf σ H S E _ fun vs Hf1 H1 m1 S1 r1 => hr vs Hf1 H1 S1 r1 Q fun v Hf2 H2 m2 S2 r2 => q v Hf2 H2 (m1.trans m2) S2 r2)
theorem el_callTy {T : String} {z : Str} {ds : List PyData} {r : List V → Hp → VK → Prop} (hc : CallR Z.X (.type T) r) (hg : Gl Z.X z) (hm : Z.X.mg z = none) (hv : bootBuiltins z = some (.type T)) (ha : EA Z (e :: es) ρ own ss)
    (hr : ∀ vs Hf H, Sat Z.B Hf H own → SlotsR Hf vs ss → ∀ Q : VK, (∀ p Hf' H', Same Hf Hf' → Sat Z.B Hf' H' ((p, .lst ds) :: own) → Q (.ref p) H') → r vs H Q)
    (hn : z ≠ "__name__" := by decide) (hdb : (z == ("__debug__" : Str)) = false := by decide) (hs : starEach (e :: es) Z.X.env = (false, eval e Z.X.env) :: starEach es Z.X.env := by first | assumption | rfl) (hpl : (backTo pos (starEach es Z.X.env)).any (·.1) = false := by first | assumption | rfl) : EL Z (.Call (.Name z p) (e :: es) [] pos) ρ own ds := fun Hf σ H S E Q q =>
  wE.of (pe_callTy hc hg hm hv paW hn hdb hs hpl) (ha Hf σ H S E _ fun vs Hf1 H1 m1 S1 r1 => hr vs Hf1 H1 S1 r1 Q fun v Hf2 H2 m2 S2 => q v Hf2 H2 (m1.trans m2) S2)
theorem SlotsR.one {Hf : Hp} {vs : List V} (h : SlotsR Hf vs [s]) : ∃ v, vs = [v] ∧ SlotR Hf v s := by
  cases h with
  | cons a b => cases b; exact ⟨_, rfl, a⟩
theorem SlotsR.two {Hf : Hp} {vs : List V} (h : SlotsR Hf vs [s, t]) : ∃ v w, vs = [v, w] ∧ SlotR Hf v s ∧ SlotR Hf w t := by
  cases h with
  | cons a b =>
    obtain ⟨w, rfl, c⟩ := b.one
    exact ⟨_, w, rfl, a, c⟩
/-- len of a list -/
theorem ed_len {ds : List PyData} (hm : Z.X.mg "len" = none) (h : ES Z e ρ own s) (L : Lst own s ds) (hg : Gl Z.X "len" := by rfl) (hs : starEach [e] Z.X.env = (false, eval e Z.X.env) :: starEach [] Z.X.env := by rfl) : ED Z (.Call (.Name "len" p) [e] [] pos) ρ own (.int ds.length) :=
  es_callB call_len_seq hg hm PySem.boot_len (ea_cons h ea_nil hs) fun vs Hf H S r0 Q q => by
    obtain ⟨v, rfl, r⟩ := r0.one
    obtain ⟨p, vs, rfl, h1, h2⟩ := L.at S r
    exact ⟨p, vs, rfl, .inl (SqL.of h1), by rw [h2.length]; exact q _ Hf H (Same.refl _) S (.int _)⟩
theorem ed_lenS {z : Str} (hm : Z.X.mg "len" = none) (h : ED Z e ρ own (.str z)) (hz : z.length ≤ sizeLine) (hg : Gl Z.X "len" := by rfl) (hs : starEach [e] Z.X.env = (false, eval e Z.X.env) :: starEach [] Z.X.env := by rfl) : ED Z (.Call (.Name "len" p) [e] [] pos) ρ own (.int z.length) :=
  es_callB call_len_str hg hm PySem.boot_len (ea_cons h ea_nil hs) fun vs Hf H S r0 Q q => by
    obtain ⟨v, rfl, r⟩ := r0.one
    cases r
    exact ⟨z, rfl, hz, q _ Hf H (Same.refl _) S (.int _)⟩
theorem ed_all {ns : List Bool} (g : Gd Z k) (hm : Z.X.mg "all" = none) (h : ES Z e ρ own s) (L : Lst own s (ns.map PyData.bool)) (hg : Gl Z.X "all" := by rfl) (hs : starEach [e] Z.X.env = (false, eval e Z.X.env) :: starEach [] Z.X.env := by rfl) : ED Z (.Call (.Name "all" p) [e] [] pos) ρ own (.bool (ns.all id)) :=
  es_callB (cr_all g.calm) hg hm (by decide +kernel) (ea_cons h ea_nil hs) fun vs Hf H S r0 Q q => by
    obtain ⟨v, rfl, r⟩ := r0.one
    obtain ⟨p, vs, rfl, e1, e2⟩ := L.at S r
    cases e2.of_bls
    exact ⟨p, ns, rfl, SqL.of e1, q _ Hf H (Same.refl _) S (.bl _)⟩
/-- isinstance of data -/
def tyD : PyData → String
  | .none => "NoneType"
  | .bool _ => "bool"
  | .int _ => "int"
  | .str _ => "str"
  | .list _ => "list"
  | .tuple _ => "tuple"
  | .dict _ => "dict"
theorem tyX_rep {K : PySem.W.Frag} {H : Hp} {v : V} {d : PyData} (r : Rep H v d) : TyX K H v (.type (tyD d)) := by
  cases r with
  | non => exact .base .non
  | bl b => exact .base (.bl b)
  | int i => exact .base (.int i)
  | str z => exact .base (.str z)
  | lst h _ => exact .base (.lst h)
  | tup h _ => exact .base (.tup h)
theorem ed_isi {T : String} {l : Bool} (hm : Z.X.mg "isinstance" = none) (h : ES Z a ρ own s) (d : Dat own s x) (hc : EV Z b ρ own (.ty T)) (hk : kitB (tyD x) T = some l) (hg : Gl Z.X "isinstance" := by rfl) (hs : starEach [a, b] Z.X.env = (false, eval a Z.X.env) :: starEach [b] Z.X.env := by rfl) (hs2 : starEach [b] Z.X.env = (false, eval b Z.X.env) :: starEach [] Z.X.env := by rfl) (hpl : (backTo pos (starEach [b] Z.X.env)).any (·.1) = false := by rfl) :
    ED Z (.Call (.Name "isinstance" p) [a, b] [] pos) ρ own (.bool l) :=
  es_callB call_isi hg hm (by decide +kernel) (ea_cons h (ea_cons hc ea_nil hs2) hs) (fun vs Hf H S r0 Q q => by
    obtain ⟨v, w, rfl, r1, r2⟩ := r0.two
    cases (show w = .ty T from r2)
    exact ⟨v, .ty T, .type (tyD x), .type T, l, rfl, .ty T, tyX_rep (d.at S r1), kit_ty hk, q _ Hf H (Same.refl _) S (.bl l)⟩) (by decide) (by decide) hs hpl
end

/-! ### targets -/
structure wG (X : Cx) (tg : Expr) (v : V) (σ : L2.St) (H : Hp) (Q : L2.St → Hp → Prop) : Prop where
  run : ∀ (pins : List (Addr × Obj)) (s : Shared) (u : Value), Inv X pins σ H s → RelV v u → wpAny (model X.prog X.w) X.A (assign tg X.env u) (fun _ s' => ∃ σ' H', Inv X pins σ' H' s' ∧ Q σ' H') X.xe s
structure wGs (X : Cx) (ts : List Expr) (vs : List V) (σ : L2.St) (H : Hp) (Q : L2.St → Hp → Prop) : Prop where
  run : ∀ (pins : List (Addr × Obj)) (s : Shared) (us : List Value), Inv X pins σ H s → Vals vs us → wpAny (model X.prog X.w) X.A (assignInOrder ((assignEach ts X.env).map (·.2)) us) (fun _ s' => ∃ σ' H', Inv X pins σ' H' s' ∧ Q σ' H') X.xe s
theorem pgW {X : Cx} {tg : Expr} : PG X tg (wG X tg) := ⟨fun pins s _ _ _ u _ I r h => h.run pins s u I r⟩
theorem wG.of {X : Cx} {tg : Expr} {g : TG} (h : PG X tg g) {v : V} {σ : L2.St} {H : Hp} {Q : L2.St → Hp → Prop} (q : g v σ H Q) : wG X tg v σ H Q := ⟨fun pins s u I r => h.run pins s σ H v u Q I r q⟩
theorem wGs.of {X : Cx} {ts : List Expr} {g : TGs} (h : PGs X ts g) {v : List V} {σ : L2.St} {H : Hp} {Q : L2.St → Hp → Prop} (q : g v σ H Q) : wGs X ts v σ H Q := ⟨fun pins s u I r => h.run pins s σ H v u Q I r q⟩
/-- σ' is σ but for the slots is -/
def But (is : List Nat) (σ σ' : L2.St) : Prop := σ'.length = σ.length ∧ ∀ i : Nat, i ∉ is → σ'[i]? = σ[i]?
def GT (Z : Ctx) (tg : Expr) (x : PyData) (ρ ρ' : List Slot) (is : List Nat) : Prop := ∀ own Hf σ H v, Sat Z.B Hf H own → EnvR Hf σ ρ → Rep Hf v x → ∀ Q : L2.St → Hp → Prop, (∀ σ', EnvR Hf σ' ρ' → But is σ σ' → Q σ' H) → wG Z.X tg v σ H Q
section
variable {Z : Ctx} {e : Expr} {es : List Expr} {ρ ρ' ρ'' : List Slot} {x : PyData} {xs : List PyData} {is js : List Nat} {pos : Pos}
theorem gt_name (i : Nat) {z : Str} (nd : Z.X.N.Nodup) (hi : Z.X.N[i]? = some z := by rfl) (hx : Loc Z.X.env.scope z := by first | exact Or.inl rfl | exact Or.inr rfl) (hf : Z.X.fn z = true ∨ Z.X.env.scope.names.lookup z = some .local := by first | exact .inl rfl | exact .inr rfl | assumption) : GT Z (.Name z pos) x ρ (ρ.set i (.d x)) [i] := fun own Hf σ H v S R r Q q =>
  wG.of (pg_name nd hi hx hf) (q _ (R.set (s := .d x) r i) ⟨by rw [List.length_set], fun j hj => by rw [List.getElem?_set_ne (fun z => hj (by simp [z]))]⟩)
end

/-! ### what is walked -/
structure Walk (B : Bs) (J : It) (Hf : Hp) (ys : List PyData) (Po : Own → Prop) : Prop where
  go : ∀ i Hf' H' own', Same Hf Hf' → Sat B Hf' H' own' → Po own' → i < ys.length → J.go i H'
  yld : ∀ i y Hf' H' own' x H2, Same Hf Hf' → Sat B Hf' H' own' → Po own' → ys[i]? = some y → J.yld i H' x H2 → ∃ Hf2, Same Hf' Hf2 ∧ Sat B Hf2 H2 own' ∧ Rep Hf2 x y
  stop : ∀ i Hf' H' own', Same Hf Hf' → Sat B Hf' H' own' → Po own' → ys.length ≤ i → J.stop i H'
def IT (Z : Ctx) (tg iter : Expr) (ρ : List Slot) (own : Own) (Po : Own → Prop) (ys : List PyData) : Prop := ∃ wi : TI, PI Z.X tg iter wi ∧ ∀ Hf σ H, Sat Z.B Hf H own → EnvR Hf σ ρ → ∀ R : It → Hp → Prop, (∀ J Hf' H', Same Hf Hf' → Sat Z.B Hf' H' own → Walk Z.B J Hf' ys Po → R J H') → wi σ H R
section
variable {Z : Ctx} {e tg a b c : Expr} {ρ : List Slot} {own : Own} {pos p : Pos} {i j : Int} {k : Nat} {s : Slot} {ds : List PyData}
theorem it_list (h : ED Z e ρ own (.list ds)) : IT Z tg e ρ own (fun _ => True) ds := ⟨_, pi_list peW, fun Hf σ H S E R q => h Hf σ H S E _ fun v Hf1 H1 m1 S1 r1 => by
  cases r1 with
  | @lst a xs _ h1 h2 =>
    refine ⟨a, rfl, ⟨xs, SqL.of (S1.e1 _ _ h1)⟩, q _ Hf1 H1 m1 S1 ⟨fun i Hf' H' own' m S' _ hi => ?_, fun i y Hf' H' own' x H2 m S' _ hy hx => ?_, fun i Hf' H' own' m S' _ hi => ?_⟩⟩
    · have hl : i < xs.length := by rw [h2.length]; exact hi
      exact ⟨xs, xs[i], SqL.of (S'.e1 _ _ (m _ _ h1)), List.getElem?_eq_getElem hl⟩
    · obtain ⟨rfl, hx⟩ := hx
      obtain ⟨v, h3, h4⟩ := h2.get hy
      have e1 := hx xs (SqL.of (S'.e1 _ _ (m _ _ h1)))
      rw [h3] at e1
      cases e1
      exact ⟨Hf', Same.refl _, S', h4.mono m⟩
    · exact ⟨xs, SqL.of (S'.e1 _ _ (m _ _ h1)), by rw [h2.length]; exact hi⟩⟩
/-- lo, lo + 1, .. as data -/
def rng (lo : Int) (n : Nat) : List PyData := (List.range n).map fun (k : Nat) => PyData.int (lo + (k : Int))
theorem rng_length (lo : Int) (n : Nat) : (rng lo n).length = n := by simp [rng]
theorem rng_get {lo : Int} {n k : Nat} {y : PyData} (h : (rng lo n)[k]? = some y) : k < n ∧ y = .int (lo + (k : Int)) := by
  unfold rng at h
  rw [List.getElem?_map] at h
  cases e : (List.range n)[k]? with
  | none => rw [e] at h; cases h
  | some m =>
    rw [e] at h
    obtain ⟨h1, h2⟩ := List.getElem?_eq_some_iff.mp e
    rw [List.getElem_range] at h2
    subst h2
    cases h
    exact ⟨by simpa using h1, rfl⟩
theorem walk_rng {B : Bs} {Hf : Hp} (lo : Int) (n : Nat) : Walk B (Itr lo n) Hf (rng lo n) (fun _ => True) where
  go := fun i _ _ _ _ _ _ hi => by rw [rng_length] at hi; exact hi
  yld := fun i y Hf' H' own' x H2 m S _ hy hx => by
    obtain ⟨rfl, rfl⟩ := hx
    obtain ⟨_, rfl⟩ := rng_get hy
    exact ⟨Hf', Same.refl _, S, .int _⟩
  stop := fun i _ _ _ _ _ _ hi => by rw [rng_length] at hi; exact hi
theorem it_range1 (hm : Z.X.mg "range" = none) (h : ED Z a ρ own (.int i)) (hi : -1000000 ≤ i ∧ i ≤ 1000000) (hg : Gl Z.X "range" := by rfl) (hs : starEach [a] Z.X.env = [(false, eval a Z.X.env)] := by rfl) : IT Z tg (.Call (.Name "range" p) [a] [] pos) ρ own (fun _ => True) (rng 0 i.toNat) :=
  ⟨_, pi_range1 hg hm paW hs, fun Hf σ H S E R q => (ea_cons h ea_nil hs) Hf σ H S E _ fun vs Hf1 H1 m1 S1 r1 => by
    obtain ⟨v, rfl, r⟩ := r1.one
    cases r
    exact ⟨i, rfl, by omega, by omega, q _ Hf1 H1 m1 S1 (walk_rng 0 _)⟩⟩
end

/-! ### loops -/
section
variable {Z : Ctx} {D : DE} {ρ : List Slot} {own : Own} {pos : Pos} {body : List Stmt} {tg iter c : Expr} {ys : List PyData} {Po : Own → Prop} {k : Nat}
theorem sd_for (g : Gd Z k) (it : IT Z tg iter ρ own Po ys) (I : Nat → List Slot → Own → Prop) (h0 : I 0 ρ own) (hp : ∀ i ρ own, I i ρ own → Po own)
    (step : ∀ i y ρ1 own1, ys[i]? = some y → I i ρ1 own1 → ∃ ρ2 is, GT Z tg y ρ1 ρ2 is ∧ SDs Z body { D with nx := I (i + 1), ct := I (i + 1), bk := D.nx } ρ2 own1) (hd : ∀ ρ1 own1, I ys.length ρ1 own1 → D.nx ρ1 own1)
    (hs : ∀ x, foldedSetIterable iter Z.X.env x = pure x := by intro _; rfl) : SD Z (.For tg iter body [] pos) D ρ own := by
  obtain ⟨wi, hi, hw⟩ := it
  refine fun H0 Hf σ H m0 S E => wS.of (ps_for g.po g.calm hi pgW pssW hs) (hw Hf σ H S E _ fun J Hf1 H1 m1 S1 W => ?_)
  refine ⟨fun i m σ' H' => m = ys.length - i ∧ i ≤ ys.length ∧ ∃ Hf' ρ' own', Same Hf1 Hf' ∧ Sat Z.B Hf' H' own' ∧ EnvR Hf' σ' ρ' ∧ I i ρ' own', ⟨ys.length, by omega, by omega, Hf1, ρ, own, Same.refl _, S1, E.mono m1, h0⟩, ?_⟩
  rintro i m σ' H' ⟨rfl, hi, Hf', ρ', own', m', S', E', q⟩
  by_cases hlt : i < ys.length
  · refine .inr ⟨W.go i Hf' H' own' m' S' (hp _ _ _ q) hlt, fun σ2 H2 => ∃ Hf2 ρ2 own2, Same Hf1 Hf2 ∧ Sat Z.B Hf2 H2 own2 ∧ EnvR Hf2 σ2 ρ2 ∧ I (i + 1) ρ2 own2, fun σ2 H2 ⟨Hf2, ρ2, own2, m2, S2, E2, q2⟩ => ⟨ys.length - (i + 1), by omega, rfl, hlt, Hf2, ρ2, own2, m2, S2, E2, q2⟩, fun x H2 hx => ?_⟩
    obtain ⟨Hf2, m2, S2, r2⟩ := W.yld i _ Hf' H' own' x H2 m' S' (hp _ _ _ q) (List.getElem?_eq_getElem hlt) hx
    obtain ⟨ρ2, is, gt, sb⟩ := step i _ ρ' own' (List.getElem?_eq_getElem hlt) q
    refine gt own' Hf2 σ' H2 x S2 (E'.mono m2) r2 _ fun σ3 E3 _ => ?_
    refine wSs.imp (sb Hf1 Hf2 σ3 H2 (m'.trans m2) S2 E3) (fun _ _ q => q) (fun v H3 ⟨a1, a2, a3, a4, a5⟩ => ⟨a1, a2, a3, (m0.trans m1).trans a4, a5⟩) (fun v H3 ⟨a1, a2, a3, a4, a5⟩ => ⟨a1, a2, a3, (m0.trans m1).trans a4, a5⟩) (fun _ _ q => q)
  · have e : i = ys.length := by omega
    subst e
    exact .inl ⟨W.stop _ Hf' H' own' m' S' (hp _ _ _ q) (Nat.le_refl _), Hf', ρ', own', (m0.trans m1).trans m', S', E', hd _ _ q⟩
end
end Sd


namespace Sd
open PySem PySem.Spec PyProof.Rows L2
/-! ### promises of defs, over data -/
inductive Out where
  | ret (s : Slot) (own : Own)
  | exc (C : Addr) (own : Own)
abbrev Pr := List Slot → Own → (Out → Prop) → Prop
def spG (Pre : Pr) : Sp := fun vs H Q E => ∃ Hf HB ss own post, Sat ⟨Hf, HB⟩ Hf H own ∧ SlotsR Hf vs ss ∧ Pre ss own post ∧ (∀ s own' v Hf' H', post (.ret s own') → Sat ⟨Hf, HB⟩ Hf' H' own' → SlotR Hf' v s → s ≠ .un → Q v H') ∧
  (∀ C own' Hf' H', post (.exc C own') → Sat ⟨Hf, HB⟩ Hf' H' own' → E (.ref C) none H')
/-- the heap without some addresses -/
def less (H : Hp) (l : List Addr) : Hp := fun p => if p ∈ l then none else H p
theorem less_out {H : Hp} {l : List Addr} {p : Addr} (h : p ∉ l) : less H l p = H p := by unfold less; rw [if_neg h]
theorem less_in {H : Hp} {l : List Addr} {p : Addr} (h : p ∈ l) : less H l p = none := by unfold less; rw [if_pos h]
theorem less_none {H : Hp} {l : List Addr} {p : Addr} (h : less H l p = none) : p ∈ l ∨ H p = none := by
  by_cases hp : p ∈ l
  · exact .inl hp
  · rw [less_out hp] at h; exact .inr h
/-- into a callee with part of what is owned, and back -/
theorem Sat.into {B : Bs} {Hf H : Hp} {oa o1 ob : Own} (S : Sat B Hf H (oa ++ o1 ++ ob)) : Sat ⟨Hf, less H (o1.map (·.1))⟩ Hf H o1 := by
  have nd := S.nd
  rw [List.map_append, List.map_append] at nd
  refine ⟨Same.refl _, S.e1, fun p o h => ?_, fun p o h hb => ?_, fun q hq => ?_, (List.nodup_append.mp (List.nodup_append.mp nd).1).2.1, S.tp⟩
  · have h : less H (o1.map (·.1)) p = some o := h
    by_cases hp : p ∈ o1.map (·.1)
    · rw [show less H (o1.map (·.1)) p = none from less_in hp] at h; cases h
    · rw [← less_out (H := H) hp]; exact h
  · rw [show Hf p = none from hb] at h; cases h
  · obtain ⟨a, b, c⟩ := S.ow q (by simp [hq])
    exact ⟨a, less_in (List.mem_map.mpr ⟨q, hq, rfl⟩), c⟩
theorem Sat.back {B : Bs} {Hf H Hf' H' : Hp} {oa o1 o1' ob : Own} (S : Sat B Hf H (oa ++ o1 ++ ob)) (S' : Sat ⟨Hf, less H (o1.map (·.1))⟩ Hf' H' o1') : Sat B Hf' H' (oa ++ o1' ++ ob) := by
  have nd := S.nd
  rw [List.map_append, List.map_append] at nd
  obtain ⟨nd12, nd3, d3⟩ := List.nodup_append.mp nd
  obtain ⟨nd1, nd2, d1⟩ := List.nodup_append.mp nd12
  have b1 : ∀ p, p ∈ o1.map (·.1) → B.HB p = none := fun p hp => by
    obtain ⟨q, hq, rfl⟩ := List.mem_map.mp hp
    exact (S.ow q (by simp [hq])).2.1
  have other : ∀ q, q ∈ oa ∨ q ∈ ob → q ∈ oa ++ o1 ++ ob ∧ q.1 ∉ o1.map (·.1) := fun q hq => by
    rcases hq with h | h
    · exact ⟨by simp [h], fun z => d1 _ (List.mem_map.mpr ⟨q, h, rfl⟩) _ z rfl⟩
    · exact ⟨by simp [h], fun z => d3 _ (List.mem_append_right _ z) _ (List.mem_map.mpr ⟨q, h, rfl⟩) rfl⟩
  have there : ∀ q, q ∈ oa ∨ q ∈ ob → ∃ u, less H (o1.map (·.1)) q.1 = some u ∧ H q.1 = some u := fun q hq => by
    obtain ⟨hm, hn⟩ := other q hq
    obtain ⟨u, hu⟩ := (S.ow q hm).2.2.there
    exact ⟨u, by rw [less_out hn]; exact hu, hu⟩
  have keyO : ∀ q, q ∈ oa ∨ q ∈ ob → Hf' q.1 = none ∧ B.HB q.1 = none ∧ OwnOk Hf' H' q.1 q.2 := fun q hq => by
    obtain ⟨hm, hn⟩ := other q hq
    obtain ⟨a, b, c⟩ := S.ow q hm
    obtain ⟨u, h1, h2⟩ := there q hq
    refine ⟨?_, b, c.mono S'.e0 fun u' hu' => S'.eb _ _ (by show less H _ q.1 = _; rw [less_out hn]; exact hu')⟩
    cases e : Hf' q.1 with
    | none => rfl
    | some o =>
      have z := S'.fr q.1 o e a
      have z' : less H (o1.map (·.1)) q.1 = none := z
      rw [h1] at z'; cases z'
  refine ⟨S.e0.trans S'.e0, S'.e1, fun p o h => ?_, fun p o h hb => ?_, fun q hq => ?_, ?_, S'.tp⟩
  · refine S'.eb p o ?_
    show less H _ p = some o
    rw [less_out (fun z => by rw [b1 p z] at h; cases h)]
    exact S.eb p o h
  · cases e : Hf p with
    | some u => exact S.fr p u e hb
    | none =>
      have z : less H (o1.map (·.1)) p = none := S'.fr p o h e
      rcases less_none z with z | z
      · exact b1 p z
      · exact S.eb.free z
  · rcases List.mem_append.mp hq with h | h
    · rcases List.mem_append.mp h with h | h
      · exact keyO q (.inl h)
      · obtain ⟨a, b, c⟩ := S'.ow q h
        refine ⟨a, ?_, c⟩
        rcases less_none (show less H (o1.map (·.1)) q.1 = none from b) with z | z
        · exact b1 _ z
        · exact S.eb.free z
    · exact keyO q (.inr h)
  · have dj : ∀ q q', (q ∈ oa ∨ q ∈ ob) → q' ∈ o1' → q.1 ≠ q'.1 := fun q q' hq hq' e => by
      obtain ⟨u, h1, _⟩ := there q hq
      have z : less H (o1.map (·.1)) q'.1 = none := (S'.ow q' hq').2.1
      rw [← e, h1] at z; cases z
    rw [List.map_append, List.map_append]
    refine List.nodup_append.mpr ⟨List.nodup_append.mpr ⟨nd1, S'.nd, fun x hx y hy => ?_⟩, nd3, fun x hx y hy => ?_⟩
    · obtain ⟨q, hq, rfl⟩ := List.mem_map.mp hx
      obtain ⟨q', hq', rfl⟩ := List.mem_map.mp hy
      exact dj q q' (.inl hq) hq'
    · obtain ⟨q', hq', rfl⟩ := List.mem_map.mp hy
      rcases List.mem_append.mp hx with hx | hx
      · exact d3 _ (List.mem_append_left _ hx) _ (List.mem_map.mpr ⟨q', hq', rfl⟩)
      · obtain ⟨q, hq, rfl⟩ := List.mem_map.mp hx
        exact fun e => dj q' q (.inr hq') hq e.symm

/-! ### a def keeps its promise -/
section
variable {P : Program} {w : World} {K : PySem.W.Frag} {mg : Str → Option Value} {base : Heap}
theorem SlotsR.env {Hf : Hp} : ∀ {vs : List V} {ss : List Slot}, SlotsR Hf vs ss → ∀ n : Nat, EnvR Hf (vs.map some ++ List.replicate n none) (ss ++ List.replicate n .un)
  | _, _, .nil, n => ⟨by simp, fun i s h => .inl (by
      have h' : (List.replicate n Slot.un)[i]? = some s := h
      rw [List.getElem?_replicate] at h'
      split at h'
      · cases h'; rfl
      · cases h')⟩
  | _, _, .cons (s := s₀) a b, n => by
    have ih := SlotsR.env b n
    refine ⟨by simpa using ih.len, fun i s h => ?_⟩
    cases i with
    | zero =>
      have e : s₀ = s := by simpa using h
      subst e
      exact .inr ⟨_, rfl, a⟩
    | succ i => exact ih.at_ i s (by simpa using h)
/-- the context of a def's body -/
abbrev ctxOf (P : Program) (w : World) (K : PySem.W.Frag) (mg : Str → Option Value) (base : Heap) (N : List Str) (qual : Str) (st : Stmt) (f : Addr) (cdv : Value) (A : Around) (outer : List Env) (s : Shared) (H : Hp) (E : XK) (B : Bs) (ex : Addr → List Slot → Own → Prop) : Ctx :=
  ⟨cxOf (L2.CX P w) P w K mg base N qual (defScope st) f cdv A outer s H E, B, ex⟩
/-- what a body may lean on: the module's facts, the def's names -/
structure Bd (Z : Ctx) (P : Program) (w : World) (K : PySem.W.Frag) (mg : Str → Option Value) (base : Heap) : Prop where
  p : Z.X.prog = P
  w_ : Z.X.w = w
  k : Z.X.K = K
  mg : Z.X.mg = mg
  b : Z.X.base = base
theorem okG {x qual : Str} {st : Stmt} {f : Addr} {fd : FuncData} {N ps : List Str} {k : Nat} {Pre : Pr} (F : Fun K x qual st f fd) (S : FnScope N ps (defScope st)) (len : ∀ ss own post, Pre ss own post → ss.length = ps.length)
    (hbody : ∀ (ss : List Slot) (own : Own) (post : Out → Prop), Pre ss own post → ∀ (cdv : Value) (A : Around) (outer : List Env) (s : Shared) (H : Hp) (E : XK) (B : Bs), Gd (ctxOf P w K mg base N qual st f cdv A outer s H E B (fun C _ own => post (.exc C own))) k →
      SDs (ctxOf P w K mg base N qual st f cdv A outer s H E B (fun C _ own => post (.exc C own))) (defBody st) { nx := fun _ own => post (.ret (.d .none) own), rt := fun s own => post (.ret s own) } (ss ++ List.replicate (N.length - ss.length) .un) own) :
    FnOk P w K mg base (L2.CX P w) (k + 1) f fd ps (spG Pre) := by
  refine F.okX S (fun vs H Q E h => ?_) (fun cdv A outer s H vs Q E hr h => ?_)
  · obtain ⟨Hf, HB, ss, own, post, _, r, h, _⟩ := h
    rw [r.length]
    exact len _ _ _ h
  · obtain ⟨Hf, HB, ss, own, post, S0, r, h, q1, q2⟩ := h
    refine ⟨_, pssW, ?_⟩
    have g : Gd (ctxOf P w K mg base N qual st f cdv A outer s H E ⟨Hf, HB⟩ (fun C _ own => post (.exc C own))) k := by
      refine ⟨?_, passes_of rfl, rfl, S.nd, hr⟩
      refine Takes.imp (takes_of (E := E) rfl rfl rfl rfl) fun c d σ H' hw => ?_
      obtain ⟨C, Hf', ρ, own', rfl, rfl, S', _, hx⟩ := hw
      exact q2 C own' Hf' H' hx S'
    have z := hbody ss own post h cdv A outer s H E ⟨Hf, HB⟩ g Hf Hf (L2.start N vs) H (Same.refl _) S0 (by unfold L2.start; rw [r.length]; exact r.env _)
    refine wSs.imp z (fun σ H' hz => ?_) (fun v H' hz => ?_) (fun _ _ hz => ?_) (fun _ _ hz => ?_)
    · obtain ⟨Hf', ρ, own', _, S', _, hp⟩ := hz
      exact q1 _ own' _ Hf' H' hp S' (Rep.non) (fun z => nomatch z)
    · obtain ⟨Hf', t, own', _, S', r', hu, hp⟩ := hz
      exact q1 t own' v Hf' H' hp S' r' hu
    · obtain ⟨_, _, _, _, _, _, hp⟩ := hz
      exact hp.elim
    · obtain ⟨_, _, _, _, _, _, hp⟩ := hz
      exact hp.elim
end

/-! ### calls of defs -/
/-- all that a call of the def named z wants -/
structure Fn (K : PySem.W.Frag) (mg : Str → Option Value) (P : Program) (w : World) (base : Heap) (z : Str) (ps : List Str) (k : Nat) (Pre : Pr) : Prop where
  ex : ∃ f fd, FnOk P w K mg base (L2.CX P w) k f fd ps (spG Pre) ∧ mg z = some (.ref f) ∧ PySem.W.keepIn K (.ref f) = true ∧ Binds K fd ps []
section
variable {Z : Ctx} {e a b c : Expr} {es : List Expr} {ρ : List Slot} {own oa o1 ob : Own} {pos p : Pos} {x y : PyData} {s t u : Slot} {k j : Nat} {ss : List Slot} {z : Str} {ps : List Str} {Pre : Pr} {post : Out → Prop} {R : Slot → Own → Prop}
theorem eg_call (F : Fn Z.X.K Z.X.mg Z.X.prog Z.X.w Z.X.base z ps j Pre) (g : Gd Z k) (hj : j ≤ k) (ha : EA Z (e :: es) ρ (oa ++ o1 ++ ob) ss) (hp : Pre ss o1 post) (h1 : ∀ s o1', post (.ret s o1') → R s (oa ++ o1' ++ ob)) (h2 : ∀ C o1', post (.exc C o1') → Z.ex C ρ (oa ++ o1' ++ ob))
    (hg : Gl Z.X z := by rfl) (hdb : (z == ("__debug__" : Str)) = false := by decide) (he : starEach (e :: es) Z.X.env = (false, eval e Z.X.env) :: starEach es Z.X.env := by rfl) (hpl : (backTo pos (starEach es Z.X.env)).any (·.1) = false := by rfl) :
    EG Z (.Call (.Name z p) (e :: es) [] pos) ρ (oa ++ o1 ++ ob) R := by
  obtain ⟨f, fd, ok, hm, hk, hb⟩ := F.ex
  refine fun Hf σ H S E Q q => wE.of (pe_callS (E := WE (Wish Z)) ok (g.hr.mono hj) hg hm hk hb (fun σ => passAt g.tk σ) paW hdb he hpl) (ha Hf σ H S E _ fun vs Hf1 H1 m1 S1 r1 => ?_)
  refine ⟨Hf1, less H1 (o1.map (·.1)), ss, o1, post, S1.into, r1, hp, fun s own' v Hf' H' hq S' r' hs => ?_, fun C own' Hf' H' hq S' => ?_⟩
  · exact q v Hf' H' s _ (m1.trans S'.e0) (S1.back S') r' hs (h1 s own' hq)
  · exact ⟨C, Hf', ρ, _, rfl, rfl, S1.back S', E.mono (m1.trans S'.e0), h2 C own' hq⟩
/-- a def called upon data, that gives data -/
theorem es_call (F : Fn Z.X.K Z.X.mg Z.X.prog Z.X.w Z.X.base z ps j Pre) (g : Gd Z k) (hj : j ≤ k) (ha : EA Z (e :: es) ρ own ss) (hp : Pre ss [] (fun o => o = .ret (.d x) []))
    (hg : Gl Z.X z := by rfl) (hdb : (z == ("__debug__" : Str)) = false := by decide) (he : starEach (e :: es) Z.X.env = (false, eval e Z.X.env) :: starEach es Z.X.env := by rfl) (hpl : (backTo pos (starEach es Z.X.env)).any (·.1) = false := by rfl) : ED Z (.Call (.Name z p) (e :: es) [] pos) ρ own x := by
  have := eg_call (p := p) (oa := []) (o1 := []) (ob := own) (R := fun t o => t = .d x ∧ o = own) F g hj ha hp (fun s o1' h => by cases h; exact ⟨rfl, rfl⟩) (fun C o1' h => nomatch h) hg hdb he hpl
  exact EG.toES this
end

/-! ### statements with a change of what is owned -/
section
variable {Z : Ctx} {D : DE} {ρ : List Slot} {own : Own} {pos : Pos} {e : Expr} {R : Slot → Own → Prop}
theorem sd_setG (i : Nat) {z : Str} {pos' : Pos} (hN : Z.X.N.Nodup) (he : EG Z e ρ own R) (h : ∀ s own', R s own' → D.nx (ρ.set i s) own') (hi : Z.X.N[i]? = some z := by rfl) (hx : Loc Z.X.env.scope z := by first | exact Or.inl rfl | exact Or.inr rfl) (hs : swapsWith e (some (.Name z pos')) pos.line Z.X.env = pure false := by rfl)
    (hf : Z.X.fn z = true ∨ Z.X.env.scope.names.lookup z = some .local := by first | exact .inl rfl | exact .inr rfl | assumption) : SD Z (.Assign [.Name z pos'] e pos) D ρ own := fun H0 Hf σ H m0 S E => wS.of (ps_set hN hi hx peW hs hf) (he Hf σ H S E _ fun v Hf1 H1 s own' m1 S1 r1 _ q => ⟨Hf1, _, own', m0.trans m1, S1, (E.mono m1).set r1 i, h s own' q⟩)
theorem sd_retG (he : EG Z e ρ own R) (h : ∀ s own', R s own' → D.rt s own') : SD Z (.Return (some e) pos) D ρ own := fun H0 Hf σ H m0 S E => wS.of (ps_ret peW) (he Hf σ H S E _ fun v Hf1 H1 s own' m1 S1 r1 hs q => ⟨Hf1, s, own', m0.trans m1, S1, r1, hs, h s own' q⟩)
end

/-! ### raise -/
section
variable {Z : Ctx} {D : DE} {ρ : List Slot} {own : Own} {pos p p2 pos' : Pos} {k : Nat}
/-- a class of errors of the program -/
structure ErrC (K : PySem.W.Frag) (mg : Str → Option Value) (z : Str) (C : Addr) : Prop where
  g : mg z = some (.ref C)
  x : PySem.W.excIn K C [.type "ValueError", .type "Exception", .type "BaseException", .type "object"] "ValueError.__new__" = true
  k : PySem.W.keepIn K (.ref C) = true
  b : PySem.W.subIn K (.ref C) (.type "BaseException") = some true
  t : PySem.W.typeIn K (.ref C) = some (.type "type")
theorem sd_raise {z m : Str} {C : Addr} {j : Nat} (g : Gd Z k) (T : ErrC Z.X.K Z.X.mg z C) (h : Z.ex C ρ own) (hg : Gl Z.X z := by rfl) (hdb : (z == ("__debug__" : Str)) = false := by decide) : SD Z (.Raise (some (.Call (.Name z p) [.Constant (.str m) j p2] [] pos')) none pos) D ρ own := fun H0 Hf σ H m0 S E =>
  wS.of (ps_raise g.calm g.tk (pmk_own PySem.F.excBase_ValueError T.x T.g T.k (raises_own T.b T.t) hg hdb)) ⟨C, Hf, ρ, own, rfl, rfl, S, E, h⟩
end

/-! ### while, augmented assignments, items stored, append -/
section
variable {Z : Ctx} {D : DE} {ρ : List Slot} {own oa ob : Own} {pos tpos : Pos} {body : List Stmt} {c e a b : Expr} {k : Nat} {i j : Int} {s t : Slot} {ds : List PyData} {x : PyData}
/-- xs[i] = e, xs one's own -/
theorem sd_setitem {p : Addr} {n : Nat} (he : ED Z e ρ (oa ++ (p, .lst ds) :: ob) x) (ha : EV Z a ρ (oa ++ (p, .lst ds) :: ob) (.ref p)) (hb : ED Z b ρ (oa ++ (p, .lst ds) :: ob) (.int i)) (hi : ixN ds.length i = some n) (h : D.nx ρ (oa ++ (p, .lst (ds.set n x)) :: ob))
    (hs : swapsWithSole [.Subscript a b tpos] e pos.line Z.X.env = pure false := by rfl) (hw : swappedStores [.Subscript a b tpos] e Z.X.env = pure none := by rfl) (h1 : (assignEach [.Subscript a b tpos] Z.X.env).map (·.2) = [assign (.Subscript a b tpos) Z.X.env] := by rfl)
    (hq : ∀ v, assign (.Subscript a b tpos) Z.X.env v = (do
      let ov ← holding [v] (eval a Z.X.env)
      let iv ← holding [v, ov] (eval b Z.X.env)
      standAt tpos
      holding [v, ov, iv] (setItem ov iv v)
      release [v, ov, iv] []) := by intro _; rfl) : SD Z (.Assign [.Subscript a b tpos] e pos) D ρ (oa ++ (p, .lst ds) :: ob) := fun H0 Hf σ H m0 S E => wS.of (ps_asg peW (pg_sub peW peW set_list hq) hs hw h1) (he Hf σ H S E _ fun v Hf1 H1 m1 S1 r1 => ha Hf1 σ H1 S1 (E.mono m1) _ fun w Hf2 H2 m2 S2 r2 =>
  hb Hf2 σ H2 S2 (E.mono (m1.trans m2)) _ fun z Hf3 H3 m3 S3 r3 => by
    cases r3
    cases (show w = .ref p from r2)
    obtain ⟨_, _, vs, g1, g2⟩ := S3.at (p := p) (oo := .lst ds) (by simp)
    refine ⟨p, vs, i, n, rfl, rfl, g1, by rw [g2.length]; exact hi, Hf3, ρ, _, ((m0.trans m1).trans m2).trans m3, S3.write (oo' := .lst (ds.set n x)) ⟨_, upd_same, g2.set ((show Rep Hf1 v x from r1).mono (m2.trans m3)) n⟩, E.mono ((m1.trans m2).trans m3), h⟩)
theorem atI_ixN {α : Type} {xs : List α} {i : Int} {n : Nat} {v : α} (h : ixN xs.length i = some n) (hv : xs[n]? = some v) : atI xs i = some v := by
  unfold atI
  rw [h]
  exact hv
end
end Sd


namespace Sd
open PySem PySem.Spec PyProof.Rows L2
/-! ### comprehensions -/
abbrev blkZ (Z : Ctx) (scope : Scope) (s : Shared) (H : Hp) (C : Addr) (cl : List (Str × Addr)) (fp : List Addr) : Ctx := ⟨Z.X.blk s H scope (compEnvC scope cl C Z.X.env) fp, Z.B, fun _ _ _ => False⟩
structure wTs (X : Cx) (ifs : List Expr) (σ : L2.St) (H : Hp) (Q : Bool → Hp → Prop) : Prop where
  run : ∀ (pins : List (Addr × Obj)) (s : Shared), Inv X pins σ H s → wpAny (model X.prog X.w) X.A (forIn ifs true fun c r => if r = true then do let ok ← isTrue c X.env (eval c X.env); pure (ForInStep.yield ok) else pure (ForInStep.yield r)) (TP X pins σ Q) X.xe s
theorem wTs.of {X : Cx} {ifs : List Expr} {t : TT} (h : PTs X ifs t) {σ : L2.St} {H : Hp} {Q : Bool → Hp → Prop} (q : t σ H Q) : wTs X ifs σ H Q := ⟨fun pins s I => h.run pins s σ H Q I q⟩
def ETs (Z : Ctx) (ifs : List Expr) (ρ : List Slot) (own : Own) (b : Bool) : Prop := ∀ Hf σ H, Sat Z.B Hf H own → EnvR Hf σ ρ → ∀ Q : Bool → Hp → Prop, (∀ Hf' H', Same Hf Hf' → Sat Z.B Hf' H' own → Q b H') → wTs Z.X ifs σ H Q
theorem ets_nil {Z : Ctx} {ρ : List Slot} {own : Own} : ETs Z [] ρ own true := fun Hf σ H S R Q q => wTs.of pts_nil (q Hf H (Same.refl _) S)
theorem Gd.blk {Z : Ctx} {k : Nat} (g : Gd Z k) (scope : Scope) (s : Shared) (H : Hp) (C : Addr) (cl : List (Str × Addr)) (fp : List Addr) : Gd (blkZ Z scope s H C cl fp) k :=
  ⟨Takes.imp takes0 fun _ _ _ _ ⟨_, _, _, _, _, _, _, _, h⟩ => h, PassesOwn.never, g.calm, g.nd, g.hr⟩
theorem wipe_get {σ : L2.St} {i : Nat} : ∀ {vs : List Nat}, (wipe σ vs)[i]? = if i ∈ vs then (σ[i]?).map (fun _ => none) else σ[i]?
  | [] => by simp [wipe]
  | v :: vs => by
    unfold wipe
    by_cases hi : v = i
    · subst hi
      rw [if_pos (by simp)]
      by_cases hl : v < σ.length
      · rw [List.getElem?_set_self (by rw [wipe_length]; exact hl), List.getElem?_eq_getElem hl]
        rfl
      · rw [List.getElem?_eq_none (by rw [List.length_set, wipe_length]; omega), List.getElem?_eq_none (by omega)]
        rfl
    · rw [List.getElem?_set_ne hi, wipe_get]
      by_cases h2 : i ∈ vs
      · rw [if_pos h2, if_pos (List.mem_cons_of_mem _ h2)]
      · rw [if_neg h2, if_neg (by simp only [List.mem_cons, not_or]; exact ⟨fun e => hi e.symm, h2⟩)]
theorem wipe_but {σ σ2 : L2.St} {is vs : List Nat} (hb : But is (wipe σ vs) σ2) (hi : ∀ i ∈ is, i ∈ vs) : wipe σ2 vs = wipe σ vs := by
  refine List.ext_getElem? fun i => ?_
  rw [wipe_get, wipe_get]
  by_cases h : i ∈ vs
  · rw [if_pos h, if_pos h]
    have hl : σ2.length = σ.length := by rw [hb.1, wipe_length]
    by_cases hn : i < σ.length
    · rw [List.getElem?_eq_getElem hn, List.getElem?_eq_getElem (by omega)]
      rfl
    · rw [List.getElem?_eq_none (by omega), List.getElem?_eq_none (by omega)]
  · rw [if_neg h, if_neg h, hb.2 i (fun z => h (hi i z)), wipe_get, if_neg h]
/-- a comprehension: what it needs, and what its list may be at the end -/
def CP (Z : Ctx) (elt tg iter : Expr) (ifs : List Expr) (scope : Scope) (ρ : List Slot) (own : Own) (Fin : List PyData → Own → Prop) : Prop :=
  ∃ (wi : TI) (g : TG) (tt : TT) (te : TE) (on : List (Str × Nat)), PI Z.X tg iter wi ∧ BlkOk Z.X.N Z.X.env.scope scope on ∧ (∀ (s : Shared) (H : Hp) (C : Addr) (cl : List (Str × Addr)) (fp : List Addr), PG (Z.X.blk s H scope (compEnvC scope cl C Z.X.env) fp) tg g) ∧
    (∀ (s : Shared) (H : Hp) (C : Addr) (cl : List (Str × Addr)) (fp : List Addr), PTs (Z.X.blk s H scope (compEnvC scope cl C Z.X.env) fp) ifs tt) ∧ (∀ (s : Shared) (H : Hp) (C : Addr) (cl : List (Str × Addr)) (fp : List Addr), PE (Z.X.blk s H scope (compEnvC scope cl C Z.X.env) fp) elt te) ∧
    ∀ Hf σ H, Sat Z.B Hf H own → EnvR Hf σ ρ → ∀ Q : VK, (∀ p Hf' H' ds own', Same Hf Hf' → Sat Z.B Hf' H' ((p, .lst ds) :: own') → Fin ds own' → Q (.ref p) H') → tLc wi g tt te (on.map (·.2)) σ H Q
section
variable {Z : Ctx} {elt tg iter : Expr} {ifs : List Expr} {scope : Scope} {ρ : List Slot} {own : Own} {Fin : List PyData → Own → Prop} {k : Nat} {Po : Own → Prop} {ys : List PyData} {pos : Pos} {D : DE}
theorem comp (g : Gd Z k) (it : IT Z tg iter ρ own Po ys) (on : List (Str × Nat)) (ok : BlkOk Z.X.N Z.X.env.scope scope on) (I : Nat → List PyData → Own → Prop) (h0 : I 0 [] own) (hpo : ∀ i acc o D, I i acc o → Po ((D, .lst acc) :: o)) (hlen : ∀ i acc o, I i acc o → acc.length < 100000)
    (step : ∀ i y acc o D, ys[i]? = some y → I i acc o → ∃ ρ2 is l, (∀ i ∈ is, i ∈ on.map (·.2)) ∧ (∀ s H C cl fp, GT (blkZ Z scope s H C cl fp) tg y (wipeR ρ (on.map (·.2))) ρ2 is) ∧ (∀ s H C cl fp, ETs (blkZ Z scope s H C cl fp) ifs ρ2 ((D, .lst acc) :: o) l) ∧
      (l = true → ∀ s H C cl fp, EG (blkZ Z scope s H C cl fp) elt ρ2 ((D, .lst acc) :: o) (fun t o2 => ∃ d o', t = .d d ∧ o2 = (D, .lst acc) :: o' ∧ I (i + 1) (acc ++ [d]) o')) ∧ (l = false → I (i + 1) acc o)) :
    CP Z elt tg iter ifs scope ρ own (fun ds o => I ys.length ds o) := by
  obtain ⟨wi, hi, hw⟩ := it
  refine ⟨wi, fun v σ H Q => ∀ s' H' C cl fp, wG (Z.X.blk s' H' scope (compEnvC scope cl C Z.X.env) fp) tg v σ H Q, fun σ H Q => ∀ s' H' C cl fp, wTs (Z.X.blk s' H' scope (compEnvC scope cl C Z.X.env) fp) ifs σ H Q, fun σ H Q => ∀ s' H' C cl fp, wE (Z.X.blk s' H' scope (compEnvC scope cl C Z.X.env) fp) elt σ H Q, on, hi, ok,
    fun s' H' C cl fp => ⟨fun pins s σ H v u Q I r h => (h s' H' C cl fp).run pins s u I r⟩, fun s' H' C cl fp => ⟨fun pins s σ H Q I h => (h s' H' C cl fp).run pins s I⟩, fun s' H' C cl fp => ⟨fun pins s σ H Q I h => (h s' H' C cl fp).run pins s I⟩, fun Hf σ H S E Q q => ?_⟩
  refine hw Hf σ H S E _ fun J Hf1 H1 m1 S1 W D hD => ?_
  refine ⟨fun i m H' => m = ys.length - i ∧ i ≤ ys.length ∧ ∃ Hf' acc o, Same Hf1 Hf' ∧ Sat Z.B Hf' H' ((D, .lst acc) :: o) ∧ I i acc o, ⟨ys.length, by omega, by omega, Hf1, [], own, Same.refl _, S1.newOwn hD ⟨[], upd_same, .nil⟩, h0⟩, ?_⟩
  rintro i m H' ⟨rfl, hil, Hf', acc, o, m', S', q'⟩
  by_cases hlt : i < ys.length
  · refine .inr ⟨W.go i Hf' H' _ m' S' (hpo i acc o D q') hlt, fun H2 => ∃ Hf2 acc2 o2, Same Hf1 Hf2 ∧ Sat Z.B Hf2 H2 ((D, .lst acc2) :: o2) ∧ I (i + 1) acc2 o2, fun H2 ⟨Hf2, acc2, o2, m2, S2, q2⟩ => ⟨ys.length - (i + 1), by omega, rfl, hlt, Hf2, acc2, o2, m2, S2, q2⟩, fun x H2 hx => ?_⟩
    obtain ⟨Hf2, m2, S2, r2⟩ := W.yld i _ Hf' H' _ x H2 m' S' (hpo i acc o D q') (List.getElem?_eq_getElem hlt) hx
    obtain ⟨ρ2, is, l, hin, gt, et, h1, h2⟩ := step i _ acc o D (List.getElem?_eq_getElem hlt) q'
    have E2 : EnvR Hf2 (wipe σ (on.map (·.2))) (wipeR ρ (on.map (·.2))) := (E.mono ((m1.trans m').trans m2)).wipe _
    intro s' H'' C cl fp
    refine gt s' H'' C cl fp _ Hf2 _ H2 x S2 E2 r2 _ fun σ3 E3 b3 => ⟨wipe_but b3 hin, ?_⟩
    intro s' H'' C cl fp
    refine et s' H'' C cl fp Hf2 σ3 H2 S2 E3 _ fun Hf3 H3 m3 S3 => ?_
    cases l with
    | false => exact iteF ⟨Hf3, acc, o, (m'.trans m2).trans m3, S3, h2 rfl⟩
    | true =>
      refine iteT ?_
      intro s' H'' C cl fp
      refine h1 rfl s' H'' C cl fp Hf3 σ3 H3 S3 (E3.mono m3) _ fun v Hf4 H4 t o2 m4 S4 r4 _ hq => ?_
      obtain ⟨d, o', rfl, rfl, hI⟩ := hq
      obtain ⟨_, _, vs, g1, g2⟩ := S4.at (p := D) (oo := .lst acc) (by simp)
      exact ⟨vs, g1, by rw [g2.length]; exact Nat.lt_of_lt_of_le (hlen _ _ _ q') (by decide), Hf4, acc ++ [d], o', ((m'.trans m2).trans m3).trans m4, S4.write (oa := []) (oo' := .lst (acc ++ [d])) ⟨_, upd_same, g2.append (.cons r4 .nil)⟩, hI⟩
  · have e : i = ys.length := by omega
    subst e
    exact .inl ⟨W.stop _ Hf' H' _ m' S' (hpo _ _ _ _ q') (Nat.le_refl _), q D Hf' H' acc o (m1.trans m') S' q'⟩
theorem eg_comp (g : Gd Z k) (h : CP Z elt tg iter ifs scope ρ own Fin) (hs : ∀ x, foldedSetIterable iter Z.X.env x = pure x := by intro _; rfl) : EG Z (.ListComp elt [⟨tg, iter, ifs, 0⟩] scope pos) ρ own (fun s o => ∃ p ds o', s = .raw (.ref p) ∧ o = (p, .lst ds) :: o' ∧ Fin ds o') := by
  obtain ⟨wi, gg, tt, te, on, hi, ok, hg, ht, he, hq⟩ := h
  exact fun Hf σ H S E Q q => wE.of (pe_lc g.calm g.nd hi ok hg ht he hs) (hq Hf σ H S E Q fun p Hf' H' ds own' m S' hf => q _ Hf' H' (.raw (.ref p)) _ m S' rfl (fun z => nomatch z) ⟨p, ds, own', rfl, rfl, hf⟩)
theorem el_comp {ds : List PyData} (g : Gd Z k) (h : CP Z elt tg iter ifs scope ρ own (fun xs o => xs = ds ∧ o = own)) (hs : ∀ x, foldedSetIterable iter Z.X.env x = pure x := by intro _; rfl) : EL Z (.ListComp elt [⟨tg, iter, ifs, 0⟩] scope pos) ρ own ds :=
  EG.toEL ((eg_comp g h hs).imp fun s o ⟨p, xs, o', e1, e2, e3, e4⟩ => ⟨p, e1, by rw [e2, e3, e4]⟩)
/-- .. whose elements change nothing -/
theorem compP {α : Type} (g : Gd Z k) (it : IT Z tg iter ρ own Po ys) (on : List (Str × Nat)) (ok : BlkOk Z.X.N Z.X.env.scope scope on) (xs : List α) (enc : α → PyData) (hy : ys = xs.map enc) (F : α → Option PyData) (ρ2 : α → List Slot) (is : List Nat)
    (his : ∀ i ∈ is, i ∈ on.map (·.2)) (hl : xs.length < 100000) (hpo : ∀ acc D, Po ((D, .lst acc) :: own)) (gt : ∀ a ∈ xs, ∀ s H C cl fp, Gd (blkZ Z scope s H C cl fp) k → GT (blkZ Z scope s H C cl fp) tg (enc a) (wipeR ρ (on.map (·.2))) (ρ2 a) is)
    (et : ∀ a ∈ xs, ∀ s H C cl fp o, Gd (blkZ Z scope s H C cl fp) k → ETs (blkZ Z scope s H C cl fp) ifs (ρ2 a) o (F a).isSome) (ed : ∀ a ∈ xs, ∀ d, F a = some d → ∀ s H C cl fp o, Gd (blkZ Z scope s H C cl fp) k → ED (blkZ Z scope s H C cl fp) elt (ρ2 a) o d) :
    CP Z elt tg iter ifs scope ρ own (fun ds o => ds = xs.filterMap F ∧ o = own) := by
  subst hy
  have := comp (Po := Po) (ys := xs.map enc) (elt := elt) (ifs := ifs) (scope := scope) g it on ok (fun i acc o => acc = (xs.take i).filterMap F ∧ o = own ∧ i ≤ xs.length) ⟨rfl, rfl, Nat.zero_le _⟩ (fun i acc o D h => by rw [h.2.1]; exact hpo acc D) (fun i acc o h => by
    rw [h.1]
    have h1 := List.length_filterMap_le F (xs.take i)
    rw [List.length_take] at h1
    omega) (fun i y acc o D hy h => by
      obtain ⟨rfl, rfl, hi⟩ := h
      rw [List.getElem?_map] at hy
      cases ea : xs[i]? with
      | none => rw [ea] at hy; cases hy
      | some a =>
        rw [ea] at hy
        cases hy
        have hm : a ∈ xs := List.mem_of_getElem? ea
        have hlt : i < xs.length := (List.getElem?_eq_some_iff.mp ea).1
        have tk : (xs.take (i + 1)).filterMap F = (xs.take i).filterMap F ++ (F a).toList := by
          rw [List.take_add_one, ea, List.filterMap_append]
          cases hF : F a <;> simp [hF]
        refine ⟨ρ2 a, is, (F a).isSome, his, fun s H C cl fp => gt a hm s H C cl fp (g.blk ..), fun s H C cl fp => et a hm s H C cl fp _ (g.blk ..), fun hs s H C cl fp => ?_, fun hs => ?_⟩
        · obtain ⟨d, hd⟩ := Option.isSome_iff_exists.mp hs
          exact ES.toEG (ed a hm d hd s H C cl fp _ (g.blk ..)) (fun z => nomatch z) ⟨d, o, rfl, rfl, by rw [tk, hd]; rfl, rfl, hlt⟩
        · refine ⟨?_, rfl, hlt⟩
          rw [tk]
          cases hF : F a with
          | none => simp
          | some d => rw [hF] at hs; cases hs)
  obtain ⟨a1, a2, a3, a4, a5, b1, b2, b3, b4, b5, b6⟩ := this
  refine ⟨a1, a2, a3, a4, a5, b1, b2, b3, b4, b5, fun Hf σ H S E Q q => b6 Hf σ H S E Q fun p Hf' H' ds own' m S' hf => q p Hf' H' ds own' m S' ⟨?_, hf.2.1⟩⟩
  rw [hf.1, List.length_map, List.take_length]
end

/-! ### more values -/
section
variable {Z : Ctx} {D : DE} {e a b : Expr} {ρ : List Slot} {own oa ob : Own} {pos p1 p2 p3 : Pos} {s t : Slot} {k j : Nat} {ds ys : List PyData}
end
end Sd


namespace Sd
open PySem PySem.Spec PyProof.Rows L2
/-! ### lists of values, one's own (raw); items with a change of what is owned -/
section
variable {Z : Ctx} {D : DE} {e a b c : Expr} {es : List Expr} {ρ : List Slot} {own oa ob : Own} {pos tpos p : Pos} {i j : Int} {s t : Slot} {k : Nat} {ds : List PyData} {x : PyData} {q : Addr} {vs : List V} {R : Slot → Own → Prop}
theorem es_ixR {v : V} (hq : (q, OO.raw (.lst vs)) ∈ own) (ha : EV Z a ρ own (.ref q)) (hb : ED Z b ρ own (.int i)) (h : atI vs i = some v) (hs : ∀ H, SlotR H v s) (hp : PlainIx b := by exact fun _ _ => rfl) : ES Z (.Subscript a b pos) ρ own s := fun Hf σ H S E Q k =>
  wE.of (pe_ix ix_list peW peW hp) (ha Hf σ H S E _ fun w Hf1 H1 m1 S1 r1 => hb Hf1 σ H1 S1 (E.mono m1) _ fun w2 Hf2 H2 m2 S2 r2 => by
    cases r2
    cases (show w = .ref q from r1)
    obtain ⟨_, _, g⟩ := S2.at hq
    exact ⟨q, vs, i, v, rfl, rfl, SqL.of g, h, k v Hf2 H2 (m1.trans m2) S2 (hs _)⟩)
theorem sd_setitemR {v : V} {n : Nat} (he : ES Z e ρ (oa ++ (q, .raw (.lst vs)) :: ob) s) (hv : ∀ H w, SlotR H w s → w = v) (ha : EV Z a ρ (oa ++ (q, .raw (.lst vs)) :: ob) (.ref q)) (hb : ED Z b ρ (oa ++ (q, .raw (.lst vs)) :: ob) (.int i)) (hi : ixN vs.length i = some n) (h : D.nx ρ (oa ++ (q, .raw (.lst (vs.set n v))) :: ob))
    (hs : swapsWithSole [.Subscript a b tpos] e pos.line Z.X.env = pure false := by rfl) (hw : swappedStores [.Subscript a b tpos] e Z.X.env = pure none := by rfl) (h1 : (assignEach [.Subscript a b tpos] Z.X.env).map (·.2) = [assign (.Subscript a b tpos) Z.X.env] := by rfl)
    (hq : ∀ v, assign (.Subscript a b tpos) Z.X.env v = (do
      let ov ← holding [v] (eval a Z.X.env)
      let iv ← holding [v, ov] (eval b Z.X.env)
      standAt tpos
      holding [v, ov, iv] (setItem ov iv v)
      release [v, ov, iv] []) := by intro _; rfl) : SD Z (.Assign [.Subscript a b tpos] e pos) D ρ (oa ++ (q, .raw (.lst vs)) :: ob) := fun H0 Hf σ H m0 S E => wS.of (ps_asg peW (pg_sub peW peW set_list hq) hs hw h1) (he Hf σ H S E _ fun v1 Hf1 H1 m1 S1 r1 => ha Hf1 σ H1 S1 (E.mono m1) _ fun w Hf2 H2 m2 S2 r2 =>
  hb Hf2 σ H2 S2 (E.mono (m1.trans m2)) _ fun z Hf3 H3 m3 S3 r3 => by
    cases r3
    cases (show w = .ref q from r2)
    cases hv _ _ r1
    obtain ⟨_, _, g⟩ := S3.at (p := q) (oo := .raw (.lst vs)) (by simp)
    exact ⟨q, vs, i, n, rfl, rfl, g, hi, Hf3, ρ, _, ((m0.trans m1).trans m2).trans m3, S3.write (oo' := .raw (.lst (vs.set n v))) upd_same, E.mono ((m1.trans m2).trans m3), h⟩)
/-- xs[..], the place with a change -/
theorem eg_ixL {P : Int → Own → Prop} (ha : ED Z a ρ own (.list ds)) (hb : EG Z b ρ own fun t o => ∃ i, t = .d (.int i) ∧ P i o) (h : ∀ i o, P i o → ∃ d, atI ds i = some d ∧ R (.d d) o) (hp : PlainIx b := by exact fun _ _ => rfl) : EG Z (.Subscript a b pos) ρ own R := fun Hf σ H S E Q k =>
  wE.of (pe_ix ix_list peW peW hp) (ha Hf σ H S E _ fun v Hf1 H1 m1 S1 r1 => hb Hf1 σ H1 S1 (E.mono m1) _ fun w Hf2 H2 t o m2 S2 r2 _ hq => by
    obtain ⟨i, rfl, hq⟩ := hq
    obtain ⟨d, h1, h2⟩ := h i o hq
    obtain ⟨p, vs, rfl, g1, g2⟩ := (Lst.d (own := o)).at S2 (r1.mono m2)
    cases r2
    obtain ⟨z, h3, h4⟩ := atI_rep g2 h1
    exact ⟨p, vs, i, z, rfl, rfl, SqL.of g1, h3, k z Hf2 H2 (.d d) o (m1.trans m2) S2 h4 (fun z => nomatch z) h2⟩)
/-- a new list turned into data -/
theorem EG.frz {P : List PyData → Own → Prop} (h : EG Z e ρ own fun s o => ∃ p ds o', s = .raw (.ref p) ∧ o = (p, .lst ds) :: o' ∧ P ds o') (hR : ∀ ds o, P ds o → R (.d (.list ds)) o) : EG Z e ρ own R := fun Hf σ H S E Q k => h Hf σ H S E Q fun v Hf1 H1 s o m1 S1 r1 hs hq => by
  obtain ⟨p, ds, o', rfl, rfl, hq⟩ := hq
  obtain ⟨Hf2, m2, S2, r2⟩ := Sat.freeze (oa := []) S1
  cases (show v = .ref p from r1)
  exact k _ Hf2 H1 (.d (.list ds)) o' (m1.trans m2) S2 r2 (fun z => nomatch z) (hR ds o' hq)
/-- arguments, the first with a change -/
def EAG (Z : Ctx) (es : List Expr) (ρ : List Slot) (own : Own) (R : List Slot → Own → Prop) : Prop := ∀ Hf σ H, Sat Z.B Hf H own → EnvR Hf σ ρ → ∀ Q : List V → Hp → Prop, (∀ vs Hf' H' ss own', Same Hf Hf' → Sat Z.B Hf' H' own' → SlotsR Hf' vs ss → R ss own' → Q vs H') → wA Z.X es σ H Q
theorem EA.toEAG {ss : List Slot} {R : List Slot → Own → Prop} (h : EA Z es ρ own ss) (q : R ss own) : EAG Z es ρ own R := fun Hf σ H S E Q k => h Hf σ H S E Q fun vs Hf' H' m S' r => k vs Hf' H' ss own m S' r q
theorem eag_cons {R : List Slot → Own → Prop} {P : Slot → Own → Prop} (h : EG Z e ρ own P) (hr : ∀ s o, P s o → s ≠ .un → EAG Z es ρ o (fun ss o' => R (s :: ss) o')) (hs : starEach (e :: es) Z.X.env = (false, eval e Z.X.env) :: starEach es Z.X.env := by rfl) : EAG Z (e :: es) ρ own R := fun Hf σ H S E Q k => wA.of (pa_cons peW paW hs) (h Hf σ H S E _ fun v Hf1 H1 s o m1 S1 r1 hu q1 =>
  hr s o q1 hu Hf1 σ H1 S1 (E.mono m1) _ fun vs Hf2 H2 ss o2 m2 S2 r2 q2 => k (v :: vs) Hf2 H2 (s :: ss) o2 (m1.trans m2) S2 (.cons (r1.mono m2) r2) q2)
end
/-! ### a range whose end changes what is owned, walked by a comprehension -/
section
variable {Z : Ctx} {elt tg iter a : Expr} {ifs : List Expr} {scope : Scope} {ρ : List Slot} {own : Own} {k : Nat} {pos p : Pos}
def ITG (Z : Ctx) (tg iter : Expr) (ρ : List Slot) (own : Own) (P : List PyData → Own → Prop) : Prop := ∃ wi : TI, PI Z.X tg iter wi ∧ ∀ Hf σ H, Sat Z.B Hf H own → EnvR Hf σ ρ → ∀ R : It → Hp → Prop, (∀ J Hf' H' ys own', Same Hf Hf' → Sat Z.B Hf' H' own' → P ys own' → Walk Z.B J Hf' ys (fun _ => True) → R J H') → wi σ H R
theorem itg_range1 {P : Int → Own → Prop} (hm : Z.X.mg "range" = none) (h : EG Z a ρ own fun t o => ∃ i, t = .d (.int i) ∧ (-1000000 ≤ i ∧ i ≤ 1000000) ∧ P i o) (hg : Gl Z.X "range" := by rfl) (hs : starEach [a] Z.X.env = [(false, eval a Z.X.env)] := by rfl) : ITG Z tg (.Call (.Name "range" p) [a] [] pos) ρ own (fun ys o => ∃ i, ys = rng 0 i.toNat ∧ P i o) :=
  ⟨_, pi_range1 hg hm paW hs, fun Hf σ H S E R q => (eag_cons (R := fun ss o => ∃ i, ss = [.d (.int i)] ∧ (-1000000 ≤ i ∧ i ≤ 1000000) ∧ P i o) h (fun s o hq _ => by
      obtain ⟨i, rfl, hi, hp⟩ := hq
      exact EA.toEAG ea_nil ⟨i, rfl, hi, hp⟩) hs) Hf σ H S E _ fun vs Hf1 H1 ss o m1 S1 r1 hq => by
    obtain ⟨i, rfl, hi, hp⟩ := hq
    obtain ⟨v, rfl, r⟩ := r1.one
    cases r
    exact ⟨i, rfl, by omega, by omega, q _ Hf1 H1 _ _ m1 S1 ⟨i, rfl, hp⟩ (walk_rng 0 _)⟩⟩
theorem compG {P : List PyData → Own → Prop} (g : Gd Z k) (it : ITG Z tg iter ρ own P) (on : List (Str × Nat)) (ok : BlkOk Z.X.N Z.X.env.scope scope on) (I : List PyData → Nat → List PyData → Own → Prop) (h0 : ∀ ys o, P ys o → I ys 0 [] o) (hlen : ∀ ys i acc o, I ys i acc o → acc.length < 100000)
    (step : ∀ ys i y acc o D, ys[i]? = some y → I ys i acc o → ∃ ρ2 is l, (∀ i ∈ is, i ∈ on.map (·.2)) ∧ (∀ s H C cl fp, GT (blkZ Z scope s H C cl fp) tg y (wipeR ρ (on.map (·.2))) ρ2 is) ∧ (∀ s H C cl fp, ETs (blkZ Z scope s H C cl fp) ifs ρ2 ((D, .lst acc) :: o) l) ∧
      (l = true → ∀ s H C cl fp, EG (blkZ Z scope s H C cl fp) elt ρ2 ((D, .lst acc) :: o) (fun t o2 => ∃ d o', t = .d d ∧ o2 = (D, .lst acc) :: o' ∧ I ys (i + 1) (acc ++ [d]) o')) ∧ (l = false → I ys (i + 1) acc o)) :
    CP Z elt tg iter ifs scope ρ own (fun ds o => ∃ ys, I ys ys.length ds o) := by
  obtain ⟨wi, hi, hw⟩ := it
  refine ⟨wi, fun v σ H Q => ∀ s' H' C cl fp, wG (Z.X.blk s' H' scope (compEnvC scope cl C Z.X.env) fp) tg v σ H Q, fun σ H Q => ∀ s' H' C cl fp, wTs (Z.X.blk s' H' scope (compEnvC scope cl C Z.X.env) fp) ifs σ H Q, fun σ H Q => ∀ s' H' C cl fp, wE (Z.X.blk s' H' scope (compEnvC scope cl C Z.X.env) fp) elt σ H Q, on, hi, ok,
    fun s' H' C cl fp => ⟨fun pins s σ H v u Q I r h => (h s' H' C cl fp).run pins s u I r⟩, fun s' H' C cl fp => ⟨fun pins s σ H Q I h => (h s' H' C cl fp).run pins s I⟩, fun s' H' C cl fp => ⟨fun pins s σ H Q I h => (h s' H' C cl fp).run pins s I⟩, fun Hf σ H S E Q q => ?_⟩
  refine hw Hf σ H S E _ fun J Hf1 H1 ys own1 m1 S1 hP W D hD => ?_
  refine ⟨fun i m H' => m = ys.length - i ∧ i ≤ ys.length ∧ ∃ Hf' acc o, Same Hf1 Hf' ∧ Sat Z.B Hf' H' ((D, .lst acc) :: o) ∧ I ys i acc o, ⟨ys.length, by omega, by omega, Hf1, [], own1, Same.refl _, S1.newOwn hD ⟨[], upd_same, .nil⟩, h0 ys own1 hP⟩, ?_⟩
  rintro i m H' ⟨rfl, hil, Hf', acc, o, m', S', q'⟩
  by_cases hlt : i < ys.length
  · refine .inr ⟨W.go i Hf' H' _ m' S' trivial hlt, fun H2 => ∃ Hf2 acc2 o2, Same Hf1 Hf2 ∧ Sat Z.B Hf2 H2 ((D, .lst acc2) :: o2) ∧ I ys (i + 1) acc2 o2, fun H2 ⟨Hf2, acc2, o2, m2, S2, q2⟩ => ⟨ys.length - (i + 1), by omega, rfl, hlt, Hf2, acc2, o2, m2, S2, q2⟩, fun x H2 hx => ?_⟩
    obtain ⟨Hf2, m2, S2, r2⟩ := W.yld i _ Hf' H' _ x H2 m' S' trivial (List.getElem?_eq_getElem hlt) hx
    obtain ⟨ρ2, is, l, hin, gt, et, h1, h2⟩ := step ys i _ acc o D (List.getElem?_eq_getElem hlt) q'
    have E2 : EnvR Hf2 (wipe σ (on.map (·.2))) (wipeR ρ (on.map (·.2))) := (E.mono ((m1.trans m').trans m2)).wipe _
    intro s' H'' C cl fp
    refine gt s' H'' C cl fp _ Hf2 _ H2 x S2 E2 r2 _ fun σ3 E3 b3 => ⟨wipe_but b3 hin, ?_⟩
    intro s' H'' C cl fp
    refine et s' H'' C cl fp Hf2 σ3 H2 S2 E3 _ fun Hf3 H3 m3 S3 => ?_
    cases l with
    | false => exact iteF ⟨Hf3, acc, o, (m'.trans m2).trans m3, S3, h2 rfl⟩
    | true =>
      refine iteT ?_
      intro s' H'' C cl fp
      refine h1 rfl s' H'' C cl fp Hf3 σ3 H3 S3 (E3.mono m3) _ fun v Hf4 H4 t o2 m4 S4 r4 _ hq => ?_
      obtain ⟨d, o', rfl, rfl, hI⟩ := hq
      obtain ⟨_, _, vs, g1, g2⟩ := S4.at (p := D) (oo := .lst acc) (by simp)
      exact ⟨vs, g1, by rw [g2.length]; exact Nat.lt_of_lt_of_le (hlen _ _ _ _ q') (by decide), Hf4, acc ++ [d], o', ((m'.trans m2).trans m3).trans m4, S4.write (oa := []) (oo' := .lst (acc ++ [d])) ⟨_, upd_same, g2.append (.cons r4 .nil)⟩, hI⟩
  · have e : i = ys.length := by omega
    subst e
    exact .inl ⟨W.stop _ Hf' H' _ m' S' trivial (Nat.le_refl _), q D Hf' H' acc o (m1.trans m') S' ⟨ys, q'⟩⟩
end
/-! ### a def of the text as the top has left it -/
structure Df (K : PySem.W.Frag) (mg : Str → Option Value) (z : Str) (st : Stmt) (ps : List Str) : Prop where
  ex : ∃ f fd, Fun K z z st f fd ∧ mg z = some (.ref f) ∧ ∀ us : List Value, us.length = ps.length → bindArgs fd ⟨us, []⟩ = pure (ps.zip us)
theorem Df.fn {K : PySem.W.Frag} {mg : Str → Option Value} {P : Program} {w : World} {base : Heap} {z : Str} {st : Stmt} {ps : List Str} {k : Nat} {Pre : Pr} (D : Df K mg z st ps) (h : ∀ f fd, Fun K z z st f fd → FnOk P w K mg base (L2.CX P w) k f fd ps (spG Pre)) : Fn K mg P w base z ps k Pre := by
  obtain ⟨f, fd, F, hm, hb⟩ := D.ex
  exact ⟨f, fd, h f fd F, hm, F.kp, Binds.all hb⟩
theorem df_mk {K : PySem.W.Frag} {mg : Str → Option Value} {h : Heap} {z : Str} {st : Stmt} {ps : List Str} {f : Addr} {oc : Value} {od an : Option Addr} {sl : Array (Option Value)} {kV dc pm cd ct : Value} (X : K.In h) (G : h.Ns mainGlobals mg)
    (hb : ∀ (kV doc pm : Value) (an : Option Addr) (cdv ct : Value) (us : List Value), us.length = ps.length → bindArgs (PySem.W.fnOf z z (defArgs st) (defBody st) (defScope st) .none kV doc pm an cdv ct) ⟨us, []⟩ = pure (ps.zip us))
    (a : PySem.W.nsIn K mainGlobals z = some (some (.ref f))) (l : K.lookup f = some ⟨oc, od, .func (PySem.W.fnOf z z (defArgs st) (defBody st) (defScope st) .none kV dc pm an cd ct), sl⟩) (c : PySem.W.codeIn K cd z = true) (k : PySem.W.keepIn K (.ref f) = true) : Df K mg z st ps :=
  have F := fun_mk (st := st) l c k
  ⟨f, _, F, PySem.W.mg_of X G a, fun us hl => hb _ _ _ _ _ _ us hl⟩
theorem err_mk {K : PySem.W.Frag} {mg : Str → Option Value} {h : Heap} {z : Str} {C : Addr} (X : K.In h) (G : h.Ns mainGlobals mg) (a : PySem.W.nsIn K mainGlobals z = some (some (.ref C)))
    (x : PySem.W.excIn K C [.type "ValueError", .type "Exception", .type "BaseException", .type "object"] "ValueError.__new__" = true) (k : PySem.W.keepIn K (.ref C) = true) (b : PySem.W.subIn K (.ref C) (.type "BaseException") = some true) (t : PySem.W.typeIn K (.ref C) = some (.type "type")) : ErrC K mg z C := ⟨PySem.W.mg_of X G a, x, k, b, t⟩
/-- the classes of the program -/
structure Cl where
  DayError : Addr
  BadYear : Addr
  BadDay : Addr
  BadNumber : Addr
  BadShare : Addr
  BadText : Addr
  NotFound : Addr
  Calendar : Addr
end Sd


/-! fractions as data, sizes -/
namespace Sd
open PySem PySem.Spec PyProof.Rows L2
def fr (q : Rat) : PyData := .tuple [.int q.num, .int (q.den : Int)]
def Shp (n : Nat) (d : PyData) : Prop := d.canLay0 = true ∧ d.depth ≤ n
theorem Shp.shaped {n : Nat} {d : PyData} (h : Shp n d) (hn : n ≤ 64) : SeqAt.shaped d = true := by
  unfold SeqAt.shaped
  rw [h.1, decide_eq_true (Nat.le_trans h.2 hn)]
  rfl
theorem depthAll_le {n : Nat} : ∀ {ds : List PyData}, (∀ d ∈ ds, d.depth ≤ n) → PyData.depthAll ds ≤ n
  | [], _ => Nat.zero_le _
  | d :: ds, h => by
    unfold PyData.depthAll
    exact Nat.max_le.mpr ⟨h d (by simp), depthAll_le fun x hx => h x (by simp [hx])⟩
theorem canAll_of : ∀ {ds : List PyData}, (∀ d ∈ ds, d.canLay0 = true) → PyData.canLayAll0 ds = true
  | [], _ => by simp [PyData.canLayAll0]
  | d :: ds, h => by
    unfold PyData.canLayAll0
    rw [h d (by simp), canAll_of fun x hx => h x (by simp [hx])]
    rfl
theorem shp_int (i : Int) : Shp 0 (.int i) := ⟨by simp [PyData.canLay0], by simp [PyData.depth]⟩
theorem shp_bool (i : Bool) : Shp 0 (.bool i) := ⟨by simp [PyData.canLay0], by simp [PyData.depth]⟩
theorem shp_str {z : Str} (h : PyData.strOk z = true) : Shp 0 (.str z) := ⟨by simp [PyData.canLay0, h], by simp [PyData.depth]⟩
theorem shp_list {n : Nat} {ds : List PyData} (h : ∀ d ∈ ds, Shp n d) : Shp (n + 1) (.list ds) := ⟨by unfold PyData.canLay0; exact canAll_of fun d hd => (h d hd).1, by unfold PyData.depth; have := depthAll_le (n := n) fun d hd => (h d hd).2; omega⟩
theorem shp_ints (ns : List Int) : Shp 1 (.list (ns.map PyData.int)) := shp_list fun d hd => by
  obtain ⟨n, _, rfl⟩ := List.mem_map.mp hd
  exact shp_int n
theorem sh_ints (ns : List Int) : SeqAt.shaped (.list (ns.map PyData.int)) = true := (shp_ints ns).shaped (by decide)
def Sz (n : Nat) (i : Int) : Prop := i.natAbs < 2 ^ n
def Sq (n : Nat) (q : Rat) : Prop := q.num.natAbs < 2 ^ n ∧ q.den < 2 ^ n
theorem pow_le {m n : Nat} (h : m ≤ n) : 2 ^ m ≤ 2 ^ n := Nat.pow_le_pow_right (by decide) h
theorem Sz.mono {m n : Nat} {i : Int} (h : Sz m i) (hn : m ≤ n) : Sz n i := Nat.lt_of_lt_of_le h (pow_le hn)
theorem Sq.mono {m n : Nat} {q : Rat} (h : Sq m q) (hn : m ≤ n) : Sq n q := ⟨Nat.lt_of_lt_of_le h.1 (pow_le hn), Nat.lt_of_lt_of_le h.2 (pow_le hn)⟩
theorem Sq.num {m : Nat} {q : Rat} (h : Sq m q) : Sz m q.num := h.1
theorem Sq.den {m : Nat} {q : Rat} (h : Sq m q) : Sz m (q.den : Int) := by unfold Sz; rw [Int.natAbs_natCast]; exact h.2
theorem Rep.nd {H : Hp} {v : V} {x : PyData} (h : Rep H v x) : ∀ kvs, x ≠ .dict kvs := fun kvs e => by
  subst e
  cases h
theorem Reps.nd {H : Hp} : ∀ {vs : List V} {ds : List PyData}, Reps H vs ds → ∀ d ∈ ds, ∀ kvs, d ≠ .dict kvs
  | _, _, .nil, _, h => nomatch h
  | _, _, .cons a b, d, h => by
    rcases List.mem_cons.mp h with rfl | h
    · exact a.nd
    · exact b.nd d h
def NoD (x : PyData) : Prop := (∀ kvs, x ≠ .dict kvs) ∧ ∀ ds, x = .list ds ∨ x = .tuple ds → ∀ d ∈ ds, ∀ kvs, d ≠ .dict kvs
theorem Rep.noD {H : Hp} {v : V} {x : PyData} (h : Rep H v x) : NoD x := ⟨h.nd, fun ds e => by
  rcases e with rfl | rfl
  · cases h with
    | lst _ r => exact r.nd
  · cases h with
    | tup _ r => exact r.nd⟩
theorem sds_nd {Z : Ctx} {sts : List Stmt} {D : DE} {ρ : List Slot} {own : Own} (i : Nat) {x : PyData} (hi : ρ[i]? = some (.d x)) (k : NoD x → SDs Z sts D ρ own) : SDs Z sts D ρ own := fun H0 Hf σ H m0 S E => by
  obtain ⟨v, _, r⟩ := E.d hi
  exact k r.noD H0 Hf σ H m0 S E
/-! years -/
def isInt (x : PyData) (lo hi : Int) : Bool := match x with
  | .int i => decide (lo ≤ i) && decide (i ≤ hi)
  | _ => false
def isYear (x : PyData) : Bool := match x with
  | .list ds => decide (1 ≤ (ds.length : Int)) && decide ((ds.length : Int) ≤ 8) && (ds.map fun d => isInt d 1 20).all id
  | _ => false
/-- a year of ints -/
structure Yr (ys : List Int) : Prop where
  lo : 1 ≤ ys.length
  hi : ys.length ≤ 8
  it : ∀ y ∈ ys, 1 ≤ y ∧ y ≤ 20
abbrev li (ns : List Int) : PyData := .list (ns.map PyData.int)
theorem Yr.is {ys : List Int} (h : Yr ys) : isYear (li ys) = true := by
  have e : isYear (li ys) = (decide (1 ≤ ((ys.map PyData.int).length : Int)) && decide (((ys.map PyData.int).length : Int) ≤ 8) && ((ys.map PyData.int).map fun d => isInt d 1 20).all id) := rfl
  have h1 := h.lo
  have h2 := h.hi
  rw [e, List.length_map, decide_eq_true (by omega), decide_eq_true (by omega), List.map_map]
  simp only [Bool.and_self, Bool.true_and, List.all_eq_true, List.mem_map]
  rintro x ⟨y, hy, rfl⟩
  have := h.it y hy
  simp [isInt, this.1, this.2]
theorem Sz.one : Sz 1 1 := by unfold Sz; decide
theorem Sq.one : Sq 1 1 := ⟨by decide, by decide⟩
def maxL (ys : List Int) : Int := ys.foldl max 0
theorem maxL_aux : ∀ (ys : List Int) (a : Int), a ≤ ys.foldl max a ∧ (∀ y ∈ ys, y ≤ ys.foldl max a) ∧ (ys.foldl max a = a ∨ ys.foldl max a ∈ ys)
  | [], a => ⟨Int.le_refl _, by simp, .inl rfl⟩
  | y :: ys, a => by
    obtain ⟨h1, h2, h3⟩ := maxL_aux ys (max a y)
    rw [List.foldl_cons]
    refine ⟨by omega, fun z hz => ?_, ?_⟩
    · rcases List.mem_cons.mp hz with rfl | hz
      · omega
      · exact h2 z hz
    · rcases h3 with h3 | h3
      · rw [h3]
        by_cases h : a ≤ y
        · right
          rw [Int.max_eq_right h]
          simp
        · left
          exact Int.max_eq_left (by omega)
      · exact .inr (by simp [h3])
theorem Yr.max_le {ys : List Int} (h : Yr ys) : ∀ y ∈ ys, y ≤ maxL ys := (maxL_aux ys 0).2.1
/-- a list of numbers for the days -/
structure Ct (ys : List Int) (cs : List Nat) : Prop where
  len : cs.length = ys.length
  sum : cs.sum ≤ 12
end Sd


/-! the script, the draws -/
namespace Sd
open PySem PySem.Spec PyProof.Rows L2
def ScrAt (K : PySem.W.Frag) (own : Own) (a : Addr) (xs : List Int) : Prop := ∀ (Hf H : Hp), (∀ q ∈ own, OwnOk Hf H q.1 q.2) → SqL K H a (xs.map V.int)
theorem ScrAt.at {K : PySem.W.Frag} {own : Own} {a : Addr} {xs : List Int} {B : Bs} {Hf H : Hp} (h : ScrAt K own a xs) (S : Sat B Hf H own) : SqL K H a (xs.map V.int) := h Hf H fun q hq => (S.ow q hq).2.2
theorem dp_ints {K : PySem.W.Frag} {H : Hp} : ∀ xs : List Int, DpAll K H (xs.map V.int) (xs.map PyData.int)
  | [] => .nil
  | x :: xs => .cons (.int x) (dp_ints xs)
section
variable {Z : Ctx} {e a b c : Expr} {ρ : List Slot} {own : Own} {pos p : Pos} {i : Int} {k : Nat} {q : Addr} {xs : List Int}
theorem c_neScr (g : Gd Z k) (h : ScrAt Z.X.K own q xs) : CmpB Z .NotEq own (.raw (.ref q)) (.d (.list [])) (!decide (xs = [])) := ⟨_, op_neD g.hr.units, fun v w Hf H S r1 r2 Q k => by
  cases (show v = .ref q from r1)
  refine ⟨.list (xs.map PyData.int), .list [], .lst (h.at S) (dp_ints xs), (Rep.mono S.e1 r2).dp, sh_ints xs, (shp_list (n := 0) (ds := []) (fun d hd => absurd hd (by simp))).shaped (by decide), ?_⟩
  have e : PyData.eqv (.list (xs.map PyData.int)) (.list []) = decide (xs = []) := by
    cases xs <;> simp [PyData.eqv, PyData.eqvAll]
  rw [e]
  exact k⟩
theorem el_listScr (hm : Z.X.mg "list" = none) (h : EV Z e ρ own (.ref q)) (hs' : ScrAt Z.X.K own q xs) (hg : Gl Z.X "list" := by rfl) (hs : starEach [e] Z.X.env = (false, eval e Z.X.env) :: starEach [] Z.X.env := by rfl) : EL Z (.Call (.Name "list" p) [e] [] pos) ρ own (xs.map PyData.int) :=
  el_callTy call_list_of hg hm (by decide +kernel) (ea_cons h ea_nil hs) fun vs Hf H S r0 Q k => by
    obtain ⟨v, rfl, r⟩ := r0.one
    cases (show v = .ref q from r)
    exact ⟨q, _, rfl, .inl (hs'.at S), fun l hl => k l Hf _ (Same.refl _) (S.newOwn (oo := .lst (xs.map PyData.int)) hl ⟨_, upd_same, Reps.ints xs⟩)⟩
/-- [a, i], the first a value with a change -/
theorem eg_lst2 {P : V → Own → Prop} (h1 : EG Z a ρ own fun s o => ∃ v, s = .raw v ∧ P v o) (h2 : ∀ v o, P v o → ED Z b ρ o (.int i)) (hs : starEach [a, b] Z.X.env = (false, eval a Z.X.env) :: starEach [b] Z.X.env := by rfl) (hs2 : starEach [b] Z.X.env = (false, eval b Z.X.env) :: starEach [] Z.X.env := by rfl) :
    EG Z (.List [a, b] pos) ρ own (fun s o => ∃ q v o', s = .raw (.ref q) ∧ o = (q, .raw (.lst [v, .int i])) :: o' ∧ P v o') := fun Hf σ H S E Q k => wE.of (pe_lst paW)
  ((eag_cons (R := fun ss o => ∃ v, ss = [.raw v, .d (.int i)] ∧ P v o) h1 (fun s o hq _ => by
      obtain ⟨v, rfl, hq⟩ := hq
      exact EA.toEAG (ea_cons (h2 v o hq) ea_nil hs2) ⟨v, rfl, hq⟩) hs) Hf σ H S E _ fun vs Hf1 H1 ss o m1 S1 r1 hq => by
    obtain ⟨v, rfl, hq⟩ := hq
    obtain ⟨v1, v2, rfl, r2, r3⟩ := r1.two
    cases (show v1 = v from r2)
    cases r3
    exact ⟨by show 2 ≤ sizeLine; decide, fun p hp => k _ Hf1 _ (.raw (.ref p)) _ m1 (S1.newOwn (oo := .raw (.lst [v, .int i])) hp upd_same) rfl (fun z => nomatch z) ⟨p, v, o, rfl, rfl, hq⟩⟩)
end
/-- what the draws are: a list of a list of ints and a count -/
def drw (d n : Addr) (cells : List Int) (cnt : Int) : Own := [(d, .raw (.lst [.ref n, .int cnt])), (n, .lst (cells.map PyData.int))]
theorem cx_no {P : Program} {w : World} {H : Hp} {s : Shared} {e : Value} {s' : Shared} (h : L2.CX P w [] H s (fun _ _ _ => False) e s') : False := by
  obtain ⟨_, _, _, _, _, _, _, _, _, _, _, _, z⟩ := h
  exact z
def pre_law (K : PySem.W.Frag) : Pr := fun ss own post => ∃ (a : Addr) (ns : List Int), ss = [.raw (.ref a)] ∧ ScrAt K own a ns ∧ ns.length ≤ 63 ∧ post = fun o => ∃ own', o = .ret (.d (.bool true)) own'
theorem law_in {K : PySem.W.Frag} {H : Hp} {a : Addr} {ns : List Int} (hl : ns.length ≤ 63) (hO : Only H) (hS : SqL K H a (ns.map V.int)) : spG (pre_law K) [.ref a] H (fun v _ => v = .bl true) (fun _ _ _ => False) := by
  have fin : ∀ (own : Own) (HB : Hp), Sat ⟨fun _ => none, HB⟩ (fun _ => none) H own → ScrAt K own a ns → spG (pre_law K) [.ref a] H (fun v _ => v = .bl true) (fun _ _ _ => False) := fun own HB S hs =>
    ⟨fun _ => none, HB, [.raw (.ref a)], own, _, S, .cons rfl .nil, ⟨a, ns, rfl, hs, hl, rfl⟩, fun s own' v Hf' H' hq S' r hu => by
      obtain ⟨o, hq⟩ := hq
      cases hq
      cases r
      rfl, fun C own' Hf' H' hq S' => by
      obtain ⟨o, hq⟩ := hq
      cases hq⟩
  have nt : ∀ (p : Addr) (xs : List V), H p = some (.tup xs) → (none : Option HO) = some (.tup xs) := fun p xs h => by
    rcases hO p with z | ⟨o, ys, z⟩
    · rw [z] at h; cases h
    · rw [z] at h; cases h
  rcases hS with (h | ⟨o, h⟩) | h
  · rcases hO a with z | ⟨o, xs, z⟩
    · rw [z] at h; cases h
    · rw [z] at h; cases h
  · refine fin [(a, .raw (.frz o (.lst (ns.map V.int))))] (less H [a]) ⟨fun _ _ h => h, fun _ _ h => (by cases h), fun p u h => ?_, fun p u h => (by cases h), fun q hq => ?_, by simp, nt⟩ (fun Hf H' hq => ?_)
    · by_cases hp : p ∈ [a]
      · have h : less H [a] p = some u := h
        rw [less_in hp] at h; cases h
      · have h : less H [a] p = some u := h
        rw [less_out hp] at h; exact h
    · have e : q = (a, .raw (.frz o (.lst (ns.map V.int)))) := by simpa using hq
      subst e
      exact ⟨rfl, less_in (by simp), h⟩
    · have h' := hq (a, .raw (.frz o (.lst (ns.map V.int)))) (by simp)
      exact .inl (.inr ⟨o, h'⟩)
  · exact fin [] H ⟨fun _ _ h => h, fun _ _ h => (by cases h), fun _ _ h => h, fun p u h => (by cases h), fun q hq => (nomatch hq), by simp, nt⟩ (fun Hf H' _ => .inr h)
end Sd


/-! more statements -/
namespace Sd
open PySem PySem.Spec PyProof.Rows L2
section
variable {Z : Ctx} {D : DE} {e a b c tg : Expr} {es : List Expr} {ρ : List Slot} {own oa ob : Own} {pos tpos p : Pos} {i j : Int} {s t : Slot} {k : Nat} {ds : List PyData} {x : PyData} {q : Addr} {R : Slot → Own → Prop}
end
section
variable {Z : Ctx} {e : Expr} {es : List Expr} {ρ : List Slot} {o1 : Own} {pos p : Pos} {k j : Nat} {ss : List Slot} {z : Str} {ps : List Str} {Pre : Pr} {post : Out → Prop} {R : Slot → Own → Prop}
/-- a def that gets all that is owned -/
theorem eg_callW (F : Fn Z.X.K Z.X.mg Z.X.prog Z.X.w Z.X.base z ps j Pre) (g : Gd Z k) (hj : j ≤ k) (ha : EA Z (e :: es) ρ o1 ss) (hp : Pre ss o1 post) (h1 : ∀ s o1', post (.ret s o1') → R s o1') (h2 : ∀ C o1', post (.exc C o1') → Z.ex C ρ o1')
    (hg : Gl Z.X z := by rfl) (hdb : (z == ("__debug__" : Str)) = false := by decide) (he : starEach (e :: es) Z.X.env = (false, eval e Z.X.env) :: starEach es Z.X.env := by rfl) (hpl : (backTo pos (starEach es Z.X.env)).any (·.1) = false := by rfl) :
    EG Z (.Call (.Name z p) (e :: es) [] pos) ρ o1 R := by
  have e0 : ∀ o : Own, [] ++ o ++ [] = o := fun o => by rw [List.nil_append, List.append_nil]
  have := eg_call (p := p) (R := R) (oa := []) (o1 := o1) (ob := []) F g hj (by rw [e0]; exact ha) hp (fun s o h => by rw [e0]; exact h1 s o h) (fun C o h => by rw [e0]; exact h2 C o h) hg hdb he hpl
  rw [e0] at this
  exact this
end
theorem eqv_self {n : Nat} {d : PyData} (h : Shp n d) : PyData.eqv d d = true := SeqAt.eqv_refl d h.1
end Sd


/-! still more rules -/
namespace Sd
open PySem PySem.Spec PyProof.Rows L2
section
variable {Z : Ctx} {D : DE} {e a b c tg : Expr} {es : List Expr} {ρ : List Slot} {own oa ob : Own} {pos tpos p : Pos} {i j : Int} {s t : Slot} {k : Nat} {ds : List PyData} {x y : PyData} {q : Addr} {R : Slot → Own → Prop}
theorem c_isND : CmpB Z .Is own (.d x) (.d .none) (isNone (.d x)) := c_isN (fun z => nomatch z)
theorem c_isNR {v : V} : CmpB Z .Is own (.raw v) (.d .none) (isNone (.raw v)) := c_isN (fun z => nomatch z)
/-- a test that fails: nothing happens -/
theorem sd_ifF {A : List Stmt} (hc : ET Z c ρ own false) (h : D.nx ρ own) : SD Z (.If c A [] pos) D ρ own := sd_if hc (fun e => nomatch e) fun _ => sds_nil h
end
theorem eqvAll_ints : ∀ a b : List Int, PyData.eqvAll (a.map PyData.int) (b.map PyData.int) = decide (a = b)
  | [], [] => by simp [PyData.eqvAll]
  | [], b :: bs => by simp [PyData.eqvAll]
  | a :: as, [] => by simp [PyData.eqvAll]
  | a :: as, b :: bs => by
    rw [List.map_cons, List.map_cons, PyData.eqvAll, eqvAll_ints as bs, Bool.eq_iff_iff]
    simp [PyData.eqv]
theorem eqv_ints (a b : List Int) : PyData.eqv (li a) (li b) = decide (a = b) := by rw [PyData.eqv, eqvAll_ints]
theorem sh_bool (a : Bool) : SeqAt.shaped (.bool a) = true := (shp_bool a).shaped (by decide)
end Sd


/-! an exception that is caught and kept in a name -/
namespace Sd
open PySem PySem.Spec PyProof.Rows L2
/-- an exception of the class cls stands at a -/
def ExK (cls : Value) (a : Addr) : HO := .ext fun h => ∃ (oe : Obj) (vs : Array Value), h.get? a = some oe ∧ Zc cls none oe ∧ oe.data = .fields vs
section
variable {X : Cx} {pins : List (Addr × Obj)} {σ : L2.St} {H : Hp} {s : Shared}
/-- an object of ours that is not tracked yet, and was not there at the entry, is tracked from here on -/
theorem inv_track {a : Addr} {φ : Heap → Prop} (I : Inv X pins σ H s) (na : H a = none) (n0 : X.s_0.heap.get? a = none) (nL : a ≠ X.env.locals) (nC : ∀ x c, X.env.cells.lookup x = some c → c ≠ a) (nP : ∀ p ∈ X.pn ++ pins, p.1 ≠ a) (ok : ObjOk X.prog X.w (upd H a (.ext φ)) s.heap a (.ext φ)) : Inv X pins σ (upd H a (.ext φ)) s := by
  have ne0 : ∀ b o, X.s_0.heap.get? b = some o → b ≠ a := fun b o q z => by rw [z, n0] at q; cases q
  have B := I.base
  refine { ok := I.ok, os := I.os, bare := I.bare, loc := I.loc, cell := I.cell, len := I.len, base := { keep := B.keep, slot := B.slot, there := B.there, free := ?_, tups := ?_, frzs := ?_, tbls := ?_ }, free := ?_, freeC := ?_, pin := ?_, hok := ?_ }
  · intro b o q n x
    rw [upd_ne (ne0 b o q)]
    exact B.free b o q n x
  · intro b xs q
    have q' := B.tups b xs q
    rw [upd_ne (ne_of_none q' na)]
    exact q'
  · intro b o u q
    have q' := B.frzs b o u q
    rw [upd_ne (ne_of_none q' na)]
    exact q'
  · intro b ps q
    obtain ⟨m, q'⟩ := B.tbls b ps q
    exact ⟨m, by rw [upd_ne (ne_of_none q' na)]; exact q'⟩
  · rw [upd_ne nL.symm]
    exact I.free
  · intro x c q
    rw [upd_ne (nC x c q)]
    exact I.freeC x c q
  · intro p hp
    obtain ⟨p1, p2, p3⟩ := I.pin p hp
    exact ⟨p1, by rw [upd_ne (nP p hp)]; exact p2, p3⟩
  · intro b o q
    by_cases hb : b = a
    · subst hb
      rw [upd_same] at q
      cases q
      exact ok
    · rw [upd_ne hb] at q
      exact (I.hok b o q).stay (fun c u _ r => r) (fun c r => by rw [upd_ne (ne_of_none r na)]; exact r) fun c xs r => by rw [upd_ne (ne_of_none r na)]; exact r
end
/-- the body of a try -/
abbrev trZ (Z : Ctx) (pn : List (Addr × Obj)) (xe : Value → Shared → Prop) (B' : Bs) (ex' : Addr → List Slot → Own → Prop) : Ctx := ⟨Z.X.tr pn xe, B', ex'⟩
section
variable {Z : Ctx} {D : DE} {ρ : List Slot} {own : Own} {k : Nat} {x n z : Str} {c : Value} {body : List Stmt} {np pos pos' p1 p2 p3 : Pos}
/-- try: body; except x as n: z = n. An exception that the body lets out is of a class that x names, and it is z's from then on -/
theorem sd_try_keep (ie ic : Nat) (g : Gd Z k) (hc : Names Z.X x c)
    (hb : ∀ pn xe B', Gd (trZ Z pn xe B' fun C ρ' o' => PySem.W.exmOne Z.X.K (.ref C) c = some true ∧ ∀ a, D.nx (((ρ'.set ie (.raw (.ref a))).set ic (.raw (.ref a))).set ie .un) ((a, .raw (ExK (.ref C) a)) :: o')) k →
      SDs (trZ Z pn xe B' fun C ρ' o' => PySem.W.exmOne Z.X.K (.ref C) c = some true ∧ ∀ a, D.nx (((ρ'.set ie (.raw (.ref a))).set ic (.raw (.ref a))).set ie .un) ((a, .raw (ExK (.ref C) a)) :: o')) body D ρ own)
    (hs : Z.X.stack = Z.X.env :: Z.X.outer := by rfl) (hf : Z.X.env.frame = some Z.X.env.locals := by rfl) (hie : Z.X.N[ie]? = some n := by rfl) (hle : Z.X.env.kindOf n = some .local := by rfl) (hic : Z.X.N[ic]? = some z := by rfl) (hlc : Loc Z.X.env.scope z := by first | exact Or.inl rfl | exact Or.inr rfl)
    (hne : ie ≠ ic := by decide) (hvn : Vis Z.X.env.scope n := by first | exact Or.inl rfl | exact Or.inr (Or.inl rfl) | exact Or.inr (Or.inr rfl)) (hd : (n == ("__debug__" : Str)) = false := by decide) (hcd : (n == ("__classdict__" : Str)) = false := by decide) (hsw : swapsWith (.Name n p2) (some (.Name z p1)) p3.line Z.X.env = pure false := by rfl) (hxx : Z.X.ex = [] := by rfl)
    (hfz : Z.X.fn z = true ∨ Z.X.env.scope.names.lookup z = some .local := by first | exact .inl rfl | exact .inr rfl | assumption) :
    SD Z (.Try body [.ExceptHandler (some (.Name x np)) (some n) [.Assign [.Name z p1] (.Name n p2) p3] pos'] [] [] pos) D ρ own := by
  intro H0 Hf σ H m0 S E
  refine ⟨fun pins s I => ?_⟩
  have ok := I.ok
  have hfr : Z.X.A.frames = some (Z.X.env :: Z.X.outer) := ok.frames.trans (by rw [hs])
  have S0 : Sat Z.B Hf H ([] ++ own ++ []) := by rw [List.nil_append, List.append_nil]; exact S
  have bk : ∀ {Hf' H' : Hp} {o' : Own}, Sat ⟨Hf, less H (own.map (·.1))⟩ Hf' H' o' → Sat Z.B Hf' H' o' := fun {Hf' H' o'} S' => by
    have := S0.back S'
    rw [List.nil_append, List.append_nil] at this
    exact this
  obtain ⟨xe, hxe⟩ : ∃ xe : Value → Shared → Prop, xe = fun e t₁ => wpAny (model Z.X.prog Z.X.w) Z.X.A (noteFrame e Z.X.env) (fun _ t₂ => wpAny (model Z.X.prog Z.X.w) Z.X.A (setFlight e none) (fun _ t₃ => wpAny (model Z.X.prog Z.X.w) Z.X.A (handleBy e Z.X.env [.ExceptHandler (some (.Name x np)) (some n) [.Assign [.Name z p1] (.Name n p2) p3] pos']) (SP Z.X pins (lift Z.B H0 D)) Z.X.xe t₃) Z.X.xe t₂) Z.X.xe t₁ := ⟨_, rfl⟩
  refine wpAny_Try_except ?_
  have gB : Gd (trZ Z (Z.X.pn ++ pins) xe ⟨Hf, less H (own.map (·.1))⟩ fun C ρ' o' => PySem.W.exmOne Z.X.K (.ref C) c = some true ∧ ∀ a, D.nx (((ρ'.set ie (.raw (.ref a))).set ic (.raw (.ref a))).set ie .un) ((a, .raw (ExK (.ref C) a)) :: o')) k := by
    refine ⟨?_, by rw [hxe]; exact PassesOwn.looking, g.calm, g.nd, g.hr⟩
    intro u s' xx
    obtain ⟨a, B, sI, pins', σ', H', cls, d, rfl, J', nb, up, sky, na, os, ag, C, Hf', ρ', o', rfl, rfl, S', E', hex, hnx⟩ := xx
    rw [hxe]
    have J : Inv Z.X pins σ' H' sI := J'.ofTry ok
    have sky2 : Sky B (Z.X.env :: Z.X.outer) a (Zc (.ref C) none) Z.X.env.locals s'.heap := by rw [← hs]; exact sky
    refine Sky.land Zc.steady hfr hf sky2 fun h3 fl3 up3 => ?_
    have J3 : Inv Z.X pins σ' H' { s' with heap := h3 } := J.landed nb fl3.1 (up.trans up3) os ag
    obtain ⟨oe3, vs3, he3, hz3, hd3⟩ := fl3.there
    have aB : B.get? a = none := fl3.2.1
    have nfr : a ∉ frs (Z.X.env :: Z.X.outer) := fun hm => by
      obtain ⟨_, o2, q2, hnf⟩ := fl3.2.2.1.mem hm
      rw [he3] at q2
      cases q2
      exact hnf _ hd3
    have nL : a ≠ Z.X.env.locals := fun q => nfr (List.mem_filterMap.mpr ⟨Z.X.env, List.mem_cons_self, by rw [hf, q]⟩)
    have nF : a ∉ Z.X.fs := fun hm => by
      obtain ⟨e, he, q⟩ := List.mem_filterMap.mp hm
      exact nfr (List.mem_filterMap.mpr ⟨e, List.mem_cons_of_mem _ he, q⟩)
    have notI : ∀ o, sI.heap.get? a ≠ some o := fun o q => by
      rw [nb a o q (by rw [hs]; exact nfr)] at aB
      cases aB
    have n0 : Z.X.s_0.heap.get? a = none := by
      cases q : Z.X.s_0.heap.get? a with
      | none => rfl
      | some o =>
        obtain ⟨o2, q2⟩ := J.base.there a o q (by rw [hxx]; exact fun z => nomatch z)
        exact absurd q2 (notI o2)
    have nC : ∀ x c, Z.X.env.cells.lookup x = some c → c ≠ a := fun x c q e => by
      obtain ⟨v, o, q2, _⟩ := J.cell x c q
      rw [e] at q2
      exact notI o q2
    have nP : ∀ p ∈ Z.X.pn ++ pins, p.1 ≠ a := fun p hp e => by
      have q := (J.pin p hp).1
      rw [e] at q
      exact notI _ q
    have S3 := J3.suite he3 hd3 na nL nF
    refine wpAny_handleBy_cons (codeAny_handlers_test ?_) (by intro q; cases q)
    have LT : PySem.W.Looks (model Z.X.prog Z.X.w) h3 (typeOf (.ref a)) (.ref C) := fun A Q E s k q => wpAny_typeOf_ref (k _ _ he3) (by rw [hz3.1]; exact q)
    have LM := PySem.W.exm_one (M := model Z.X.prog Z.X.w) J3.kIn LT hex
    have test : ∀ {Q : Value → Shared → Prop} {E : Value → Shared → Prop}, Q c { s' with heap := h3 } → wpAny (model Z.X.prog Z.X.w) (Z.X.A.mark (some (.ref a))) (eval (.Name x np) Z.X.env) Q E { s' with heap := h3 } := by
      intro Q E q
      obtain ⟨hg, hdbg, hm | ⟨hm, hv, hnn⟩⟩ := hc
      · exact ld_glob (X := Z.X.suite a ((a, oe3) :: (Z.X.pn ++ pins))) S3 hg hm q hdbg
      · exact ld_blt (X := Z.X.suite a ((a, oe3) :: (Z.X.pn ++ pins))) S3 hg hm hv q hnn hdbg
    refine test (LM.here ?_)
    refine codeAny_handlers_suite_as (HandSPX.lands_againZ fl3 fun h4 fl4 up4 => ?_)
    have J4 : Inv Z.X pins σ' H' { s' with heap := h4 } := J.landed nb fl4.1 ((up.trans up3).trans up4) os ag
    obtain ⟨oe4, vs4, he4, hz4, hd4⟩ := fl4.there
    have S4 := J4.suite he4 hd4 na nL nF
    have hln : σ'.length = Z.X.N.length := J.len
    have hiel : ie < σ'.length := by rw [hln]; exact (List.getElem?_eq_some_iff.mp hie).1
    refine store_ok (X := Z.X.suite a ((a, oe4) :: (Z.X.pn ++ pins))) (v := .ref a) S4 g.nd hie (.inl hle) rfl (fun s5 S5 => ?_) (.inr hle)
    have suite : PSs (Z.X.suite a ((a, oe4) :: (Z.X.pn ++ pins))) [.Assign [.Name z p1] (.Name n p2) p3] _ := pss_one (ps_set g.nd hic hlc (pe_var hie hvn hd hcd) hsw hfz)
    refine wpAny_mono (suite.run [] s5 _ H' { nx := fun σ6 H6 => σ6 = (σ'.set ie (some (.ref a))).set ic (some (.ref a)) ∧ H6 = H', rt := fun _ _ => False, bk := fun _ _ => False, ct := fun _ _ => False } S5 ⟨.ref a, List.getElem?_set_self hiel, rfl, rfl⟩) (fun f s6 hsp => ?_) (fun _ _ z => False.elim z)
    cases f with
    | brk => obtain ⟨_, _, _, q⟩ := hsp; exact q.elim
    | cont => obtain ⟨_, _, _, q⟩ := hsp; exact q.elim
    | ret u => obtain ⟨_, _, _, _, _, q⟩ := hsp; exact q.elim
    | next =>
      obtain ⟨σ6, H6, S6, rfl, rfl⟩ := hsp
      have U6 := S6.unsuite ok
      have J6 : Inv Z.X ((a, oe4) :: pins) ((σ'.set ie (some (.ref a))).set ic (some (.ref a))) H6 s6 := { U6 with pin := fun p hp => S6.pin p (by
        rw [List.append_nil]
        rcases List.mem_append.mp hp with h | h
        · exact List.mem_cons_of_mem _ (List.mem_append_left _ h)
        · rcases List.mem_cons.mp h with h | h
          · rw [h]; exact List.mem_cons_self
          · exact List.mem_cons_of_mem _ (List.mem_append_right _ h)) }
      refine gone_ok J6 g.nd hie hle fun s7 J7 => ?_
      obtain ⟨ha7, _⟩ := J7.pin (a, oe4) (by simp)
      have J7' : Inv Z.X pins (((σ'.set ie (some (.ref a))).set ic (some (.ref a))).set ie none) H6 s7 := { J7 with pin := fun p hp => J7.pin p (by
        rcases List.mem_append.mp hp with h | h
        · exact List.mem_append_left _ h
        · exact List.mem_append_right _ (List.mem_cons_of_mem _ h)) }
      have J8 := inv_track (a := a) J7' (φ := fun h => ∃ (oe : Obj) (vs : Array Value), h.get? a = some oe ∧ Zc (.ref C) none oe ∧ oe.data = .fields vs) na n0 nL nC nP ⟨⟨oe4, vs4, ha7, hz4, hd4⟩, ⟨oe4, ha7⟩, fun h1 h2 ⟨oe, vs, q1, q2, q3⟩ hh => ⟨oe, vs, hh oe q1, q2, q3⟩⟩
      refine ⟨_, _, J8, Hf', _, (a, .raw (ExK (.ref C) a)) :: o', m0.trans S'.e0, (bk S').newOwn na upd_same, ?_, hnx a⟩
      exact ((E'.set (v := .ref a) (s := .raw (.ref a)) rfl ie).set (v := .ref a) (s := .raw (.ref a)) rfl ic).unset ie none
  refine wpAny_mono ((hb _ xe _ gB Hf Hf σ H (Same.refl _) S0.into E).run [] s (I.toTry _)) (fun f s1 hsp => ?_) (fun e s1 he => by rw [hxe] at he; exact he)
  cases f with
  | next =>
    obtain ⟨σ', H', J', Hf', ρ', o', m', S', E', q⟩ := hsp
    exact wpAny_execs_nil ⟨σ', H', J'.ofTry ok, Hf', ρ', o', m0.trans m', bk S', E', q⟩
  | brk =>
    obtain ⟨σ', H', J', Hf', ρ', o', m', S', E', q⟩ := hsp
    exact ⟨σ', H', J'.ofTry ok, Hf', ρ', o', m0.trans m', bk S', E', q⟩
  | cont =>
    obtain ⟨σ', H', J', Hf', ρ', o', m', S', E', q⟩ := hsp
    exact ⟨σ', H', J'.ofTry ok, Hf', ρ', o', m0.trans m', bk S', E', q⟩
  | ret u =>
    obtain ⟨v, σ', H', J', r, Hf', t, o', m', S', r', hu, q⟩ := hsp
    exact ⟨v, σ', H', J'.ofTry ok, r, Hf', t, o', m0.trans m', bk S', r', hu, q⟩
end
/-! ### isinstance of a kept exception -/
theorem call_isX {X : Cx} {a D : Addr} (C : ExcC X.K D) : CallR X (.builtin "isinstance") (fun xs H Q => ∃ (c : V) (cv : Value) (l : Bool), xs = [.ref a, c] ∧ H a = some (ExK (.ref D) a) ∧ (∀ u, RelV c u → u = cv) ∧ PySem.W.kitOne X.K (.ref D) cv = some l ∧ Q (.bl l) H) := by
  intro pins s σ H xs us Q I r h
  obtain ⟨c, cv, l, rfl, ha, hcv, hk, q⟩ := h
  obtain ⟨u1, u2, rfl, r1, r2⟩ := vals2 r
  cases (show u1 = Value.ref a from r1)
  cases hcv u2 r2
  obtain ⟨⟨oe, vs, g1, g2, g3⟩, _⟩ := I.hok a _ ha
  have J : PySem.W.InstAt s.heap a oe D none := by
    obtain ⟨oc, od, oda, osl⟩ := oe
    obtain ⟨z1, z2⟩ := g2
    cases z1
    cases z2
    cases g3
    exact ⟨g1, rfl, rfl, trivial⟩
  exact PySem.W.kia_one (PySem.W.handS_kitx_exc C.hg C.hk C.hs C.hd C.ha C.hn C.ht C.hm) I.kIn J hk (fun z => nomatch z) fun tk => ⟨.bl l, H, I.tok tk, rfl, q⟩
section
variable {Z : Ctx} {a b o e : Expr} {ρ : List Slot} {own : Own} {pos p cpos apos : Pos} {k : Nat} {q D : Addr} {s t : Slot} {ds : List PyData} {x : PyData}
theorem ed_isX {l : Bool} {cv : Value} {cV : V} (C : ExcC Z.X.K D) (hm : Z.X.mg "isinstance" = none) (hq : (q, OO.raw (ExK (.ref D) q)) ∈ own) (h : EV Z a ρ own (.ref q)) (hc : EV Z b ρ own cV) (hcv : ∀ u, RelV cV u → u = cv) (hk : PySem.W.kitOne Z.X.K (.ref D) cv = some l) (hg : Gl Z.X "isinstance" := by rfl) (hs : starEach [a, b] Z.X.env = (false, eval a Z.X.env) :: starEach [b] Z.X.env := by rfl) (hs2 : starEach [b] Z.X.env = (false, eval b Z.X.env) :: starEach [] Z.X.env := by rfl) (hpl : (backTo pos (starEach [b] Z.X.env)).any (·.1) = false := by rfl) :
    ED Z (.Call (.Name "isinstance" p) [a, b] [] pos) ρ own (.bool l) :=
  es_callB (call_isX (a := q) C) hg hm (by decide +kernel) (ea_cons h (ea_cons hc ea_nil hs2) hs) (fun vs Hf H S r0 Q k => by
    obtain ⟨v, w, rfl, r1, r2⟩ := r0.two
    cases (show v = .ref q from r1)
    cases (show w = cV from r2)
    obtain ⟨_, _, g⟩ := S.at hq
    exact ⟨cV, cv, l, rfl, g, hcv, hk, k _ Hf H (Same.refl _) S (.bl l)⟩) (by decide) (by decide) hs hpl
/-! ### xs.count(x), xs.index(x) of data -/
theorem mt_countD {X : Cx} (hu : X.A.units + 65 < cLine) : MtR X "list.count" (fun x xs H Q => ∃ (a : Addr) (y : V) (d : PyData) (ds : List PyData), x = V.ref a ∧ xs = [y] ∧ Dp X.K H (V.ref a) (.list ds) ∧ Dp X.K H y d ∧ PyData.plainAll ds = true ∧ d.plain = true ∧ d.depth ≤ 64 ∧ Q (.int (ds.countP (fun z => PyData.eqv z d) : Nat)) H) := by
  intro pins s σ H x xs v us Q I rx rxs h
  obtain ⟨a, y, d, ds, rfl, rfl, hl, hy, h1, h2, h3, q⟩ := h
  cases rx
  obtain ⟨uy, rfl, ry⟩ := rxs.one
  obtain ⟨bs, r1⟩ := Dp.reads I d y uy hy ry
  cases hl with
  | lst hs ha =>
    obtain ⟨its, rv, ⟨⟨cls, dd, data, sls⟩, n, ho, hc, hdn, hdt⟩, hlen⟩ := I.list hs
    obtain ⟨as, h4⟩ := Dp.readsAll I ds _ its ha rv
    exact SeqAt.count_list_data (vs := its.toArray) ⟨_, ho, hc, n, hdt⟩ h4 r1 h1 h2 (by omega) ⟨.int _, H, I.tok _, ⟨s.toks, rfl⟩, q⟩
theorem ed_count (g : Gd Z (k + 1)) (ho : ES Z o ρ own s) (L : Lst own s ds) (he : ED Z e ρ own x) (h1 : PyData.plainAll ds = true) (h2 : x.plain = true) (h3 : x.depth ≤ 64)
    (hbase : attributeBase o "count" Z.X.env (eval o Z.X.env) = eval o Z.X.env := by rfl)
    (hfew : ((backTo cpos (starEach [e] Z.X.env)).all (fun x => !x.1) && (backToKw cpos (keywordEach [] Z.X.env)).all (fun x => x.1.isSome)
      && decide ([e].length + ([] : List Keyword).length + (if ([] : List Keyword).isEmpty then 0 else 1) < 30)) = true := by rfl)
    (hline : (apos.endLine == cpos.line) = true := by rfl) (hs : starEach [e] Z.X.env = (false, eval e Z.X.env) :: starEach [] Z.X.env := by rfl) (hplain : (backTo cpos (starEach [] Z.X.env)).any (·.1) = false := by rfl) :
    ED Z (.Call (.Attribute o "count" apos) [e] [] cpos) ρ own (.int (ds.countP (fun z => PyData.eqv z x) : Nat)) := fun Hf σ H S E Q q => wE.of (pe_bm PySem.F.plainAttrs_list PySem.F.slot_list_count PySem.F.type_list_count (mt_countD (by have := g.hr.un; omega)) peW (pa_cons peW pa_nil hs) hbase hfew hline hs hplain)
  (ho Hf σ H S E _ fun v Hf1 H1 m1 S1 r1 => by
    obtain ⟨p, vs, rfl, g1, _⟩ := L.at S1 r1
    refine ⟨.inl ⟨rfl, _, SqL.of g1⟩, he Hf1 σ H1 S1 (E.mono m1) _ fun w Hf2 H2 m2 S2 r2 => ?_⟩
    obtain ⟨p', vs', e', g1, g2⟩ := L.at S2 (r1.mono m2)
    cases e'
    exact ⟨p, w, x, ds, rfl, rfl, (Rep.lst g1 (g2.mono S2.e1)).dp, (Rep.mono S2.e1 r2).dp, h1, h2, h3, q _ Hf2 H2 (m1.trans m2) S2 (.int _)⟩)
theorem ed_index {j : Nat} {z : PyData} (g : Gd Z (k + 1)) (ho : ES Z o ρ own s) (L : Lst own s ds) (he : ED Z e ρ own x) (h1 : SeqAt.shaped (.list ds) = true) (h2 : SeqAt.shaped x = true) (hj : ds[j]? = some z) (hz : PyData.eqv z x = true) (hno : ∀ (m : Nat) (z' : PyData), m < j → ds[m]? = some z' → PyData.eqv z' x = false)
    (hbase : attributeBase o "index" Z.X.env (eval o Z.X.env) = eval o Z.X.env := by rfl)
    (hfew : ((backTo cpos (starEach [e] Z.X.env)).all (fun x => !x.1) && (backToKw cpos (keywordEach [] Z.X.env)).all (fun x => x.1.isSome)
      && decide ([e].length + ([] : List Keyword).length + (if ([] : List Keyword).isEmpty then 0 else 1) < 30)) = true := by rfl)
    (hline : (apos.endLine == cpos.line) = true := by rfl) (hs : starEach [e] Z.X.env = (false, eval e Z.X.env) :: starEach [] Z.X.env := by rfl) (hplain : (backTo cpos (starEach [] Z.X.env)).any (·.1) = false := by rfl) :
    ED Z (.Call (.Attribute o "index" apos) [e] [] cpos) ρ own (.int (j : Nat)) := fun Hf σ H S E Q q => wE.of (pe_bm PySem.F.plainAttrs_list PySem.F.slot_list_index PySem.F.type_list_index (mt_indexD (by have := g.hr.un; omega)) peW (pa_cons peW pa_nil hs) hbase hfew hline hs hplain)
  (ho Hf σ H S E _ fun v Hf1 H1 m1 S1 r1 => by
    obtain ⟨p, vs, rfl, g1, _⟩ := L.at S1 r1
    refine ⟨.inl ⟨rfl, _, SqL.of g1⟩, he Hf1 σ H1 S1 (E.mono m1) _ fun w Hf2 H2 m2 S2 r2 => ?_⟩
    obtain ⟨p', vs', e', g1, g2⟩ := L.at S2 (r1.mono m2)
    cases e'
    exact ⟨p, w, x, ds, j, z, rfl, rfl, (Rep.lst g1 (g2.mono S2.e1)).dp, (Rep.mono S2.e1 r2).dp, h1, h2, hj, hz, hno, q _ Hf2 H2 (m1.trans m2) S2 (.int _)⟩)
end
/-- what is known of a class of errors beside the others -/
structure ErrK (K : PySem.W.Frag) (C y d n s t o D : Addr) (by_ bd bn bs bt bo : Bool) : Prop where
  xc : ExcC K C
  y : PySem.W.kitOne K (.ref C) (.ref y) = some by_
  d : PySem.W.kitOne K (.ref C) (.ref d) = some bd
  n : PySem.W.kitOne K (.ref C) (.ref n) = some bn
  s : PySem.W.kitOne K (.ref C) (.ref s) = some bs
  t : PySem.W.kitOne K (.ref C) (.ref t) = some bt
  o : PySem.W.kitOne K (.ref C) (.ref o) = some bo
  de : PySem.W.kitOne K (.ref C) (.ref D) = some true
  ve : PySem.W.kitOne K (.ref C) (.type "ValueError") = some true
  ex : PySem.W.exmOne K (.ref C) (.ref D) = some true
end Sd


/-! sets of ints -/
namespace Sd
open PySem PySem.Spec PyProof.Rows L2
section
variable {X : Cx}
end
section
variable {Z : Ctx} {e : Expr} {ρ : List Slot} {own : Own} {pos p p2 q : Pos} {k : Nat} {s : Slot}
end
theorem Sat.nil {B : Bs} {Hf H : Hp} {own : Own} (S : Sat B Hf H own) : Sat B Hf H [] := ⟨S.e0, S.e1, S.eb, S.fr, (fun q hq => nomatch hq), by simp, S.tp⟩
section
variable {Z : Ctx} {D : DE} {ρ : List Slot} {own : Own} {sts : List Stmt} {a b c : Expr} {pos : Pos} {R : Slot → Own → Prop}
theorem sds_rtdrop (h : SDs Z sts { D with rt := fun s _ => D.rt s [] } ρ own) : SDs Z sts D ρ own := fun H0 Hf σ H m0 S E => wSs.imp (h H0 Hf σ H m0 S E) (fun _ _ q => q) (fun v H' ⟨Hf', s, o, m, S', r, hs, q⟩ => ⟨Hf', s, [], m, S'.nil, r, hs, q⟩) (fun _ _ q => q) (fun _ _ q => q)
end
/-! ### one class of errors beside another -/
theorem kit_ref {K : PySem.W.Frag} {C D : Addr} {l : Bool} (hd : PySem.W.hasDictIn K D = true) (ht : PySem.W.typeIn K (.ref D) = some (.type "type")) (hs : PySem.W.subIn K (.ref C) (.ref D) = some l) (h0 : PySem.W.subIn K (.ref C) (.ref C) = some true) : PySem.W.kitOne K (.ref C) (.ref D) = some l := by
  unfold PySem.W.kitOne
  split
  · rename_i h
    have e : C = D := Value.ref.inj (beq_iff_eq.mp h)
    subst e
    rw [h0] at hs
    exact hs
  · obtain ⟨cd, hc, _⟩ := PySem.W.any_some hd
    show (if ((PySem.W.clsIn K D).isSome && PySem.W.typeIn K (.ref D) == some (.type "type")) = true then PySem.W.subIn K (.ref C) (.ref D) else none) = some l
    rw [if_pos (by rw [hc, ht]; rfl)]
    exact hs
theorem kit_ve {K : PySem.W.Frag} {C : Addr} (hs : PySem.W.subIn K (.ref C) (.type "ValueError") = some true) : PySem.W.kitOne K (.ref C) (.type "ValueError") = some true := by
  unfold PySem.W.kitOne
  split
  · rfl
  · show (if PySem.W.kitMeta "ValueError" = true then PySem.W.subIn K (.ref C) (.type "ValueError") else none) = some true
    rw [if_pos (by decide +kernel)]
    exact hs
end Sd


/-! sorted of pairs of ints -/
namespace Sd
open PySem PySem.Spec PyProof.Rows L2
theorem Reps.mem {H : Hp} : ∀ {vs : List V} {ds : List PyData}, Reps H vs ds → ∀ v ∈ vs, ∃ d ∈ ds, Rep H v d
  | _, _, .nil, _, h => nomatch h
  | _, _, .cons a b, v, h => by
    rcases List.mem_cons.mp h with e | h
    · rw [e]; exact ⟨_, by simp, a⟩
    · obtain ⟨d, hd, r⟩ := Reps.mem b v h
      exact ⟨d, by simp [hd], r⟩
section
variable {Z : Ctx} {e : Expr} {ρ : List Slot} {own : Own} {pos p : Pos} {s : Slot}
end
end Sd


/-! texts -/
namespace Sd
open PySem PySem.Spec PyProof.Rows L2
abbrev lstr (zs : List Str) : List PyData := zs.map PyData.str
def chs (z : Str) : List PyData := z.cps.toList.map fun c => PyData.str ⟨#[c]⟩
section
variable {Z : Ctx} {e o a b tg : Expr} {ρ : List Slot} {own : Own} {pos p apos cpos : Pos} {s : Slot} {i n : Int} {z y : Str} {k : Nat}
theorem ed_strI (hm : Z.X.mg "str" = none) (h : ED Z e ρ own (.int i)) (hi : i.natAbs.log2 < 1920) (hg : Gl Z.X "str" := by rfl) (hs : starEach [e] Z.X.env = (false, eval e Z.X.env) :: starEach [] Z.X.env := by rfl) : ED Z (.Call (.Name "str" p) [e] [] pos) ρ own (.str (toString i)) :=
  es_callTy call_str_int hg hm (by decide +kernel) (ea_cons h ea_nil hs) fun vs Hf H S r0 Q q => by
    obtain ⟨v, rfl, r⟩ := r0.one
    cases r
    exact ⟨i, rfl, hi, q _ Hf H (Same.refl _) S (.str _)⟩
theorem ed_intS (hm : Z.X.mg "int" = none) (h : ED Z e ρ own (.str z)) (hz : PySem.intText? z = some n) (hl : z.length ≤ 640) (hg : Gl Z.X "int" := by rfl) (hs : starEach [e] Z.X.env = (false, eval e Z.X.env) :: starEach [] Z.X.env := by rfl) : ED Z (.Call (.Name "int" p) [e] [] pos) ρ own (.int n) :=
  es_callTy call_int_str hg hm (by decide +kernel) (ea_cons h ea_nil hs) fun vs Hf H S r0 Q q => by
    obtain ⟨v, rfl, r⟩ := r0.one
    cases r
    exact ⟨z, n, rfl, hz, hl, q _ Hf H (Same.refl _) S (.int _)⟩
theorem ed_join {zs : List Str} (ho : ED Z o ρ own (.str z)) (he : ES Z e ρ own s) (L : Lst own s (lstr zs)) (hl : (zs.map (·.length)).sum + zs.length * z.length ≤ 16777216)
    (hbase : attributeBase o "join" Z.X.env (eval o Z.X.env) = eval o Z.X.env := by rfl)
    (hfew : ((backTo cpos (starEach [e] Z.X.env)).all (fun x => !x.1) && (backToKw cpos (keywordEach [] Z.X.env)).all (fun x => x.1.isSome)
      && decide ([e].length + ([] : List Keyword).length + (if ([] : List Keyword).isEmpty then 0 else 1) < 30)) = true := by rfl)
    (hline : (apos.endLine == cpos.line) = true := by rfl) (hs : starEach [e] Z.X.env = (false, eval e Z.X.env) :: starEach [] Z.X.env := by rfl) (hplain : (backTo cpos (starEach [] Z.X.env)).any (·.1) = false := by rfl) :
    ED Z (.Call (.Attribute o "join" apos) [e] [] cpos) ρ own (.str (Txt.join z zs)) := fun Hf σ H S E Q q => wE.of (pe_bm PySem.F.plainAttrs_str PySem.F.slot_str_join PySem.F.type_str_join mt_join peW (pa_cons peW pa_nil hs) hbase hfew hline hs hplain)
  (ho Hf σ H S E _ fun v Hf1 H1 m1 S1 r1 => by
    cases r1
    refine ⟨rfl, he Hf1 σ H1 S1 (E.mono m1) _ fun w Hf2 H2 m2 S2 r2 => ?_⟩
    obtain ⟨p', vs', e', g1, g2⟩ := L.at S2 r2
    subst e'
    cases g2.of_strs
    exact ⟨z, p', zs, rfl, rfl, .inl (SqL.of g1), hl, q _ Hf2 H2 (m1.trans m2) S2 (.str _)⟩)
theorem el_split (ho : ED Z o ρ own (.str z)) (he : ED Z e ρ own (.str y)) (hy : (y.length == 0) = false) (hl : z.length + 2 ≤ 16777216)
    (hbase : attributeBase o "split" Z.X.env (eval o Z.X.env) = eval o Z.X.env := by rfl)
    (hfew : ((backTo cpos (starEach [e] Z.X.env)).all (fun x => !x.1) && (backToKw cpos (keywordEach [] Z.X.env)).all (fun x => x.1.isSome)
      && decide ([e].length + ([] : List Keyword).length + (if ([] : List Keyword).isEmpty then 0 else 1) < 30)) = true := by rfl)
    (hline : (apos.endLine == cpos.line) = true := by rfl) (hs : starEach [e] Z.X.env = (false, eval e Z.X.env) :: starEach [] Z.X.env := by rfl) (hplain : (backTo cpos (starEach [] Z.X.env)).any (·.1) = false := by rfl) :
    EL Z (.Call (.Attribute o "split" apos) [e] [] cpos) ρ own (lstr (Txt.split z y)) := fun Hf σ H S E Q q => wE.of (pe_bm PySem.F.plainAttrs_str PySem.F.slot_str_split PySem.F.type_str_split mt_split peW (pa_cons peW pa_nil hs) hbase hfew hline hs hplain)
  (ho Hf σ H S E _ fun v Hf1 H1 m1 S1 r1 => by
    cases r1
    refine ⟨rfl, he Hf1 σ H1 S1 (E.mono m1) _ fun w Hf2 H2 m2 S2 r2 => ?_⟩
    cases r2
    exact ⟨z, y, rfl, rfl, hy, Nat.le_trans hl (by decide), fun l hl => q l Hf2 _ (m1.trans m2) (S2.newOwn (oo := .lst (lstr (Txt.split z y))) hl ⟨_, upd_same, Reps.strs _⟩)⟩)
theorem it_str (h : ED Z e ρ own (.str z)) : IT Z tg e ρ own (fun _ => True) (chs z) := ⟨_, pi_str peW, fun Hf σ H S E R q => h Hf σ H S E _ fun v Hf1 H1 m1 S1 r1 => by
  cases r1
  have hlen : (chs z).length = z.cps.size := by unfold chs; rw [List.length_map, Array.length_toList]
  refine ⟨z, rfl, q _ Hf1 H1 m1 S1 ⟨fun i Hf' H' own' m S' _ hi => ?_, fun i y Hf' H' own' x H2 m S' _ hy hx => ?_, fun i Hf' H' own' m S' _ hi => ?_⟩⟩
  · rw [hlen] at hi
    exact hi
  · obtain ⟨rfl, c, hc, rfl⟩ := hx
    refine ⟨Hf', Same.refl _, S', ?_⟩
    unfold chs at hy
    rw [List.getElem?_map, Array.getElem?_toList, hc] at hy
    cases hy
    exact .str _
  · rw [hlen] at hi
    exact hi⟩
theorem c_inCh {c : Nat} : CmpB Z .In own (.d (.str ⟨#[c]⟩)) (.d (.str z)) (decide (c ∈ z.cps.toList)) := ⟨_, op_in_sign, fun v w Hf H S r1 r2 Q q => by cases r1; cases r2; exact ⟨c, z, rfl, rfl, q⟩⟩
end
end Sd


namespace Sd
open PySem PySem.Spec PyProof.Rows L2
/-! sums over ints, lists given by functions -/
section
variable {Z : Ctx} {elt tg iter : Expr} {scope : Scope} {ρ : List Slot} {own : Own} {k : Nat} {Po : Own → Prop} {ys : List PyData} {pos : Pos} {D : DE}
end
end Sd


/-! list(range(..)), tuple(range(..)), sorted of a tuple of ints -/
namespace Sd
open PySem PySem.Spec PyProof.Rows L2
section
variable {Z : Ctx} {a b e : Expr} {ρ : List Slot} {own : Own} {pos p p2 q : Pos} {k : Nat} {i j : Int}
end
end Sd


/-! dicts with tuples of ints as keys -/
namespace Sd
open PySem PySem.Spec PyProof.Rows L2
/-! ### walking d.items() -/
section
variable {X : Cx} {pins : List (Addr × Obj)} {σ : L2.St} {H : Hp} {s : Shared}
end

/-! ### a display of one pair -/
def getT {κ α : Type} [DecidableEq κ] (tb : List (κ × α)) (k : κ) : Option α := (tb.find? fun e => decide (e.1 = k)).map (·.2)
theorem inl_inj : ∀ {a b : List Int}, (a.map Sum.inl : List Key) = b.map Sum.inl → a = b
  | [], [], _ => rfl
  | [], _ :: _, h => nomatch h
  | _ :: _, [], h => nomatch h
  | x :: a, y :: b, h => by
    rw [List.map_cons, List.map_cons] at h
    injection h with h1 h2
    injection h1 with h1
    rw [h1, inl_inj h2]
theorem DtOk.nil {Hf : Hp} : DtOk Hf [] [] := ⟨rfl, .nil⟩
theorem DtOk.inv {Hf : Hp} {kvs : List (List Key × V)} {e : List Int × PyData} {tb : List (List Int × PyData)} (h : DtOk Hf kvs (e :: tb)) : ∃ v r, kvs = (e.1.map Sum.inl, v) :: r ∧ Rep Hf v e.2 ∧ DtOk Hf r tb := by
  obtain ⟨h1, h2⟩ := h
  match kvs, h1, h2 with
  | [], h1, _ => exact nomatch h1
  | (k, v) :: r, h1, h2 =>
    rw [List.map_cons, List.map_cons] at h1
    injection h1 with h3 h4
    cases h2 with
    | cons a b => exact ⟨v, r, by rw [← h3], a, h4, b⟩
theorem DtOk.inv0 {Hf : Hp} {kvs : List (List Key × V)} (h : DtOk Hf kvs []) : kvs = [] := by
  have := h.ks
  simpa using this
theorem DtOk.cons {Hf : Hp} {r : List (List Key × V)} {e : List Int × PyData} {tb : List (List Int × PyData)} {v : V} (a : Rep Hf v e.2) (h : DtOk Hf r tb) : DtOk Hf ((e.1.map Sum.inl, v) :: r) (e :: tb) :=
  ⟨by rw [List.map_cons, List.map_cons, h.ks], .cons a h.vs⟩
theorem DtOk.length {Hf : Hp} {kvs : List (List Key × V)} {tb : List (List Int × PyData)} (h : DtOk Hf kvs tb) : kvs.length = tb.length := by
  have := congrArg List.length h.ks
  simpa using this
theorem DtOk.any {Hf : Hp} (k : List Int) : ∀ {tb : List (List Int × PyData)} {kvs : List (List Key × V)}, DtOk Hf kvs tb → (kvs.any fun kv => decide (kv.1 = k.map Sum.inl)) = tb.any fun e => decide (e.1 = k)
  | [], kvs, h => by rw [h.inv0]; rfl
  | e :: tb, kvs, h => by
    obtain ⟨v, r, rfl, _, h2⟩ := h.inv
    rw [List.any_cons, List.any_cons, DtOk.any k h2]
    congr 1
    refine decide_eq_decide.mpr ⟨fun z => inl_inj z, fun z => by rw [z]⟩
theorem DtOk.get {Hf : Hp} (k : List Int) : ∀ {tb : List (List Int × PyData)} {kvs : List (List Key × V)}, DtOk Hf kvs tb → (getT tb k = none → valV kvs (k.map Sum.inl) = none) ∧ ∀ d, getT tb k = some d → ∃ v, valV kvs (k.map Sum.inl) = some v ∧ Rep Hf v d
  | [], kvs, h => by rw [h.inv0]; exact ⟨fun _ => rfl, fun d z => nomatch z⟩
  | e :: tb, kvs, h => by
    obtain ⟨v, r, rfl, hv, h2⟩ := h.inv
    have ih := DtOk.get k h2
    by_cases hk : e.1 = k
    · have g : getT (e :: tb) k = some e.2 := by simp [getT, List.find?_cons, hk]
      rw [g]
      refine ⟨(fun z => nomatch z), fun d z => ?_⟩
      cases z
      exact ⟨v, valV_pos (by rw [hk]), hv⟩
    · have g : getT (e :: tb) k = getT tb k := by simp [getT, List.find?_cons, hk]
      rw [g, valV_neg (fun z => hk (inl_inj z))]
      exact ih
theorem DtOk.at {Hf : Hp} : ∀ {tb : List (List Int × PyData)} {kvs : List (List Key × V)} {i : Nat} {k : List Key} {v : V}, DtOk Hf kvs tb → kvs[i]? = some (k, v) → ∃ e, tb[i]? = some e ∧ k = e.1.map Sum.inl ∧ Rep Hf v e.2
  | [], kvs, i, k, v, h, q => by rw [h.inv0] at q; simp at q
  | e :: tb, kvs, 0, k, v, h, q => by
    obtain ⟨v', r, rfl, hv, h2⟩ := h.inv
    simp at q
    obtain ⟨rfl, rfl⟩ := q
    exact ⟨e, rfl, rfl, hv⟩
  | e :: tb, kvs, i + 1, k, v, h, q => by
    obtain ⟨v', r, rfl, hv, h2⟩ := h.inv
    exact DtOk.at (i := i) h2 (by simpa using q)
section
variable {Z : Ctx} {D : DE} {e f o a : Expr} {ρ : List Slot} {own oa ob : Own} {pos p tpos apos cpos : Pos} {q : Addr} {tb : List (List Int × PyData)} {k : List Int} {d d0 x : PyData} {n : Nat} {R : Slot → Own → Prop}
end
/-! ### what is not needed any more -/
end Sd


/-! a list of one's own, lent: data while an expression runs -/
namespace Sd
open PySem PySem.Spec PyProof.Rows L2
/-- no list within -/
inductive Fre : PyData → Prop
  | non : Fre .none
  | bl (b : Bool) : Fre (.bool b)
  | int (i : Int) : Fre (.int i)
  | str (z : Str) : Fre (.str z)
  | tup {ds : List PyData} : (∀ d ∈ ds, Fre d) → Fre (.tuple ds)
section
variable {Z : Ctx} {D : DE} {e : Expr} {ρ : List Slot} {own : Own} {p : Addr} {ds : List PyData} {R R' : Slot → Own → Prop}
end
/-! ### a def without parameters -/
theorem pe_callS0 {X : Cx} {CX : CXT} {k : Nat} {f : Addr} {fd : FuncData} {ps : List Str} {sp : Sp} {E : L2.St → XK} {x : Str} {p pos : Pos} (F : FnOk X.prog X.w X.K X.mg X.base CX k f fd ps sp) (hr : Room k X.A) (hg : Gl X x) (hm : X.mg x = some (.ref f)) (hk : PySem.W.keepIn X.K (.ref f) = true) (hb : Binds X.K fd ps []) (hx : ∀ σ, PassesAt CX X σ (E σ)) (hdb : (x == ("__debug__" : Str)) = false := by decide) :
    PE X (.Call (.Name x p) [] [] pos) (fun σ H Q => sp [] H Q (E σ)) := by
  refine ⟨fun pins s σ H Q I h => ?_⟩
  refine wpAny_Call_Name_kw (ld_glob I hg hm ?_ hdb)
  exact PySem.W.callWith_K0 I.kIn hk (run_fnS (us := []) F hr hb (hx σ) I .nil h)
theorem eg_call0 {Z : Ctx} {ρ : List Slot} {own : Own} {pos p : Pos} {k j : Nat} {z : Str} {ps : List Str} {Pre : Pr} {post : Out → Prop} {R : Slot → Own → Prop} (F : Fn Z.X.K Z.X.mg Z.X.prog Z.X.w Z.X.base z ps j Pre) (g : Gd Z k) (hj : j ≤ k) (hp : Pre [] [] post) (h1 : ∀ s o1', post (.ret s o1') → R s (o1' ++ own)) (h2 : ∀ C o1', post (.exc C o1') → Z.ex C ρ (o1' ++ own))
    (hg : Gl Z.X z := by rfl) (hdb : (z == ("__debug__" : Str)) = false := by decide) : EG Z (.Call (.Name z p) [] [] pos) ρ own R := by
  obtain ⟨f, fd, ok, hm, hk, hb⟩ := F.ex
  refine fun Hf σ H S E Q q => wE.of (pe_callS0 (E := WE (Wish Z)) ok (g.hr.mono hj) hg hm hk hb (fun σ => passAt g.tk σ) hdb) ?_
  have S0 : Sat Z.B Hf H ([] ++ [] ++ own) := S
  refine ⟨Hf, less H [], [], [], post, S0.into, .nil, hp, fun s own' v Hf' H' hq S' r' hs => ?_, fun C own' Hf' H' hq S' => ?_⟩
  · exact q v Hf' H' s _ S'.e0 (S0.back S') r' hs (h1 s own' hq)
  · exact ⟨C, Hf', ρ, _, rfl, rfl, S0.back S', E.mono S'.e0, h2 C own' hq⟩
end Sd


/-! sorted(d), d a dict with tuples of ints as keys -/
namespace Sd
open PySem PySem.Spec PyProof.Rows L2
section
variable {X : Cx}
end
end Sd
namespace Sd
open PySem PySem.Spec PyProof.Rows L2
section
variable {Z : Ctx} {e : Expr} {ρ : List Slot} {own : Own} {pos p : Pos} {s : Slot} {k : Nat}
end
end Sd
namespace Sd
open PySem PySem.Spec PyProof.Rows L2
/-! a comprehension whose elements read what is owned -/
section
variable {Z : Ctx} {elt tg iter : Expr} {ifs : List Expr} {scope : Scope} {ρ : List Slot} {own : Own} {Fin : List PyData → Own → Prop} {k : Nat} {Po : Own → Prop} {ys : List PyData} {pos : Pos} {D : DE}
end

/-! x in a tuple of ints -/
section
variable {Z : Ctx} {own : Own}
end
end Sd


/-! dicts with int keys -/
namespace Sd
open PySem PySem.Spec PyProof.Rows L2
theorem DkOk.nil {Hf : Hp} : DkOk Hf [] [] := ⟨rfl, .nil⟩
theorem DkOk.inv {Hf : Hp} {kvs : List (Key × V)} {e : Int × PyData} {tb : List (Int × PyData)} (h : DkOk Hf kvs (e :: tb)) : ∃ v r, kvs = ((Sum.inl e.1 : Key), v) :: r ∧ Rep Hf v e.2 ∧ DkOk Hf r tb := by
  obtain ⟨h1, h2⟩ := h
  match kvs, h1, h2 with
  | [], h1, _ => exact nomatch h1
  | (k, v) :: r, h1, h2 =>
    rw [List.map_cons, List.map_cons] at h1
    injection h1 with h3 h4
    cases h2 with
    | cons a b => exact ⟨v, r, by rw [← h3], a, h4, b⟩
theorem DkOk.inv0 {Hf : Hp} {kvs : List (Key × V)} (h : DkOk Hf kvs []) : kvs = [] := by
  have := h.ks
  simpa using this
theorem DkOk.cons {Hf : Hp} {r : List (Key × V)} {e : Int × PyData} {tb : List (Int × PyData)} {v : V} (a : Rep Hf v e.2) (h : DkOk Hf r tb) : DkOk Hf (((Sum.inl e.1 : Key), v) :: r) (e :: tb) :=
  ⟨by rw [List.map_cons, List.map_cons, h.ks], .cons a h.vs⟩
theorem DkOk.length {Hf : Hp} {kvs : List (Key × V)} {tb : List (Int × PyData)} (h : DkOk Hf kvs tb) : kvs.length = tb.length := by
  have := congrArg List.length h.ks
  simpa using this
theorem DkOk.any {Hf : Hp} (k : Int) : ∀ {tb : List (Int × PyData)} {kvs : List (Key × V)}, DkOk Hf kvs tb → (kvs.any fun kv => decide (kv.1 = Sum.inl k)) = tb.any fun e => decide (e.1 = k)
  | [], kvs, h => by rw [h.inv0]; rfl
  | e :: tb, kvs, h => by
    obtain ⟨v, r, rfl, _, h2⟩ := h.inv
    rw [List.any_cons, List.any_cons, DkOk.any k h2]
    congr 1
    refine decide_eq_decide.mpr ⟨fun z => Sum.inl.inj z, fun z => by rw [z]⟩
theorem DkOk.get {Hf : Hp} (k : Int) : ∀ {tb : List (Int × PyData)} {kvs : List (Key × V)}, DkOk Hf kvs tb → (getT tb k = none → valV kvs (Sum.inl k) = none) ∧ ∀ d, getT tb k = some d → ∃ v, valV kvs (Sum.inl k) = some v ∧ Rep Hf v d
  | [], kvs, h => by rw [h.inv0]; exact ⟨fun _ => rfl, fun d z => nomatch z⟩
  | e :: tb, kvs, h => by
    obtain ⟨v, r, rfl, hv, h2⟩ := h.inv
    have ih := DkOk.get k h2
    by_cases hk : e.1 = k
    · have g : getT (e :: tb) k = some e.2 := by simp [getT, List.find?_cons, hk]
      rw [g]
      refine ⟨(fun z => nomatch z), fun d z => ?_⟩
      cases z
      exact ⟨v, valV_pos (by rw [hk]), hv⟩
    · have g : getT (e :: tb) k = getT tb k := by simp [getT, List.find?_cons, hk]
      rw [g, valV_neg (fun z => hk (Sum.inl.inj z))]
      exact ih
section
variable {Z : Ctx} {D : DE} {e f o a : Expr} {ρ : List Slot} {own oa ob : Own} {pos p tpos apos cpos : Pos} {q : Addr} {tb : List (Int × PyData)} {k : Int} {d d0 x : PyData} {n : Nat} {R : Slot → Own → Prop}
end
end Sd


namespace Sd
open PySem PySem.Spec PyProof.Rows L2
/-! displays of constants: the step over a constant is proved once, for any constant (quick) -/
section
variable {Z : Sd.Ctx} {ρ : List Slot} {own : Own} {es : List Expr} {s : Slot} {ss : List Slot} {p pos : Pos} {x1 : Nat}
theorem eb_k {x : Const} {j : Nat} (h : ES Z (.Constant x j p) ρ own s) (hr : EA Z es ρ own ss) : EA Z (.Constant x j p :: es) ρ own (s :: ss) := ea_cons h hr
theorem ed_lstB {ds : List PyData} (h : EA Z es ρ own ss) (e : ss = ds.map Slot.d) (hl : ds.length ≤ 1000) : ED Z (.List es pos) ρ own (.list ds) := ed_lst (ds := ds) (e ▸ h) hl
end
end Sd


namespace Sd
open PySem PySem.Spec PyProof.Rows L2
/-! ### an exception out of a comprehension -/
section
variable {M : Model} {A : Around} {E : Value → Shared → Prop} {s : Shared} {Z : Obj → Prop} {base : Heap} {env : Env} {outer : List Env} {L e : Addr}
/-- noted by this frame, while its flight stands at no frame or at another -/
theorem looks_other {fl : Value} {Q : Unit → Shared → Prop} (hZ : HandSPX.Steady Z) (hfr : A.frames = some (env :: outer)) (hf : env.frame = some L) (hkb : base.StaysIn s.heap) (hen : base.get? e = none) (hl : s.heap.FunFrames base (env :: outer)) (ht : HandSPX.TracedZ s.heap base e Z fl) (hne : (fl == rawInt L) = false)
    (hQ : ∀ h', HandSPX.HeldZ base (env :: outer) e Z L h' → s.heap.UpToSlots h' → Q () { s with heap := h' }) : wpAny M A (noteFrame (.ref e) env) Q E s := by
  obtain ⟨oe, vs, T, oT, ts, he, hz, hd, h1, hnT, hTe, hT, hdT, h3⟩ := ht
  have stay : ∀ b, b ≠ T → (s.heap.update T (Obj.mapFields (·.setIfInBounds 3 Value.none))).get? b = s.heap.get? b := fun b hb => Heap.get?_update_other _ _ (Ne.symm hb)
  have nT : ∀ b o, s.heap.get? b = some o → (∀ vs, o.data ≠ .fields vs) → b ≠ T := fun b o hb hnf q => by
    rw [q, hT] at hb; cases hb; exact hnf ts hdT
  unfold noteFrame
  simp only [hf]
  refine wpAny_bind (wpAny_field he hd h1 ?_)
  rw [if_pos (show (Value.ref T != Value.none) = true from by simp)]
  refine wpAny_bind (wpAny_field hT hdT h3 ?_)
  rw [if_neg (by rw [hne]; decide)]
  refine wpAny_bind (wpAny_setField hT hdT (Array.getElem?_eq_some_iff.mp h3).1 ?_)
  refine HandSPX.wpAny_entryZ hZ hfr (hl.of_keeps fun b o hb hnf => ⟨o, (stay b (nT b o hb hnf)).trans hb, rfl⟩) hf ((stay e (Ne.symm hTe)).trans he)
    (fun b o hbo => (stay b fun q => by rw [q, hnT] at hbo; cases hbo).trans (hkb b o hbo)) hen hd (Array.getElem?_eq_some_iff.mp h1).1 hz fun h' hN => ?_
  obtain ⟨x1, x2, x3, x4⟩ := hN
  exact hQ h' ⟨x1, hen, x2, x3⟩ fun b o hb hnf => x4 b o ((stay b (nT b o hb hnf)).trans hb) hnf
end
section
variable {X : Cx} {pins : List (Addr × Obj)} {σ : L2.St} {H H3 : Hp} {s s3 s' : Shared} {scope : Scope} {ce : Env} {fp : List Addr} {W Wb : WX} {u : Value}
theorem ns_ne {h : Heap} {C b : Addr} {m : Str → Option Value} {o : Obj} {vs : Array Value} (hn : h.Ns C m) (hb : h.get? b = some o) (hd : o.data = .fields vs) : b ≠ C := fun e => by
  obtain ⟨oL, es, ep, hoL, hdL, r⟩ := hn
  rw [e, hoL] at hb; cases hb
  rw [hdL] at hd; cases hd
theorem hid_none {B : Heap} {a C : Addr} (h : B.get? a = none) : (PySem.W.hideAll B [C]).get? a = none := by
  cases q : (PySem.W.hideAll B [C]).get? a with
  | none => rfl
  | some o => rw [PySem.W.of_hideAll _ q] at h; cases h
theorem hid_ne {B : Heap} {b C : Addr} {o : Obj} (h : (PySem.W.hideAll B [C]).get? b = some o) : b ≠ C := fun e => by
  rw [PySem.W.hideAll_none [C] (by rw [e]; simp)] at h; cases h
/-- what the element lets out, noted and handed on, is in the def's own air -/
theorem noted_blk (hs : X.stack = X.env :: X.outer) (hf : X.env.frame = some X.env.locals) (tk : Takes X W) (I3 : Inv X pins σ H3 s3) (hcf : ce.frame = X.env.frame) (cL : ce.locals = s3.heap.objs.size)
    (f3 : ∀ b ∈ fp, FpOk X pins H3 b ∧ b < s3.heap.objs.size) (x : XE (X.blk s3 H3 scope ce fp) Wb u s') (hW : ∀ cls d σ' H', Wb cls d σ' H' → W cls d σ H') :
    notedBy (model X.prog X.w) X.A ce (CompFails (model X.prog X.w) X.A X.xe ce) u s' := by
  obtain ⟨a, B, sI, pins', σ', H', cls, d, rfl, I, nb, up, sky, na, os, ag, w⟩ := x
  have hfr : X.A.frames = some (X.env :: X.outer) := by rw [I3.ok.frames, hs]
  obtain ⟨m, hn, _⟩ := I.loc
  have hn : sI.heap.Ns ce.locals m := hn
  have hn1 : s'.heap.Ns ce.locals m := hn.upToSlots up
  have sky : Sky B X.stack a (Zc cls d) ce.locals s'.heap := sky
  have nb : ∀ b o, sI.heap.get? b = some o → b ∉ frs X.stack → B.get? b = some o := nb
  have LC : X.env.locals < ce.locals := by rw [cL]; exact I3.lt
  have fin : ∀ h1, HandSPX.HeldZ B (X.env :: X.outer) a (Zc cls d) X.env.locals h1 → s'.heap.UpToSlots h1 → CompFails (model X.prog X.w) X.A X.xe ce (.ref a) { s' with heap := h1 } := fun h1 hh up1 => by
    obtain ⟨k1, k2, k3, k4⟩ := hh
    obtain ⟨oe, vs, T, oT, ts, he, hz, hd, h1', hnT, hTe, hT, hdT, ht3⟩ := k4
    have hn2 : h1.Ns ce.locals m := hn1.upToSlots up1
    refine ⟨m, hn2, fun h2 m2 hm2 hs2 => ?_⟩
    have aC : a ≠ ce.locals := ns_ne hn2 he hd
    have TC : T ≠ ce.locals := ns_ne hn2 hT hdT
    have he2 : h2.get? a = some oe := (hs2.2 a aC).trans he
    have hT2 : h2.get? T = some oT := (hs2.2 T TC).trans hT
    have held2 : HandSPX.HeldZ (PySem.W.hideAll B [ce.locals]) (X.env :: X.outer) a (Zc cls d) X.env.locals h2 := by
      refine ⟨fun b o e => (hs2.2 b (hid_ne e)).trans (k1 b o (PySem.W.of_hideAll _ e)), hid_none k2, funFrames_none (Heap.FunFrames.sameBut hs2 hm2 k3) fun L hL => hid_none (k3.mem hL).1, ?_⟩
      exact ⟨oe, vs, T, oT, ts, he2, hz, hd, h1', hid_none hnT, hTe, hT2, hdT, ht3⟩
    unfold PySem.passOn
    refine wpAny_bind (wpAny_field he2 hd h1' ?_)
    rw [if_neg (show ¬ ((Value.ref T == Value.none) = true) from by simp)]
    rw [hcf.trans hf]
    refine wpAny_bind (HandSPX.setFlight_onZ held2 fun h3 hh3 up3 => ?_)
    refine wpAny_throw (tk _ _ ?_)
    have blw : ∀ b o, s3.heap.get? b = some o → b ∉ [ce.locals] := fun b o e z => by
      have := Heap.lt_size e
      rw [List.mem_singleton.mp z, cL] at this
      exact Nat.lt_irrefl _ this
    have un : Un (frs X.stack) fp H3 H' s3.heap (PySem.W.hideAll sI.heap [ce.locals]) := by
      have ub : Un (frs X.stack) fp H3 H' s3.heap sI.heap := I.base
      refine ⟨fun b o e n1 n2 n3 => PySem.W.hideAll_get _ (ub.keep b o e n1 n2 n3) (blw b o e), fun b o e n1 n2 n3 => ?_, ub.free, fun b o e n => ?_, ub.tups, ub.frzs, ub.tbls⟩
      · obtain ⟨sl, q⟩ := ub.slot b o e n1 n2 n3
        exact ⟨sl, PySem.W.hideAll_get _ q (blw b o e)⟩
      · obtain ⟨o', q⟩ := ub.there b o e n
        exact ⟨o', PySem.W.hideAll_get _ q (blw b o e)⟩
    have hC : H' ce.locals = none := I.free
    have hok : HOk X.prog X.w H' (PySem.W.hideAll sI.heap [ce.locals]) := fun b o q =>
      (show _ from I.hok b o q).stay (fun c v hc r => PySem.W.hideAll_get _ r fun z => by
        rw [List.mem_singleton.mp z] at hc
        rcases hc with hc | hc
        · rw [← hc, hC] at q; cases q
        · rw [hC] at hc; cases hc) (fun _ r => r) fun _ _ r => r
    refine ⟨a, PySem.W.hideAll B [ce.locals], { sI with heap := PySem.W.hideAll sI.heap [ce.locals] }, pins, σ, H', cls, d, rfl, ?_, fun b o e hb => ?_, fun b o e nf => ?_, .inr (.inr ?_), na, os, ag, hW _ _ _ _ w⟩
    · exact I3.call' (s' := { sI with heap := PySem.W.hideAll sI.heap [ce.locals] }) (ch := fp) I.os un hok I.bare fun b hb => ⟨(f3 b hb).1.2.2.2.1, (f3 b hb).1.2.1, (f3 b hb).1.2.2.2.2.1, (f3 b hb).1.2.2.2.2.2⟩
    · exact PySem.W.hideAll_get _ (nb b o (PySem.W.of_hideAll _ e) hb) fun z => hid_ne e (List.mem_singleton.mp z)
    · obtain ⟨sl1, e1⟩ := up b o (PySem.W.of_hideAll _ e) nf
      obtain ⟨sl2, e2⟩ := up1 b _ e1 nf
      obtain ⟨sl3, e3⟩ := up3 b _ ((hs2.2 b (hid_ne e)).trans e2) nf
      exact ⟨sl3, e3⟩
    · rw [hs]; exact hh3
  show wpAny _ _ (noteFrame (.ref a) ce) _ _ s'
  rw [noteFrame_env _ hcf]
  rw [hs] at sky
  rcases sky with ⟨hB, hn, hl, oe, vs, he, hz, hd, h1⟩ | fl | hd
  · exact HandSPX.look_newZ Zc.steady hfr hl hf he hB hn hd h1 hz fin
  · exact HandSPX.looks_onZ Zc.steady hfr hf fl fin
  · refine looks_other Zc.steady hfr hf hd.1 hd.2.1 hd.2.2.1 hd.2.2.2 ?_ fin
    have ne : ce.locals ≠ X.env.locals := Nat.ne_of_gt LC
    cases q : (rawInt ce.locals == rawInt X.env.locals) with
    | false => rfl
    | true =>
      have q2 : rawInt ce.locals = rawInt X.env.locals := eq_of_beq q
      unfold rawInt at q2
      injection q2 with q3 q4
      exact absurd (Int.ofNat.inj q3) ne
end
/-! ### the loop of a comprehension whose element may let an exception out -/
/-- the context of the element -/
abbrev BlkX (X : Cx) (s : Shared) (H : Hp) (scope : Scope) (ce : Env) (fp : List Addr) : Cx := (X.blk s H scope ce fp).wish (notedBy (model X.prog X.w) X.A ce (CompFails (model X.prog X.w) X.A X.xe ce))
section
variable {X : Cx}
theorem xe_unwish {W : WX} {E : Value → Shared → Prop} {u : Value} {s' : Shared} (x : XE (X.wish E) W u s') : XE X W u s' := by
  obtain ⟨a, B, sI, pins, σ, H, cls, d, e, I, nb, up, sky, na, os, ag, w⟩ := x
  exact ⟨a, B, sI, pins, σ, H, cls, d, e, I.unwish, nb, up, sky, na, os, ag, w⟩
theorem lc_coreX {W : WX} {pins : List (Addr × Obj)} {s : Shared} {σ : L2.St} {H : Hp} {Q : VK} {elt tg iter : Expr} {ifs : List Expr} {scope : Scope} {own : List (Str × Nat)} {pos pos' : Pos} {wi : TI} {g : TG} {tt : TT} {te : L2.St → TE} {use : Option (Value → Sem Unit)} {Qf : Value → Shared → Prop}
    (hst : X.stack = X.env :: X.outer) (hfr : X.env.frame = some X.env.locals) (tk : Takes X W)
    (hc : X.calm = true) (hN : X.N.Nodup) (I : Inv X pins σ H s) (hi : PI X tg iter wi) (ok : BlkOk X.N X.env.scope scope own)
    (hg : ∀ (s : Shared) (H : Hp) (C : Addr) (cl : List (Str × Addr)) (fp : List Addr), PG (X.blk s H scope (compEnvC scope cl C X.env) fp) tg g) (ht : ∀ (s : Shared) (H : Hp) (C : Addr) (cl : List (Str × Addr)) (fp : List Addr), PTs (X.blk s H scope (compEnvC scope cl C X.env) fp) ifs tt)
    (he : ∀ (σ : L2.St) (s : Shared) (H : Hp) (C : Addr) (cl : List (Str × Addr)) (fp : List Addr), (∀ Wb : WX, (∀ cls d σ' H', Wb cls d σ' H' → W cls d σ H') → Takes (BlkX X s H scope (compEnvC scope cl C X.env) fp) Wb) → PE (BlkX X s H scope (compEnvC scope cl C X.env) fp) elt (te σ)) (hs : ∀ x, foldedSetIterable iter X.env x = pure x)
    (h : tLc wi g tt (te σ) (own.map (·.2)) σ H Q)
    (hRR : ∀ D C s' m H', Inv X pins σ H' s' → Q (.ref D) H' → s'.heap.Ns C m → FpOk X pins H' C → compPost (model X.prog X.w) X.A X.xe use Qf (.ref D) C (.ok .next) s') :
    wpAny (model X.prog X.w) X.A (comprehension (.ListComp elt [⟨tg, iter, ifs, 0⟩] scope pos) scope X.env pos' (newList []) false (eval iter X.env) use) Qf X.xe s := by
  have hfree : ∀ y ∈ scope.names, y.2 = .free → ∃ c, X.env.cells.lookup y.1 = some c := fun y hy e => by
    rcases ok.free y hy e with k | k
    · exact I.ok.has _ (.inl k)
    · exact I.ok.has _ (.inr k)
  refine comprehension_at (use := use) rfl hs (closure_ok hfree) ok.kind (fun y hy e => by rw [ok.uniq y hy, e])
    (thn (hi.run pins s σ H _ I h) fun xv s1 hx => thn hx fun itv s2 h2 => ?_)
  obtain ⟨it, fp, tn, J, H2, e, I2, T, st2, f2, q⟩ := h2
  subst e
  refine wpAny_newObj_type (newEnv_comp ?_) (by show 0 ≤ sizeLine; decide)
  generalize hD : s2.heap.objs.size = D
  have hDn : H2 D = none := I2.hok.fresh (Nat.le_of_eq hD)
  obtain ⟨Wt, ⟨m0, w0⟩, turn⟩ := q D hDn
  generalize hs3 : ({ s2 with heap := s2.heap.push { cls := .type "list", data := .seq ([] : List Value).toArray } } : Shared) = s3
  have I3 : Inv X pins σ (upd H2 D (.lst [])) s3 := by
    rw [← hs3]
    refine I2.laid (t' := s2.toks) (fun b o e => Heap.get?_push_of_some _ e) (Nat.le_of_eq hD) ⟨Nat.zero_le _, [], 0, .nil, ?_⟩
    rw [← hD]
    exact Heap.get?_push_size _ rfl
  have h3 : s3.heap = s2.heap.push { cls := .type "list", data := .seq ([] : List Value).toArray } := by rw [← hs3]
  have sz : ∀ b ∈ fp, b < s2.heap.objs.size := fun b hb => by
    obtain ⟨o, e, _⟩ := T.obj _ _ st2 b hb
    exact Heap.lt_size e
  have f3 : ∀ b ∈ fp, FpOk X pins (upd H2 D (.lst [])) b ∧ b < s3.heap.objs.size := fun b hb => by
    have hlt := sz b hb
    refine ⟨⟨?_, (f2 b hb).2⟩, by rw [h3, Heap.size_push]; exact Nat.lt_succ_of_lt hlt⟩
    rw [upd_ne (by rw [← hD]; exact Nat.ne_of_lt hlt)]
    exact (f2 b hb).1
  have st3 : tn 0 s3.heap := T.keep _ _ _ st2 fun b _ o e => by rw [h3]; exact Heap.get?_push_of_some _ e
  have I4 := block_start I3 ok hN f3
  have pg := hg s3 (upd H2 D (.lst [])) s3.heap.objs.size (cellsFrom (s3.heap.objs.size + 1) scope.names (cloFrom X.env.cells scope.names [])) fp
  have pt := ht s3 (upd H2 D (.lst [])) s3.heap.objs.size (cellsFrom (s3.heap.objs.size + 1) scope.names (cloFrom X.env.cells scope.names [])) fp
  have pe := he σ s3 (upd H2 D (.lst [])) s3.heap.objs.size (cellsFrom (s3.heap.objs.size + 1) scope.names (cloFrom X.env.cells scope.names [])) fp (fun Wb hW u s' x => by
    refine noted_blk (W := W) (Wb := Wb) hst hfr tk I3 rfl rfl f3 (xe_unwish (W := Wb) x) ?_
    intro cls d σ' H' hh
    exact hW cls d σ' H' hh)
  show codeAny _ _ (.compStart (.ListComp elt [⟨tg, iter, ifs, 0⟩] scope pos) 0 (.ref it) (.ref D) (compEnvC scope (cellsFrom (s3.heap.objs.size + 1) scope.names (cloFrom X.env.cells scope.names [])) s3.heap.objs.size X.env)) (compEnds (model X.prog X.w) X.A X.xe use Qf (.ref D) (compEnvC scope (cellsFrom (s3.heap.objs.size + 1) scope.names (cloFrom X.env.cells scope.names [])) s3.heap.objs.size X.env)) { s3 with heap := pushCells (s3.heap.push { cls := .type "dict", data := .dict #[] }) scope.names }
  have nfp : ∀ b ∈ fp, (upd H2 D (.lst [])) b = none := fun b hb => (f3 b hb).1.1
  generalize hce : compEnvC scope (cellsFrom (s3.heap.objs.size + 1) scope.names (cloFrom X.env.cells scope.names [])) s3.heap.objs.size X.env = ce at I4 pg pt pe ⊢
  have cL : ce.locals = s3.heap.objs.size := by subst hce; rfl
  generalize hH3 : upd H2 D (.lst []) = H3 at I3 I4 pg pt pe w0 nfp f3
  generalize hs4 : ({ s3 with heap := pushCells (s3.heap.push { cls := .type "dict", data := .dict #[] }) scope.names } : Shared) = s4 at I4 ⊢
  have st4 : tn 0 s4.heap := T.keep _ _ _ st3 fun b _ o e => by rw [← hs4]; exact pushCells_keeps _ _ _ _ (Heap.get?_push_of_some _ e)
  have stat : ∀ {σ' : L2.St} {H' : Hp} {s' : Shared}, Inv (X.blk s3 H3 scope ce fp) [] σ' H' s' → (∀ b ∈ fp, H' b = none) → ∀ b ∈ fp, FpOk (X.blk s3 H3 scope ce fp) [] H' b := fun {σ' H' s'} I' hn b hb =>
    ⟨hn b hb, (I'.ok.exf b hb).1, I'.ok.exfs b hb, .inl hb, fun x c e => (I'.ok.exf b hb).2 x c e, fun p hp => absurd (show p ∈ ([] : List (Addr × Obj)) ++ [] from hp) (by simp)⟩
  have loop : codeAny (model X.prog X.w) X.A (.compLoop (.ListComp elt [⟨tg, iter, ifs, 0⟩] scope pos) 0 (.ref it) (.ref D) ce) (compEnds (model X.prog X.w) X.A X.xe use Qf (.ref D) ce) s4 := by
    refine compLoop_any (fun n s' => ∃ i H', Inv (X.blk s3 H3 scope ce fp) [] (wipe σ (own.map (·.2))) H' s' ∧ tn i s'.heap ∧ (∀ b ∈ fp, H' b = none) ∧ Wt i n H') ?_ m0 ⟨0, H3, I4, st4, nfp, w0⟩
    rintro n s5 ⟨i, H5, I5, st5, n5, w5⟩
    rcases turn i n H5 w5 with ⟨stop, qq⟩ | ⟨go, Nx, hNx, step⟩
    · have td := T.done (X.blk s3 H3 scope ce fp) rfl rfl rfl hc i [] s5 _ H5 (fun _ _ => False) I5 (stat I5 n5) st5 stop
      refine thnF td fun r s6 ⟨hr, I6⟩ => ?_
      subst hr
      have I7 : Inv X pins σ H5 s6 := I3.call' (ch := fp) I6.os I6.base I6.hok I6.bare fun b hb => ⟨(f3 b hb).1.2.2.2.1, (f3 b hb).1.2.1, (f3 b hb).1.2.2.2.2.1, (f3 b hb).1.2.2.2.2.2⟩
      have nC : H5 s3.heap.objs.size = none := by
        have z : H5 ce.locals = none := I6.free
        rw [cL] at z
        exact z
      obtain ⟨m, hn, _⟩ := I6.loc
      have hn : s6.heap.Ns ce.locals m := hn
      rw [cL] at hn
      have fin := hRR D s3.heap.objs.size s6 m H5 I7 qq hn (I3.fpOk (Nat.le_refl _) nC)
      rw [← cL] at fin
      cases use with
      | none => exact fin
      | some u => exact fin
    · have ti := T.item (X.blk s3 H3 scope ce fp) rfl rfl rfl hc i [] s5 _ H5 (fun _ _ => False) I5 (stat I5 n5) st5 go
      refine thnF ti fun r s6 ⟨u, hr, h6⟩ => ?_
      subst hr
      refine thnF h6 fun _ s7 ⟨x, H7, I7, r7, y7, st7, n7⟩ => ?_
      have I7' := I7.pinned (stat I7 n7) (T.obj _ _ st7)
      refine thnF (pg.run _ s7 _ H7 x u _ I7' r7 (step x H7 y7)) fun _ s8 ⟨σ8, H8, I8, hw8, q8⟩ => ?_
      refine thnF (pt.run _ s8 σ8 H8 _ I8 q8) fun b s9 ⟨H9, I9, q9⟩ => ?_
      have fin : ∀ {s' : Shared} {H' : Hp}, Inv (X.blk s3 H3 scope ce fp) ([] ++ pinsAt fp s7.heap) σ8 H' s' → Nx H' → ∃ m, m < n ∧ ∃ i H', Inv (X.blk s3 H3 scope ce fp) [] (wipe σ (own.map (·.2))) H' s' ∧ tn i s'.heap ∧ (∀ b ∈ fp, H' b = none) ∧ Wt i m H' := fun {s' H'} I' nx => by
        obtain ⟨m', hm, w'⟩ := hNx H' nx
        have pin' : ∀ b ∈ fp, ∀ o, s7.heap.get? b = some o → s'.heap.get? b = some o ∧ H' b = none := fun b hb o e =>
          let z := I'.pin (b, o) (List.mem_append_right _ (List.mem_append_right _ (mem_pinsAt hb e)))
          ⟨z.1, z.2.1⟩
        have hl : (wipe σ (own.map (·.2))).length = σ8.length := by rw [← hw8, wipe_length]
        refine ⟨m', hm, i + 1, H', (I'.unpinned (pins := [])).weak hl (fun j v e => ?_), T.keep _ _ _ st7 fun b hb o e => (pin' b hb o e).1, fun b hb => ?_, w'⟩
        · rw [← hw8] at e
          exact (wipe_some e).1
        · obtain ⟨o, e, _⟩ := T.obj _ _ st7 b hb
          exact (pin' b hb o e).2
      cases b with
      | false =>
        simp only [Bool.false_eq_true, if_false] at q9 ⊢
        exact fin I9 q9
      | true =>
        simp only [if_true] at q9 ⊢
        refine wpAny_mono (pe.run _ s9 σ8 H9 _ (I9.wish _) q9) (fun z s10 ⟨yv, H10, I10, r10, acc, hD10, hz10, nx⟩ => ?_) fun u s10 x => ?_
        · exact app_ok (X := X.blk s3 H3 scope ce fp) I10.unwish hD10 hz10 r10 fun s11 I11 => fin I11 nx
        · cases use with
          | none => exact x
          | some u => exact x
  exact codeAny_compStart_list loop (T.self X.A 0 _ _ _ st4 loop)
/-- name = [..] on one line, the name a local; the element may let an exception out -/
theorem ps_setLcX {W : WX} {i : Nat} {y : Str} {py : Pos} {elt tg iter : Expr} {ifs : List Expr} {scope : Scope} {own : List (Str × Nat)} {pos spos : Pos} {wi : TI} {g : TG} {tt : TT} {te : L2.St → TE}
    (hst : X.stack = X.env :: X.outer) (hfr : X.env.frame = some X.env.locals) (tk : Takes X W) (hc : X.calm = true) (hN : X.N.Nodup) (hy : X.N[i]? = some y) (hyl : X.env.scope.names.lookup y = some .local)
    (hsw : swapsWith (.ListComp elt [⟨tg, iter, ifs, 0⟩] scope pos) (some (.Name y py)) spos.line X.env = pure true) (hi : PI X tg iter wi) (ok : BlkOk X.N X.env.scope scope own)
    (hg : ∀ (s : Shared) (H : Hp) (C : Addr) (cl : List (Str × Addr)) (fp : List Addr), PG (X.blk s H scope (compEnvC scope cl C X.env) fp) tg g) (ht : ∀ (s : Shared) (H : Hp) (C : Addr) (cl : List (Str × Addr)) (fp : List Addr), PTs (X.blk s H scope (compEnvC scope cl C X.env) fp) ifs tt)
    (he : ∀ (σ : L2.St) (s : Shared) (H : Hp) (C : Addr) (cl : List (Str × Addr)) (fp : List Addr), (∀ Wb : WX, (∀ cls d σ' H', Wb cls d σ' H' → W cls d σ H') → Takes (BlkX X s H scope (compEnvC scope cl C X.env) fp) Wb) → PE (BlkX X s H scope (compEnvC scope cl C X.env) fp) elt (te σ)) (hs : ∀ x, foldedSetIterable iter X.env x = pure x := by intro _; rfl) :
    PS X (.Assign [.Name y py] (.ListComp elt [⟨tg, iter, ifs, 0⟩] scope pos) spos) (fun D σ H => tLc wi g tt (te σ) (own.map (·.2)) σ H fun x H1 => gName i x σ H1 D.nx) := by
  refine ⟨fun pins s σ H D I h => ?_⟩
  rw [exec_Assign_Name_used _ _ _ _ hsw]
  refine wpAny_bind (wpAny_standAt (wpAny_bind ?_))
  show wpAny _ X.A (do let _ ← comprehension (.ListComp elt [⟨tg, iter, ifs, 0⟩] scope pos) scope X.env (firstIterPos [⟨tg, iter, ifs, 0⟩] pos) (newList []) false (eval iter X.env) (some (assign (.Name y py) X.env))) _ _ s
  have h : tLc wi g tt (te σ) (own.map (·.2)) σ H (fun x H1 => gName i x σ H1 D.nx) := h
  refine wpAny_bind (thn (lc_coreX (Qf := fun _ s' => SP X pins D .next s') hst hfr tk hc hN I hi ok hg ht he hs h fun L C s' m H' I' q hn f => ?_) fun _ s' hq => wpAny_pure (wpAny_pure hq))
  show wpAny _ _ (assign (.Name y py) X.env (.ref L)) _ _ _
  refine wpAny_assign_Name (store_ok2 (v := V.ref L) I' hN hy (.inl hyl) rfl (fun s2 I2 ⟨a, sb, ha⟩ => ?_) (.inr hyl))
  obtain ⟨f0, f1, f2, f3, f4, f5⟩ := f
  have haC : C ≠ a := by
    rcases ha with z | z
    · rw [z]; exact f1
    · exact fun e => f4 y a z e.symm
  refine ⟨m, hn.sameBut sb haC, fun h3 sb3 => ?_⟩
  exact ⟨_, H', I2.turned (t' := s2.toks) (fun b o hb e => (sb3.2 b hb).trans e) f0 f1 f3 f4 f5, q⟩
end
/-! ### the same over data -/
abbrev blkZx (Z : Ctx) (scope : Scope) (s : Shared) (H : Hp) (C : Addr) (cl : List (Str × Addr)) (fp : List Addr) (D : Addr) (ρ : List Slot) : Ctx :=
  ⟨BlkX Z.X s H scope (compEnvC scope cl C Z.X.env) fp, Z.B, fun E _ o => ∃ acc o', o = (D, .lst acc) :: o' ∧ Z.ex E (ρ.map fun _ => .un) o'⟩
theorem EnvR.forget {Hf Hf' : Hp} {σ : L2.St} {ρ : List Slot} (h : EnvR Hf σ ρ) : EnvR Hf' σ (ρ.map fun _ => .un) := ⟨by rw [List.length_map]; exact h.len, fun i s' e => by
  rw [List.getElem?_map] at e
  cases q : ρ[i]? with
  | none => rw [q] at e; cases e
  | some s => rw [q] at e; cases e; exact .inl rfl⟩
theorem wish_blk {Z : Ctx} {D : Addr} {Hf0 : Hp} {σ : L2.St} {ρ : List Slot} (E : EnvR Hf0 σ ρ) : ∀ cls d σ' H', (∃ C Hf ρ' own, cls = .ref C ∧ d = none ∧ Sat Z.B Hf H' own ∧ EnvR Hf σ' ρ' ∧ ∃ acc o', own = (D, .lst acc) :: o' ∧ Z.ex C (ρ.map fun _ => .un) o') → Wish Z cls d σ H' := by
  rintro cls d σ' H' ⟨C, Hf, ρ', own, rfl, rfl, S, _, acc, o', rfl, hx⟩
  exact ⟨C, Hf, _, o', rfl, rfl, Sat.drop (oa := []) S, E.forget, hx⟩
section
variable {Z : Ctx} {elt tg iter : Expr} {ifs : List Expr} {scope : Scope} {ρ : List Slot} {own : Own} {Fin : List PyData → Own → Prop} {k : Nat} {Po : Own → Prop} {ys : List PyData} {pos : Pos} {D : DE}
/-- name = [..] on one line, whose element may let an exception out -/
theorem sd_setCX (n : Nat) {y : Str} {py spos : Pos} (g : Gd Z k) (it : IT Z tg iter ρ own Po ys) (on : List (Str × Nat)) (ok : BlkOk Z.X.N Z.X.env.scope scope on) (I : Nat → List PyData → Own → Prop) (h0 : I 0 [] own) (hpo : ∀ i acc o D, I i acc o → Po ((D, .lst acc) :: o)) (hlen : ∀ i acc o, I i acc o → acc.length < 100000)
    (step : ∀ i y acc o L, ys[i]? = some y → I i acc o → ∃ ρ2 is, (∀ i ∈ is, i ∈ on.map (·.2)) ∧ (∀ s H C cl fp, GT (blkZ Z scope s H C cl fp) tg y (wipeR ρ (on.map (·.2))) ρ2 is) ∧
      (∀ s H C cl fp, Gd (blkZx Z scope s H C cl fp L ρ) k → EG (blkZx Z scope s H C cl fp L ρ) elt ρ2 ((L, .lst acc) :: o) (fun t o2 => ∃ d o', t = .d d ∧ o2 = (L, .lst acc) :: o' ∧ I (i + 1) (acc ++ [d]) o')))
    (hn : ∀ p ds o', I ys.length ds o' → D.nx (ρ.set n (.raw (.ref p))) ((p, .lst ds) :: o'))
    (hsw : swapsWith (.ListComp elt [⟨tg, iter, [], 0⟩] scope pos) (some (.Name y py)) spos.line Z.X.env = pure true) (hst : Z.X.stack = Z.X.env :: Z.X.outer := by rfl) (hfr : Z.X.env.frame = some Z.X.env.locals := by rfl) (hy : Z.X.N[n]? = some y := by rfl) (hyl : Z.X.env.scope.names.lookup y = some .local := by rfl) (hs : ∀ x, foldedSetIterable iter Z.X.env x = pure x := by intro _; rfl) :
    SD Z (.Assign [.Name y py] (.ListComp elt [⟨tg, iter, [], 0⟩] scope pos) spos) D ρ own := by
  obtain ⟨wi, hi, hw⟩ := it
  refine fun H0 Hf σ H m0 S E => wS.of (ps_setLcX (W := Wish Z) (g := fun v σ H Q => ∀ s' H' C cl fp, wG (Z.X.blk s' H' scope (compEnvC scope cl C Z.X.env) fp) tg v σ H Q) (tt := fun σ H Q => ∀ s' H' C cl fp, wTs (Z.X.blk s' H' scope (compEnvC scope cl C Z.X.env) fp) [] σ H Q)
    (te := fun σ0 σ H Q => ∀ s' H' C cl fp, (∀ Wb : WX, (∀ cls d σ' H', Wb cls d σ' H' → Wish Z cls d σ0 H') → Takes (BlkX Z.X s' H' scope (compEnvC scope cl C Z.X.env) fp) Wb) → wE (BlkX Z.X s' H' scope (compEnvC scope cl C Z.X.env) fp) elt σ H Q)
    hst hfr g.tk g.calm g.nd hy hyl hsw hi ok
    (fun s' H' C cl fp => ⟨fun pins s σ H v u Q I r h => (h s' H' C cl fp).run pins s u I r⟩) (fun s' H' C cl fp => ⟨fun pins s σ H Q I h => (h s' H' C cl fp).run pins s I⟩) (fun σ0 s' H' C cl fp tk => ⟨fun pins s σ H Q I h => (h s' H' C cl fp tk).run pins s I⟩) hs) ?_
  refine hw Hf σ H S E _ fun J Hf1 H1 m1 S1 W L hL => ?_
  refine ⟨fun i m H' => m = ys.length - i ∧ i ≤ ys.length ∧ ∃ Hf' acc o, Same Hf1 Hf' ∧ Sat Z.B Hf' H' ((L, .lst acc) :: o) ∧ I i acc o, ⟨ys.length, by omega, by omega, Hf1, [], own, Same.refl _, S1.newOwn hL ⟨[], upd_same, .nil⟩, h0⟩, ?_⟩
  rintro i m H' ⟨rfl, hil, Hf', acc, o, m', S', q'⟩
  by_cases hlt : i < ys.length
  · refine .inr ⟨W.go i Hf' H' _ m' S' (hpo i acc o L q') hlt, fun H2 => ∃ Hf2 acc2 o2, Same Hf1 Hf2 ∧ Sat Z.B Hf2 H2 ((L, .lst acc2) :: o2) ∧ I (i + 1) acc2 o2, fun H2 ⟨Hf2, acc2, o2, m2, S2, q2⟩ => ⟨ys.length - (i + 1), by omega, rfl, hlt, Hf2, acc2, o2, m2, S2, q2⟩, fun x H2 hx => ?_⟩
    obtain ⟨Hf2, m2, S2, r2⟩ := W.yld i _ Hf' H' _ x H2 m' S' (hpo i acc o L q') (List.getElem?_eq_getElem hlt) hx
    obtain ⟨ρ2, is, hin, gt, h1⟩ := step i _ acc o L (List.getElem?_eq_getElem hlt) q'
    have E2 : EnvR Hf2 (wipe σ (on.map (·.2))) (wipeR ρ (on.map (·.2))) := (E.mono ((m1.trans m').trans m2)).wipe _
    intro s' H'' C cl fp
    refine gt s' H'' C cl fp _ Hf2 _ H2 x S2 E2 r2 _ fun σ3 E3 b3 => ⟨wipe_but b3 hin, ?_⟩
    intro s' H'' C cl fp
    refine ets_nil (Z := blkZ Z scope s' H'' C cl fp) Hf2 σ3 H2 S2 E3 _ fun Hf3 H3 m3 S3 => ?_
    refine iteT ?_
    intro s' H'' C cl fp tk
    have gb : Gd (blkZx Z scope s' H'' C cl fp L ρ) k := ⟨tk _ (fun cls d σ H h => wish_blk (Z := Z) (D := L) E cls d σ H h), PassesOwn.looking, g.calm, g.nd, g.hr⟩
    refine h1 s' H'' C cl fp gb Hf3 σ3 H3 S3 (E3.mono m3) _ fun v Hf4 H4 t o2 m4 S4 r4 _ hq => ?_
    obtain ⟨d, o', rfl, rfl, hI⟩ := hq
    obtain ⟨_, _, vs, g1, g2⟩ := S4.at (p := L) (oo := .lst acc) (by simp)
    exact ⟨vs, g1, by rw [g2.length]; exact Nat.lt_of_lt_of_le (hlen _ _ _ q') (by decide), Hf4, acc ++ [d], o', ((m'.trans m2).trans m3).trans m4, S4.write (oa := []) (oo' := .lst (acc ++ [d])) ⟨_, upd_same, g2.append (.cons r4 .nil)⟩, hI⟩
  · have e : i = ys.length := by omega
    subst e
    exact .inl ⟨W.stop _ Hf' H' _ m' S' (hpo _ _ _ _ q') (Nat.le_refl _), Hf', _, _, m0.trans (m1.trans m'), S', (E.mono (m1.trans m')).set (s := .raw (.ref L)) rfl n, hn L acc o q'⟩
end
/-! ### z[lo:hi] of a text -/
section
variable {Z : Ctx} {a : Expr} {ρ : List Slot} {own : Own} {pos : Pos}
theorem ed_cutS {z : Str} {lo hi : Option Expr} {l h : Option Int} {p2 : Pos} (ha : ED Z a ρ own (.str z)) (hl : PT2 Z lo ρ own l) (hh : PT2 Z hi ρ own h) (hz : z.length ≤ sizeLine) : ED Z (.Subscript a (.Slice lo hi none p2) pos) ρ own (.str (cutS z l h)) := by
  obtain ⟨tl, pl, ql⟩ := hl
  obtain ⟨th, ph, qh⟩ := hh
  refine fun Hf σ H S R Q q => wE.of (pe_slice sl_str peW pl ph) (ha Hf σ H S R _ fun v Hf1 H1 m1 S1 r1 => ql Hf1 σ H1 S1 (R.mono m1) _ fun Hf2 H2 m2 S2 => qh Hf2 σ H2 S2 (R.mono (m1.trans m2)) _ fun Hf3 H3 m3 S3 => ?_)
  cases r1
  exact ⟨z, rfl, hz, q _ Hf3 H3 ((m1.trans m2).trans m3) S3 (.str _)⟩
end
end Sd


/-! plain defs (no defaults): what the binder makes, once for all -/
namespace Sd
open PySem PySem.Spec PyProof.Rows L2
def plainA (a : Arguments) (ps : List Str) : Bool := a.posonlyargs.isEmpty && (a.args.map (·.arg) == ps && (a.vararg.isNone && (a.kwonlyargs.isEmpty && (a.kwarg.isNone && decide ps.Nodup))))
theorem lookz_bind : ∀ {ps : List Str} {us : List Value}, us.length = ps.length → ∀ n ∈ ps, (List.lookup n (ps.zip us)).isSome = true
  | [], _, _, n, h => nomatch h
  | p :: ps, [], hl, _, _ => nomatch hl
  | p :: ps, u :: us, hl, n, h => by
    rw [List.zip_cons_cons, List.lookup_cons]
    split
    · rfl
    · rename_i hne
      rcases List.mem_cons.mp h with rfl | h
      · simp at hne
      · exact lookz_bind (by simpa using hl) n h
theorem fmc_bind {α β : Type} {f g : α → Option β} : ∀ {l : List α}, (∀ x ∈ l, f x = g x) → l.filterMap f = l.filterMap g
  | [], _ => rfl
  | x :: l, h => by rw [List.filterMap_cons, List.filterMap_cons, h x (.head _), fmc_bind fun y hy => h y (.tail _ hy)]
theorem mapz_bind : ∀ {ps : List Str} {us : List Value}, us.length = ps.length → ps.Nodup → ps.filterMap (fun n => (List.lookup n (ps.zip us)).map (Prod.mk n)) = ps.zip us
  | [], _, _, _ => rfl
  | p :: ps, [], hl, _ => nomatch hl
  | p :: ps, u :: us, hl, nd => by
    rw [List.nodup_cons] at nd
    rw [List.zip_cons_cons, List.filterMap_cons, List.lookup_cons]
    simp only [beq_self_eq_true, Option.map_some]
    congr 1
    refine Eq.trans ?_ (mapz_bind (ps := ps) (us := us) (by simpa using hl) nd.2)
    refine fmc_bind fun n hn => ?_
    rw [List.lookup_cons, beq_eq_false_iff_ne.mpr (show n ≠ p from fun e => nd.1 (by rw [← e]; exact hn))]
theorem bind_plain {fd : FuncData} {ps : List Str} {us : List Value} (h : plainA fd.params ps = true) (hd : fd.defaults = .none) (hl : us.length = ps.length) : bindArgs fd ⟨us, []⟩ = pure (ps.zip us) := by
  simp only [plainA, Bool.and_eq_true, List.isEmpty_iff, beq_iff_eq, Option.isNone_iff_eq_none, decide_eq_true_eq] at h
  obtain ⟨h1, h2, h3, h4, h5, nd⟩ := h
  have hm : (ps.filter fun n => (List.lookup n (ps.zip us)).isNone) = [] := List.filter_eq_nil_iff.mpr fun n hn => by
    have := lookz_bind hl n hn
    cases h : List.lookup n (ps.zip us) <;> simp_all
  have hz := mapz_bind hl nd
  have hq : seqItems? Value.none = pure none := rfl
  have hg : decide (us.length > ps.length) = false := decide_eq_false (by omega)
  unfold bindArgs
  simp only [h1, h2, h3, h4, h5, hd, hq, hg, List.map_nil, List.nil_append, List.append_nil, List.forIn_nil, pure_bind, Option.getD_none, List.drop_nil, List.length_nil, Nat.sub_zero, List.take_length, List.drop_length, List.zip_nil_right, hm, List.isEmpty_nil, Bool.not_true, Bool.false_and, Bool.false_eq_true, if_false]
  exact congrArg pure hz
theorem df_mk2 {K : PySem.W.Frag} {mg : Str → Option Value} {h : Heap} {z : Str} {st : Stmt} {ps : List Str} {f : Addr} {oc : Value} {od an : Option Addr} {sl : Array (Option Value)} {kV dc pm cd ct : Value} (X : K.In h) (G : h.Ns mainGlobals mg) (hb : plainA (defArgs st) ps = true)
    (a : PySem.W.nsIn K mainGlobals z = some (some (.ref f))) (l : K.lookup f = some ⟨oc, od, .func (PySem.W.fnOf z z (defArgs st) (defBody st) (defScope st) .none kV dc pm an cd ct), sl⟩) (c : PySem.W.codeIn K cd z = true) (k : PySem.W.keepIn K (.ref f) = true) : Df K mg z st ps :=
  df_mk X G (fun _ _ _ _ _ _ _ hl => bind_plain hb rfl hl) a l c k
end Sd


/-! sums, binomial laws -/
namespace Sd
end Sd


namespace Pg
open PySem PySem.Spec PyProof.Rows L2 Sd
def topS (i : Nat) : Stmt := PySem.Challenge.pw_samedays_k09_whole_texts.main.body.getD i (.Pass ⟨0, 0, 0, 0⟩)
abbrev s_is_int : Stmt := topS 8
theorem sc_is_int : FnScope ["value", "low", "high"] ["value", "low", "high"] (defScope s_is_int) := ⟨rfl, rfl, rfl, by decide +kernel, rfl, by decide +kernel, by decide +kernel⟩
theorem pa_is_int : plainA (defArgs s_is_int) ["value", "low", "high"] = true := by decide +kernel
abbrev s_is_year : Stmt := topS 9
theorem sc_is_year : FnScope ["value", "one"] ["value"] (defScope s_is_year) := ⟨rfl, rfl, rfl, by decide +kernel, rfl, by decide +kernel, by decide +kernel⟩
theorem pa_is_year : plainA (defArgs s_is_year) ["value"] = true := by decide +kernel
abbrev s_check_year : Stmt := topS 10
theorem sc_check_year : FnScope ["value"] ["value"] (defScope s_check_year) := ⟨rfl, rfl, rfl, by decide +kernel, rfl, by decide +kernel, by decide +kernel⟩
theorem pa_check_year : plainA (defArgs s_check_year) ["value"] = true := by decide +kernel
abbrev s_number_in : Stmt := topS 13
theorem sc_number_in : FnScope ["word", "sign"] ["word"] (defScope s_number_in) := ⟨rfl, rfl, rfl, by decide +kernel, rfl, by decide +kernel, by decide +kernel⟩
theorem pa_number_in : plainA (defArgs s_number_in) ["word"] = true := by decide +kernel
abbrev s_format_year : Stmt := topS 14
theorem sc_format_year : FnScope ["year", "weight"] ["year"] (defScope s_format_year) := ⟨rfl, rfl, rfl, by decide +kernel, rfl, by decide +kernel, by decide +kernel⟩
theorem pa_format_year : plainA (defArgs s_format_year) ["year"] = true := by decide +kernel
abbrev s_parse_year : Stmt := topS 15
theorem sc_parse_year : FnScope ["text", "found", "word"] ["text"] (defScope s_parse_year) := ⟨rfl, rfl, rfl, by decide +kernel, rfl, by decide +kernel, by decide +kernel⟩
theorem pa_parse_year : plainA (defArgs s_parse_year) ["text"] = true := by decide +kernel
abbrev s_law_start : Stmt := topS 17
theorem sc_law_start : FnScope ["script"] ["script"] (defScope s_law_start) := ⟨rfl, rfl, rfl, by decide +kernel, rfl, by decide +kernel, by decide +kernel⟩
theorem pa_law_start : plainA (defArgs s_law_start) ["script"] = true := by decide +kernel
abbrev s_law_draw : Stmt := topS 18
theorem sc_law_draw : FnScope ["draws", "limit", "numbers", "at", "cell", "mixed"] ["draws", "limit"] (defScope s_law_draw) := ⟨rfl, rfl, rfl, by decide +kernel, rfl, by decide +kernel, by decide +kernel⟩
theorem pa_law_draw : plainA (defArgs s_law_draw) ["draws", "limit"] = true := by decide +kernel
abbrev s_law_pick : Stmt := topS 19
theorem sc_law_pick : FnScope ["draws", "choices"] ["draws", "choices"] (defScope s_law_pick) := ⟨rfl, rfl, rfl, by decide +kernel, rfl, by decide +kernel, by decide +kernel⟩
theorem pa_law_pick : plainA (defArgs s_law_pick) ["draws", "choices"] = true := by decide +kernel
abbrev s_law_error : Stmt := topS 20
theorem sc_law_error : FnScope ["caught", "kinds"] ["caught"] (defScope s_law_error) := ⟨rfl, rfl, rfl, by decide +kernel, rfl, by decide +kernel, by decide +kernel⟩
theorem pa_law_error : plainA (defArgs s_law_error) ["caught"] = true := by decide +kernel
abbrev s_law_year : Stmt := topS 21
theorem sc_law_year : FnScope ["draws", "most", "wide", "k"] ["draws", "most"] (defScope s_law_year) := ⟨rfl, rfl, rfl, by decide +kernel, rfl, by decide +kernel, by decide +kernel⟩
theorem pa_law_year : plainA (defArgs s_law_year) ["draws", "most"] = true := by decide +kernel
abbrev s_law_parsed : Stmt := topS 22
theorem sc_law_parsed : FnScope ["text", "found", "caught", "e"] ["text"] (defScope s_law_parsed) := ⟨rfl, rfl, rfl, by decide +kernel, rfl, by decide +kernel, by decide +kernel⟩
theorem pa_law_parsed : plainA (defArgs s_law_parsed) ["text"] = true := by decide +kernel
abbrev s_law_rejected : Stmt := topS 23
theorem sc_law_rejected : FnScope ["odd", "bad"] [] (defScope s_law_rejected) := ⟨rfl, rfl, rfl, by decide +kernel, rfl, by decide +kernel, by decide +kernel⟩
theorem pa_law_rejected : plainA (defArgs s_law_rejected) [] = true := by decide +kernel
abbrev s_law : Stmt := topS 24
theorem sc_law : FnScope ["script", "draws", "year", "text", "turn", "at", "mark", "other", "found", "weight"] ["script"] (defScope s_law) := ⟨rfl, rfl, rfl, by decide +kernel, rfl, by decide +kernel, by decide +kernel⟩
theorem pa_law : plainA (defArgs s_law) ["script"] = true := by decide +kernel
structure Tx (K : PySem.W.Frag) (mg : Str → Option Value) (c : Cl) : Prop where
  e_DayError : ErrC K mg "DayError" c.DayError
  e_BadYear : ErrC K mg "BadYear" c.BadYear
  e_BadDay : ErrC K mg "BadDay" c.BadDay
  e_BadNumber : ErrC K mg "BadNumber" c.BadNumber
  e_BadShare : ErrC K mg "BadShare" c.BadShare
  e_BadText : ErrC K mg "BadText" c.BadText
  e_NotFound : ErrC K mg "NotFound" c.NotFound
  d_is_int : Df K mg "is_int" s_is_int ["value", "low", "high"]
  d_is_year : Df K mg "is_year" s_is_year ["value"]
  d_check_year : Df K mg "check_year" s_check_year ["value"]
  k_DIGITS : ∃ t, mg "DIGITS" = some (.str "0123456789" t)
  d_number_in : Df K mg "number_in" s_number_in ["word"]
  d_format_year : Df K mg "format_year" s_format_year ["year"]
  d_parse_year : Df K mg "parse_year" s_parse_year ["text"]
  d_law_start : Df K mg "_law_start" s_law_start ["script"]
  d_law_draw : Df K mg "_law_draw" s_law_draw ["draws", "limit"]
  d_law_pick : Df K mg "_law_pick" s_law_pick ["draws", "choices"]
  d_law_error : Df K mg "_law_error" s_law_error ["caught"]
  d_law_year : Df K mg "_law_year" s_law_year ["draws", "most"]
  d_law_parsed : Df K mg "_law_parsed" s_law_parsed ["text"]
  d_law_rejected : Df K mg "_law_rejected" s_law_rejected []
  d_law : Df K mg "law" s_law ["script"]
  q_BadYear : ErrK K c.BadYear c.BadYear c.BadDay c.BadNumber c.BadShare c.BadText c.NotFound c.DayError true false false false false false
  q_BadDay : ErrK K c.BadDay c.BadYear c.BadDay c.BadNumber c.BadShare c.BadText c.NotFound c.DayError false true false false false false
  q_BadNumber : ErrK K c.BadNumber c.BadYear c.BadDay c.BadNumber c.BadShare c.BadText c.NotFound c.DayError false false true false false false
  q_BadShare : ErrK K c.BadShare c.BadYear c.BadDay c.BadNumber c.BadShare c.BadText c.NotFound c.DayError false false false true false false
  q_BadText : ErrK K c.BadText c.BadYear c.BadDay c.BadNumber c.BadShare c.BadText c.NotFound c.DayError false false false false true false
  q_NotFound : ErrK K c.NotFound c.BadYear c.BadDay c.BadNumber c.BadShare c.BadText c.NotFound c.DayError false false false false false true
  n_isinstance : mg "isinstance" = none
  n_int : mg "int" = none
  n_bool : mg "bool" = none
  n_all : mg "all" = none
  n_list : mg "list" = none
  n_len : mg "len" = none
  n_str : mg "str" = none
  n_ValueError : mg "ValueError" = none
  n_range : mg "range" = none
end Pg

namespace Pg
open PySem PySem.Spec PyProof.Rows L2 Sd
section
variable {P : Program} {w : World} {K : PySem.W.Frag} {mg : Str → Option Value} {base : Heap} {c : Cl}
def pre_is_int : Pr := fun ss own post => ∃ x lo hi, ss = [.d x, .d (.int lo), .d (.int hi)] ∧ own = [] ∧ post = fun o => o = .ret (.d (.bool (isInt x lo hi))) []
theorem fn_is_int (T : Tx K mg c) : Fn K mg P w base "is_int" ["value", "low", "high"] 1 pre_is_int := T.d_is_int.fn fun f fd F => okG (k := 0) F sc_is_int (by rintro ss own post ⟨x, lo, hi, rfl, _⟩; rfl) (by
  rintro ss own post ⟨x, lo, hi, rfl, rfl, rfl⟩ cdv A outer s H E B g
  refine sds_nd 0 rfl fun hx => ?_
  have hx := hx.1
  refine sds_one (sd_retD (x := .bool (isInt x lo hi)) (ES.is (ed_and (l := isInt x lo hi) (ed_isi (x := x) (l := (kitB (tyD x) "int").getD false) T.n_isinstance (ed_v 0) .d (ev_ty (T := "int") rfl T.n_int (by decide +kernel)) ?_) fun hk => ?_) ?_) rfl)
  · cases x <;> first | rfl | exact absurd rfl (hx _)
  · refine ES.is (ed_and (l := isInt x lo hi) (ed_not (ed_isi (x := x) (l := (kitB (tyD x) "bool").getD false) T.n_isinstance (ed_v 0) .d (ev_ty (T := "bool") rfl T.n_bool (by decide +kernel)) ?_)) fun hk2 => ed_one ?_) ?_
    · cases x <;> first | rfl | exact absurd rfl (hx _)
    · cases x with
      | int i => exact ed_chain c_le c_le (ed_v 1) (ed_v 0) (ed_v 2)
      | bool b => exact nomatch (show false = true from hk2)
      | none => exact nomatch (show false = true from hk)
      | str z => exact nomatch (show false = true from hk)
      | list z => exact nomatch (show false = true from hk)
      | tuple z => exact nomatch (show false = true from hk)
      | dict z => exact absurd rfl (hx z)
    · cases x <;> first | rfl | exact nomatch (show false = true from hk) | exact absurd rfl (hx _)
  · cases x <;> first | rfl | exact absurd rfl (hx _))
end
end Pg

namespace Pg
open PySem PySem.Spec PyProof.Rows L2 Sd
section
variable {P : Program} {w : World} {K : PySem.W.Frag} {mg : Str → Option Value} {base : Heap} {c : Cl}
def pre_is_year : Pr := fun ss own post => ∃ x, ss = [.d x] ∧ own = [] ∧ post = fun o => o = .ret (.d (.bool (isYear x))) []
theorem fn_is_year (T : Tx K mg c) : Fn K mg P w base "is_year" ["value"] 2 pre_is_year := T.d_is_year.fn fun f fd F => okG (k := 1) F sc_is_year (by rintro ss own post ⟨x, rfl, _⟩; rfl) (by
  rintro ss own post ⟨x, rfl, rfl, rfl⟩ cdv A outer s H E B g
  refine sds_nd 0 rfl fun hx => ?_
  have hx := hx.1
  by_cases hl : ∃ ds, x = .list ds
  · obtain ⟨ds, rfl⟩ := hl
    refine sds_cons (sd_if (l := !(decide (1 ≤ (ds.length : Int)) && decide ((ds.length : Int) ≤ 8))) (ET.is (EW.et (ew_or (et_not (et_val (ed_isi (x := .list ds) (l := true) T.n_isinstance (ed_v 0) .d (ev_ty (T := "list") rfl T.n_list (by decide +kernel)) rfl))) fun _ => ew_or1 (et_not (et_chain c_le c_le ed_int (ed_len T.n_len (ed_v 0) .d) ed_int)))) (by simp)) (fun h => ?_) fun h => ?_)
    · refine sds_one (sd_retD ed_bl ?_)
      have : isYear (.list ds) = false := by
        unfold isYear
        simp only [Bool.not_eq_true', Bool.and_eq_false_iff] at h ⊢
        exact .inl h
      rw [this]
    · have h : (decide (1 ≤ (ds.length : Int)) && decide ((ds.length : Int) ≤ 8)) = true := by simpa using h
      have hlen : ds.length ≤ 8 := by simp at h; omega
      refine sds_nil (sds_one (sd_retD (ed_all (ns := ds.map fun d => isInt d 1 20) g T.n_all (EL.ed (ds := (ds.map fun d => isInt d 1 20).map PyData.bool) (EL.is (el_comp g (compP g (it_list (ed_v 0)) [("one", 1)] (blkOk_by (N := ["value", "one"]) (sc := defScope s_is_year) (by decide +kernel)) ds id (by simp) (fun d => some (.bool (isInt d 1 20))) (fun d => [.d (.list ds), .d d]) [1] (by simp) (by omega) (fun _ _ => trivial)
        (fun d _ s H C cl fp g' => gt_name 1 g'.nd) (fun d _ s H C cl fp o g' => ets_nil) (fun d _ x hx s H C cl fp o g' => ?_))) ?_)) .d) ?_))
      · cases hx
        exact es_call (fn_is_int T) g' (by decide) (ea_cons (ed_v 1) (ea_cons ed_int (ea_cons ed_int ea_nil))) ⟨d, 1, 20, rfl, rfl, rfl⟩
      · rw [List.map_map]
        exact List.filterMap_eq_map' .. |>.symm ▸ rfl
      · show Out.ret (.d (.bool ((ds.map fun d => isInt d 1 20).all id))) [] = Out.ret (.d (.bool (isYear (.list ds)))) []
        have e : isYear (.list ds) = (decide (1 ≤ (ds.length : Int)) && decide ((ds.length : Int) ≤ 8) && (ds.map fun d => isInt d 1 20).all id) := rfl
        rw [e, h, Bool.true_and]
  · have hk : kitB (tyD x) "list" = some false := by
      cases x <;> first | rfl | exact absurd ⟨_, rfl⟩ hl | exact absurd rfl (hx _)
    refine sds_cons (sd_if (l := true) (EW.et (ew_or (k := true) (l := true) (et_not (k := false) (et_val (ed_isi (x := x) (l := false) T.n_isinstance (ed_v 0) .d (ev_ty (T := "list") rfl T.n_list (by decide +kernel)) hk))) fun h => nomatch h)) (fun h => ?_) fun h => nomatch h)
    refine sds_one (sd_retD ed_bl ?_)
    cases x <;> first | rfl | exact absurd ⟨_, rfl⟩ hl)
end
end Pg

namespace Pg
open PySem PySem.Spec PyProof.Rows L2 Sd
section
variable {P : Program} {w : World} {K : PySem.W.Frag} {mg : Str → Option Value} {base : Heap} {c : Cl}
def pre_check_year (c : Cl) : Pr := fun ss own post => ∃ x, ss = [.d x] ∧ own = [] ∧ post = fun o => o = if isYear x = true then .ret (.d .none) [] else .exc c.BadYear []
theorem fn_check_year (T : Tx K mg c) : Fn K mg P w base "check_year" ["value"] 3 (pre_check_year c) := T.d_check_year.fn fun f fd F => okG (k := 2) F sc_check_year (by rintro ss own post ⟨x, rfl, _⟩; rfl) (by
  rintro ss own post ⟨x, rfl, rfl, rfl⟩ cdv A outer s H E B g
  refine sds_one (sd_if (et_not (et_val (es_call (fn_is_year T) g (by decide) (ea_cons (ed_v 0) ea_nil) ⟨x, rfl, rfl, rfl⟩))) (fun h => ?_) fun h => ?_)
  · refine sds_one (sd_raise g T.e_BadYear ?_)
    show Out.exc c.BadYear [] = _
    rw [if_neg (by simpa using h)]
  · refine sds_nil ?_
    show Out.ret (.d .none) [] = _
    rw [if_pos (by simpa using h)])
/-- a year is checked -/
theorem ok_year {c : Cl} {ys : List Int} (h : Yr ys) : pre_check_year c [.d (li ys)] [] (fun o => o = .ret (.d .none) []) := ⟨li ys, rfl, rfl, by rw [if_pos h.is]⟩
end
end Pg

namespace Pg
open PySem PySem.Spec PyProof.Rows L2 Sd
section
variable {P : Program} {w : World} {K : PySem.W.Frag} {mg : Str → Option Value} {base : Heap} {c : Cl}
def toS (i : Int) : Str := Str.ofString (toString i)
def numOk (n : Nat) : Bool := decide (1 ≤ ((toS ((n : Int) + 1)).length : Int)) && decide (((toS ((n : Int) + 1)).length : Int) ≤ 2) && ((toS ((n : Int) + 1)).cps.toList.map fun c => decide (c ∈ (Str.ofString "0123456789").cps.toList)).all id && decide (PySem.intText? (toS ((n : Int) + 1)) = some ((n : Int) + 1))
theorem numOk_all : ∀ n : Nat, n < 20 → numOk n = true := by decide +kernel
theorem num_ok {w : Int} (h : 1 ≤ w ∧ w ≤ 20) : (1 ≤ ((toS w).length : Int) ∧ ((toS w).length : Int) ≤ 2) ∧ ((toS w).cps.toList.map fun c => decide (c ∈ (Str.ofString "0123456789").cps.toList)).all id = true ∧ PySem.intText? (toS w) = some w := by
  have h1 := numOk_all (w - 1).toNat (by omega)
  unfold numOk at h1
  rw [show (((w - 1).toNat : Nat) : Int) + 1 = w by omega] at h1
  simp only [Bool.and_eq_true, decide_eq_true_eq] at h1
  exact ⟨⟨h1.1.1.1, h1.1.1.2⟩, h1.1.2, h1.2⟩
end
end Pg

namespace Pg
open PySem PySem.Spec PyProof.Rows L2 Sd
section
variable {P : Program} {w : World} {K : PySem.W.Frag} {mg : Str → Option Value} {base : Heap} {c : Cl}
def fmt (ys : List Int) : Str := Txt.join " " (ys.map toS)
theorem lens_le : ∀ {ys : List Int}, (∀ y ∈ ys, 1 ≤ y ∧ y ≤ 20) → ((ys.map toS).map (·.length)).sum ≤ 2 * ys.length
  | [], _ => by simp
  | y :: ys, h => by
    have ih := lens_le (ys := ys) fun z hz => h z (by simp [hz])
    have h1 := (num_ok (h y (by simp))).1
    simp only [List.map_cons, List.sum_cons, List.length_cons]
    omega
def pre_format_year : Pr := fun ss own post => ∃ ys : List Int, ss = [.d (li ys)] ∧ own = [] ∧ Yr ys ∧ post = fun o => o = .ret (.d (.str (fmt ys))) []
theorem fn_format_year (T : Tx K mg c) : Fn K mg P w base "format_year" ["year"] 4 pre_format_year := T.d_format_year.fn fun f fd F => okG (k := 3) F sc_format_year (by rintro ss own post ⟨ys, rfl, _⟩; rfl) (by
  rintro ss own post ⟨ys, rfl, rfl, hY, rfl⟩ cdv A outer s H E B g
  have hl := hY.hi
  have hlens := lens_le hY.it
  refine sds_cons (sd_expr (es_call (fn_check_year T) g (by decide) (ea_cons (ed_v 0) ea_nil) (ok_year hY)) ?_)
  refine sds_one (sd_retD (ed_join (zs := ys.map toS) ed_str (EL.ed (EL.is (ys := (ys.map toS).map PyData.str) (el_comp g (compP g (it_list (ed_v 0)) [("weight", 1)] (blkOk_by (N := ["year", "weight"]) (sc := defScope s_format_year) (by decide +kernel)) ys PyData.int rfl (fun y => some (.str (toS y))) (fun y => [.d (li ys), .d (.int y)]) [1] (by simp) (by omega) (fun _ _ => trivial)
      (fun d _ s H C cl fp g' => gt_name 1 g'.nd) (fun d _ s H C cl fp o g' => ets_nil) (fun y hy x hx s H C cl fp o g' => ?_))) (by rw [List.map_map]; exact congrFun List.filterMap_eq_map' _))) .d ?_) rfl)
  · cases hx
    have := hY.it y hy
    exact ed_strI T.n_str (ed_v 1) (Nat.lt_of_le_of_lt (Nat.log2_le_self _) (by omega))
  · rw [List.length_map]
    have e1 : (Str.ofString " ").length = 1 := by decide
    have : (ys.length * (Str.ofString " ").length) ≤ 8 := by rw [e1]; omega
    omega)
end
end Pg

namespace Pg
open PySem PySem.Spec PyProof.Rows L2 Sd
section
variable {P : Program} {w : World} {K : PySem.W.Frag} {mg : Str → Option Value} {base : Heap} {c : Cl}
def pre_law_draw : Pr := fun ss own post => ∃ (d n : Addr) (cells : List Int) (cnt limit : Int), ss = [.raw (.ref d), .d (.int limit)] ∧ own = drw d n cells cnt ∧ cells ≠ [] ∧ 0 < limit ∧ limit < 1073741824 ∧
  post = fun o => ∃ r cells' cnt', 0 ≤ r ∧ r < limit ∧ cells' ≠ [] ∧ o = .ret (.d (.int r)) (drw d n cells' cnt')
theorem fn_law_draw (T : Tx K mg c) : Fn K mg P w base "_law_draw" ["draws", "limit"] 1 pre_law_draw := T.d_law_draw.fn fun f fd F => okG (k := 0) F sc_law_draw (by rintro ss own post ⟨d, n, cells, cnt, limit, rfl, _⟩; rfl) (by
  rintro ss own post ⟨d, n, cells, cnt, limit, rfl, rfl, hc, hl, hl2, rfl⟩ cdv A outer s H E B g
  unfold drw
  have hpos : (0 : Int) < cells.length := by
    have := List.length_pos_iff.mpr hc
    omega
  refine sds_cons (sd_set 2 g.nd (es_ixR (s := .raw (.ref n)) (q := d) (vs := [.ref n, .int cnt]) (by simp) (ev_v 0) ed_int rfl fun _ => rfl) ?_)
  refine sds_cons (sd_setitemR (oa := []) (q := d) (vs := [.ref n, .int cnt]) (n := 1) (v := .int (cnt + 1)) (ed_add (es_ixR (s := .d (.int cnt)) (q := d) (vs := [.ref n, .int cnt]) (by simp) (ev_v 0) ed_int rfl fun _ => Rep.int _) ed_int) (fun _ _ h => by cases h; rfl) (ev_v 0) ed_int rfl ?_)
  have eset : ([.ref n, .int cnt] : List V).set 1 (.int (cnt + 1)) = [.ref n, .int (cnt + 1)] := rfl
  rw [eset]
  refine sds_cons (sd_set 3 g.nd (ed_mod (es_ixR (s := .d (.int (cnt + 1))) (q := d) (vs := [.ref n, .int (cnt + 1)]) (by simp) (ev_v 0) ed_int rfl fun _ => Rep.int _) (ed_len (ds := cells.map PyData.int) T.n_len (ev_v 2) (Lst.o (by simp))) (by rw [List.length_map]; exact hpos)) ?_)
  rw [List.length_map]
  have h1 := Int.emod_nonneg (cnt + 1) (Int.ne_of_gt hpos)
  have h2 := Int.emod_lt_of_pos (cnt + 1) hpos
  obtain ⟨j, hj⟩ : ∃ j : Nat, (cnt + 1) % (cells.length : Int) = (j : Int) := ⟨((cnt + 1) % (cells.length : Int)).toNat, by omega⟩
  rw [hj]
  have hjl : j < cells.length := by omega
  have hat : (cells.map PyData.int)[j]? = some (.int cells[j]) := by
    rw [List.getElem?_map, List.getElem?_eq_getElem hjl]
    rfl
  have hix : ixN (cells.map PyData.int).length (j : Int) = some j := by
    unfold ixN
    rw [if_pos (by omega), if_pos (by rw [List.length_map]; omega)]
    simp
  refine sds_cons (sd_set 4 g.nd (ed_ixL (ds := cells.map PyData.int) (ev_v 2) (ed_v 3) (Lst.o (by simp)) (atI_ixN hix hat)) ?_)
  refine sds_cons (sd_if (et_cmp c_ge (ed_v 4) ed_int) (fun h => ?_) fun h => ?_)
  · refine sds_cons (sd_setitem (oa := [_]) (p := n) (n := j) (ed_fdivS (ed_v 4) (ed_v 1) ⟨hl, hl2⟩) (ev_v 2) (ed_v 3) hix ?_)
    refine sds_one (sd_retD (ed_mod (ed_v 4) (ed_v 1) hl) ?_)
    refine ⟨cells[j] % limit, cells.set j (cells[j] / limit), cnt + 1, Int.emod_nonneg _ (Int.ne_of_gt hl), Int.emod_lt_of_pos _ hl, fun z => hc (by simpa using z), ?_⟩
    rw [List.map_set]
    rfl
  · refine sds_nil ?_
    have m1 := fun x : Int => Int.emod_nonneg x (show (4294967291 : Int) ≠ 0 by decide)
    have m2 := fun x : Int => Int.emod_lt_of_pos x (show (0 : Int) < 4294967291 by decide)
    have m3 := fun x : Int => Int.emod_nonneg x (show (4294967279 : Int) ≠ 0 by decide)
    have m4 := fun x : Int => Int.emod_lt_of_pos x (show (0 : Int) < 4294967279 by decide)
    refine sds_cons (sd_set 5 g.nd (ed_mod (ed_add (ed_v 4) (ed_mulS ed_int (es_ixR (s := .d (.int (cnt + 1))) (q := d) (vs := [.ref n, .int (cnt + 1)]) (by simp) (ev_v 0) ed_int rfl fun _ => Rep.int _) (.inl ⟨by decide, by decide⟩))) ed_int (by decide)) ?_)
    refine sds_cons (sd_set 5 g.nd (ed_mod (ed_pow (ed_v 5) ed_int ⟨by decide, by decide, ?_⟩) ed_int (by decide)) ?_)
    · have a1 := m1 (cells[j] + 104729 * (cnt + 1))
      have a2 := m2 (cells[j] + 104729 * (cnt + 1))
      generalize (cells[j] + 104729 * (cnt + 1)) % 4294967291 = x at a1 a2
      show x.natAbs < 2 ^ 64
      omega
    · refine sds_one (sd_retD (ed_mod (ed_fdivS (ed_mod (ed_add (ed_mulS (ed_fdivS (ed_v 5) ed_int ⟨by decide, by decide⟩) ed_int (.inr ⟨by decide, by decide⟩)) (ed_v 5)) ed_int (by decide)) ed_int ⟨by decide, by decide⟩) (ed_v 1) hl) ?_)
      exact ⟨_, cells, cnt + 1, Int.emod_nonneg _ (Int.ne_of_gt hl), Int.emod_lt_of_pos _ hl, hc, rfl⟩)
end
end Pg

namespace Pg
open PySem PySem.Spec PyProof.Rows L2 Sd
section
variable {P : Program} {w : World} {K : PySem.W.Frag} {mg : Str → Option Value} {base : Heap} {c : Cl}
/-- the six kinds of errors -/
def erC (c : Cl) : Nat → Addr
  | 0 => c.BadYear
  | 1 => c.BadDay
  | 2 => c.BadNumber
  | 3 => c.BadShare
  | 4 => c.BadText
  | _ => c.NotFound
def erN : Nat → Str
  | 0 => "year"
  | 1 => "day"
  | 2 => "number"
  | 3 => "share"
  | 4 => "text"
  | _ => "none"
def pre_law_error (c : Cl) : Pr := fun ss own post => ∃ (a : Addr) (i : Nat), ss = [.raw (.ref a)] ∧ i < 6 ∧ own = [(a, .raw (ExK (.ref (erC c i)) a))] ∧ post = fun o => o = .ret (.d (.str (erN i))) [(a, .raw (ExK (.ref (erC c i)) a))]
theorem law_error_at (T : Tx K mg c) {f : Addr} {cdv : Value} {A : Around} {outer : List Env} {s : Shared} {H : Hp} {E : XK} {B : Bs} {ex : Addr → List Slot → Own → Prop} (g : Gd (ctxOf P w K mg base ["caught", "kinds"] "_law_error" s_law_error f cdv A outer s H E B ex) 2) {C a : Addr} {b0 b1 b2 b3 b4 b5 : Bool} {nm : Str} (Q : ErrK K C c.BadYear c.BadDay c.BadNumber c.BadShare c.BadText c.NotFound c.DayError b0 b1 b2 b3 b4 b5)
    (hc : ([PyData.bool b0, .bool b1, .bool b2, .bool b3, .bool b4, .bool b5].countP fun z => PyData.eqv z (.bool true)) = 1) {j : Nat} {z : PyData} (hj : [PyData.bool b0, .bool b1, .bool b2, .bool b3, .bool b4, .bool b5][j]? = some z) (hz : PyData.eqv z (.bool true) = true)
    (hno : ∀ (m : Nat) (z' : PyData), m < j → [PyData.bool b0, .bool b1, .bool b2, .bool b3, .bool b4, .bool b5][m]? = some z' → PyData.eqv z' (.bool true) = false) (hn : atI [PyData.str "year", .str "day", .str "number", .str "share", .str "text", .str "none"] (j : Int) = some (.str nm)) :
    SDs (ctxOf P w K mg base ["caught", "kinds"] "_law_error" s_law_error f cdv A outer s H E B ex) (defBody s_law_error) { nx := fun _ _ => False, rt := fun s own => s = .d (.str nm) ∧ own = [(a, .raw (ExK (.ref C) a))] } [.raw (.ref a), .un] [(a, .raw (ExK (.ref C) a))] := by
  have hm : (a, OO.raw (ExK (.ref C) a)) ∈ [(a, OO.raw (ExK (.ref C) a))] := by simp
  have cr : ∀ (D : Addr) u, RelV (.ref D) u → u = Value.ref D := fun D u r => r
  refine sds_cons (sd_set 1 g.nd (ed_lst (ds := [.bool b0, .bool b1, .bool b2]) (ea_cons (ed_isX Q.xc T.n_isinstance hm (ev_v 0) (ev_glob rfl T.e_BadYear.g) (cr _) Q.y) (ea_cons (ed_isX Q.xc T.n_isinstance hm (ev_v 0) (ev_glob rfl T.e_BadDay.g) (cr _) Q.d) (ea_cons (ed_isX Q.xc T.n_isinstance hm (ev_v 0) (ev_glob rfl T.e_BadNumber.g) (cr _) Q.n) ea_nil)))) ?_)
  refine sds_cons (sd_set 1 g.nd (EL.ed (el_cat (ed_v 1) (ed_lst (ds := [.bool b3, .bool b4, .bool b5]) (ea_cons (ed_isX Q.xc T.n_isinstance hm (ev_v 0) (ev_glob rfl T.e_BadShare.g) (cr _) Q.s) (ea_cons (ed_isX Q.xc T.n_isinstance hm (ev_v 0) (ev_glob rfl T.e_BadText.g) (cr _) Q.t) (ea_cons (ed_isX Q.xc T.n_isinstance hm (ev_v 0) (ev_glob rfl T.e_NotFound.g) (cr _) Q.o) ea_nil)))) .d .d (by simp))) ?_)
  refine sds_cons (sd_ifF (ET.is (EW.et (ew_or (et_cmp c_neI (ed_count (k := 1) g (ed_v 1) .d ed_bl (by rfl) (by rfl) (by decide)) ed_int) fun _ => ew_or (et_not (et_val (ed_isX Q.xc T.n_isinstance hm (ev_v 0) (ev_glob rfl T.e_DayError.g) (cr _) Q.de))) fun _ => ew_or1 (et_not (et_val (ed_isX (cV := .ty "ValueError") (cv := .type "ValueError") Q.xc T.n_isinstance hm (ev_v 0) (ev_ty (T := "ValueError") rfl T.n_ValueError (by decide +kernel)) (fun u r => r) Q.ve))))) ?_) ?_)
  · have e : (([PyData.bool b0, .bool b1, .bool b2] ++ [PyData.bool b3, .bool b4, .bool b5]).countP fun z => PyData.eqv z (.bool true)) = 1 := hc
    rw [e]
    rfl
  show SDs _ (_ :: _) _ _ _
  with_reducible refine sds_one ?_
  with_reducible refine sd_retD (x := .str nm) ?R ?q
  case q => exact ⟨rfl, rfl⟩
  with_reducible refine ed_ixL (i := (j : Int)) (s := .d (.list [.str "year", .str "day", .str "number", .str "share", .str "text", .str "none"])) ?L ?I ?l hn ?hs
  case hs => exact fun _ _ => rfl
  case l => exact .d
  case I => exact ed_index (k := 1) g (ed_v 1) .d ed_bl ((shp_list (n := 0) fun d hd => by
    simp only [List.cons_append, List.nil_append, List.mem_cons, List.not_mem_nil, or_false] at hd
    rcases hd with rfl | rfl | rfl | rfl | rfl | rfl <;> exact shp_bool _).shaped (by decide)) (sh_bool true) hj hz hno
  case L =>
    with_reducible refine ed_lstB (eb_k ed_str (eb_k ed_str (eb_k ed_str (eb_k ed_str (eb_k ed_str (eb_k ed_str ea_nil)))))) ?j2 ?j3
    case j2 => rfl
    case j3 => decide
theorem fn_law_error (T : Tx K mg c) : Fn K mg P w base "_law_error" ["caught"] 3 (pre_law_error c) := T.d_law_error.fn fun f fd F => okG (k := 2) F sc_law_error (by rintro ss own post ⟨a, i, rfl, _⟩; rfl) (by
  rintro ss own post ⟨a, i, rfl, hi, rfl, rfl⟩ cdv A outer s H E B g
  have fin : ∀ (sl : Slot) (o : Own), sl = .d (.str (erN i)) ∧ o = [(a, .raw (ExK (.ref (erC c i)) a))] → Out.ret sl o = .ret (.d (.str (erN i))) [(a, .raw (ExK (.ref (erC c i)) a))] := by
    rintro _ _ ⟨rfl, rfl⟩
    rfl
  have hno : ∀ (l : List PyData) (m : Nat), (∀ z ∈ l.take m, PyData.eqv z (.bool true) = false) → ∀ (n : Nat) (z' : PyData), n < m → l[n]? = some z' → PyData.eqv z' (.bool true) = false := fun l m h n z' hn hz => h z' (by
    have : (l.take m)[n]? = some z' := by rw [List.getElem?_take_of_lt hn]; exact hz
    exact List.mem_of_getElem? this)
  match i, hi with
  | 0, _ => exact SDs.imp (law_error_at (a := a) T g T.q_BadYear (j := 0) (by rfl) rfl rfl (hno _ _ (by simp [PyData.eqv])) rfl) (fun _ _ h => h.elim) fin (fun _ _ h => h) (fun _ _ h => h)
  | 1, _ => exact SDs.imp (law_error_at (a := a) T g T.q_BadDay (j := 1) (by rfl) rfl rfl (hno _ _ (by simp [PyData.eqv])) rfl) (fun _ _ h => h.elim) fin (fun _ _ h => h) (fun _ _ h => h)
  | 2, _ => exact SDs.imp (law_error_at (a := a) T g T.q_BadNumber (j := 2) (by rfl) rfl rfl (hno _ _ (by simp [PyData.eqv])) rfl) (fun _ _ h => h.elim) fin (fun _ _ h => h) (fun _ _ h => h)
  | 3, _ => exact SDs.imp (law_error_at (a := a) T g T.q_BadShare (j := 3) (by rfl) rfl rfl (hno _ _ (by simp [PyData.eqv])) rfl) (fun _ _ h => h.elim) fin (fun _ _ h => h) (fun _ _ h => h)
  | 4, _ => exact SDs.imp (law_error_at (a := a) T g T.q_BadText (j := 4) (by rfl) rfl rfl (hno _ _ (by simp [PyData.eqv])) rfl) (fun _ _ h => h.elim) fin (fun _ _ h => h) (fun _ _ h => h)
  | 5, _ => exact SDs.imp (law_error_at (a := a) T g T.q_NotFound (j := 5) (by rfl) rfl rfl (hno _ _ (by simp [PyData.eqv])) rfl) (fun _ _ h => h.elim) fin (fun _ _ h => h) (fun _ _ h => h))
theorem es_error {Z : Sd.Ctx} {k i : Nat} {ρ : List Slot} {oa ob : Own} {e : Expr} {p pos : Pos} {a : Addr} (F : Fn Z.X.K Z.X.mg Z.X.prog Z.X.w Z.X.base "_law_error" ["caught"] 3 (pre_law_error c)) (g : Gd Z k) (hk : 3 ≤ k) (hi : i < 6) (he : EV Z e ρ (oa ++ [(a, .raw (ExK (.ref (erC c i)) a))] ++ ob) (.ref a)) (hg : Gl Z.X "_law_error" := by rfl) (hs : starEach [e] Z.X.env = (false, eval e Z.X.env) :: starEach [] Z.X.env := by rfl) :
    ED Z (.Call (.Name "_law_error" p) [e] [] pos) ρ (oa ++ [(a, .raw (ExK (.ref (erC c i)) a))] ++ ob) (.str (erN i)) :=
  EG.toES (eg_call F g hk (ea_cons he ea_nil hs) ⟨a, i, rfl, hi, rfl, rfl⟩ (fun s o h => by cases h; exact ⟨rfl, rfl⟩) (fun C o h => nomatch h) hg (by decide) hs rfl)
end
end Pg

namespace Pg
open PySem PySem.Spec PyProof.Rows L2 Sd
section
variable {P : Program} {w : World} {K : PySem.W.Frag} {mg : Str → Option Value} {base : Heap} {c : Cl}
/-- the number of any word, if it is one -/
abbrev dgs : List Nat := (Str.ofString "0123456789").cps.toList
def dgB (w : Str) : Bool := (w.cps.toList.map fun c => decide (c ∈ (Str.ofString "0123456789").cps.toList)).all id
def lnB (w : Str) : Bool := decide (1 ≤ (w.length : Int)) && decide ((w.length : Int) ≤ 2)
def numI (w : Str) : Option Int := if (lnB w && dgB w) = true then (match PySem.intText? w with
  | some i => if toS i = w then some i else none
  | none => none) else none
def numT (w : Str) : Bool := match PySem.intText? w with
  | some i => decide (0 ≤ i ∧ i ≤ 99)
  | none => false
theorem num1_all : ∀ a ∈ dgs, numT ⟨#[a]⟩ = true := by decide +kernel
theorem num2_all : ∀ a ∈ dgs, ∀ b ∈ dgs, numT ⟨#[a, b]⟩ = true := by decide +kernel
theorem num_txt {w : Str} (h1 : lnB w = true) (h2 : dgB w = true) : ∃ i, PySem.intText? w = some i ∧ 0 ≤ i ∧ i ≤ 99 := by
  have key : numT w = true := by
    obtain ⟨⟨l⟩⟩ := w
    have hl : 1 ≤ l.length ∧ l.length ≤ 2 := by
      have h1 : (decide (1 ≤ (l.length : Int)) && decide ((l.length : Int) ≤ 2)) = true := h1
      simp only [Bool.and_eq_true, decide_eq_true_eq] at h1
      omega
    have hd : ∀ c ∈ l, c ∈ dgs := by
      have h2 : (l.map fun c => decide (c ∈ dgs)).all id = true := h2
      intro c hc
      rw [List.all_map, List.all_eq_true] at h2
      simpa using h2 c hc
    match l, hl with
    | [a], _ => exact num1_all a (hd a (by simp))
    | [a, b], _ => exact num2_all a (hd a (by simp)) b (hd b (by simp))
  unfold numT at key
  split at key
  · rename_i i e
    exact ⟨i, e, of_decide_eq_true key⟩
  · cases key
theorem lnB_len {w : Str} (h : lnB w = true) : w.length ≤ 640 := by
  unfold lnB at h
  simp only [Bool.and_eq_true, decide_eq_true_eq] at h
  omega
theorem numI_toS {w : Str} {i : Int} (h : numI w = some i) : toS i = w := by
  unfold numI at h
  split at h
  · split at h
    · split at h
      · rename_i hw
        cases h
        exact hw
      · cases h
    · cases h
  · cases h
theorem numI_of {y : Int} (h : 1 ≤ y ∧ y ≤ 20) : numI (toS y) = some y := by
  obtain ⟨⟨l1, l2⟩, l3, l4⟩ := num_ok h
  have e1 : lnB (toS y) = true := by
    unfold lnB
    rw [decide_eq_true l1, decide_eq_true l2]
    rfl
  have e2 : dgB (toS y) = true := l3
  unfold numI
  rw [e1, e2, l4]
  simp
def numO (c : Cl) (w : Str) : Out := match numI w with
  | some i => .ret (.d (.int i)) []
  | none => .exc c.BadText []
def pre_number_in_t (c : Cl) : Pr := fun ss own post => ∃ w : Str, ss = [.d (.str w)] ∧ own = [] ∧ w.length ≤ 9000 ∧ post = fun o => o = numO c w
theorem fn_number_in_t (T : Tx K mg c) : Fn K mg P w base "number_in" ["word"] 1 (pre_number_in_t c) := T.d_number_in.fn fun f fd F => okG (k := 0) F sc_number_in (by rintro ss own post ⟨w, rfl, _⟩; rfl) (by
  rintro ss own post ⟨v, rfl, rfl, hlen, rfl⟩ cdv A outer s H E B g
  obtain ⟨tk, hD⟩ := T.k_DIGITS
  by_cases hA : lnB v = true
  · refine sds_cons (sd_if (l := !(dgB v && (numI v).isSome)) (ET.is (EW.et (ew_or (k := false) (ET.is (et_not (et_chain c_le c_le ed_int (ed_lenS T.n_len (ed_v 0) (Nat.le_trans hlen (by decide))) ed_int)) (congrArg Bool.not hA)) fun _ => ew_or (k := !dgB v) (l := !(numI v).isSome) (et_not (et_val (ed_all (ns := v.cps.toList.map fun c => decide (c ∈ (Str.ofString "0123456789").cps.toList)) g T.n_all (EL.ed (EL.is (ys := (v.cps.toList.map fun c => decide (c ∈ (Str.ofString "0123456789").cps.toList)).map PyData.bool) (el_comp g (compP g (it_str (ed_v 0)) [("sign", 1)] (blkOk_by (N := ["word", "sign"]) (sc := defScope s_number_in) (by decide +kernel)) v.cps.toList (fun c => PyData.str ⟨#[c]⟩) rfl (fun c => some (.bool (decide (c ∈ (Str.ofString "0123456789").cps.toList)))) (fun c => [.d (.str v), .d (.str ⟨#[c]⟩)]) [1] (by simp) (by rw [Array.length_toList]; exact Nat.lt_of_le_of_lt hlen (by decide)) (fun _ _ => trivial)
      (fun d _ s H C cl fp g' => gt_name 1 g'.nd) (fun d _ s H C cl fp o g' => ets_nil) (fun c _ x hx s H C cl fp o g' => ?_))) (by rw [List.map_map]; exact congrFun List.filterMap_eq_map' _))) .d))) fun hb => ?_)) ?_) (fun h => ?_) fun h => sds_nil ?_)
    · cases hx
      exact ed_cmp c_inCh (ed_v 1) (ed_globS rfl hD)
    · have hb : dgB v = true := by simpa using hb
      obtain ⟨i, hi, h0, h9⟩ := num_txt hA hb
      have hlog : i.natAbs.log2 < 1920 := Nat.lt_of_le_of_lt (Nat.log2_le_self _) (by omega)
      have e : (!decide (toS i = v)) = !(numI v).isSome := by
        unfold numI
        rw [hA, hb, hi]
        by_cases hq : toS i = v <;> simp [hq]
      exact ew_or1 (ET.is (et_cmp c_neS (ed_strI T.n_str (ed_intS T.n_int (ed_v 0) hi (lnB_len hA)) hlog) (ed_v 0)) e)
    · cases dgB v <;> simp
    · refine sds_one (sd_raise g T.e_BadText ?_)
      show Out.exc c.BadText [] = numO c v
      have : numI v = none := by
        cases hb : dgB v with
        | false =>
          unfold numI
          rw [hb, Bool.and_false]
          rfl
        | true =>
          rw [hb] at h
          simpa using h
      unfold numO
      rw [this]
    · have h : dgB v = true ∧ (numI v).isSome = true := by simpa using h
      obtain ⟨i, hi, h0, h9⟩ := num_txt hA h.1
      refine sds_one (sd_retD (ed_intS T.n_int (ed_v 0) hi (lnB_len hA)) ?_)
      show Out.ret (.d (.int i)) [] = numO c v
      have : numI v = some i := by
        have h2 := h.2
        unfold numI at h2 ⊢
        rw [hA, h.1, hi] at h2 ⊢
        by_cases hq : toS i = v
        · simp [hq]
        · simp [hq] at h2
      unfold numO
      rw [this]
  · have hA : lnB v = false := by simpa using hA
    refine sds_cons (sd_if (l := true) (EW.et (ew_or (k := true) (l := true) (ET.is (et_not (et_chain c_le c_le ed_int (ed_lenS T.n_len (ed_v 0) (Nat.le_trans hlen (by decide))) ed_int)) (congrArg Bool.not hA)) fun h => nomatch h)) (fun h => ?_) fun h => nomatch h)
    refine sds_one (sd_raise g T.e_BadText ?_)
    show Out.exc c.BadText [] = numO c v
    have : numI v = none := by
      unfold numI
      rw [hA]
      rfl
    unfold numO
    rw [this])
end
end Pg

namespace Pg
open PySem PySem.Spec PyProof.Rows L2 Sd
section
variable {P : Program} {w : World} {K : PySem.W.Frag} {mg : Str → Option Value} {base : Heap} {c : Cl}
theorem split_fmt {ys : List Int} (h : Yr ys) : Txt.split (fmt ys) " " = ys.map toS := by
  have hne : ys.map toS ≠ [] := by
    have := h.lo
    intro e
    have := congrArg List.length e
    simp at this
    subst this
    simp at *
  refine TL.split_join (s := 32) (S := []) (by decide +kernel) (by decide +kernel) hne fun p hp => ?_
  obtain ⟨y, _, rfl⟩ := List.mem_map.mp hp
  exact fun z => (intText_free_32 y).mp z
theorem fmt_len {ys : List Int} (h : Yr ys) : (fmt ys).length ≤ 1000 := by
  have h1 := lens_le h.it
  have h2 := h.hi
  have key : ∀ zs : List Str, (Txt.join " " zs).length ≤ (zs.map (·.length)).sum + zs.length := by
    intro zs
    rw [TL.join_eq]
    induction zs with
    | nil => simp [Str.join, Str.empty, Str.length]
    | cons z zs ih =>
      cases zs with
      | nil => simp [Str.join]
      | cons y zs =>
        have e : (Str.join " " (z :: y :: zs)).length = z.length + 1 + (Str.join " " (y :: zs)).length := by
          rw [Str.join]
          · rw [Str.length_append, Str.length_append]
            rfl
          · simp
        rw [e]
        simp only [List.map_cons, List.sum_cons, List.length_cons] at ih ⊢
        omega
  have := key (ys.map toS)
  rw [List.length_map] at this
  unfold fmt
  omega
end
end Pg

namespace Pg
open PySem PySem.Spec PyProof.Rows L2 Sd
section
variable {P : Program} {w : World} {K : PySem.W.Frag} {mg : Str → Option Value} {base : Heap} {c : Cl}
/-- the year of any text, if it is one -/
def psY (t : Str) : Option (List Int) := if ((Txt.split t " ").all fun w => (numI w).isSome) = true then (if isYear (li ((Txt.split t " ").filterMap numI)) = true then some ((Txt.split t " ").filterMap numI) else none) else none
theorem joinlen : ∀ {zs : List Str}, zs ≠ [] → (Txt.join " " zs).length + 1 = (zs.map (·.length)).sum + zs.length := by
  intro zs
  rw [TL.join_eq]
  induction zs with
  | nil => intro h; exact absurd rfl h
  | cons z zs ih =>
    intro _
    cases zs with
    | nil => simp [Str.join]
    | cons y zs =>
      have e : (Str.join " " (z :: y :: zs)).length = z.length + 1 + (Str.join " " (y :: zs)).length := by
        rw [Str.join]
        · rw [Str.length_append, Str.length_append]
          rfl
        · simp
      have := ih (by simp)
      rw [e]
      simp only [List.map_cons, List.sum_cons, List.length_cons] at this ⊢
      omega
theorem join_spl (t : Str) : Txt.join " " (Txt.split t " ") = t := by
  rw [TL.join_eq]
  exact StrLaws.join_split t " "
theorem spl_len (t : Str) : (Txt.split t " ").length ≤ t.length + 1 ∧ ∀ w ∈ Txt.split t " ", w.length ≤ t.length := by
  by_cases h : Txt.split t " " = []
  · rw [h]
    exact ⟨by simp, fun w hw => nomatch hw⟩
  · have e := joinlen h
    rw [join_spl] at e
    have hp : 0 < (Txt.split t " ").length := List.length_pos_iff.mpr h
    refine ⟨by omega, fun w hw => ?_⟩
    have : ∀ (zs : List Str), w ∈ zs → w.length + zs.length ≤ (zs.map (·.length)).sum + zs.length := by
      intro zs
      induction zs with
      | nil => intro h; cases h
      | cons z zs ih =>
        intro h
        simp only [List.map_cons, List.sum_cons, List.length_cons]
        rcases List.mem_cons.mp h with rfl | h
        · omega
        · have := ih h
          omega
    have := this _ hw
    omega
theorem psY_fmt {ys : List Int} (h : Yr ys) : psY (fmt ys) = some ys := by
  have e1 : ((ys.map toS).all fun w => (numI w).isSome) = true := by
    rw [List.all_map, List.all_eq_true]
    intro y hy
    show (numI (toS y)).isSome = true
    rw [numI_of (h.it y hy)]
    rfl
  have e2 : (ys.map toS).filterMap numI = ys := by
    rw [List.filterMap_map]
    have : ∀ (l : List Int), (∀ y ∈ l, 1 ≤ y ∧ y ≤ 20) → l.filterMap (numI ∘ toS) = l := by
      intro l
      induction l with
      | nil => intro _; rfl
      | cons y l ih =>
        intro hl
        rw [List.filterMap_cons, show (numI ∘ toS) y = some y from numI_of (hl y (by simp))]
        simp only
        rw [ih fun z hz => hl z (by simp [hz])]
    exact this ys h.it
  unfold psY
  rw [split_fmt h, e1, if_pos rfl, e2, h.is, if_pos rfl]
theorem psY_back {t : Str} {ys : List Int} (h : psY t = some ys) : fmt ys = t := by
  unfold psY at h
  split at h
  · rename_i ha
    split at h
    · cases h
      have : ∀ ws : List Str, (ws.all fun w => (numI w).isSome) = true → (ws.filterMap numI).map toS = ws := by
        intro ws
        induction ws with
        | nil => intro _; rfl
        | cons w ws ih =>
          intro hw
          rw [List.all_cons, Bool.and_eq_true] at hw
          obtain ⟨i, hi⟩ := Option.isSome_iff_exists.mp hw.1
          rw [List.filterMap_cons, hi]
          simp only [List.map_cons]
          rw [numI_toS hi, ih hw.2]
      unfold fmt
      rw [this _ ha, join_spl]
    · cases h
  · cases h
theorem yr_is {ys : List Int} (h : isYear (li ys) = true) : Yr ys := by
  have h : (decide (1 ≤ ((ys.map PyData.int).length : Int)) && decide (((ys.map PyData.int).length : Int) ≤ 8) && ((ys.map PyData.int).map fun d => isInt d 1 20).all id) = true := h
  rw [List.length_map] at h
  simp only [Bool.and_eq_true, decide_eq_true_eq, List.all_map, List.all_eq_true] at h
  obtain ⟨⟨h1, h2⟩, h3⟩ := h
  refine ⟨by omega, by omega, fun y hy => ?_⟩
  have := h3 y hy
  simpa [Sd.isInt] using this
theorem psY_is {t : Str} {ys : List Int} (h : psY t = some ys) : isYear (li ys) = true := by
  unfold psY at h
  split at h
  · split at h
    · cases h
      assumption
    · cases h
  · cases h
def psO (c : Cl) : PyData → Out
  | .str t => match psY t with
    | some ys => .ret (.d (li ys)) []
    | none => .exc c.BadText []
  | _ => .exc c.BadText []
def pre_parse_year_t (c : Cl) : Pr := fun ss own post => ∃ x, ss = [.d x] ∧ own = [] ∧ ((∃ t, x = .str t ∧ t.length ≤ 5000) ∨ kitB (tyD x) "str" = some false) ∧ post = fun o => o = psO c x
theorem fn_parse_year_t (T : Tx K mg c) : Fn K mg P w base "parse_year" ["text"] 4 (pre_parse_year_t c) := T.d_parse_year.fn fun f fd F => okG (k := 3) F sc_parse_year (by rintro ss own post ⟨ys, rfl, _⟩; rfl) (by
  rintro ss own post ⟨x, rfl, rfl, ⟨t, rfl, ht⟩ | hx, rfl⟩ cdv A outer s H E B g
  · obtain ⟨hl1, hl2⟩ := spl_len t
    refine sds_cons (sd_ifF (ET.is (et_not (et_val (ed_isi (x := .str t) (l := true) T.n_isinstance (ed_v 0) .d (ev_ty (T := "str") rfl T.n_str (by decide +kernel)) rfl))) rfl) ?_)
    refine sds_cons (sd_setCX 1 g (it_list (EL.ed (el_split (ed_v 0) ed_str (by decide +kernel) (by omega)))) [("word", 2)] (blkOk_by (N := ["text", "found", "word"]) (sc := defScope s_parse_year) (by decide +kernel))
      (fun i acc o => o = [] ∧ i ≤ (Txt.split t " ").length ∧ acc = (((Txt.split t " ").take i).filterMap numI).map PyData.int ∧ (((Txt.split t " ").take i).all fun w => (numI w).isSome) = true) ⟨rfl, Nat.zero_le _, rfl, rfl⟩ (fun _ _ _ _ _ => trivial) ?_ ?_ ?_ (sw_true rfl rfl rfl (by decide +kernel)))
    · rintro i acc o ⟨_, hi, rfl, _⟩
      rw [List.length_map]
      have h1 := List.length_filterMap_le numI ((Txt.split t " ").take i)
      rw [List.length_take] at h1
      omega
    · rintro i y acc o L hy ⟨rfl, hi, rfl, hall⟩
      rw [List.getElem?_map] at hy
      cases ea : (Txt.split t " ")[i]? with
      | none => rw [ea] at hy; cases hy
      | some v =>
        rw [ea] at hy
        cases hy
        have hm : v ∈ Txt.split t " " := List.mem_of_getElem? ea
        have hlt : i < (Txt.split t " ").length := (List.getElem?_eq_some_iff.mp ea).1
        have hv := hl2 v hm
        refine ⟨[.d (.str t), .un, .d (.str v)], [2], by simp, fun s H C cl fp => gt_name 2 g.nd, fun s H C cl fp g' => ?_⟩
        refine eg_call (oa := [(L, _)]) (o1 := []) (ob := []) (fn_number_in_t T) g' (by decide) (ea_cons (ed_v 2) ea_nil) ⟨v, rfl, rfl, by omega, rfl⟩ ?_ ?_
        · intro sl o1 h
          have h : Out.ret sl o1 = numO c v := h
          unfold numO at h
          cases hn : numI v with
          | none => rw [hn] at h; cases h
          | some j =>
            rw [hn] at h
            cases h
            refine ⟨.int j, [], rfl, rfl, rfl, hlt, ?_, ?_⟩
            · rw [List.take_add_one, ea, List.filterMap_append, List.map_append]
              simp [hn]
            · rw [List.take_add_one, ea, List.all_append, hall]
              simp [hn]
        · intro C o1 h
          have h : Out.exc C o1 = numO c v := h
          unfold numO at h
          cases hn : numI v with
          | some j => rw [hn] at h; cases h
          | none =>
            rw [hn] at h
            cases h
            refine ⟨_, [], rfl, ?_⟩
            show Out.exc c.BadText [] = psO c (.str t)
            have : psY t = none := by
              unfold psY
              rw [if_neg]
              intro h
              rw [List.all_eq_true] at h
              have := h v hm
              rw [hn] at this
              cases this
            simp only [psO, this]
    · rintro p ds o' ⟨rfl, _, rfl, hall⟩
      rw [List.length_map, List.take_length] at hall
      rw [List.length_map, List.take_length]
      refine sds_freeze 1 (oa := []) rfl ?_
      refine sds_cons (sd_if (l := !isYear (li ((Txt.split t " ").filterMap numI))) (et_not (et_val (es_call (fn_is_year T) g (by decide) (ea_cons (ed_v 1) ea_nil) ⟨_, rfl, rfl, rfl⟩))) (fun h => ?_) fun h => sds_nil ?_)
      · refine sds_one (sd_raise g T.e_BadText ?_)
        show Out.exc c.BadText [] = psO c (.str t)
        have : psY t = none := by
          unfold psY
          rw [if_pos hall, if_neg (by simpa using h)]
        simp only [psO, this]
      · refine sds_one (sd_retD (ed_v 1) ?_)
        show Out.ret (.d (li ((Txt.split t " ").filterMap numI))) [] = psO c (.str t)
        have : psY t = some ((Txt.split t " ").filterMap numI) := by
          unfold psY
          rw [if_pos hall, if_pos (by simpa using h)]
        simp only [psO, this]
  · refine sds_cons (sd_if (l := true) (et_not (k := false) (et_val (ed_isi (x := x) (l := false) T.n_isinstance (ed_v 0) .d (ev_ty (T := "str") rfl T.n_str (by decide +kernel)) hx))) (fun h => ?_) fun h => nomatch h)
    refine sds_one (sd_raise g T.e_BadText ?_)
    show Out.exc c.BadText [] = psO c x
    cases x <;> first | rfl | cases hx)
end
end Pg

namespace Pg
open PySem PySem.Spec PyProof.Rows L2 Sd
section
variable {P : Program} {w : World} {K : PySem.W.Frag} {mg : Str → Option Value} {base : Heap} {c : Cl}
def psD : PyData → PyData
  | .str t => match psY t with
    | some ys => li ys
    | none => .str "text"
  | _ => .str "text"
theorem psO_cases (c : Cl) (x : PyData) : (psO c x = .ret (.d (psD x)) []) ∨ (psO c x = .exc c.BadText [] ∧ psD x = .str "text") := by
  cases x with
  | str t =>
    cases h : psY t with
    | some ys => exact .inl (by simp only [psO, psD, h])
    | none => exact .inr ⟨by simp only [psO, h], by simp only [psD, h]⟩
  | _ => exact .inr ⟨rfl, rfl⟩
def PsA (x : PyData) : Prop := (∃ t, x = .str t ∧ t.length ≤ 5000) ∨ kitB (tyD x) "str" = some false
def pre_law_parsed : Pr := fun ss own post => ∃ x, ss = [.d x] ∧ own = [] ∧ PsA x ∧ post = fun o => o = .ret (.d (psD x)) []
theorem fn_law_parsed (T : Tx K mg c) : Fn K mg P w base "_law_parsed" ["text"] 5 pre_law_parsed := T.d_law_parsed.fn fun f fd F => okG (k := 4) F sc_law_parsed (by rintro ss own post ⟨x, rfl, _⟩; rfl) (by
  rintro ss own post ⟨x, rfl, rfl, hx, rfl⟩ cdv A outer s H E B g
  refine sds_rtdrop ?_
  refine sds_cons (sd_set 1 g.nd ed_non ?_)
  refine sds_cons (sd_set 2 g.nd ed_non ?_)
  refine sds_cons (sd_try_keep 3 2 g ⟨rfl, by decide, .inl T.e_DayError.g⟩ fun pn xe B' g' => ?_)
  refine sds_one (sd_setG 1 g'.nd (R := fun t o => t = .d (psD x) ∧ o = []) (eg_call (oa := []) (o1 := []) (ob := []) (fn_parse_year_t T) g' (by decide) (ea_cons (ed_v 0) ea_nil) ⟨x, rfl, rfl, hx, rfl⟩ ?_ ?_) ?_)
  · intro t o h
    have h : Out.ret t o = psO c x := h
    rcases psO_cases c x with e | ⟨e, _⟩
    · rw [e] at h
      cases h
      exact ⟨rfl, rfl⟩
    · rw [e] at h
      cases h
  · intro C o h
    have h : Out.exc C o = psO c x := h
    rcases psO_cases c x with e | ⟨e, e2⟩
    · rw [e] at h
      cases h
    · rw [e] at h
      cases h
      refine ⟨T.q_BadText.ex, fun a => ?_⟩
      refine sds_one (sd_retD (es_if (k := false) (et_cmp c_isNR (ev_v 2) ed_non) (fun h => nomatch h) fun _ => es_error (oa := []) (i := 4) (fn_law_error T) g (by decide) (by decide) (ev_v 2)) ?_)
      show Out.ret _ _ = _
      rw [e2]
      rfl
  · rintro t o ⟨rfl, rfl⟩
    refine sds_one (sd_retD (es_if (k := true) (et_cmp c_isND (ed_v 2) ed_non) (fun _ => ed_v 1) fun h => nomatch h) rfl))
end
end Pg

namespace Pg
open PySem PySem.Spec PyProof.Rows L2 Sd
section
variable {P : Program} {w : World} {K : PySem.W.Frag} {mg : Str → Option Value} {base : Heap} {c : Cl}
def pre_law_pick : Pr := fun ss own post => ∃ (d n : Addr) (cells : List Int) (cnt : Int) (ds : List PyData), ss = [.raw (.ref d), .d (.list ds)] ∧ own = drw d n cells cnt ∧ cells ≠ [] ∧ ds ≠ [] ∧ ds.length ≤ 1000000 ∧
  post = fun o => ∃ x cells' cnt', x ∈ ds ∧ cells' ≠ [] ∧ o = .ret (.d x) (drw d n cells' cnt')
theorem fn_law_pick (T : Tx K mg c) : Fn K mg P w base "_law_pick" ["draws", "choices"] 2 pre_law_pick := T.d_law_pick.fn fun f fd F => okG (k := 1) F sc_law_pick (by rintro ss own post ⟨d, n, cells, cnt, ds, rfl, _⟩; rfl) (by
  rintro ss own post ⟨d, n, cells, cnt, ds, rfl, rfl, hc, hd, hl, rfl⟩ cdv A outer s H E B g
  have hpos : 0 < ds.length := List.length_pos_iff.mpr hd
  refine sds_one (sd_retG (eg_ixL (P := fun i o => ∃ cells' cnt', 0 ≤ i ∧ i < (ds.length : Int) ∧ cells' ≠ [] ∧ o = drw d n cells' cnt') (R := fun t o => ∃ x cells' cnt', x ∈ ds ∧ cells' ≠ [] ∧ t = .d x ∧ o = drw d n cells' cnt') (ed_v 1) (eg_call (oa := []) (o1 := drw d n cells cnt) (ob := []) (fn_law_draw T) g (by decide) (ea_cons (ev_v 0) (ea_cons (ed_len T.n_len (ed_v 1) .d) ea_nil)) ⟨d, n, cells, cnt, _, rfl, rfl, hc, by omega, by omega, rfl⟩ ?_ ?_) ?_) ?_)
  · rintro t o1 ⟨r, cells', cnt', h0, h1, h2, e⟩
    cases e
    exact ⟨r, rfl, cells', cnt', h0, h1, h2, by simp⟩
  · rintro C o1 ⟨r, cells', cnt', h0, h1, h2, e⟩
    cases e
  · rintro i o ⟨cells', cnt', h0, h1, h2, rfl⟩
    obtain ⟨j, rfl⟩ : ∃ j : Nat, i = (j : Int) := ⟨i.toNat, by omega⟩
    have hj : j < ds.length := by omega
    exact ⟨ds[j], atI_nat (List.getElem?_eq_getElem hj), ds[j], cells', cnt', List.getElem_mem hj, h2, rfl, rfl⟩
  · rintro t o ⟨x, cells', cnt', h1, h2, rfl, rfl⟩
    exact ⟨x, cells', cnt', h1, h2, rfl⟩)
end
end Pg

namespace Pg
open PySem PySem.Spec PyProof.Rows L2 Sd
section
variable {P : Program} {w : World} {K : PySem.W.Frag} {mg : Str → Option Value} {base : Heap} {c : Cl}
def badS : List Str := ["", " ", "0", "21", "01", "-1", "+1", "1,2", "1  2", "1 2 ", " 1", "a", "1 b", "1.0", "1 1 1 1 1 1 1 1 1", "100", "1 0"]
theorem badS_x : ∀ t ∈ badS, psY t = none ∧ t.length ≤ 5000 := by decide +kernel
def badT : List PyData := [.none, .int 5, .str "", .str " ", .str "0", .str "21", .str "01", .str "-1", .str "+1", .str "1,2", .str "1  2", .str "1 2 ", .str " 1", .str "a", .str "1 b", .list [.str "1"], .str "1.0", .str "1 1 1 1 1 1 1 1 1", .str "100", .str "1 0"]
theorem badT_x {d : PyData} (h : d ∈ badT) : PsA d ∧ psD d = .str "text" := by
  have key : ∀ t ∈ badS, PsA (.str t) ∧ psD (.str t) = .str "text" := fun t ht => by
    obtain ⟨h1, h2⟩ := badS_x t ht
    exact ⟨.inl ⟨t, rfl, h2⟩, by simp only [psD, h1]⟩
  simp only [badT, List.mem_cons, List.not_mem_nil, or_false] at h
  rcases h with rfl | rfl | rfl | rfl | rfl | rfl | rfl | rfl | rfl | rfl | rfl | rfl | rfl | rfl | rfl | rfl | rfl | rfl | rfl | rfl <;> first | exact ⟨.inr rfl, rfl⟩ | exact key _ (by simp [badS])
theorem good1 : psY "20 1 20" = some [20, 1, 20] := by decide +kernel
theorem good2 : psY "1" = some [1] := by decide +kernel
theorem shp_texts (n : Nat) : Shp 1 (.list (List.replicate n (.str "text"))) := shp_list (n := 0) fun d hd => by
  rw [List.mem_replicate] at hd
  rw [hd.2]
  exact shp_str (by decide +kernel)
theorem ea_k {Z : Sd.Ctx} {ρ : List Slot} {own : Own} {x : Const} {j : Nat} {p : Pos} {es : List Expr} {s : Slot} {ss : List Slot} (h : ES Z (.Constant x j p) ρ own s) (hr : EA Z es ρ own ss) : EA Z (.Constant x j p :: es) ρ own (s :: ss) := ea_cons h hr
theorem ea_l {Z : Sd.Ctx} {ρ : List Slot} {own : Own} {xs : List Expr} {p : Pos} {es : List Expr} {s : Slot} {ss : List Slot} (h : ES Z (.List xs p) ρ own s) (hr : EA Z es ρ own ss) : EA Z (.List xs p :: es) ρ own (s :: ss) := ea_cons h hr
theorem ed_l1 {Z : Sd.Ctx} {ρ : List Slot} {own : Own} {pos : Pos} {es : List Expr} {x : PyData} (h : EA Z es ρ own [.d x]) : ED Z (.List es pos) ρ own (.list [x]) := ed_lst (ds := [x]) h
theorem ed_lstE {Z : Sd.Ctx} {ρ : List Slot} {own : Own} {pos : Pos} {es : List Expr} {ss : List Slot} {ds : List PyData} (h : EA Z es ρ own ss) (e : ss = ds.map Slot.d) (hl : ds.length ≤ 1000) : ED Z (.List es pos) ρ own (.list ds) := ed_lst (ds := ds) (e ▸ h) hl
theorem bad_fm : badT.filterMap (fun _ => some (PyData.str "text")) = List.replicate 20 (.str "text") := rfl
theorem bad_len : badT.length = 20 := rfl
def pre_law_rejected : Pr := fun ss own post => ss = [] ∧ own = [] ∧ post = fun o => o = .ret (.d (.bool true)) []
theorem fn_law_rejected (T : Tx K mg c) : Fn K mg P w base "_law_rejected" [] 6 pre_law_rejected := T.d_law_rejected.fn fun f fd F => okG (k := 5) F sc_law_rejected (by rintro ss own post ⟨rfl, _⟩; rfl) (by
  rintro ss own post ⟨rfl, rfl, rfl⟩ cdv A outer s H E B g
  show SDs _ (_ :: _) _ _ _
  with_reducible refine sds_cons ?_
  with_reducible refine sd_set (s := .d (.list badT)) 0 g.nd ?eA ?nA ?iA ?xA ?sA ?fA
  case eA =>
    with_reducible refine ed_lstE (ds := badT) (ea_k ed_non (ea_k ed_int (ea_k ed_str (ea_k ed_str (ea_k ed_str (ea_k ed_str (ea_k ed_str (ea_k ed_str (ea_k ed_str (ea_k ed_str (ea_k ed_str (ea_k ed_str (ea_k ed_str (ea_k ed_str (ea_k ed_str (ea_l (ed_l1 (ea_k ed_str ea_nil)) (ea_k ed_str (ea_k ed_str (ea_k ed_str (ea_k ed_str ea_nil)))))))))))))))))))) ?j2A ?j3A
    case j2A => rfl
    case j3A => decide
  case iA => rfl
  case xA => first | exact Or.inl rfl | exact Or.inr rfl
  case sA => rfl
  case fA => first | exact .inl rfl | exact .inr rfl
  case nA =>
  obtain ⟨bT, hbT⟩ : ∃ b, b = badT := ⟨_, rfl⟩
  rw [← hbT]
  refine sds_one (sd_retD (x := .bool true) (ES.is (ed_and (k := true) (l := true) (ES.is (ed_cmp (c_eq g .d .d ((shp_texts 20).shaped (by decide)) ((shp_texts 20).shaped (by decide))) (EL.ed (EL.is (ys := List.replicate 20 (.str "text")) (el_comp g (compP g (it_list (ed_v 0)) [("bad", 1)] (blkOk_by (N := ["odd", "bad"]) (sc := defScope s_law_rejected) (by decide +kernel)) bT id (by simp) (fun _ => some (.str "text")) (fun d => [.d (.list bT), .d d]) [1] (by simp) (by rw [hbT, bad_len]; decide) (fun _ _ => trivial)
      (fun d _ s H C cl fp g' => gt_name 1 g'.nd) (fun d _ s H C cl fp o g' => ets_nil) (fun d hd x hx s H C cl fp o g' => ?_))) (by rw [hbT]; exact bad_fm))) (ES.is (EL.ed (el_rep (i := 20) (ed_lst (ds := [.str "text"]) (ea_cons ed_str ea_nil)) ed_int .d (by decide) (by simp))) rfl)) (by rw [eqv_self (shp_texts 20)])) fun _ => ed_and (k := true) (l := true) (ES.is (ed_cmp (c_eq g .d .d (sh_ints [20, 1, 20]) (sh_ints [20, 1, 20])) (ES.is (es_call (fn_law_parsed T) g (by decide) (ea_cons ed_str ea_nil) ⟨.str "20 1 20", rfl, rfl, .inl ⟨_, rfl, by decide⟩, rfl⟩) (by simp only [psD, good1])) (ed_lst (ds := [.int 20, .int 1, .int 20]) (ea_cons ed_int (ea_cons ed_int (ea_cons ed_int ea_nil))))) (by rw [eqv_ints]; rfl)) fun _ => ed_one (ES.is (ed_cmp (c_eq g .d .d (sh_ints [1]) (sh_ints [1])) (ES.is (es_call (fn_law_parsed T) g (by decide) (ea_cons ed_str ea_nil) ⟨.str "1", rfl, rfl, .inl ⟨_, rfl, by decide⟩, rfl⟩) (by simp only [psD, good2])) (ed_lst (ds := [.int 1]) (ea_cons ed_int ea_nil))) (by rw [eqv_ints]; rfl))) rfl) rfl)
  cases hx
  obtain ⟨h1, h2⟩ := badT_x (hbT ▸ hd)
  exact ES.is (es_call (fn_law_parsed T) g' (by decide) (ea_cons (ed_v 1) ea_nil) ⟨d, rfl, rfl, h1, rfl⟩) h2)
end
end Pg

namespace Pg
open PySem PySem.Spec PyProof.Rows L2 Sd
section
variable {P : Program} {w : World} {K : PySem.W.Frag} {mg : Str → Option Value} {base : Heap} {c : Cl}
def pre_law_start (K : PySem.W.Frag) : Pr := fun ss own post => ∃ (a : Addr) (ns : List Int), ss = [.raw (.ref a)] ∧ ScrAt K own a ns ∧ post = fun o => ∃ d n cells, cells ≠ [] ∧ o = .ret (.raw (.ref d)) (drw d n cells 0 ++ own)
theorem fn_law_start (T : Tx K mg c) : Fn K mg P w base "_law_start" ["script"] 1 (pre_law_start K) := T.d_law_start.fn fun f fd F => okG (k := 0) F sc_law_start (by rintro ss own post ⟨a, ns, rfl, _⟩; rfl) (by
  rintro ss own post ⟨a, ns, rfl, hs, rfl⟩ cdv A outer s H E B g
  refine sds_one (sd_retG (eg_lst2 (P := fun v o => ∃ n, v = .ref n ∧ o = (n, .lst ((if ns = [] then [0] else ns).map PyData.int)) :: own) (EL.toEG (el_if (et_cmp (c_neScr g hs) (ev_v 0) (ed_lst (ds := []) ea_nil)) (fun h => EL.is (el_listScr T.n_list (ev_v 0) hs) ?_) fun h => EL.is (el_lst (ds := [.int 0]) (ea_cons ed_int ea_nil)) ?_) fun p => ⟨_, rfl, p, rfl, rfl⟩) fun v o _ => ed_int) ?_)
  · rw [if_neg (by simpa using h)]
  · rw [if_pos (by simpa using h)]
    rfl
  · rintro t o ⟨q, v, o', rfl, rfl, n, rfl, rfl⟩
    exact ⟨q, n, if ns = [] then [0] else ns, by split <;> simp_all, rfl⟩)
end
end Pg

namespace Pg
open PySem PySem.Spec PyProof.Rows L2 Sd
section
variable {P : Program} {w : World} {K : PySem.W.Frag} {mg : Str → Option Value} {base : Heap} {c : Cl}
def pre_law_year : Pr := fun ss own post => ∃ (d n : Addr) (cells : List Int) (cnt most : Int), ss = [.raw (.ref d), .d (.int most)] ∧ own = drw d n cells cnt ∧ cells ≠ [] ∧ 1 ≤ most ∧ most ≤ 8 ∧
  post = fun o => ∃ p ys cells' cnt', Yr ys ∧ (ys.length : Int) ≤ most ∧ cells' ≠ [] ∧ o = .ret (.raw (.ref p)) ((p, .lst (ys.map PyData.int)) :: drw d n cells' cnt')
theorem fn_law_year (T : Tx K mg c) : Fn K mg P w base "_law_year" ["draws", "most"] 3 pre_law_year := T.d_law_year.fn fun f fd F => okG (k := 2) F sc_law_year (by rintro ss own post ⟨d, n, cells, cnt, most, rfl, _⟩; rfl) (by
  rintro ss own post ⟨d, n, cells, cnt, most, rfl, rfl, hc, hm1, hm8, rfl⟩ cdv A outer s H E B g
  refine sds_cons (sd_setG 2 g.nd (R := fun t o => ∃ wd cells' cnt', (1 ≤ wd ∧ wd ≤ 20) ∧ cells' ≠ [] ∧ t = .d (.int wd) ∧ o = drw d n cells' cnt') (eg_call (oa := []) (o1 := drw d n cells cnt) (ob := []) (fn_law_pick T) g (by decide) (ea_cons (ev_v 0) (ea_cons (ed_lst (ds := [.int 1, .int 3, .int 20]) (ea_cons ed_int (ea_cons ed_int (ea_cons ed_int ea_nil)))) ea_nil)) ⟨d, n, cells, cnt, _, rfl, rfl, hc, by simp, by simp, rfl⟩ ?_ ?_) ?_)
  · rintro t o1 ⟨x, cells', cnt', h1, h2, e⟩
    cases e
    simp only [List.mem_cons, List.not_mem_nil, or_false] at h1
    rcases h1 with rfl | rfl | rfl
    · exact ⟨1, cells', cnt', by decide, h2, rfl, by simp⟩
    · exact ⟨3, cells', cnt', by decide, h2, rfl, by simp⟩
    · exact ⟨20, cells', cnt', by decide, h2, rfl, by simp⟩
  · rintro C o1 ⟨x, cells', cnt', h1, h2, e⟩
    cases e
  rintro t o ⟨wd, cells', cnt', hw, hc', rfl, rfl⟩
  refine sds_one (sd_retG (eg_comp g (compG g (itg_range1 (P := fun i o => (1 ≤ i ∧ i ≤ most) ∧ ∃ cells' cnt', cells' ≠ [] ∧ o = drw d n cells' cnt') T.n_range (EG.imp (eg_add (P := fun j o => (0 ≤ j ∧ j < most) ∧ ∃ cells' cnt', cells' ≠ [] ∧ o = drw d n cells' cnt') ed_int (eg_call (oa := []) (o1 := drw d n cells' cnt') (ob := []) (fn_law_draw T) g (by decide) (ea_cons (ev_v 0) (ea_cons (ed_v 1) ea_nil)) ⟨d, n, cells', cnt', _, rfl, rfl, hc', by omega, by omega, rfl⟩ ?_ ?_)) ?_)) [("k", 3)] (blkOk_by (N := ["draws", "most", "wide", "k"]) (sc := defScope s_law_year) (by decide +kernel))
    (fun ys i acc o => ∃ m : Int, (1 ≤ m ∧ m ≤ most) ∧ ys.length = m.toNat ∧ (∃ vs : List Int, acc = vs.map PyData.int ∧ vs.length = i ∧ ∀ v ∈ vs, 1 ≤ v ∧ v ≤ 20) ∧ i ≤ ys.length ∧ ∃ cells' cnt', cells' ≠ [] ∧ o = drw d n cells' cnt') ?_ ?_ ?_)) ?_)
  · rintro t o1 ⟨r, cells'', cnt'', h0, h1, h2, e⟩
    cases e
    exact ⟨r, rfl, ⟨h0, h1⟩, cells'', cnt'', h2, by simp⟩
  · rintro C o1 ⟨r, cells'', cnt'', h0, h1, h2, e⟩
    cases e
  · rintro t o ⟨j, rfl, hj, cells'', cnt'', h2, rfl⟩
    exact ⟨1 + j, rfl, by omega, by omega, cells'', cnt'', h2, rfl⟩
  · rintro ys o ⟨i, rfl, hi, cells'', cnt'', h2, rfl⟩
    exact ⟨i, hi, rng_length _ _, ⟨[], rfl, rfl, by simp⟩, Nat.zero_le _, cells'', cnt'', h2, rfl⟩
  · rintro ys i acc o ⟨m, hm, hl, ⟨vs, rfl, hv, _⟩, hi, _⟩
    rw [List.length_map]
    omega
  · rintro ys i y acc o D hy ⟨m, hm, hl, ⟨vs, rfl, hv, hvs⟩, hi, cells'', cnt'', h2, rfl⟩
    have hlt : i < ys.length := (List.getElem?_eq_some_iff.mp hy).1
    refine ⟨_, _, true, ?_, fun s H C cl fp => gt_name 3 g.nd, fun s H C cl fp => ets_nil, fun _ s H C cl fp => ?_, fun h => nomatch h⟩
    · intro i hi
      simpa using hi
    · refine EG.imp (eg_add (P := fun j o => (0 ≤ j ∧ j < wd) ∧ ∃ cells' cnt', cells' ≠ [] ∧ o = (D, .lst (vs.map PyData.int)) :: drw d n cells' cnt') ed_int (eg_call (oa := [(D, .lst (vs.map PyData.int))]) (o1 := drw d n cells'' cnt'') (ob := []) (fn_law_draw T) (g.blk ..) (by decide) (ea_cons (ev_v 0) (ea_cons (ed_v 2) ea_nil)) ⟨d, n, cells'', cnt'', _, rfl, rfl, h2, by omega, by omega, rfl⟩ ?_ ?_)) ?_
      · rintro t o1 ⟨r, cells3, cnt3, h0, h1, h2, e⟩
        cases e
        exact ⟨r, rfl, ⟨h0, h1⟩, cells3, cnt3, h2, by simp⟩
      · rintro C o1 ⟨r, cells3, cnt3, h0, h1, h2, e⟩
        cases e
      · rintro t o ⟨j, rfl, hj, cells3, cnt3, h3, rfl⟩
        refine ⟨.int (1 + j), drw d n cells3 cnt3, rfl, rfl, m, hm, hl, ⟨vs ++ [1 + j], by simp, by simp [hv], ?_⟩, hlt, cells3, cnt3, h3, rfl⟩
        intro v hv'
        rcases List.mem_append.mp hv' with h | h
        · exact hvs v h
        · have : v = 1 + j := by simpa using h
          omega
  · rintro t o ⟨p, ds, o', rfl, rfl, ys, m, hm, hl, ⟨vs, rfl, hv, hvs⟩, hi, cells3, cnt3, h3, rfl⟩
    exact ⟨p, vs, cells3, cnt3, ⟨by omega, by omega, hvs⟩, by omega, h3, rfl⟩)
end
end Pg

namespace Pg
open PySem PySem.Spec PyProof.Rows L2 Sd
section
variable {P : Program} {w : World} {K : PySem.W.Frag} {mg : Str → Option Value} {base : Heap} {c : Cl}
/-- a draw, a pick: in words of what is owned -/
theorem eg_draw {Z : Sd.Ctx} {k : Nat} {ρ : List Slot} {oa ob : Own} {e1 e2 : Expr} {p pos : Pos} {d n : Addr} {cells : List Int} {cnt limit : Int} (F : Fn Z.X.K Z.X.mg Z.X.prog Z.X.w Z.X.base "_law_draw" ["draws", "limit"] 1 pre_law_draw) (g : Gd Z k) (hk : 1 ≤ k) (hc : cells ≠ []) (ha : EA Z [e1, e2] ρ (oa ++ drw d n cells cnt ++ ob) [.raw (.ref d), .d (.int limit)]) (hl : 0 < limit) (hl2 : limit < 1073741824)
    (hg : Gl Z.X "_law_draw" := by rfl) (he : starEach [e1, e2] Z.X.env = (false, eval e1 Z.X.env) :: starEach [e2] Z.X.env := by rfl) (hpl : (backTo pos (starEach [e2] Z.X.env)).any (·.1) = false := by rfl) :
    EG Z (.Call (.Name "_law_draw" p) [e1, e2] [] pos) ρ (oa ++ drw d n cells cnt ++ ob) (fun t o => ∃ (r : Nat) (cells' : List Int) (cnt' : Int), (r : Int) < limit ∧ cells' ≠ [] ∧ t = .d (.int (r : Int)) ∧ o = oa ++ drw d n cells' cnt' ++ ob) :=
  eg_call F g hk ha ⟨d, n, cells, cnt, limit, rfl, rfl, hc, hl, hl2, rfl⟩ (by
    rintro t o1 ⟨r, cells', cnt', h0, h1, h2, e⟩
    cases e
    exact ⟨r.toNat, cells', cnt', by omega, h2, by rw [Int.toNat_of_nonneg h0], rfl⟩) (by
    rintro C o1 ⟨r, cells', cnt', h0, h1, h2, e⟩
    cases e) hg (by decide) he hpl
theorem eg_pick {Z : Sd.Ctx} {k : Nat} {ρ : List Slot} {oa ob : Own} {e1 e2 : Expr} {p pos : Pos} {d n : Addr} {cells : List Int} {cnt : Int} {ds : List PyData} (F : Fn Z.X.K Z.X.mg Z.X.prog Z.X.w Z.X.base "_law_pick" ["draws", "choices"] 2 pre_law_pick) (g : Gd Z k) (hk : 2 ≤ k) (hc : cells ≠ []) (ha : EA Z [e1, e2] ρ (oa ++ drw d n cells cnt ++ ob) [.raw (.ref d), .d (.list ds)]) (hd : ds ≠ []) (hl : ds.length ≤ 1000000)
    (hg : Gl Z.X "_law_pick" := by rfl) (he : starEach [e1, e2] Z.X.env = (false, eval e1 Z.X.env) :: starEach [e2] Z.X.env := by rfl) (hpl : (backTo pos (starEach [e2] Z.X.env)).any (·.1) = false := by rfl) :
    EG Z (.Call (.Name "_law_pick" p) [e1, e2] [] pos) ρ (oa ++ drw d n cells cnt ++ ob) (fun t o => ∃ (x : PyData) (cells' : List Int) (cnt' : Int), x ∈ ds ∧ cells' ≠ [] ∧ t = .d x ∧ o = oa ++ drw d n cells' cnt' ++ ob) :=
  eg_call F g hk ha ⟨d, n, cells, cnt, ds, rfl, rfl, hc, hd, hl, rfl⟩ (by
    rintro t o1 ⟨x, cells', cnt', h1, h2, e⟩
    cases e
    exact ⟨x, cells', cnt', h1, h2, rfl, rfl⟩) (by
    rintro C o1 ⟨x, cells', cnt', h1, h2, e⟩
    cases e) hg (by decide) he hpl
end
end Pg

namespace Pg
open PySem PySem.Spec PyProof.Rows L2 Sd
section
variable {P : Program} {w : World} {K : PySem.W.Frag} {mg : Str → Option Value} {base : Heap} {c : Cl}
theorem eg_year {Z : Sd.Ctx} {k : Nat} {ρ : List Slot} {ob : Own} {e1 e2 : Expr} {p pos : Pos} {d n : Addr} {cells : List Int} {cnt most : Int} (F : Fn Z.X.K Z.X.mg Z.X.prog Z.X.w Z.X.base "_law_year" ["draws", "most"] 3 pre_law_year) (g : Gd Z k) (hk : 3 ≤ k) (hc : cells ≠ []) (ha : EA Z [e1, e2] ρ (drw d n cells cnt ++ ob) [.raw (.ref d), .d (.int most)]) (hl : 1 ≤ most) (hl2 : most ≤ 8)
    (hg : Gl Z.X "_law_year" := by rfl) (he : starEach [e1, e2] Z.X.env = (false, eval e1 Z.X.env) :: starEach [e2] Z.X.env := by rfl) (hpl : (backTo pos (starEach [e2] Z.X.env)).any (·.1) = false := by rfl) :
    EG Z (.Call (.Name "_law_year" p) [e1, e2] [] pos) ρ (drw d n cells cnt ++ ob) (fun t o => ∃ (ys cells' : List Int) (cnt' : Int), Yr ys ∧ (ys.length : Int) ≤ most ∧ cells' ≠ [] ∧ t = .d (li ys) ∧ o = drw d n cells' cnt' ++ ob) :=
  EG.frz (P := fun ds o => ∃ (ys cells' : List Int) (cnt' : Int), ds = ys.map PyData.int ∧ Yr ys ∧ (ys.length : Int) ≤ most ∧ cells' ≠ [] ∧ o = drw d n cells' cnt' ++ ob)
    (eg_call (oa := []) (o1 := drw d n cells cnt) F g hk ha ⟨d, n, cells, cnt, most, rfl, rfl, hc, hl, hl2, rfl⟩ (by
      rintro t o1 ⟨q, ys, cells', cnt', h1, h2, h3, e⟩
      cases e
      exact ⟨q, _, _, rfl, rfl, ys, cells', cnt', rfl, h1, h2, h3, rfl⟩) (by
      rintro C o1 ⟨q, ys, cells', cnt', h1, h2, h3, e⟩
      cases e) hg (by decide) he hpl) (by
    rintro ds o ⟨ys, cells', cnt', rfl, h1, h2, h3, rfl⟩
    exact ⟨ys, cells', cnt', h1, h2, h3, rfl, rfl⟩)
end
end Pg

namespace Pg
open PySem PySem.Spec PyProof.Rows L2 Sd
section
variable {P : Program} {w : World} {K : PySem.W.Frag} {mg : Str → Option Value} {base : Heap} {c : Cl}
abbrev lN : List Str := ["script", "draws", "year", "text", "turn", "at", "mark", "other", "found", "weight"]
def mkS : List Str := ["0", "1", "2", "9", " ", ",", "-", "x", ""]
theorem mkS_len : ∀ m ∈ mkS, m.length ≤ 1 := by decide +kernel
theorem fmt_jl {ys : List Int} (h : Yr ys) : ((ys.map toS).map (·.length)).sum + (ys.map toS).length * (Str.ofString " ").length ≤ 16777216 := by
  have h1 := lens_le h.it
  have h2 := h.hi
  have e1 : (Str.ofString " ").length = 1 := by decide
  rw [e1, List.length_map]
  omega
theorem log_ok {ys : List Int} (h : Yr ys) {y : Int} (hy : y ∈ ys) : y.natAbs.log2 < 1920 := by
  have := h.it y hy
  exact Nat.lt_of_le_of_lt (Nat.log2_le_self _) (by omega)
theorem ok_law (T : Tx K mg c) {f : Addr} {fd : FuncData} (F : Fun K "law" "law" s_law f fd) : FnOk P w K mg base (L2.CX P w) 7 f fd ["script"] (spG (pre_law K)) := okG (k := 6) F sc_law (by rintro ss own post ⟨a, ns, rfl, _⟩; rfl) (by
  rintro ss own0 post ⟨a, ns, rfl, hs, hns, rfl⟩ cdv A outer s H E B g
  refine sds_cons (sd_setG 1 g.nd (R := fun t o => ∃ (d q : Addr) (cells : List Int), cells ≠ [] ∧ t = .raw (.ref d) ∧ o = drw d q cells 0 ++ own0) (eg_callW (fn_law_start T) g (by decide) (ea_cons (ev_v 0) ea_nil) ⟨a, ns, rfl, hs, rfl⟩ ?_ ?_) ?_)
  · rintro t o ⟨d, n, cells, hc, e⟩
    cases e
    exact ⟨d, n, cells, hc, rfl, rfl⟩
  · rintro C o ⟨d, n, cells, hc, e⟩
    cases e
  rintro t o ⟨d, q, cells, hc, rfl, rfl⟩
  -- year, text
  refine sds_cons (sd_setG 2 g.nd (eg_year (ob := own0) (n := q) (cells := cells) (fn_law_year T) g (by decide) hc (ea_cons (ev_v 1) (ea_cons ed_int ea_nil)) (by decide) (by decide)) ?_)
  rintro t o ⟨ys, cells1, cnt1, hY, _, hc1, rfl, rfl⟩
  refine sds_cons (sd_set 3 g.nd (es_call (fn_format_year T) g (by decide) (ea_cons (ed_v 2) ea_nil) ⟨ys, rfl, rfl, hY, rfl⟩) ?_)
  have hfl := fmt_len hY
  have hlY := hY.hi
  refine sds_cons (sd_ifF (ET.is (EW.et (ew_or (k := false) (l := false) (ET.is (et_cmp c_neS (ed_v 3) (ed_join (zs := ys.map toS) ed_str (EL.ed (EL.is (ys := (ys.map toS).map PyData.str) (el_comp g (compP g (it_list (ed_v 2)) [("weight", 9)] (blkOk_by (N := lN) (sc := defScope s_law) (by decide +kernel)) ys PyData.int rfl (fun y => some (.str (toS y))) (fun y => [.raw (.ref a), .raw (.ref d), .d (li ys), .d (.str (fmt ys)), .un, .un, .un, .un, .un, .d (.int y)]) [9] (by simp) (by omega) (fun _ _ => trivial)
      (fun d _ s H C cl fp g' => gt_name 9 g'.nd) (fun d _ s H C cl fp o g' => ets_nil) (fun y hy x hx s H C cl fp o g' => ?_))) (by rw [List.map_map]; exact congrFun List.filterMap_eq_map' _))) .d (fmt_jl hY))) ?_) fun _ => ew_or1 (ET.is (et_cmp (c_ne g .d .d (sh_ints ys) (sh_ints ys)) (ES.is (es_call (fn_law_parsed T) g (by decide) (ea_cons (ed_v 3) ea_nil) ⟨.str (fmt ys), rfl, rfl, .inl ⟨_, rfl, by omega⟩, rfl⟩) (by simp only [psD, psY_fmt hY])) (ed_v 2)) (by rw [eqv_ints]; simp)))) rfl) ?_)
  · cases hx
    exact ed_strI T.n_str (ed_v 9) (log_ok hY hy)
  · show (!decide (fmt ys = fmt ys)) = false
    simp
  -- changed texts
  refine sds_cons (sd_for g (it_range1 T.n_range ed_int ⟨by decide, by decide⟩) (fun i ρ own => ∃ cells' cnt' t4 t5 t6 t7 t8, cells' ≠ [] ∧ own = drw d q cells' cnt' ++ own0 ∧ ρ = [.raw (.ref a), .raw (.ref d), .d (li ys), .d (.str (fmt ys)), t4, t5, t6, t7, t8, .un]) ⟨cells1, cnt1, _, _, _, _, _, hc1, rfl, rfl⟩ (fun _ _ _ _ => trivial) ?_ ?_)
  · rintro i y ρ1 ow hy ⟨cells2, cnt2, t4, t5, t6, t7, t8, hc2, rfl, rfl⟩
    refine ⟨_, _, gt_name 4 g.nd, ?_⟩
    refine sds_cons (sd_setG 5 g.nd (eg_draw (oa := []) (ob := own0) (n := q) (cells := cells2) (cnt := cnt2) (fn_law_draw T) g (by decide) hc2 (ea_cons (ev_v 1) (ea_cons (ed_add (ed_lenS T.n_len (ed_v 3) (Nat.le_trans hfl (by decide))) ed_int) ea_nil)) (by omega) (by omega)) ?_)
    rintro t o ⟨r, cells3, cnt3, hr, hc3, rfl, rfl⟩
    refine sds_cons (sd_setG 6 g.nd (R := fun t o => ∃ (m : Str) (cells' : List Int) (cnt' : Int), m.length ≤ 1 ∧ cells' ≠ [] ∧ t = .d (.str m) ∧ o = drw d q cells' cnt' ++ own0) (EG.imp (eg_pick (oa := []) (ob := own0) (n := q) (cells := cells3) (cnt := cnt3) (ds := mkS.map PyData.str) (fn_law_pick T) g (by decide) hc3 (ea_cons (ev_v 1) (ea_cons (ed_lst (ds := mkS.map PyData.str) (ea_cons ed_str (ea_cons ed_str (ea_cons ed_str (ea_cons ed_str (ea_cons ed_str (ea_cons ed_str (ea_cons ed_str (ea_cons ed_str (ea_cons ed_str ea_nil)))))))))) ea_nil)) (by simp [mkS]) (by decide)) ?_) ?_)
    · rintro t o ⟨x, cells', cnt', hx, hc', rfl, rfl⟩
      obtain ⟨m, hm, rfl⟩ := List.mem_map.mp hx
      exact ⟨m, cells', cnt', mkS_len m hm, hc', rfl, rfl⟩
    rintro t o ⟨m, cells4, cnt4, hm, hc4, rfl, rfl⟩
    have c1 := cutS_length (fmt ys) none (some (r : Int))
    have c2 := cutS_length (fmt ys) (some ((r : Int) + 1)) none
    have c3 := cutS_length (fmt ys) (some (r : Int)) none
    have hsz : 5000 ≤ sizeLine := by decide
    obtain ⟨p1, hp1⟩ : ∃ p1, p1 = cutS (fmt ys) none (some (r : Int)) := ⟨_, rfl⟩
    obtain ⟨p2, hp2⟩ : ∃ p2, p2 = cutS (fmt ys) (some ((r : Int) + 1)) none := ⟨_, rfl⟩
    obtain ⟨p3, hp3⟩ : ∃ p3, p3 = cutS (fmt ys) (some (r : Int)) none := ⟨_, rfl⟩
    rw [← hp1] at c1
    rw [← hp2] at c2
    rw [← hp3] at c3
    have l1 : (p1 ++ m).length = p1.length + m.length := Str.length_append ..
    have l2 : (p1 ++ m ++ p2).length = (p1 ++ m).length + p2.length := Str.length_append ..
    have l3 : (p1 ++ m ++ p3).length = (p1 ++ m).length + p3.length := Str.length_append ..
    refine sds_cons (sd_setG 7 g.nd (R := fun t o => ∃ (z : Str) (cells' : List Int) (cnt' : Int), z.length ≤ 5000 ∧ cells' ≠ [] ∧ t = .d (.str z) ∧ o = drw d q cells' cnt' ++ own0) (EG.imp (eg_pick (oa := []) (ob := own0) (n := q) (cells := cells4) (cnt := cnt4) (ds := [.str (p1 ++ m ++ p2), .str (p1 ++ m ++ p3)]) (fn_law_pick T) g (by decide) hc4 (ea_cons (ev_v 1) (ea_cons (ed_lst (ds := [.str (p1 ++ m ++ p2), .str (p1 ++ m ++ p3)]) (ea_cons (ed_addS (ed_addS (ES.is (ed_cutS (ed_v 3) po_no (po_yes (ed_v 5)) (by omega)) (by rw [hp1])) (ed_v 6) (by omega)) (ES.is (ed_cutS (ed_v 3) (po_yes (ed_add (ed_v 5) ed_int)) po_no (by omega)) (by rw [hp2])) (by omega)) (ea_cons (ed_addS (ed_addS (ES.is (ed_cutS (ed_v 3) po_no (po_yes (ed_v 5)) (by omega)) (by rw [hp1])) (ed_v 6) (by omega)) (ES.is (ed_cutS (ed_v 3) (po_yes (ed_v 5)) po_no (by omega)) (by rw [hp3])) (by omega)) ea_nil))) ea_nil)) (by simp) (by simp)) ?_) ?_)
    · rintro t o ⟨x, cells', cnt', hx, hc', rfl, rfl⟩
      simp only [List.mem_cons, List.not_mem_nil, or_false] at hx
      rcases hx with rfl | rfl
      · exact ⟨_, cells', cnt', by omega, hc', rfl, rfl⟩
      · exact ⟨_, cells', cnt', by omega, hc', rfl, rfl⟩
    rintro t o ⟨z, cells5, cnt5, hz, hc5, rfl, rfl⟩
    refine sds_cons (sd_set 8 g.nd (es_call (fn_law_parsed T) g (by decide) (ea_cons (ed_v 7) ea_nil) ⟨.str z, rfl, rfl, .inl ⟨_, rfl, hz⟩, rfl⟩) ?_)
    refine sds_one (sd_ifF ?_ ⟨cells5, cnt5, _, _, _, _, _, hc5, rfl, rfl⟩)
    cases hp : psY z with
    | none =>
      have e : psD (.str z) = .str "text" := by simp only [psD, hp]
      rw [e]
      exact ET.is (EW.et (ew_and (k := false) (l := false) (ET.is (et_cmp c_neS (ed_v 8) ed_str) (by decide +kernel)) fun h => nomatch h)) rfl
    | some zs =>
      have e : psD (.str z) = li zs := by simp only [psD, hp]
      rw [e]
      have hZ := yr_is (psY_is hp)
      have hlZ := hZ.hi
      refine ET.is (EW.et (ew_and (k := true) (l := false) (ET.is (et_cmp (c_ne g .d .d (sh_ints zs) ((shp_str (z := "text") (by decide +kernel)).shaped (by decide))) (ed_v 8) ed_str) rfl) fun _ => ew_and1 (ET.is (et_cmp c_neS (ed_v 7) (ed_join (zs := zs.map toS) ed_str (EL.ed (EL.is (ys := (zs.map toS).map PyData.str) (el_comp g (compP g (it_list (ed_v 8)) [("weight", 9)] (blkOk_by (N := lN) (sc := defScope s_law) (by decide +kernel)) zs PyData.int rfl (fun y => some (.str (toS y))) (fun y' => [.raw (.ref a), .raw (.ref d), .d (li ys), .d (.str (fmt ys)), .d y, .d (.int (r : Int)), .d (.str m), .d (.str z), .d (li zs), .d (.int y')]) [9] (by simp) (by omega) (fun _ _ => trivial)
      (fun d _ s H C cl fp g' => gt_name 9 g'.nd) (fun d _ s H C cl fp o g' => ets_nil) (fun y hy x hx s H C cl fp o g' => ?_))) (by rw [List.map_map]; exact congrFun List.filterMap_eq_map' _))) .d (fmt_jl hZ))) ?_))) rfl
      · cases hx
        exact ed_strI T.n_str (ed_v 9) (log_ok hZ hy)
      · show (!decide (z = fmt zs)) = false
        rw [psY_back hp]
        simp
  · rintro ρ1 ow ⟨cells2, cnt2, t4, t5, t6, t7, t8, hc2, rfl, rfl⟩
    refine sds_one (sd_retG (eg_call0 (fn_law_rejected T) g (by decide) ⟨rfl, rfl, rfl⟩ (R := fun t o => t = .d (.bool true)) ?_ ?_) ?_)
    · rintro s o e
      cases e
      rfl
    · rintro C o e
      cases e
    · rintro t o rfl
      exact ⟨_, rfl⟩)
end
end Pg

namespace Pg
open PySem PySem.Spec PyProof.Rows L2 Sd
section
variable {P : Program} {w : World} {K : PySem.W.Frag} {mg : Str → Option Value} {base : Heap} {c : Cl}
theorem str_mk {h : Heap} {z : Str} {i : Str} {t : Tok} (X : K.In h) (G : h.Ns mainGlobals mg) (a : PySem.W.nsIn K mainGlobals z = some (some (.str i t))) : ∃ t, mg z = some (.str i t) := ⟨t, PySem.W.mg_of X G a⟩
theorem law_end {fa cDayError cBadYear cBadDay cBadNumber cBadShare cBadText cNotFound cCalendar : Addr} (T : Tx K mg ⟨cDayError, cBadYear, cBadDay, cBadNumber, cBadShare, cBadText, cNotFound, cCalendar⟩) (hmg : mg "law" = some (.ref fa)) : ∃ fd : FuncData, (∀ (s : Shared) (u : Value), BindsTo s fd ⟨[u], []⟩ [("script", u)]) ∧ ∀ base : Heap, K.In base → base.Ns mainGlobals mg → FnOk P w K mg base (L2.CX P w) 7 fa fd ["script"] (spG (pre_law K)) := by
  obtain ⟨f, fd, F, hm, hb⟩ := T.d_law.ex
  rw [hmg] at hm
  cases hm
  exact ⟨fd, fun s u => .of_eq (hb [u] rfl), fun base _ _ => ok_law T F⟩
end
end Pg

open PySem PySem.W PyProof.Rows
set_option maxRecDepth 100000 in
set_option maxHeartbeats 0 in
theorem PySem.Challenge.cw_samedays_k09_whole_texts_holds : PySem.Challenge.rw_samedays_k09_whole_texts.Holds := by
  w_on; o_law; k_head; (case hw => w_witness2)
  k_fill
  refine L2.walk_of (l := PySem.Challenge.rw_samedays_k09_whole_texts) (n := 63) (k := 7) (x := "script") (CX := fun w => L2.CX PySem.Challenge.rw_samedays_k09_whole_texts.prog w) (sp := fun w => Sd.spG (Sd.pre_law _)) rfl (by decide) rfl ⟨rfl, by decide, by decide⟩ (fun w h Y => PySem.W.kIn_of Y) ?F (fun _ H a ns hl hO hS => Sd.law_in hl hO hS) (fun _ _ _ _ _ h => Sd.cx_no h)
  case F =>
    intro w mg fa h KX G hmg
    refine' Pg.law_end (cCalendar := 0) ⟨Sd.err_mk KX G ?a0 ?x0 ?k0 ?b0 ?t0, Sd.err_mk KX G ?a1 ?x1 ?k1 ?b1 ?t1, Sd.err_mk KX G ?a2 ?x2 ?k2 ?b2 ?t2, Sd.err_mk KX G ?a3 ?x3 ?k3 ?b3 ?t3, Sd.err_mk KX G ?a4 ?x4 ?k4 ?b4 ?t4, Sd.err_mk KX G ?a5 ?x5 ?k5 ?b5 ?t5, Sd.err_mk KX G ?a6 ?x6 ?k6 ?b6 ?t6, Sd.df_mk2 KX G Pg.pa_is_int ?a7 ?l7 ?c7 ?k7, Sd.df_mk2 KX G Pg.pa_is_year ?a8 ?l8 ?c8 ?k8, Sd.df_mk2 KX G Pg.pa_check_year ?a9 ?l9 ?c9 ?k9, Pg.str_mk KX G ?a10, Sd.df_mk2 KX G Pg.pa_number_in ?a11 ?l11 ?c11 ?k11, Sd.df_mk2 KX G Pg.pa_format_year ?a12 ?l12 ?c12 ?k12, Sd.df_mk2 KX G Pg.pa_parse_year ?a13 ?l13 ?c13 ?k13, Sd.df_mk2 KX G Pg.pa_law_start ?a14 ?l14 ?c14 ?k14, Sd.df_mk2 KX G Pg.pa_law_draw ?a15 ?l15 ?c15 ?k15, Sd.df_mk2 KX G Pg.pa_law_pick ?a16 ?l16 ?c16 ?k16, Sd.df_mk2 KX G Pg.pa_law_error ?a17 ?l17 ?c17 ?k17, Sd.df_mk2 KX G Pg.pa_law_year ?a18 ?l18 ?c18 ?k18, Sd.df_mk2 KX G Pg.pa_law_parsed ?a19 ?l19 ?c19 ?k19, Sd.df_mk2 KX G Pg.pa_law_rejected ?a20 ?l20 ?c20 ?k20, Sd.df_mk2 KX G Pg.pa_law ?a21 ?l21 ?c21 ?k21, ⟨⟨?kG0, ?kH0, ?kB0, ?kD0, ?kA0, ?kN, ?kT, ?kM0⟩, Sd.kit_ref ?kD0 ?kY0 ?kS0s0 ?kS0s0, Sd.kit_ref ?kD1 ?kY1 ?kS0s1 ?kS0s0, Sd.kit_ref ?kD2 ?kY2 ?kS0s2 ?kS0s0, Sd.kit_ref ?kD3 ?kY3 ?kS0s3 ?kS0s0, Sd.kit_ref ?kD4 ?kY4 ?kS0s4 ?kS0s0, Sd.kit_ref ?kD5 ?kY5 ?kS0s5 ?kS0s0, Sd.kit_ref ?kD6 ?kY6 ?kS0s6 ?kS0s0, Sd.kit_ve ?kV0, PySem.W.exm_ref ?kB6 ?kD6 ?kY6 ?kS0s6⟩, ⟨⟨?kG1, ?kH1, ?kB1, ?kD1, ?kA1, ?kN, ?kT, ?kM1⟩, Sd.kit_ref ?kD0 ?kY0 ?kS1s0 ?kS1s1, Sd.kit_ref ?kD1 ?kY1 ?kS1s1 ?kS1s1, Sd.kit_ref ?kD2 ?kY2 ?kS1s2 ?kS1s1, Sd.kit_ref ?kD3 ?kY3 ?kS1s3 ?kS1s1, Sd.kit_ref ?kD4 ?kY4 ?kS1s4 ?kS1s1, Sd.kit_ref ?kD5 ?kY5 ?kS1s5 ?kS1s1, Sd.kit_ref ?kD6 ?kY6 ?kS1s6 ?kS1s1, Sd.kit_ve ?kV1, PySem.W.exm_ref ?kB6 ?kD6 ?kY6 ?kS1s6⟩, ⟨⟨?kG2, ?kH2, ?kB2, ?kD2, ?kA2, ?kN, ?kT, ?kM2⟩, Sd.kit_ref ?kD0 ?kY0 ?kS2s0 ?kS2s2, Sd.kit_ref ?kD1 ?kY1 ?kS2s1 ?kS2s2, Sd.kit_ref ?kD2 ?kY2 ?kS2s2 ?kS2s2, Sd.kit_ref ?kD3 ?kY3 ?kS2s3 ?kS2s2, Sd.kit_ref ?kD4 ?kY4 ?kS2s4 ?kS2s2, Sd.kit_ref ?kD5 ?kY5 ?kS2s5 ?kS2s2, Sd.kit_ref ?kD6 ?kY6 ?kS2s6 ?kS2s2, Sd.kit_ve ?kV2, PySem.W.exm_ref ?kB6 ?kD6 ?kY6 ?kS2s6⟩, ⟨⟨?kG3, ?kH3, ?kB3, ?kD3, ?kA3, ?kN, ?kT, ?kM3⟩, Sd.kit_ref ?kD0 ?kY0 ?kS3s0 ?kS3s3, Sd.kit_ref ?kD1 ?kY1 ?kS3s1 ?kS3s3, Sd.kit_ref ?kD2 ?kY2 ?kS3s2 ?kS3s3, Sd.kit_ref ?kD3 ?kY3 ?kS3s3 ?kS3s3, Sd.kit_ref ?kD4 ?kY4 ?kS3s4 ?kS3s3, Sd.kit_ref ?kD5 ?kY5 ?kS3s5 ?kS3s3, Sd.kit_ref ?kD6 ?kY6 ?kS3s6 ?kS3s3, Sd.kit_ve ?kV3, PySem.W.exm_ref ?kB6 ?kD6 ?kY6 ?kS3s6⟩, ⟨⟨?kG4, ?kH4, ?kB4, ?kD4, ?kA4, ?kN, ?kT, ?kM4⟩, Sd.kit_ref ?kD0 ?kY0 ?kS4s0 ?kS4s4, Sd.kit_ref ?kD1 ?kY1 ?kS4s1 ?kS4s4, Sd.kit_ref ?kD2 ?kY2 ?kS4s2 ?kS4s4, Sd.kit_ref ?kD3 ?kY3 ?kS4s3 ?kS4s4, Sd.kit_ref ?kD4 ?kY4 ?kS4s4 ?kS4s4, Sd.kit_ref ?kD5 ?kY5 ?kS4s5 ?kS4s4, Sd.kit_ref ?kD6 ?kY6 ?kS4s6 ?kS4s4, Sd.kit_ve ?kV4, PySem.W.exm_ref ?kB6 ?kD6 ?kY6 ?kS4s6⟩, ⟨⟨?kG5, ?kH5, ?kB5, ?kD5, ?kA5, ?kN, ?kT, ?kM5⟩, Sd.kit_ref ?kD0 ?kY0 ?kS5s0 ?kS5s5, Sd.kit_ref ?kD1 ?kY1 ?kS5s1 ?kS5s5, Sd.kit_ref ?kD2 ?kY2 ?kS5s2 ?kS5s5, Sd.kit_ref ?kD3 ?kY3 ?kS5s3 ?kS5s5, Sd.kit_ref ?kD4 ?kY4 ?kS5s4 ?kS5s5, Sd.kit_ref ?kD5 ?kY5 ?kS5s5 ?kS5s5, Sd.kit_ref ?kD6 ?kY6 ?kS5s6 ?kS5s5, Sd.kit_ve ?kV5, PySem.W.exm_ref ?kB6 ?kD6 ?kY6 ?kS5s6⟩, PySem.W.mg_none_of KX G ?z22, PySem.W.mg_none_of KX G ?z23, PySem.W.mg_none_of KX G ?z24, PySem.W.mg_none_of KX G ?z25, PySem.W.mg_none_of KX G ?z26, PySem.W.mg_none_of KX G ?z27, PySem.W.mg_none_of KX G ?z28, PySem.W.mg_none_of KX G ?z29, PySem.W.mg_none_of KX G ?z30⟩ hmg
    (case a0 => k_is)
    (case a1 => k_is)
    (case a2 => k_is)
    (case a3 => k_is)
    (case a4 => k_is)
    (case a5 => k_is)
    (case a6 => k_is)
    (case a7 => k_is)
    (case a8 => k_is)
    (case a9 => k_is)
    (case a10 => k_is)
    (case a11 => k_is)
    (case a12 => k_is)
    (case a13 => k_is)
    (case a14 => k_is)
    (case a15 => k_is)
    (case a16 => k_is)
    (case a17 => k_is)
    (case a18 => k_is)
    (case a19 => k_is)
    (case a20 => k_is)
    (case a21 => k_is)
    (case x0 => k_exc)
    (case k0 => k_is)
    (case b0 => k_is)
    (case t0 => k_is)
    (case x1 => k_exc)
    (case k1 => k_is)
    (case b1 => k_is)
    (case t1 => k_is)
    (case x2 => k_exc)
    (case k2 => k_is)
    (case b2 => k_is)
    (case t2 => k_is)
    (case x3 => k_exc)
    (case k3 => k_is)
    (case b3 => k_is)
    (case t3 => k_is)
    (case x4 => k_exc)
    (case k4 => k_is)
    (case b4 => k_is)
    (case t4 => k_is)
    (case x5 => k_exc)
    (case k5 => k_is)
    (case b5 => k_is)
    (case t5 => k_is)
    (case x6 => k_exc)
    (case k6 => k_is)
    (case b6 => k_is)
    (case t6 => k_is)
    (case l7 => k_is)
    (case c7 => k_is)
    (case k7 => k_is)
    (case l8 => k_is)
    (case c8 => k_is)
    (case k8 => k_is)
    (case l9 => k_is)
    (case c9 => k_is)
    (case k9 => k_is)
    (case l11 => k_is)
    (case c11 => k_is)
    (case k11 => k_is)
    (case l12 => k_is)
    (case c12 => k_is)
    (case k12 => k_is)
    (case l13 => k_is)
    (case c13 => k_is)
    (case k13 => k_is)
    (case l14 => k_is)
    (case c14 => k_is)
    (case k14 => k_is)
    (case l15 => k_is)
    (case c15 => k_is)
    (case k15 => k_is)
    (case l16 => k_is)
    (case c16 => k_is)
    (case k16 => k_is)
    (case l17 => k_is)
    (case c17 => k_is)
    (case k17 => k_is)
    (case l18 => k_is)
    (case c18 => k_is)
    (case k18 => k_is)
    (case l19 => k_is)
    (case c19 => k_is)
    (case k19 => k_is)
    (case l20 => k_is)
    (case c20 => k_is)
    (case k20 => k_is)
    (case l21 => k_is)
    (case c21 => k_is)
    (case k21 => k_is)
    (case kG0 => k_is)
    (case kH0 => k_is)
    (case kA0 => k_is)
    (case kM0 => k_is)
    (case kV0 => k_is)
    (case kS0s0 => k_is)
    (case kS0s1 => k_is)
    (case kS0s2 => k_is)
    (case kS0s3 => k_is)
    (case kS0s4 => k_is)
    (case kS0s5 => k_is)
    (case kS0s6 => k_is)
    (case kG1 => k_is)
    (case kH1 => k_is)
    (case kA1 => k_is)
    (case kM1 => k_is)
    (case kV1 => k_is)
    (case kS1s0 => k_is)
    (case kS1s1 => k_is)
    (case kS1s2 => k_is)
    (case kS1s3 => k_is)
    (case kS1s4 => k_is)
    (case kS1s5 => k_is)
    (case kS1s6 => k_is)
    (case kG2 => k_is)
    (case kH2 => k_is)
    (case kA2 => k_is)
    (case kM2 => k_is)
    (case kV2 => k_is)
    (case kS2s0 => k_is)
    (case kS2s1 => k_is)
    (case kS2s2 => k_is)
    (case kS2s3 => k_is)
    (case kS2s4 => k_is)
    (case kS2s5 => k_is)
    (case kS2s6 => k_is)
    (case kG3 => k_is)
    (case kH3 => k_is)
    (case kA3 => k_is)
    (case kM3 => k_is)
    (case kV3 => k_is)
    (case kS3s0 => k_is)
    (case kS3s1 => k_is)
    (case kS3s2 => k_is)
    (case kS3s3 => k_is)
    (case kS3s4 => k_is)
    (case kS3s5 => k_is)
    (case kS3s6 => k_is)
    (case kG4 => k_is)
    (case kH4 => k_is)
    (case kA4 => k_is)
    (case kM4 => k_is)
    (case kV4 => k_is)
    (case kS4s0 => k_is)
    (case kS4s1 => k_is)
    (case kS4s2 => k_is)
    (case kS4s3 => k_is)
    (case kS4s4 => k_is)
    (case kS4s5 => k_is)
    (case kS4s6 => k_is)
    (case kG5 => k_is)
    (case kH5 => k_is)
    (case kA5 => k_is)
    (case kM5 => k_is)
    (case kV5 => k_is)
    (case kS5s0 => k_is)
    (case kS5s1 => k_is)
    (case kS5s2 => k_is)
    (case kS5s3 => k_is)
    (case kS5s4 => k_is)
    (case kS5s5 => k_is)
    (case kS5s6 => k_is)
    (case kN => k_is)
    (case kT => k_is)
    (case kB0 => k_is)
    (case kB1 => k_is)
    (case kB2 => k_is)
    (case kB3 => k_is)
    (case kB4 => k_is)
    (case kB5 => k_is)
    (case kB6 => k_is)
    (case kD0 => k_is)
    (case kD1 => k_is)
    (case kD2 => k_is)
    (case kD3 => k_is)
    (case kD4 => k_is)
    (case kD5 => k_is)
    (case kD6 => k_is)
    (case kY0 => k_is)
    (case kY1 => k_is)
    (case kY2 => k_is)
    (case kY3 => k_is)
    (case kY4 => k_is)
    (case kY5 => k_is)
    (case kY6 => k_is)
    (case z22 => k_is)
    (case z23 => k_is)
    (case z24 => k_is)
    (case z25 => k_is)
    (case z26 => k_is)
    (case z27 => k_is)
    (case z28 => k_is)
    (case z29 => k_is)
    (case z30 => k_is)
