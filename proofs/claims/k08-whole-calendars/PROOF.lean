import PyProof.Rows.All
import Wide.All
import OpenK.AllK
import Wide.FinOn
import HandS.Base
import HandS.Call
import HandS.List
import HandS.Comp
import HandS.Ends
import HandS.Dict
import HandS.Iter
import HandS.Text
import HandS.Exc
import HandS.TryOnly
import HandS.ExcOwn
import HandS.ExcValue
import HandS.IsInst
import HandS.Wide
import HandS.Words
import HandS.WordsList
import HandS.WordsDict
import HandS.WordsExc
import HandS.Style
import HandS.Deep
import HandS.ExcIs
import KE.DataFind
import HandS.Strs
import HandS.More
import HandS.SortRule
import HandS.Conv
import HandS.DictTup
import KE.KDictDisplayH
import HandS.TupSets
import HandS.SortOrd
import HandS.CallSlots
import HandS.SlotsOwn
import HandS.SetFor
import PySem.Challenge.RW_samedays_k08_whole_calendars
set_option Elab.async false
set_option linter.all false
set_option maxRecDepth 100000
set_option maxHeartbeats 16000000
/-! data over the layer: what a value stands for, what is owned, judgements over data -/
namespace Sd
open PySem PySem.Spec PyProof.Rows L2

mutual
inductive Rep (H : Hp) : V → PyData → Prop
  | non : Rep H .non .none
  | bl (b : Bool) : Rep H (.bl b) (.bool b)
  | int (i : Int) : Rep H (.int i) (.int i)
  | str (x : Str) : Rep H (.str x) (.str x)
  | lst {a : Addr} {xs : List V} {ds : List PyData} : H a = some (.lst xs) → Reps H xs ds → Rep H (.ref a) (.list ds)
  | tup {a : Addr} {xs : List V} {ds : List PyData} : H a = some (.tup xs) → Reps H xs ds → Rep H (.ref a) (.tuple ds)
inductive Reps (H : Hp) : List V → List PyData → Prop
  | nil : Reps H [] []
  | cons {v : V} {vs : List V} {d : PyData} {ds : List PyData} : Rep H v d → Reps H vs ds → Reps H (v :: vs) (d :: ds)
end
section
variable {H H' : Hp} {K : PySem.W.Frag}
theorem Rep.mono (e : Same H H') {v : V} {d : PyData} (h : Rep H v d) : Rep H' v d :=
  Rep.rec (motive_1 := fun v d _ => Rep H' v d) (motive_2 := fun vs ds _ => Reps H' vs ds) .non .bl .int .str (fun h _ r => .lst (e _ _ h) r) (fun h _ r => .tup (e _ _ h) r) .nil (fun _ _ a b => .cons a b) h
theorem Reps.mono (e : Same H H') {v : List V} {d : List PyData} (h : Reps H v d) : Reps H' v d :=
  Reps.rec (motive_1 := fun v d _ => Rep H' v d) (motive_2 := fun vs ds _ => Reps H' vs ds) .non .bl .int .str (fun h _ r => .lst (e _ _ h) r) (fun h _ r => .tup (e _ _ h) r) .nil (fun _ _ a b => .cons a b) h
theorem Rep.dp {v : V} {d : PyData} (h : Rep H v d) : Dp K H v d :=
  Rep.rec (motive_1 := fun v d _ => Dp K H v d) (motive_2 := fun vs ds _ => DpAll K H vs ds) .non .bl .int .str (fun h _ r => .lst (SqL.of h) r) (fun h _ r => .tup (SqT.of h) r) .nil (fun _ _ a b => .cons a b) h
theorem Reps.length : ∀ {vs : List V} {ds : List PyData}, Reps H vs ds → vs.length = ds.length
  | _, _, .nil => rfl
  | _, _, .cons _ r => congrArg (· + 1) r.length
theorem Reps.get : ∀ {vs : List V} {ds : List PyData} {i : Nat} {d : PyData}, Reps H vs ds → ds[i]? = some d → ∃ v, vs[i]? = some v ∧ Rep H v d
  | _, _, _, _, .nil, e => by simp at e
  | _, _, 0, _, .cons a _, e => by simp at e; subst e; exact ⟨_, rfl, a⟩
  | _, _, i + 1, d, .cons _ r, e => by
    obtain ⟨v, h1, h2⟩ := Reps.get (i := i) (d := d) r (by simpa using e)
    exact ⟨v, by simpa using h1, h2⟩
theorem Reps.append : ∀ {xs ys : List V} {us ws : List PyData}, Reps H xs us → Reps H ys ws → Reps H (xs ++ ys) (us ++ ws)
  | _, _, _, _, .nil, s => s
  | _, _, _, _, .cons r t, s => .cons r (Reps.append t s)
theorem Reps.take : ∀ {xs : List V} {us : List PyData} (n : Nat), Reps H xs us → Reps H (xs.take n) (us.take n)
  | _, _, 0, _ => .nil
  | _, _, _ + 1, .nil => .nil
  | _, _, n + 1, .cons r t => .cons r (Reps.take n t)
theorem Reps.drop : ∀ {xs : List V} {us : List PyData} (n : Nat), Reps H xs us → Reps H (xs.drop n) (us.drop n)
  | _, _, 0, r => r
  | _, _, _ + 1, .nil => .nil
  | _, _, n + 1, .cons _ t => Reps.drop n t
theorem Reps.set {x : V} {u : PyData} (r : Rep H x u) : ∀ {xs : List V} {us : List PyData} (i : Nat), Reps H xs us → Reps H (xs.set i x) (us.set i u)
  | _, _, _, .nil => .nil
  | _, _, 0, .cons _ t => .cons r t
  | _, _, i + 1, .cons q t => .cons q (Reps.set r i t)
theorem Reps.ints : ∀ (ns : List Int), Reps H (ns.map V.int) (ns.map PyData.int)
  | [] => .nil
  | n :: r => .cons (.int n) (Reps.ints r)
theorem Reps.of_ints : ∀ {ns : List Int} {vs : List V}, Reps H vs (ns.map PyData.int) → vs = ns.map V.int
  | [], _, .nil => rfl
  | n :: r, _, .cons h t => by
    cases h
    rw [Reps.of_ints t]
    rfl
theorem Reps.of_bls : ∀ {ns : List Bool} {vs : List V}, Reps H vs (ns.map PyData.bool) → vs = ns.map V.bl
  | [], _, .nil => rfl
  | n :: r, _, .cons h t => by
    cases h
    rw [Reps.of_bls t]
    rfl
end

/-! ### weakest readings -/
section
variable {X : Cx}
structure wE (X : Cx) (e : Expr) (σ : L2.St) (H : Hp) (Q : VK) : Prop where
  run : ∀ (pins : List (Addr × Obj)) (s : Shared), Inv X pins σ H s → wpAny (model X.prog X.w) X.A (eval e X.env) (EP X pins σ Q) X.xe s
structure wT (X : Cx) (e : Expr) (σ : L2.St) (H : Hp) (Q : Bool → Hp → Prop) : Prop where
  run : ∀ (pins : List (Addr × Obj)) (s : Shared), Inv X pins σ H s → wpAny (model X.prog X.w) X.A (isTrue e X.env (eval e X.env)) (TP X pins σ Q) X.xe s
structure wW (X : Cx) (e : Expr) (σ : L2.St) (H : Hp) (Q : Bool → Hp → Prop) : Prop where
  run : ∀ (whole : Sem Value) (pins : List (Addr × Obj)) (s : Shared), Inv X pins σ H s → wpAny (model X.prog X.w) X.A (isTrue e X.env whole) (TP X pins σ Q) X.xe s
structure wA (X : Cx) (es : List Expr) (σ : L2.St) (H : Hp) (Q : List V → Hp → Prop) : Prop where
  run : ∀ (pos : Pos) (pins : List (Addr × Obj)) (s : Shared), Inv X pins σ H s → wpAny (model X.prog X.w) X.A (spliced (backTo pos (starEach es X.env))) (AP X pins σ Q) X.xe s
structure wS (X : Cx) (st : Stmt) (D : Ends) (σ : L2.St) (H : Hp) : Prop where
  run : ∀ (pins : List (Addr × Obj)) (s : Shared), Inv X pins σ H s → wpAny (model X.prog X.w) X.A (exec st X.env) (SP X pins D) X.xe s
structure wSs (X : Cx) (st : List Stmt) (D : Ends) (σ : L2.St) (H : Hp) : Prop where
  run : ∀ (pins : List (Addr × Obj)) (s : Shared), Inv X pins σ H s → wpAny (model X.prog X.w) X.A (execs st X.env) (SP X pins D) X.xe s
theorem peW {e : Expr} : PE X e (wE X e) := ⟨fun pins s _ _ _ I h => h.run pins s I⟩
theorem ptW {e : Expr} : PT X e (wT X e) := ⟨fun pins s _ _ _ I h => h.run pins s I⟩
theorem pwW {e : Expr} : PW X e (wW X e) := ⟨fun wh pins s _ _ _ I h => h.run wh pins s I⟩
theorem paW {es : List Expr} : PA X es (wA X es) := ⟨fun pos pins s _ _ _ I h => h.run pos pins s I⟩
theorem psW {st : Stmt} : PS X st (wS X st) := ⟨fun pins s _ _ _ I h => h.run pins s I⟩
theorem pssW {st : List Stmt} : PSs X st (wSs X st) := ⟨fun pins s _ _ _ I h => h.run pins s I⟩
theorem wE.of {e : Expr} {t : TE} (h : PE X e t) {σ : L2.St} {H : Hp} {Q : VK} (q : t σ H Q) : wE X e σ H Q := ⟨fun pins s I => h.run pins s σ H Q I q⟩
theorem wT.of {e : Expr} {t : TT} (h : PT X e t) {σ : L2.St} {H : Hp} {Q : Bool → Hp → Prop} (q : t σ H Q) : wT X e σ H Q := ⟨fun pins s I => h.run pins s σ H Q I q⟩
theorem wW.of {e : Expr} {t : TT} (h : PW X e t) {σ : L2.St} {H : Hp} {Q : Bool → Hp → Prop} (q : t σ H Q) : wW X e σ H Q := ⟨fun wh pins s I => h.run wh pins s σ H Q I q⟩
theorem wA.of {es : List Expr} {t : TA} (h : PA X es t) {σ : L2.St} {H : Hp} {Q : List V → Hp → Prop} (q : t σ H Q) : wA X es σ H Q := ⟨fun pos pins s I => h.run pos pins s σ H Q I q⟩
theorem wS.of {st : Stmt} {t : TS} (h : PS X st t) {σ : L2.St} {H : Hp} {D : Ends} (q : t D σ H) : wS X st D σ H := ⟨fun pins s I => h.run pins s σ H D I q⟩
theorem wSs.of {st : List Stmt} {t : TS} (h : PSs X st t) {σ : L2.St} {H : Hp} {D : Ends} (q : t D σ H) : wSs X st D σ H := ⟨fun pins s I => h.run pins s σ H D I q⟩
end

/-! ### what is known of the heap -/
inductive Slot where
  | un
  | d (x : PyData)
  | raw (v : V)
inductive OO where
  | lst (ds : List PyData)
  | raw (o : HO)
  | dt (tb : List (List Int × PyData))
  | dl (od : Obj) (kvs : List (List Key × V)) (tb : List (List Int × PyData))
  | dk (tb : List (Int × PyData))
abbrev Own := List (Addr × OO)
structure Bs where
  Hf : Hp
  HB : Hp
/-- a dict with tuples of ints as keys, as data -/
structure DtOk (Hf : Hp) (kvs : List (List Key × V)) (tb : List (List Int × PyData)) : Prop where
  ks : kvs.map (·.1) = tb.map fun e => e.1.map Sum.inl
  vs : Reps Hf (kvs.map (·.2)) (tb.map (·.2))
structure DkOk (Hf : Hp) (kvs : List (Key × V)) (tb : List (Int × PyData)) : Prop where
  ks : kvs.map (·.1) = tb.map fun e => Sum.inl e.1
  vs : Reps Hf (kvs.map (·.2)) (tb.map (·.2))
def OwnOk (Hf H : Hp) (p : Addr) : OO → Prop
  | .lst ds => ∃ vs, H p = some (.lst vs) ∧ Reps Hf vs ds
  | .raw o => H p = some o
  | .dt tb => ∃ kvs, H p = some (.dT kvs) ∧ DtOk Hf kvs tb
  | .dl od kvs tb => H p = some (.frz od (.dT kvs)) ∧ DtOk Hf kvs tb
  | .dk tb => ∃ kvs, H p = some (.dK kvs) ∧ DkOk Hf kvs tb
theorem OwnOk.mono {Hf Hf' H H' : Hp} {p : Addr} {o : OO} (e : Same Hf Hf') (h : ∀ u, H p = some u → H' p = some u) (x : OwnOk Hf H p o) : OwnOk Hf' H' p o := by
  cases o with
  | lst ds => obtain ⟨vs, h1, h2⟩ := x; exact ⟨vs, h _ h1, h2.mono e⟩
  | raw o => exact h _ x
  | dt tb => obtain ⟨vs, h1, h2⟩ := x; exact ⟨vs, h _ h1, h2.ks, h2.vs.mono e⟩
  | dl od kvs tb => obtain ⟨h1, h2⟩ := x; exact ⟨h _ h1, h2.ks, h2.vs.mono e⟩
  | dk tb => obtain ⟨vs, h1, h2⟩ := x; exact ⟨vs, h _ h1, h2.ks, h2.vs.mono e⟩
theorem OwnOk.there {Hf H : Hp} {p : Addr} {o : OO} (x : OwnOk Hf H p o) : ∃ u, H p = some u := by
  cases o with
  | lst ds => obtain ⟨vs, h1, h2⟩ := x; exact ⟨_, h1⟩
  | raw o => exact ⟨_, x⟩
  | dt tb => obtain ⟨vs, h1, h2⟩ := x; exact ⟨_, h1⟩
  | dl od kvs tb => obtain ⟨h1, h2⟩ := x; exact ⟨_, h1⟩
  | dk tb => obtain ⟨vs, h1, h2⟩ := x; exact ⟨_, h1⟩
structure Sat (B : Bs) (Hf H : Hp) (own : Own) : Prop where
  e0 : Same B.Hf Hf
  e1 : Same Hf H
  eb : Same B.HB H
  fr : ∀ p o, Hf p = some o → B.Hf p = none → B.HB p = none
  ow : ∀ q ∈ own, Hf q.1 = none ∧ B.HB q.1 = none ∧ OwnOk Hf H q.1 q.2
  nd : (own.map Prod.fst).Nodup
  tp : ∀ p xs, H p = some (.tup xs) → Hf p = some (.tup xs)
theorem same_upd {H H' : Hp} {p : Addr} {o : HO} (e : Same H H') (h : H p = none) : Same H (upd H' p o) := fun b x q => by
  rw [upd_ne (ne_of_none q h)]
  exact e b x q
theorem same_upd2 {H H' : Hp} {p : Addr} {o : HO} (e : Same H H') : Same (upd H p o) (upd H' p o) := fun b x q => by
  by_cases hb : b = p
  · subst hb; rw [upd_same] at q ⊢; exact q
  · rw [upd_ne hb] at q ⊢; exact e b x q
section
variable {B : Bs} {Hf H : Hp} {own : Own} {p : Addr}
theorem Sat.none_f (S : Sat B Hf H own) (n : H p = none) : Hf p = none := S.e1.free n
theorem Sat.none_b (S : Sat B Hf H own) (n : H p = none) : B.HB p = none := S.eb.free n
theorem Sat.none_0 (S : Sat B Hf H own) (n : H p = none) : B.Hf p = none := S.e0.free (S.e1.free n)
theorem Sat.ne (S : Sat B Hf H own) (n : H p = none) {q : Addr × OO} (hq : q ∈ own) : q.1 ≠ p := by
  obtain ⟨_, _, c⟩ := S.ow q hq
  obtain ⟨u, hu⟩ := c.there
  exact ne_of_none hu n
/-- a new thing that will not change -/
theorem Sat.new (S : Sat B Hf H own) (n : H p = none) (o : HO) : Sat B (upd Hf p o) (upd H p o) own where
  e0 := same_upd S.e0 (S.none_0 n)
  e1 := same_upd2 S.e1
  eb := same_upd S.eb (S.none_b n)
  fr := fun q u h hb => by
    by_cases e : q = p
    · rw [e]; exact S.none_b n
    · rw [upd_ne e] at h; exact S.fr q u h hb
  ow := fun q hq => by
    obtain ⟨a, b, c⟩ := S.ow q hq
    have ne := S.ne n hq
    exact ⟨by rw [upd_ne ne]; exact a, b, c.mono (same_upd (Same.refl _) (S.none_f n)) fun u hu => by rw [upd_ne ne]; exact hu⟩
  nd := S.nd
  tp := fun q xs h => by
    by_cases e : q = p
    · subst e; rw [upd_same] at h ⊢; exact h
    · rw [upd_ne e] at h ⊢; exact S.tp q xs h
theorem Sat.new_same (S : Sat B Hf H own) (n : H p = none) (o : HO) : Same Hf (upd Hf p o) := same_upd (Same.refl _) (S.none_f n)
/-- a new thing of one's own -/
theorem Sat.newOwn (S : Sat B Hf H own) (n : H p = none) {o : HO} {oo : OO} (ok : OwnOk Hf (upd H p o) p oo) (nt : ∀ xs, o ≠ .tup xs := by intro _ z; cases z) : Sat B Hf (upd H p o) ((p, oo) :: own) where
  e0 := S.e0
  e1 := same_upd S.e1 (S.none_f n)
  eb := same_upd S.eb (S.none_b n)
  fr := S.fr
  ow := fun q hq => by
    rcases List.mem_cons.mp hq with rfl | hq
    · exact ⟨S.none_f n, S.none_b n, ok⟩
    · obtain ⟨a, b, c⟩ := S.ow q hq
      have ne := S.ne n hq
      exact ⟨a, b, c.mono (Same.refl _) fun u hu => by rw [upd_ne ne]; exact hu⟩
  nd := by
    rw [List.map_cons, List.nodup_cons]
    refine ⟨fun hm => ?_, S.nd⟩
    obtain ⟨q, hq, e⟩ := List.mem_map.mp hm
    exact S.ne n hq e
  tp := fun q xs h => by
    by_cases e : q = p
    · subst e; rw [upd_same] at h; exact absurd (Option.some.inj h) (nt xs)
    · rw [upd_ne e] at h; exact S.tp q xs h
theorem Sat.at (S : Sat B Hf H own) {oo : OO} (h : (p, oo) ∈ own) : Hf p = none ∧ B.HB p = none ∧ OwnOk Hf H p oo := S.ow _ h
/-- a thing of one's own changes -/
theorem Sat.write {oa ob : Own} {oo oo' : OO} {o : HO} (S : Sat B Hf H (oa ++ (p, oo) :: ob)) (ok : OwnOk Hf (upd H p o) p oo') (nt : ∀ xs, o ≠ .tup xs := by intro _ z; cases z) : Sat B Hf (upd H p o) (oa ++ (p, oo') :: ob) := by
  obtain ⟨a, b, _⟩ := S.at (p := p) (oo := oo) (by simp)
  have nd := S.nd
  rw [List.map_append, List.map_cons] at nd
  refine ⟨S.e0, same_upd S.e1 a, same_upd S.eb b, S.fr, fun q hq => ?_, by rw [List.map_append, List.map_cons]; exact nd, fun q xs h => ?_⟩
  rotate_left
  · by_cases e : q = p
    · subst e; rw [upd_same] at h; exact absurd (Option.some.inj h) (nt xs)
    · rw [upd_ne e] at h; exact S.tp q xs h
  have key : q ∈ oa ∨ q ∈ ob → Hf q.1 = none ∧ B.HB q.1 = none ∧ OwnOk Hf (upd H p o) q.1 q.2 := fun hq => by
    have hm : q ∈ oa ++ (p, oo) :: ob := by
      rcases hq with h | h
      · exact List.mem_append_left _ h
      · exact List.mem_append_right _ (List.mem_cons_of_mem _ h)
    obtain ⟨a', b', c'⟩ := S.ow q hm
    have ne : q.1 ≠ p := fun e => by
      rcases hq with h | h
      · exact (List.nodup_append.mp nd).2.2 q.1 (List.mem_map.mpr ⟨q, h, rfl⟩) p (List.mem_cons_self) e
      · have := (List.nodup_cons.mp (List.nodup_append.mp nd).2.1).1
        exact this (List.mem_map.mpr ⟨q, h, e⟩)
    exact ⟨a', b', c'.mono (Same.refl _) fun u hu => by rw [upd_ne ne]; exact hu⟩
  rcases List.mem_append.mp hq with h | h
  · exact key (.inl h)
  · rcases List.mem_cons.mp h with rfl | h
    · exact ⟨a, b, ok⟩
    · exact key (.inr h)
/-- a list of one's own will not change any more -/
theorem Sat.freeze {oa ob : Own} {ds : List PyData} (S : Sat B Hf H (oa ++ (p, .lst ds) :: ob)) : ∃ Hf', Same Hf Hf' ∧ Sat B Hf' H (oa ++ ob) ∧ Rep Hf' (.ref p) (.list ds) := by
  obtain ⟨a, b, vs, hp, hr⟩ := S.at (p := p) (oo := .lst ds) (by simp)
  have nd := S.nd
  rw [List.map_append, List.map_cons] at nd
  have sm : Same Hf (upd Hf p (.lst vs)) := same_upd (Same.refl _) a
  refine ⟨upd Hf p (.lst vs), sm, ⟨S.e0.trans sm, fun q u h => ?_, S.eb, fun q u h hb => ?_, fun q hq => ?_, ?_, fun q xs h => sm _ _ (S.tp q xs h)⟩, .lst upd_same (hr.mono sm)⟩
  · by_cases e : q = p
    · subst e; rw [upd_same] at h; rw [hp]; exact h
    · rw [upd_ne e] at h; exact S.e1 q u h
  · by_cases e : q = p
    · subst e; exact b
    · rw [upd_ne e] at h; exact S.fr q u h hb
  · have hm : q ∈ oa ++ (p, .lst ds) :: ob := by
      rcases List.mem_append.mp hq with h | h
      · exact List.mem_append_left _ h
      · exact List.mem_append_right _ (List.mem_cons_of_mem _ h)
    obtain ⟨a', b', c'⟩ := S.ow q hm
    have ne : q.1 ≠ p := fun e => by
      rcases List.mem_append.mp hq with h | h
      · exact (List.nodup_append.mp nd).2.2 q.1 (List.mem_map.mpr ⟨q, h, rfl⟩) p (List.mem_cons_self) e
      · have := (List.nodup_cons.mp (List.nodup_append.mp nd).2.1).1
        exact this (List.mem_map.mpr ⟨q, h, e⟩)
    exact ⟨by rw [upd_ne ne]; exact a', b', c'.mono sm fun u hu => hu⟩
  · rw [List.map_append]
    refine List.nodup_append.mpr ⟨(List.nodup_append.mp nd).1, (List.nodup_cons.mp (List.nodup_append.mp nd).2.1).2, fun x hx y hy => (List.nodup_append.mp nd).2.2 x hx y (List.mem_cons_of_mem _ hy)⟩
/-- forget a thing of one's own -/
theorem Sat.drop {oa ob : Own} {oo : OO} (S : Sat B Hf H (oa ++ (p, oo) :: ob)) : Sat B Hf H (oa ++ ob) := by
  have nd := S.nd
  rw [List.map_append, List.map_cons] at nd
  refine ⟨S.e0, S.e1, S.eb, S.fr, fun q hq => S.ow q ?_, ?_, S.tp⟩
  · rcases List.mem_append.mp hq with h | h
    · exact List.mem_append_left _ h
    · exact List.mem_append_right _ (List.mem_cons_of_mem _ h)
  · rw [List.map_append]
    refine List.nodup_append.mpr ⟨(List.nodup_append.mp nd).1, (List.nodup_cons.mp (List.nodup_append.mp nd).2.1).2, fun x hx y hy => (List.nodup_append.mp nd).2.2 x hx y (List.mem_cons_of_mem _ hy)⟩
end

/-! ### slots -/
def SlotR (Hf : Hp) (v : V) : Slot → Prop
  | .un => True
  | .d x => Rep Hf v x
  | .raw w => v = w
theorem SlotR.mono {Hf Hf' : Hp} (e : Same Hf Hf') {v : V} {s : Slot} (h : SlotR Hf v s) : SlotR Hf' v s := by
  cases s with
  | un => trivial
  | d x => exact Rep.mono e h
  | raw w => exact h
structure EnvR (Hf : Hp) (σ : L2.St) (ρ : List Slot) : Prop where
  len : σ.length = ρ.length
  at_ : ∀ (i : Nat) (s : Slot), ρ[i]? = some s → s = .un ∨ ∃ v, σ[i]? = some (some v) ∧ SlotR Hf v s
section
variable {Hf Hf' : Hp} {σ : L2.St} {ρ : List Slot}
theorem EnvR.mono (e : Same Hf Hf') (h : EnvR Hf σ ρ) : EnvR Hf' σ ρ := ⟨h.len, fun i s q => by
  rcases h.at_ i s q with z | ⟨v, z, r⟩
  · exact .inl z
  · exact .inr ⟨v, z, r.mono e⟩⟩
theorem EnvR.set (h : EnvR Hf σ ρ) {v : V} {s : Slot} (r : SlotR Hf v s) (i : Nat) : EnvR Hf (σ.set i (some v)) (ρ.set i s) := by
  refine ⟨by rw [List.length_set, List.length_set]; exact h.len, fun j t q => ?_⟩
  by_cases e : i = j
  · subst e
    by_cases hi : i < ρ.length
    · rw [List.getElem?_set_self hi] at q
      cases q
      exact .inr ⟨v, by rw [List.getElem?_set_self (by rw [h.len]; exact hi)], r⟩
    · rw [List.getElem?_eq_none (by simpa using hi)] at q
      cases q
  · rw [List.getElem?_set_ne e] at q
    rcases h.at_ j t q with z | ⟨w, z, r'⟩
    · exact .inl z
    · exact .inr ⟨w, by rw [List.getElem?_set_ne e]; exact z, r'⟩
theorem EnvR.unset (h : EnvR Hf σ ρ) (i : Nat) (o : Option V) : EnvR Hf (σ.set i o) (ρ.set i .un) := by
  refine ⟨by rw [List.length_set, List.length_set]; exact h.len, fun j t q => ?_⟩
  by_cases e : i = j
  · subst e
    by_cases hi : i < ρ.length
    · rw [List.getElem?_set_self hi] at q
      cases q
      exact .inl rfl
    · rw [List.getElem?_eq_none (by simpa using hi)] at q
      cases q
  · rw [List.getElem?_set_ne e] at q
    rcases h.at_ j t q with z | ⟨w, z, r'⟩
    · exact .inl z
    · exact .inr ⟨w, by rw [List.getElem?_set_ne e]; exact z, r'⟩
theorem EnvR.d (h : EnvR Hf σ ρ) {i : Nat} {x : PyData} (e : ρ[i]? = some (.d x)) : ∃ v, σ[i]? = some (some v) ∧ Rep Hf v x := by
  rcases h.at_ i _ e with z | z
  · cases z
  · exact z
theorem EnvR.raw (h : EnvR Hf σ ρ) {i : Nat} {w : V} (e : ρ[i]? = some (.raw w)) : σ[i]? = some (some w) := by
  rcases h.at_ i _ e with z | ⟨v, z, r⟩
  · cases z
  · rw [z, show v = w from r]
def wipeR (ρ : List Slot) : List Nat → List Slot
  | [] => ρ
  | v :: vs => (wipeR ρ vs).set v .un
theorem EnvR.wipe (h : EnvR Hf σ ρ) : ∀ is : List Nat, EnvR Hf (wipe σ is) (wipeR ρ is)
  | [] => h
  | i :: is => (EnvR.wipe h is).unset i none
end

/-! ### judgements over data -/
structure Ctx where
  X : Cx
  B : Bs
  ex : Addr → List Slot → Own → Prop
def Wish (Z : Ctx) : WX := fun cls d σ H => ∃ C Hf ρ own, cls = .ref C ∧ d = none ∧ Sat Z.B Hf H own ∧ EnvR Hf σ ρ ∧ Z.ex C ρ own
structure Gd (Z : Ctx) (k : Nat) : Prop where
  tk : Takes Z.X (Wish Z)
  po : PassesOwn (model Z.X.prog Z.X.w) Z.X.A Z.X.env Z.X.xe
  calm : Z.X.calm = true
  nd : Z.X.N.Nodup
  hr : Room k Z.X.A
theorem Gd.mono {Z : Ctx} {j k : Nat} (g : Gd Z k) (h : j ≤ k) : Gd Z j := ⟨g.tk, g.po, g.calm, g.nd, g.hr.mono h⟩
/-- e evaluates to what s says -/
def ES (Z : Ctx) (e : Expr) (ρ : List Slot) (own : Own) (s : Slot) : Prop := ∀ Hf σ H, Sat Z.B Hf H own → EnvR Hf σ ρ → ∀ Q : VK, (∀ v Hf' H', Same Hf Hf' → Sat Z.B Hf' H' own → SlotR Hf' v s → Q v H') → wE Z.X e σ H Q
abbrev ED (Z : Ctx) (e : Expr) (ρ : List Slot) (own : Own) (x : PyData) : Prop := ES Z e ρ own (.d x)
abbrev EV (Z : Ctx) (e : Expr) (ρ : List Slot) (own : Own) (v : V) : Prop := ES Z e ρ own (.raw v)
/-- a new list of one's own -/
def EL (Z : Ctx) (e : Expr) (ρ : List Slot) (own : Own) (ds : List PyData) : Prop := ∀ Hf σ H, Sat Z.B Hf H own → EnvR Hf σ ρ → ∀ Q : VK, (∀ p Hf' H', Same Hf Hf' → Sat Z.B Hf' H' ((p, .lst ds) :: own) → Q (.ref p) H') → wE Z.X e σ H Q
def ET (Z : Ctx) (e : Expr) (ρ : List Slot) (own : Own) (b : Bool) : Prop := ∀ Hf σ H, Sat Z.B Hf H own → EnvR Hf σ ρ → ∀ Q : Bool → Hp → Prop, (∀ Hf' H', Same Hf Hf' → Sat Z.B Hf' H' own → Q b H') → wT Z.X e σ H Q
def EW (Z : Ctx) (e : Expr) (ρ : List Slot) (own : Own) (b : Bool) : Prop := ∀ Hf σ H, Sat Z.B Hf H own → EnvR Hf σ ρ → ∀ Q : Bool → Hp → Prop, (∀ Hf' H', Same Hf Hf' → Sat Z.B Hf' H' own → Q b H') → wW Z.X e σ H Q
inductive SlotsR (Hf : Hp) : List V → List Slot → Prop
  | nil : SlotsR Hf [] []
  | cons {v : V} {vs : List V} {s : Slot} {ss : List Slot} : SlotR Hf v s → SlotsR Hf vs ss → SlotsR Hf (v :: vs) (s :: ss)
theorem SlotsR.mono {Hf Hf' : Hp} (e : Same Hf Hf') : ∀ {vs : List V} {ss : List Slot}, SlotsR Hf vs ss → SlotsR Hf' vs ss
  | _, _, .nil => .nil
  | _, _, .cons a b => .cons (a.mono e) (b.mono e)
theorem SlotsR.length {Hf : Hp} : ∀ {vs : List V} {ss : List Slot}, SlotsR Hf vs ss → vs.length = ss.length
  | _, _, .nil => rfl
  | _, _, .cons _ r => congrArg (· + 1) r.length
theorem SlotsR.data {Hf : Hp} : ∀ {vs : List V} {ds : List PyData}, SlotsR Hf vs (ds.map Slot.d) → Reps Hf vs ds
  | _, [], .nil => .nil
  | _, _ :: _, .cons a b => .cons a b.data
def EA (Z : Ctx) (es : List Expr) (ρ : List Slot) (own : Own) (ss : List Slot) : Prop := ∀ Hf σ H, Sat Z.B Hf H own → EnvR Hf σ ρ → ∀ Q : List V → Hp → Prop, (∀ vs Hf' H', Same Hf Hf' → Sat Z.B Hf' H' own → SlotsR Hf' vs ss → Q vs H') → wA Z.X es σ H Q

section
variable {Z : Ctx} {e a b c : Expr} {ρ : List Slot} {own : Own} {pos : Pos} {x y : PyData} {i j : Int} {s t : Slot} {k : Nat}
theorem ES.is (h : ED Z e ρ own x) (q : x = y) : ED Z e ρ own y := q ▸ h
theorem ET.is {b b' : Bool} (h : ET Z e ρ own b) (q : b = b') : ET Z e ρ own b' := q ▸ h
theorem EL.is {xs ys : List PyData} (h : EL Z e ρ own xs) (q : xs = ys) : EL Z e ρ own ys := q ▸ h
/-- a new list is data -/
theorem EL.ed {ds : List PyData} (h : EL Z e ρ own ds) : ED Z e ρ own (.list ds) := fun Hf σ H S R Q q => h Hf σ H S R Q fun p Hf' H' m S' => by
  obtain ⟨Hf2, m2, S2, r⟩ := Sat.freeze (oa := []) S'
  exact q _ Hf2 H' (m.trans m2) S2 r
/-! names, constants -/
theorem es_v (n : Nat) {z : Str} {s : Slot} (he : ρ[n]? = some s) (hs : s ≠ .un) (hN : Z.X.N[n]? = some z := by rfl) (hv : Vis Z.X.env.scope z := by first | exact Or.inl rfl | exact Or.inr (Or.inl rfl) | exact Or.inr (Or.inr rfl)) (hd : (z == ("__debug__" : Str)) = false := by decide)
    (hcd : (z == ("__classdict__" : Str)) = false := by decide) : ES Z (.Name z pos) ρ own s := fun Hf σ H S R Q q => wE.of (pe_var hN hv hd hcd) (by
  rcases R.at_ n s he with z | ⟨v, e, r⟩
  · exact absurd z hs
  · exact ⟨v, e, q v Hf H (Same.refl _) S r⟩)
theorem ed_v (n : Nat) {z : Str} {x : PyData} (he : ρ[n]? = some (.d x) := by rfl) (hN : Z.X.N[n]? = some z := by rfl) (hv : Vis Z.X.env.scope z := by first | exact Or.inl rfl | exact Or.inr (Or.inl rfl) | exact Or.inr (Or.inr rfl)) (hd : (z == ("__debug__" : Str)) = false := by decide)
    (hcd : (z == ("__classdict__" : Str)) = false := by decide) : ED Z (.Name z pos) ρ own x := es_v n he (fun q => nomatch q) hN hv hd hcd
theorem ev_v (n : Nat) {z : Str} {x : V} (he : ρ[n]? = some (.raw x) := by rfl) (hN : Z.X.N[n]? = some z := by rfl) (hv : Vis Z.X.env.scope z := by first | exact Or.inl rfl | exact Or.inr (Or.inl rfl) | exact Or.inr (Or.inr rfl)) (hd : (z == ("__debug__" : Str)) = false := by decide)
    (hcd : (z == ("__classdict__" : Str)) = false := by decide) : EV Z (.Name z pos) ρ own x := es_v n he (fun q => nomatch q) hN hv hd hcd
theorem ed_int {j : Nat} {i : Int} : ED Z (.Constant (.int i) j pos) ρ own (.int i) := fun Hf σ H S R Q q => wE.of pe_int (q _ Hf H (Same.refl _) S (.int i))
theorem ed_bl {j : Nat} {b : Bool} : ED Z (.Constant (.bool b) j pos) ρ own (.bool b) := fun Hf σ H S R Q q => wE.of pe_bl (q _ Hf H (Same.refl _) S (.bl b))
theorem ed_non {j : Nat} : ED Z (.Constant .none j pos) ρ own .none := fun Hf σ H S R Q q => wE.of pe_non (q _ Hf H (Same.refl _) S .non)
theorem ed_str {j : Nat} {z : Str} : ED Z (.Constant (.str z) j pos) ρ own (.str z) := fun Hf σ H S R Q q => wE.of pe_str (q _ Hf H (Same.refl _) S (.str z))
theorem ev_glob {z : Str} {C : Addr} (hg : Gl Z.X z) (hm : Z.X.mg z = some (.ref C)) (hd : (z == ("__debug__" : Str)) = false := by decide) : EV Z (.Name z pos) ρ own (.ref C) := fun Hf σ H S R Q q => wE.of (pe_glob hg hm (v := .ref C) rfl hd) (q _ Hf H (Same.refl _) S rfl)
theorem ev_ty {z : Str} {T : String} (hg : Gl Z.X z) (hm : Z.X.mg z = none) (hv : bootBuiltins z = some (.type T)) (hn : z ≠ "__name__" := by decide) (hd : (z == ("__debug__" : Str)) = false := by decide) : EV Z (.Name z pos) ρ own (.ty T) := fun Hf σ H S R Q q => wE.of (pe_bltn hg hm hv (v := .ty T) rfl hn hd) (q _ Hf H (Same.refl _) S rfl)

end
end Sd


namespace Sd
open PySem PySem.Spec PyProof.Rows L2
section
variable {Z : Ctx} {e a b c : Expr} {es : List Expr} {ρ : List Slot} {own : Own} {pos : Pos} {x y : PyData} {i j : Int} {s t u : Slot} {k : Nat}
theorem es_bin {op : Operator} {r : R2} {u : Slot} (ho : OpR Z.X (binaryOp op) r) (ha : ES Z a ρ own s) (hb : ES Z b ρ own t)
    (hr : ∀ v w Hf H, Sat Z.B Hf H own → SlotR Hf v s → SlotR Hf w t → ∀ Q : VK, (∀ z Hf' H', Same Hf Hf' → Sat Z.B Hf' H' own → SlotR Hf' z u → Q z H') → r v w H Q) : ES Z (.BinOp a op b pos) ρ own u := fun Hf σ H S R Q q =>
  wE.of (pe_op ho peW peW) (ha Hf σ H S R _ fun v Hf1 H1 m1 S1 r1 => hb Hf1 σ H1 S1 (R.mono m1) _ fun w Hf2 H2 m2 S2 r2 => hr v w Hf2 H2 S2 (r1.mono m2) r2 Q fun z Hf3 H3 m3 S3 r3 => q z Hf3 H3 ((m1.trans m2).trans m3) S3 r3)
theorem el_bin {op : Operator} {r : R2} {ds : List PyData} (ho : OpR Z.X (binaryOp op) r) (ha : ES Z a ρ own s) (hb : ES Z b ρ own t)
    (hr : ∀ v w Hf H, Sat Z.B Hf H own → SlotR Hf v s → SlotR Hf w t → ∀ Q : VK, (∀ p Hf' H', Same Hf Hf' → Sat Z.B Hf' H' ((p, .lst ds) :: own) → Q (.ref p) H') → r v w H Q) : EL Z (.BinOp a op b pos) ρ own ds := fun Hf σ H S R Q q =>
  wE.of (pe_op ho peW peW) (ha Hf σ H S R _ fun v Hf1 H1 m1 S1 r1 => hb Hf1 σ H1 S1 (R.mono m1) _ fun w Hf2 H2 m2 S2 r2 => hr v w Hf2 H2 S2 (r1.mono m2) r2 Q fun z Hf3 H3 m3 S3 => q z Hf3 H3 ((m1.trans m2).trans m3) S3)
theorem ed_add (ha : ED Z a ρ own (.int i)) (hb : ED Z b ρ own (.int j)) : ED Z (.BinOp a .Add b pos) ρ own (.int (i + j)) := es_bin op_add ha hb fun v w Hf H S r1 r2 Q q => by
  cases r1; cases r2
  exact ⟨i, j, rfl, rfl, q _ Hf H (Same.refl _) S (.int _)⟩
theorem ed_sub (ha : ED Z a ρ own (.int i)) (hb : ED Z b ρ own (.int j)) : ED Z (.BinOp a .Sub b pos) ρ own (.int (i - j)) := es_bin op_sub ha hb fun v w Hf H S r1 r2 Q q => by
  cases r1; cases r2
  exact ⟨i, j, rfl, rfl, q _ Hf H (Same.refl _) S (.int _)⟩
theorem ed_mulS (ha : ED Z a ρ own (.int i)) (hb : ED Z b ρ own (.int j)) (h : CMul i j) : ED Z (.BinOp a .Mult b pos) ρ own (.int (i * j)) := es_bin op_mul ha hb fun v w Hf H S r1 r2 Q q => by
  cases r1; cases r2
  exact ⟨i, j, rfl, rfl, h, q _ Hf H (Same.refl _) S (.int _)⟩
theorem ed_fdiv (ha : ED Z a ρ own (.int i)) (hb : ED Z b ρ own (.int j)) (h : CDivW i j) : ED Z (.BinOp a .FloorDiv b pos) ρ own (.int (i / j)) := es_bin op_fdivW ha hb fun v w Hf H S r1 r2 Q q => by
  cases r1; cases r2
  exact ⟨i, j, rfl, rfl, h, q _ Hf H (Same.refl _) S (.int _)⟩
theorem ed_fdivS (ha : ED Z a ρ own (.int i)) (hb : ED Z b ρ own (.int j)) (h : 0 < j ∧ j < 1073741824) : ED Z (.BinOp a .FloorDiv b pos) ρ own (.int (i / j)) := es_bin op_fdiv ha hb fun v w Hf H S r1 r2 Q q => by
  cases r1; cases r2
  exact ⟨i, j, rfl, rfl, h, q _ Hf H (Same.refl _) S (.int _)⟩
theorem ed_mod (ha : ED Z a ρ own (.int i)) (hb : ED Z b ρ own (.int j)) (h : 0 < j) : ED Z (.BinOp a .Mod b pos) ρ own (.int (i % j)) := es_bin op_mod ha hb fun v w Hf H S r1 r2 Q q => by
  cases r1; cases r2
  exact ⟨i, j, rfl, rfl, h, q _ Hf H (Same.refl _) S (.int _)⟩
theorem ed_pow (ha : ED Z a ρ own (.int i)) (hb : ED Z b ρ own (.int j)) (h : CPow i j) : ED Z (.BinOp a .Pow b pos) ρ own (.int (i ^ j.toNat)) := es_bin op_pow ha hb fun v w Hf H S r1 r2 Q q => by
  cases r1; cases r2
  exact ⟨i, j, rfl, rfl, h, q _ Hf H (Same.refl _) S (.int _)⟩
theorem ed_neg (ha : ED Z a ρ own (.int i)) : ED Z (.UnaryOp .USub a pos) ρ own (.int (-i)) := fun Hf σ H S R Q q =>
  wE.of (pe_un un_neg peW) (ha Hf σ H S R _ fun v Hf1 H1 m1 S1 r1 => by
    cases r1
    exact ⟨i, rfl, q _ Hf1 H1 m1 S1 (.int _)⟩)
def Lst (own : Own) (s : Slot) (ds : List PyData) : Prop := s = .d (.list ds) ∨ ∃ p, s = .raw (.ref p) ∧ (p, OO.lst ds) ∈ own
theorem Lst.d {ds : List PyData} : Lst own (.d (.list ds)) ds := .inl rfl
theorem Lst.o {p : Addr} {ds : List PyData} (h : (p, OO.lst ds) ∈ own) : Lst own (.raw (.ref p)) ds := .inr ⟨p, rfl, h⟩
theorem Lst.at {B : Bs} {Hf H : Hp} {ds : List PyData} {v : V} (L : Lst own s ds) (S : Sat B Hf H own) (r : SlotR Hf v s) : ∃ p vs, v = .ref p ∧ H p = some (.lst vs) ∧ Reps Hf vs ds := by
  rcases L with rfl | ⟨p, rfl, h⟩
  · cases r with
    | lst h1 h2 => exact ⟨_, _, rfl, S.e1 _ _ h1, h2⟩
  · obtain ⟨_, _, vs, h1, h2⟩ := S.at h
    exact ⟨p, vs, r, h1, h2⟩
/-- a + b of lists -/
theorem el_cat {xs ys : List PyData} (ha : ES Z a ρ own s) (hb : ES Z b ρ own t) (l1 : Lst own s xs) (l2 : Lst own t ys) (h : xs.length + ys.length ≤ 100000) : EL Z (.BinOp a .Add b pos) ρ own (xs ++ ys) := el_bin op_cat ha hb fun v w Hf H S r1 r2 Q q => by
  obtain ⟨p, vs, rfl, h1, g1⟩ := l1.at S r1
  obtain ⟨p', vs', rfl, h2, g2⟩ := l2.at S r2
  have e1 := g1.length
  have e2 := g2.length
  refine ⟨p, p', vs, vs', rfl, rfl, h1, h2, Nat.le_trans (by omega : _ ≤ 100000) (by decide), fun l hl => q l Hf _ (Same.refl _) (S.newOwn hl ⟨_, upd_same, g1.append g2⟩)⟩
theorem es_cmp {op : CmpOp} {r : R2} {u : Slot} (ho : OpR Z.X (compareOp op) r) (hm : behindInMarks op b = false) (ha : ES Z a ρ own s) (hb : ES Z b ρ own t)
    (hr : ∀ v w Hf H, Sat Z.B Hf H own → SlotR Hf v s → SlotR Hf w t → ∀ Q : VK, (∀ z Hf' H', Same Hf Hf' → Sat Z.B Hf' H' own → SlotR Hf' z u → Q z H') → r v w H Q) : ES Z (.Compare a [op] [b] pos) ρ own u := fun Hf σ H S R Q q =>
  wE.of (pe_cmpR ho peW peW hm) (ha Hf σ H S R _ fun v Hf1 H1 m1 S1 r1 => hb Hf1 σ H1 S1 (R.mono m1) _ fun w Hf2 H2 m2 S2 r2 => hr v w Hf2 H2 S2 (r1.mono m2) r2 Q fun z Hf3 H3 m3 S3 r3 => q z Hf3 H3 ((m1.trans m2).trans m3) S3 r3)
/-- a comparison that is a bool: as a value and as a test -/
def CmpB (Z : Ctx) (op : CmpOp) (own : Own) (s t : Slot) (k : Bool) : Prop := ∃ r : R2, OpR Z.X (compareOp op) r ∧ ∀ v w Hf H, Sat Z.B Hf H own → SlotR Hf v s → SlotR Hf w t → ∀ Q : VK, Q (.bl k) H → r v w H Q
theorem ed_cmp {op : CmpOp} {k : Bool} (hc : CmpB Z op own s t k) (ha : ES Z a ρ own s) (hb : ES Z b ρ own t) (hm : behindInMarks op b = false := by first | exact nomark _ | rfl) : ED Z (.Compare a [op] [b] pos) ρ own (.bool k) := by
  obtain ⟨r, ho, hr⟩ := hc
  exact es_cmp ho hm ha hb fun v w Hf H S r1 r2 Q q => hr v w Hf H S r1 r2 Q (q _ Hf H (Same.refl _) S (.bl k))
theorem et_cmp {op : CmpOp} {k : Bool} (hc : CmpB Z op own s t k) (ha : ES Z a ρ own s) (hb : ES Z b ρ own t) (hm : behindInMarks op b = false := by first | exact nomark _ | rfl) : ET Z (.Compare a [op] [b] pos) ρ own k := by
  obtain ⟨r, ho, hr⟩ := hc
  exact fun Hf σ H S R Q q => wT.of (pt_cmpR ho peW peW hm) (ha Hf σ H S R _ fun v Hf1 H1 m1 S1 r1 => hb Hf1 σ H1 S1 (R.mono m1) _ fun w Hf2 H2 m2 S2 r2 => hr v w Hf2 H2 S2 (r1.mono m2) r2 _ ⟨k, rfl, q Hf2 H2 (m1.trans m2) S2⟩)
theorem c_le : CmpB Z .LtE own (.d (.int i)) (.d (.int j)) (decide (i ≤ j)) := ⟨_, op_le, fun v w Hf H S r1 r2 Q q => by cases r1; cases r2; exact ⟨i, j, rfl, rfl, q⟩⟩
theorem c_gt : CmpB Z .Gt own (.d (.int i)) (.d (.int j)) (decide (j < i)) := ⟨_, op_gt, fun v w Hf H S r1 r2 Q q => by cases r1; cases r2; exact ⟨i, j, rfl, rfl, q⟩⟩
theorem c_ge : CmpB Z .GtE own (.d (.int i)) (.d (.int j)) (decide (j ≤ i)) := ⟨_, op_ge, fun v w Hf H S r1 r2 Q q => by cases r1; cases r2; exact ⟨i, j, rfl, rfl, q⟩⟩
theorem c_eqI : CmpB Z .Eq own (.d (.int i)) (.d (.int j)) (decide (i = j)) := ⟨_, op_eq, fun v w Hf H S r1 r2 Q q => by
  cases r1; cases r2
  refine ⟨rfl, ?_⟩
  rw [dec_int, Bool.beq_eq_decide_eq]
  exact q⟩
theorem c_neI : CmpB Z .NotEq own (.d (.int i)) (.d (.int j)) (!decide (i = j)) := ⟨_, op_ne, fun v w Hf H S r1 r2 Q q => by
  cases r1; cases r2
  refine ⟨rfl, ?_⟩
  rw [dec_int, Bool.beq_eq_decide_eq]
  exact q⟩
theorem c_eqS {z w : Str} : CmpB Z .Eq own (.d (.str z)) (.d (.str w)) (decide (z = w)) := ⟨_, op_eq, fun v w Hf H S r1 r2 Q q => by
  cases r1; cases r2
  refine ⟨rfl, ?_⟩
  rw [dec_str, Bool.beq_eq_decide_eq]
  exact q⟩
theorem c_neS {z w : Str} : CmpB Z .NotEq own (.d (.str z)) (.d (.str w)) (!decide (z = w)) := ⟨_, op_ne, fun v w Hf H S r1 r2 Q q => by
  cases r1; cases r2
  refine ⟨rfl, ?_⟩
  rw [dec_str, Bool.beq_eq_decide_eq]
  exact q⟩
/-- data, or a list of one's own, as data -/
def Dat (own : Own) (s : Slot) (x : PyData) : Prop := s = .d x ∨ ∃ ds, x = .list ds ∧ Lst own s ds
theorem Dat.at {B : Bs} {Hf H : Hp} {v : V} (L : Dat own s x) (S : Sat B Hf H own) (r : SlotR Hf v s) : Rep H v x := by
  rcases L with rfl | ⟨ds, rfl, L⟩
  · exact Rep.mono S.e1 r
  · obtain ⟨p, vs, rfl, h1, h2⟩ := L.at S r
    exact .lst h1 (h2.mono S.e1)
theorem Dat.d : Dat own (.d x) x := .inl rfl
theorem Dat.o {p : Addr} {ds : List PyData} (h : (p, OO.lst ds) ∈ own) : Dat own (.raw (.ref p)) (.list ds) := .inr ⟨ds, rfl, .o h⟩
theorem c_eq (g : Gd Z k) (d1 : Dat own s x) (d2 : Dat own t y) (h1 : SeqAt.shaped x = true) (h2 : SeqAt.shaped y = true) : CmpB Z .Eq own s t (PyData.eqv x y) := ⟨_, op_eqD g.hr.units, fun v w Hf H S r1 r2 Q q => ⟨x, y, (d1.at S r1).dp, (d2.at S r2).dp, h1, h2, q⟩⟩
theorem c_ne (g : Gd Z k) (d1 : Dat own s x) (d2 : Dat own t y) (h1 : SeqAt.shaped x = true) (h2 : SeqAt.shaped y = true) : CmpB Z .NotEq own s t (!PyData.eqv x y) := ⟨_, op_neD g.hr.units, fun v w Hf H S r1 r2 Q q => ⟨x, y, (d1.at S r1).dp, (d2.at S r2).dp, h1, h2, q⟩⟩
/-- is None -/
def isNone : Slot → Bool
  | .d .none => true
  | .raw .non => true
  | _ => false
theorem isNone_at {Hf : Hp} {v : V} (hs : s ≠ .un) (r : SlotR Hf v s) : decide (v = .non) = isNone s := by
  cases s with
  | un => exact absurd rfl hs
  | d x => cases r <;> rfl
  | raw w =>
    cases (show v = w from r)
    cases v <;> rfl
theorem c_isN (hs : s ≠ .un) : CmpB Z .Is own s (.d .none) (isNone s) := ⟨_, op_isN, fun v w Hf H S r1 r2 Q q => by
  cases r2
  exact ⟨rfl, by rw [isNone_at hs r1]; exact q⟩⟩
/-- a bool as a test -/
theorem et_val {k : Bool} (h : ED Z e ρ own (.bool k)) (he : ∀ whole, isTrue e Z.X.env whole = (do let v ← whole; standAt e.pos; holding [v] (truthy v)) := by intro _; rfl) : ET Z e ρ own k := fun Hf σ H S R Q q =>
  wT.of (pt_val peW he) (h Hf σ H S R _ fun v Hf1 H1 m1 S1 r1 => by cases r1; exact ⟨k, rfl, q Hf1 H1 m1 S1⟩)
theorem EW.et {k : Bool} (h : EW Z e ρ own k) : ET Z e ρ own k := fun Hf σ H S R Q q => wT.of pwW.pt (h Hf σ H S R Q q)
theorem et_not {k : Bool} (h : ET Z e ρ own k) : ET Z (.UnaryOp .Not e pos) ρ own (!k) := fun Hf σ H S R Q q => wT.of (pt_not ptW) (h Hf σ H S R _ fun Hf1 H1 m1 S1 => q Hf1 H1 m1 S1)
variable {rest : List Expr}
theorem ew_or1 {k : Bool} (h : ET Z a ρ own k) : EW Z (.BoolOp .Or [a] pos) ρ own k := fun Hf σ H S R Q q => wW.of (pw_or1 ptW) (h Hf σ H S R Q q)
theorem ew_or {k l : Bool} (h1 : ET Z a ρ own k) (h2 : k = false → EW Z (.BoolOp .Or (b :: rest) pos) ρ own l) : EW Z (.BoolOp .Or (a :: b :: rest) pos) ρ own (k || l) := fun Hf σ H S R Q q => wW.of (pw_or ptW pwW) (h1 Hf σ H S R _ fun Hf1 H1 m1 S1 => by
  cases k with
  | true => exact iteT (q Hf1 H1 m1 S1)
  | false =>
    refine iteF (h2 rfl Hf1 σ H1 S1 (R.mono m1) Q fun Hf2 H2 m2 S2 => q Hf2 H2 (m1.trans m2) S2))
theorem ed_one {op : BoolOp} (h : ES Z a ρ own s) : ES Z (.BoolOp op [a] pos) ρ own s := fun Hf σ H S R Q q => wE.of (pe_one peW) (h Hf σ H S R Q q)
theorem ed_and {k l : Bool} (h1 : ED Z a ρ own (.bool k)) (h2 : k = true → ED Z (.BoolOp .And (b :: rest) pos) ρ own (.bool l)) : ED Z (.BoolOp .And (a :: b :: rest) pos) ρ own (.bool (k && l)) := fun Hf σ H S R Q q => wE.of (pe_and peW peW) (h1 Hf σ H S R _ fun v Hf1 H1 m1 S1 r1 => by
  cases r1
  refine ⟨k, rfl, ?_⟩
  cases k with
  | true => exact iteT (h2 rfl Hf1 σ H1 S1 (R.mono m1) Q fun v Hf2 H2 m2 S2 r2 => q v Hf2 H2 (m1.trans m2) S2 r2)
  | false => exact iteF (q _ Hf1 H1 m1 S1 (.bl false)))
theorem ed_not {k : Bool} (h : ED Z a ρ own (.bool k)) : ED Z (.UnaryOp .Not a pos) ρ own (.bool (!k)) := fun Hf σ H S R Q q => wE.of (pe_not peW) (h Hf σ H S R _ fun v Hf1 H1 m1 S1 r1 => by
  cases r1
  exact ⟨k, rfl, q _ Hf1 H1 m1 S1 (.bl _)⟩)
theorem es_if {k : Bool} (h : ET Z c ρ own k) (h1 : k = true → ES Z a ρ own s) (h2 : k = false → ES Z b ρ own s) : ES Z (.IfExp c a b pos) ρ own s := fun Hf σ H S R Q q => wE.of (pe_ifExp ptW peW peW) (h Hf σ H S R _ fun Hf1 H1 m1 S1 => by
  cases k with
  | true => exact iteT (h1 rfl Hf1 σ H1 S1 (R.mono m1) Q fun v Hf2 H2 m2 S2 r2 => q v Hf2 H2 (m1.trans m2) S2 r2)
  | false => exact iteF (h2 rfl Hf1 σ H1 S1 (R.mono m1) Q fun v Hf2 H2 m2 S2 r2 => q v Hf2 H2 (m1.trans m2) S2 r2))
theorem el_if {k : Bool} {ds : List PyData} (h : ET Z c ρ own k) (h1 : k = true → EL Z a ρ own ds) (h2 : k = false → EL Z b ρ own ds) : EL Z (.IfExp c a b pos) ρ own ds := fun Hf σ H S R Q q => wE.of (pe_ifExp ptW peW peW) (h Hf σ H S R _ fun Hf1 H1 m1 S1 => by
  cases k with
  | true => exact iteT (h1 rfl Hf1 σ H1 S1 (R.mono m1) Q fun v Hf2 H2 m2 S2 => q v Hf2 H2 (m1.trans m2) S2)
  | false => exact iteF (h2 rfl Hf1 σ H1 S1 (R.mono m1) Q fun v Hf2 H2 m2 S2 => q v Hf2 H2 (m1.trans m2) S2))
theorem et_chain {op op' : CmpOp} {k l : Bool} (hc1 : CmpB Z op own s t k) (hc2 : CmpB Z op' own t u l) (ha : ES Z a ρ own s) (hb : ES Z b ρ own t) (hd : ES Z c ρ own u) (hm : lastMarks [op, op'] [b, c] = false := by with_unfolding_all rfl) :
    ET Z (.Compare a [op, op'] [b, c] pos) ρ own (k && l) := by
  obtain ⟨r, ho, hr⟩ := hc1
  obtain ⟨r', ho', hr'⟩ := hc2
  refine fun Hf σ H S R Q q => wT.of (pt_chain ho ho' peW peW peW hm) (ha Hf σ H S R _ fun v Hf1 H1 m1 S1 r1 => hb Hf1 σ H1 S1 (R.mono m1) _ fun w Hf2 H2 m2 S2 r2 => hr v w Hf2 H2 S2 (r1.mono m2) r2 _ ⟨k, rfl, ?_⟩)
  cases k with
  | false => exact iteF ⟨_, rfl, q Hf2 H2 (m1.trans m2) S2⟩
  | true => exact iteT (hd Hf2 σ H2 S2 (R.mono (m1.trans m2)) _ fun z Hf3 H3 m3 S3 r3 => hr' w z Hf3 H3 S3 (r2.mono m3) r3 _ ⟨l, rfl, q Hf3 H3 ((m1.trans m2).trans m3) S3⟩)
theorem ed_chain {op op' : CmpOp} {k l : Bool} (hc1 : CmpB Z op own s t k) (hc2 : CmpB Z op' own t u l) (ha : ES Z a ρ own s) (hb : ES Z b ρ own t) (hd : ES Z c ρ own u) (hm : lastMarks [op, op'] [b, c] = false := by with_unfolding_all rfl) :
    ED Z (.Compare a [op, op'] [b, c] pos) ρ own (.bool (k && l)) := by
  obtain ⟨r, ho, hr⟩ := hc1
  obtain ⟨r', ho', hr'⟩ := hc2
  refine fun Hf σ H S R Q q => wE.of (pe_chain ho ho' peW peW peW hm) (ha Hf σ H S R _ fun v Hf1 H1 m1 S1 r1 => hb Hf1 σ H1 S1 (R.mono m1) _ fun w Hf2 H2 m2 S2 r2 => hr v w Hf2 H2 S2 (r1.mono m2) r2 _ ⟨k, rfl, ?_⟩)
  cases k with
  | false => exact iteF (q _ Hf2 H2 (m1.trans m2) S2 (.bl false))
  | true => exact iteT (hd Hf2 σ H2 S2 (R.mono (m1.trans m2)) _ fun z Hf3 H3 m3 S3 r3 => hr' w z Hf3 H3 S3 (r2.mono m3) r3 _ (q _ Hf3 H3 ((m1.trans m2).trans m3) S3 (.bl l)))

/-! arguments, displays -/
theorem ea_nil : EA Z [] ρ own [] := fun Hf σ H S R Q q => wA.of pa_nil (q [] Hf H (Same.refl _) S .nil)
theorem ea_cons {ss : List Slot} (h : ES Z e ρ own s) (hr : EA Z es ρ own ss) (hs : starEach (e :: es) Z.X.env = (false, eval e Z.X.env) :: starEach es Z.X.env := by rfl) : EA Z (e :: es) ρ own (s :: ss) := fun Hf σ H S R Q q => wA.of (pa_cons peW paW hs) (h Hf σ H S R _ fun v Hf1 H1 m1 S1 r1 =>
  hr Hf1 σ H1 S1 (R.mono m1) _ fun vs Hf2 H2 m2 S2 r2 => q (v :: vs) Hf2 H2 (m1.trans m2) S2 (.cons (r1.mono m2) r2))
theorem ed_tup {x1 : Nat} {ds : List PyData} (h : EA Z es ρ own (ds.map Slot.d)) (hl : ds.length ≤ 1000 := by exact Nat.le_of_ble_eq_true rfl) : ED Z (.Tuple es x1 pos) ρ own (.tuple ds) := fun Hf σ H S R Q q => wE.of (pe_tup paW) (h Hf σ H S R _ fun vs Hf1 H1 m1 S1 r1 => by
  have r := r1.data
  refine ⟨Nat.le_trans (by rw [r.length]; exact hl) (by decide), fun p hp => q (.ref p) _ _ (m1.trans (S1.new_same hp _)) (S1.new hp _) (.tup upd_same (r.mono (S1.new_same hp _)))⟩)
theorem el_lst {ds : List PyData} (h : EA Z es ρ own (ds.map Slot.d)) (hl : ds.length ≤ 1000 := by exact Nat.le_of_ble_eq_true rfl) : EL Z (.List es pos) ρ own ds := fun Hf σ H S R Q q => wE.of (pe_lst paW) (h Hf σ H S R _ fun vs Hf1 H1 m1 S1 r1 => by
  have r := r1.data
  refine ⟨Nat.le_trans (by rw [r.length]; exact hl) (by decide), fun p hp => q p _ _ m1 (S1.newOwn hp ⟨_, upd_same, r⟩)⟩)
theorem ed_lst {ds : List PyData} (h : EA Z es ρ own (ds.map Slot.d)) (hl : ds.length ≤ 1000 := by exact Nat.le_of_ble_eq_true rfl) : ED Z (.List es pos) ρ own (.list ds) := (el_lst h hl).ed

/-! items, slices -/
theorem atI_rep {H : Hp} {vs : List V} {ds : List PyData} {i : Int} {d : PyData} (r : Reps H vs ds) (h : atI ds i = some d) : ∃ v, atI vs i = some v ∧ Rep H v d := by
  unfold atI at h ⊢
  rw [r.length]
  cases e : ixN ds.length i with
  | none => rw [e] at h; cases h
  | some j =>
    rw [e] at h
    obtain ⟨v, h1, h2⟩ := r.get (show ds[j]? = some d from h)
    exact ⟨v, h1, h2⟩
theorem ed_ixL {ds : List PyData} {d : PyData} (ha : ES Z a ρ own s) (hb : ED Z b ρ own (.int i)) (l : Lst own s ds) (h : atI ds i = some d) (hs : PlainIx b := by exact fun _ _ => rfl) : ED Z (.Subscript a b pos) ρ own d := fun Hf σ H S R Q q =>
  wE.of (pe_ix ix_list peW peW hs) (ha Hf σ H S R _ fun v Hf1 H1 m1 S1 r1 => hb Hf1 σ H1 S1 (R.mono m1) _ fun w Hf2 H2 m2 S2 r2 => by
    obtain ⟨p, vs, rfl, h1, g1⟩ := l.at S2 (r1.mono m2)
    cases r2
    obtain ⟨z, h2, g2⟩ := atI_rep g1 h
    exact ⟨p, vs, i, z, rfl, rfl, SqL.of h1, h2, q z Hf2 H2 (m1.trans m2) S2 g2⟩)
def cutD (xs : List PyData) (lo hi : Option Int) : List PyData := (xs.drop (HT.sIx xs.length 0 lo)).take (HT.sIx xs.length xs.length hi - HT.sIx xs.length 0 lo)
theorem cut_rep {H : Hp} {vs : List V} {ds : List PyData} (r : Reps H vs ds) (lo hi : Option Int) : Reps H (cutV vs lo hi) (cutD ds lo hi) := by
  unfold cutV cutD
  rw [r.length]
  exact (r.drop _).take _
/-- an optional part of a slice -/
def PT2 (Z : Ctx) (e : Option Expr) (ρ : List Slot) (own : Own) (o : Option Int) : Prop := ∃ t : TO, PO Z.X e t ∧ ∀ Hf σ H, Sat Z.B Hf H own → EnvR Hf σ ρ → ∀ Q : Option Int → Hp → Prop, (∀ Hf' H', Same Hf Hf' → Sat Z.B Hf' H' own → Q o H') → t σ H Q
theorem po_no : PT2 Z none ρ own none := ⟨_, po_none, fun Hf σ H S R Q q => q Hf H (Same.refl _) S⟩
theorem po_yes (h : ED Z e ρ own (.int i)) : PT2 Z (some e) ρ own (some i) := ⟨_, po_some peW, fun Hf σ H S R Q q => h Hf σ H S R _ fun v Hf1 H1 m1 S1 r1 => by
  cases r1
  exact ⟨i, rfl, q Hf1 H1 m1 S1⟩⟩
theorem el_slice {ds : List PyData} {lo hi : Option Expr} {l h : Option Int} {p2 : Pos} (ha : ES Z a ρ own s) (hl : PT2 Z lo ρ own l) (hh : PT2 Z hi ρ own h) (L : Lst own s ds) : EL Z (.Subscript a (.Slice lo hi none p2) pos) ρ own (cutD ds l h) := by
  obtain ⟨tl, pl, ql⟩ := hl
  obtain ⟨th, ph, qh⟩ := hh
  refine fun Hf σ H S R Q q => wE.of (pe_slice sl_list peW pl ph) (ha Hf σ H S R _ fun v Hf1 H1 m1 S1 r1 => ql Hf1 σ H1 S1 (R.mono m1) _ fun Hf2 H2 m2 S2 => qh Hf2 σ H2 S2 (R.mono (m1.trans m2)) _ fun Hf3 H3 m3 S3 => ?_)
  obtain ⟨p, vs, rfl, h1, g1⟩ := L.at S3 (r1.mono (m2.trans m3))
  exact ⟨p, vs, rfl, SqL.of h1, fun l hl => q l Hf3 _ ((m1.trans m2).trans m3) (S3.newOwn hl ⟨_, upd_same, cut_rep g1 _ _⟩)⟩
end

/-! ### statements -/
structure DE where
  nx : List Slot → Own → Prop
  rt : Slot → Own → Prop
  bk : List Slot → Own → Prop := fun _ _ => False
  ct : List Slot → Own → Prop := fun _ _ => False
def lift (B : Bs) (H0 : Hp) (D : DE) : Ends where
  nx := fun σ H => ∃ Hf ρ own, Same H0 Hf ∧ Sat B Hf H own ∧ EnvR Hf σ ρ ∧ D.nx ρ own
  rt := fun v H => ∃ Hf s own, Same H0 Hf ∧ Sat B Hf H own ∧ SlotR Hf v s ∧ s ≠ .un ∧ D.rt s own
  bk := fun σ H => ∃ Hf ρ own, Same H0 Hf ∧ Sat B Hf H own ∧ EnvR Hf σ ρ ∧ D.bk ρ own
  ct := fun σ H => ∃ Hf ρ own, Same H0 Hf ∧ Sat B Hf H own ∧ EnvR Hf σ ρ ∧ D.ct ρ own
def SD (Z : Ctx) (st : Stmt) (D : DE) (ρ : List Slot) (own : Own) : Prop := ∀ H0 Hf σ H, Same H0 Hf → Sat Z.B Hf H own → EnvR Hf σ ρ → wS Z.X st (lift Z.B H0 D) σ H
def SDs (Z : Ctx) (st : List Stmt) (D : DE) (ρ : List Slot) (own : Own) : Prop := ∀ H0 Hf σ H, Same H0 Hf → Sat Z.B Hf H own → EnvR Hf σ ρ → wSs Z.X st (lift Z.B H0 D) σ H
section
variable {Z : Ctx} {D : DE} {ρ : List Slot} {own : Own} {pos : Pos} {st : Stmt} {sts A B : List Stmt} {e a b c : Expr} {x : PyData} {s t : Slot} {k : Nat}
theorem SP.imp {X : Cx} {pins : List (Addr × Obj)} {D D' : Ends} {f : Flow} {s' : Shared} (h : SP X pins D f s') (h1 : ∀ σ H, D.nx σ H → D'.nx σ H) (h2 : ∀ v H, D.rt v H → D'.rt v H) (h3 : ∀ σ H, D.bk σ H → D'.bk σ H) (h4 : ∀ σ H, D.ct σ H → D'.ct σ H) : SP X pins D' f s' := by
  cases f with
  | next => obtain ⟨σ, H, I, q⟩ := h; exact ⟨σ, H, I, h1 _ _ q⟩
  | brk => obtain ⟨σ, H, I, q⟩ := h; exact ⟨σ, H, I, h3 _ _ q⟩
  | cont => obtain ⟨σ, H, I, q⟩ := h; exact ⟨σ, H, I, h4 _ _ q⟩
  | ret u => obtain ⟨v, σ, H, I, r, q⟩ := h; exact ⟨v, σ, H, I, r, h2 _ _ q⟩
theorem wS.imp {X : Cx} {D D' : Ends} {σ : L2.St} {H : Hp} (h : wS X st D σ H) (h1 : ∀ σ H, D.nx σ H → D'.nx σ H) (h2 : ∀ v H, D.rt v H → D'.rt v H) (h3 : ∀ σ H, D.bk σ H → D'.bk σ H) (h4 : ∀ σ H, D.ct σ H → D'.ct σ H) : wS X st D' σ H :=
  ⟨fun pins s I => thn (h.run pins s I) fun f s' q => SP.imp q h1 h2 h3 h4⟩
theorem wSs.imp {X : Cx} {D D' : Ends} {σ : L2.St} {H : Hp} (h : wSs X sts D σ H) (h1 : ∀ σ H, D.nx σ H → D'.nx σ H) (h2 : ∀ v H, D.rt v H → D'.rt v H) (h3 : ∀ σ H, D.bk σ H → D'.bk σ H) (h4 : ∀ σ H, D.ct σ H → D'.ct σ H) : wSs X sts D' σ H :=
  ⟨fun pins s I => thn (h.run pins s I) fun f s' q => SP.imp q h1 h2 h3 h4⟩
theorem sds_nil (h : D.nx ρ own) : SDs Z [] D ρ own := fun H0 Hf σ H m0 S R => wSs.of pss_nil ⟨Hf, ρ, own, m0, S, R, h⟩
theorem sds_cons (h : SD Z st { D with nx := fun ρ own => SDs Z sts D ρ own } ρ own) : SDs Z (st :: sts) D ρ own := fun H0 Hf σ H m0 S R => wSs.of (pss_cons psW pssW) (wS.imp (h H0 Hf σ H m0 S R) (fun σ' H' ⟨Hf', ρ', own', m', S', R', q⟩ => q H0 Hf' σ' H' m' S' R') (fun _ _ q => q) (fun _ _ q => q) (fun _ _ q => q))
theorem sds_one (h : SD Z st D ρ own) : SDs Z [st] D ρ own := fun H0 Hf σ H m0 S R => wSs.of (pss_one psW) (h H0 Hf σ H m0 S R)
/-- name = e -/
theorem sd_set (i : Nat) {z : Str} {pos' : Pos} (hN : Z.X.N.Nodup) (he : ES Z e ρ own s) (h : D.nx (ρ.set i s) own) (hi : Z.X.N[i]? = some z := by rfl) (hx : Loc Z.X.env.scope z := by first | exact Or.inl rfl | exact Or.inr rfl) (hs : swapsWith e (some (.Name z pos')) pos.line Z.X.env = pure false := by rfl)
    (hf : Z.X.fn z = true ∨ Z.X.env.scope.names.lookup z = some .local := by first | exact .inl rfl | exact .inr rfl | assumption) : SD Z (.Assign [.Name z pos'] e pos) D ρ own := fun H0 Hf σ H m0 S R => wS.of (ps_set hN hi hx peW hs hf) (he Hf σ H S R _ fun v Hf1 H1 m1 S1 r1 => ⟨Hf1, _, own, m0.trans m1, S1, (R.mono m1).set r1 i, h⟩)
theorem sd_ret (he : ES Z e ρ own s) (hs : s ≠ .un) (h : D.rt s own) : SD Z (.Return (some e) pos) D ρ own := fun H0 Hf σ H m0 S R => wS.of (ps_ret peW) (he Hf σ H S R _ fun v Hf1 H1 m1 S1 r1 => ⟨Hf1, s, own, m0.trans m1, S1, r1, hs, h⟩)
theorem sd_retD (he : ED Z e ρ own x) (h : D.rt (.d x) own) : SD Z (.Return (some e) pos) D ρ own := sd_ret he (fun q => nomatch q) h
theorem sd_expr (he : ES Z e ρ own s) (h : D.nx ρ own) (hs : swapsWith e none pos.line Z.X.env = pure false := by rfl) : SD Z (.Expr e pos) D ρ own := fun H0 Hf σ H m0 S R => wS.of (ps_expr peW hs) (he Hf σ H S R _ fun v Hf1 H1 m1 S1 r1 => ⟨Hf1, ρ, own, m0.trans m1, S1, R.mono m1, h⟩)
theorem sd_if {l : Bool} (hc : ET Z c ρ own l) (h1 : l = true → SDs Z A D ρ own) (h2 : l = false → SDs Z B D ρ own) : SD Z (.If c A B pos) D ρ own := fun H0 Hf σ H m0 S R => wS.of (ps_if ptW pssW pssW) (hc Hf σ H S R _ fun Hf1 H1 m1 S1 => by
  cases l with
  | true => exact iteT (h1 rfl H0 Hf1 σ H1 (m0.trans m1) S1 (R.mono m1))
  | false => exact iteF (h2 rfl H0 Hf1 σ H1 (m0.trans m1) S1 (R.mono m1)))
/-- weaker ends -/
theorem SDs.imp {D' : DE} (h : SDs Z sts D ρ own) (h1 : ∀ ρ own, D.nx ρ own → D'.nx ρ own) (h2 : ∀ s own, D.rt s own → D'.rt s own) (h3 : ∀ ρ own, D.bk ρ own → D'.bk ρ own) (h4 : ∀ ρ own, D.ct ρ own → D'.ct ρ own) : SDs Z sts D' ρ own := fun H0 Hf σ H m0 S R => wSs.imp (h H0 Hf σ H m0 S R)
  (fun _ _ ⟨a, b, c, m, d, e, f⟩ => ⟨a, b, c, m, d, e, h1 _ _ f⟩) (fun _ _ ⟨a, b, c, m, d, e, g, f⟩ => ⟨a, b, c, m, d, e, g, h2 _ _ f⟩) (fun _ _ ⟨a, b, c, m, d, e, f⟩ => ⟨a, b, c, m, d, e, h3 _ _ f⟩) (fun _ _ ⟨a, b, c, m, d, e, f⟩ => ⟨a, b, c, m, d, e, h4 _ _ f⟩)
/-- a list of one's own is data from here on (its name: slot i) -/
theorem sds_freeze (i : Nat) {oa ob : Own} {p : Addr} {ds : List PyData} (hi : ρ[i]? = some (.raw (.ref p))) (h : SDs Z sts D (ρ.set i (.d (.list ds))) (oa ++ ob)) : SDs Z sts D ρ (oa ++ (p, .lst ds) :: ob) := fun H0 Hf σ H m0 S R => by
  obtain ⟨Hf', m, S', r⟩ := S.freeze
  refine h H0 Hf' σ H (m0.trans m) S' ?_
  have hv := (R.mono m).raw hi
  have R' := (R.mono m).set (v := .ref p) (s := .d (.list ds)) r i
  have e : σ.set i (some (.ref p)) = σ := by
    refine List.ext_getElem? fun j => ?_
    by_cases hj : i = j
    · subst hj
      have hl : i < σ.length := by
        obtain ⟨h, _⟩ := List.getElem?_eq_some_iff.mp hv
        exact h
      rw [List.getElem?_set_self hl, hv]
    · rw [List.getElem?_set_ne hj]
  rw [e] at R'
  exact R'
end
end Sd


namespace Sd
open PySem PySem.Spec PyProof.Rows L2
/-! ### values with a change of what is owned -/
def EG (Z : Ctx) (e : Expr) (ρ : List Slot) (own : Own) (R : Slot → Own → Prop) : Prop := ∀ Hf σ H, Sat Z.B Hf H own → EnvR Hf σ ρ → ∀ Q : VK, (∀ v Hf' H' s own', Same Hf Hf' → Sat Z.B Hf' H' own' → SlotR Hf' v s → s ≠ .un → R s own' → Q v H') → wE Z.X e σ H Q
section
variable {Z : Ctx} {e a b c : Expr} {es : List Expr} {ρ : List Slot} {own : Own} {pos : Pos} {x y : PyData} {i j : Int} {s t u : Slot} {k : Nat} {R : Slot → Own → Prop}
theorem ES.toEG (h : ES Z e ρ own s) (hs : s ≠ .un) (q : R s own) : EG Z e ρ own R := fun Hf σ H S E Q k => h Hf σ H S E Q fun v Hf' H' m S' r => k v Hf' H' s own m S' r hs q
theorem EG.toES (h : EG Z e ρ own fun t o => t = s ∧ o = own) : ES Z e ρ own s := fun Hf σ H S E Q k => h Hf σ H S E Q fun v Hf' H' t o m S' r _ q => by
  obtain ⟨rfl, rfl⟩ := q
  exact k v Hf' H' m S' r
theorem EG.toEL {ds : List PyData} (h : EG Z e ρ own fun t o => ∃ p, t = .raw (.ref p) ∧ o = (p, .lst ds) :: own) : EL Z e ρ own ds := fun Hf σ H S E Q k => h Hf σ H S E Q fun v Hf' H' t o m S' r _ q => by
  obtain ⟨p, rfl, rfl⟩ := q
  cases (show v = .ref p from r)
  exact k p Hf' H' m S'
theorem EL.toEG {ds : List PyData} (h : EL Z e ρ own ds) (q : ∀ p, R (.raw (.ref p)) ((p, .lst ds) :: own)) : EG Z e ρ own R := fun Hf σ H S E Q k => h Hf σ H S E Q fun p Hf' H' m S' => k _ Hf' H' (.raw (.ref p)) _ m S' rfl (fun z => nomatch z) (q p)
theorem EG.imp {R' : Slot → Own → Prop} (h : EG Z e ρ own R) (q : ∀ s o, R s o → R' s o) : EG Z e ρ own R' := fun Hf σ H S E Q k => h Hf σ H S E Q fun v Hf' H' s o m S' r hs z => k v Hf' H' s o m S' r hs (q s o z)
/-- a op b, the right one with a change -/
theorem eg_bin {op : Operator} {r : R2} {R1 : Slot → Own → Prop} (ho : OpR Z.X (binaryOp op) r) (ha : ES Z a ρ own s) (hb : EG Z b ρ own R1)
    (hr : ∀ v w Hf H t own', Sat Z.B Hf H own' → SlotR Hf v s → SlotR Hf w t → R1 t own' → ∀ Q : VK, (∀ z Hf' H' u, Same Hf Hf' → Sat Z.B Hf' H' own' → SlotR Hf' z u → u ≠ .un → R u own' → Q z H') → r v w H Q) : EG Z (.BinOp a op b pos) ρ own R := fun Hf σ H S E Q q =>
  wE.of (pe_op ho peW peW) (ha Hf σ H S E _ fun v Hf1 H1 m1 S1 r1 => hb Hf1 σ H1 S1 (E.mono m1) _ fun w Hf2 H2 t own' m2 S2 r2 _ q2 => hr v w Hf2 H2 t own' S2 (r1.mono m2) r2 q2 Q fun z Hf3 H3 u m3 S3 r3 hu q3 => q z Hf3 H3 u own' ((m1.trans m2).trans m3) S3 r3 hu q3)
theorem eg_add {P : Int → Own → Prop} (ha : ED Z a ρ own (.int i)) (hb : EG Z b ρ own fun t o => ∃ j, t = .d (.int j) ∧ P j o) : EG Z (.BinOp a .Add b pos) ρ own (fun t o => ∃ j, t = .d (.int (i + j)) ∧ P j o) := eg_bin op_add ha hb fun v w Hf H t own' S r1 r2 q2 Q q => by
  obtain ⟨j, rfl, hp⟩ := q2
  cases r1; cases r2
  exact ⟨i, j, rfl, rfl, q _ Hf H (.d (.int (i + j))) (Same.refl _) S (Rep.int (i + j)) (fun z => nomatch z) ⟨j, rfl, hp⟩⟩
end

/-! ### built-ins called by name -/
section
variable {Z : Ctx} {e a b c : Expr} {es : List Expr} {ρ : List Slot} {own : Own} {pos p : Pos} {x y : PyData} {i j : Int} {s t u : Slot} {k : Nat} {ss : List Slot}
theorem es_callB {id : String} {z : Str} {r : List V → Hp → VK → Prop} (hc : CallR Z.X (.builtin id) r) (hg : Gl Z.X z) (hm : Z.X.mg z = none) (hv : bootBuiltins z = some (.builtin id)) (ha : EA Z (e :: es) ρ own ss)
    (hr : ∀ vs Hf H, Sat Z.B Hf H own → SlotsR Hf vs ss → ∀ Q : VK, (∀ v Hf' H', Same Hf Hf' → Sat Z.B Hf' H' own → SlotR Hf' v s → Q v H') → r vs H Q)
    (hn : z ≠ "__name__" := by decide) (hdb : (z == ("__debug__" : Str)) = false := by decide) (hs : starEach (e :: es) Z.X.env = (false, eval e Z.X.env) :: starEach es Z.X.env := by first | assumption | rfl) (hpl : (backTo pos (starEach es Z.X.env)).any (·.1) = false := by first | assumption | rfl) : ES Z (.Call (.Name z p) (e :: es) [] pos) ρ own s := fun Hf σ H S E Q q =>
  wE.of (pe_callB hc hg hm hv paW hn hdb hs hpl) (ha Hf σ H S E _ fun vs Hf1 H1 m1 S1 r1 => hr vs Hf1 H1 S1 r1 Q fun v Hf2 H2 m2 S2 r2 => q v Hf2 H2 (m1.trans m2) S2 r2)
theorem el_callTy {T : String} {z : Str} {ds : List PyData} {r : List V → Hp → VK → Prop} (hc : CallR Z.X (.type T) r) (hg : Gl Z.X z) (hm : Z.X.mg z = none) (hv : bootBuiltins z = some (.type T)) (ha : EA Z (e :: es) ρ own ss)
    (hr : ∀ vs Hf H, Sat Z.B Hf H own → SlotsR Hf vs ss → ∀ Q : VK, (∀ p Hf' H', Same Hf Hf' → Sat Z.B Hf' H' ((p, .lst ds) :: own) → Q (.ref p) H') → r vs H Q)
    (hn : z ≠ "__name__" := by decide) (hdb : (z == ("__debug__" : Str)) = false := by decide) (hs : starEach (e :: es) Z.X.env = (false, eval e Z.X.env) :: starEach es Z.X.env := by first | assumption | rfl) (hpl : (backTo pos (starEach es Z.X.env)).any (·.1) = false := by first | assumption | rfl) : EL Z (.Call (.Name z p) (e :: es) [] pos) ρ own ds := fun Hf σ H S E Q q =>
  wE.of (pe_callTy hc hg hm hv paW hn hdb hs hpl) (ha Hf σ H S E _ fun vs Hf1 H1 m1 S1 r1 => hr vs Hf1 H1 S1 r1 Q fun v Hf2 H2 m2 S2 => q v Hf2 H2 (m1.trans m2) S2)
theorem SlotsR.one {Hf : Hp} {vs : List V} (h : SlotsR Hf vs [s]) : ∃ v, vs = [v] ∧ SlotR Hf v s := by
  cases h with
  | cons a b => cases b; exact ⟨_, rfl, a⟩
theorem SlotsR.two {Hf : Hp} {vs : List V} (h : SlotsR Hf vs [s, t]) : ∃ v w, vs = [v, w] ∧ SlotR Hf v s ∧ SlotR Hf w t := by
  cases h with
  | cons a b =>
    obtain ⟨w, rfl, c⟩ := b.one
    exact ⟨_, w, rfl, a, c⟩
/-- len of a list -/
theorem ed_len {ds : List PyData} (hm : Z.X.mg "len" = none) (h : ES Z e ρ own s) (L : Lst own s ds) (hg : Gl Z.X "len" := by rfl) (hs : starEach [e] Z.X.env = (false, eval e Z.X.env) :: starEach [] Z.X.env := by rfl) : ED Z (.Call (.Name "len" p) [e] [] pos) ρ own (.int ds.length) :=
  es_callB call_len_seq hg hm PySem.boot_len (ea_cons h ea_nil hs) fun vs Hf H S r0 Q q => by
    obtain ⟨v, rfl, r⟩ := r0.one
    obtain ⟨p, vs, rfl, h1, h2⟩ := L.at S r
    exact ⟨p, vs, rfl, .inl (SqL.of h1), by rw [h2.length]; exact q _ Hf H (Same.refl _) S (.int _)⟩
/-- sum of a list of ints -/
theorem ed_sum {ns : List Int} (g : Gd Z k) (hm : Z.X.mg "sum" = none) (h : ES Z e ρ own s) (L : Lst own s (ns.map PyData.int)) (hg : Gl Z.X "sum" := by rfl) (hs : starEach [e] Z.X.env = (false, eval e Z.X.env) :: starEach [] Z.X.env := by rfl) : ED Z (.Call (.Name "sum" p) [e] [] pos) ρ own (.int ns.sum) :=
  es_callB (cr_sum g.calm) hg hm (by decide +kernel) (ea_cons h ea_nil hs) fun vs Hf H S r0 Q q => by
    obtain ⟨v, rfl, r⟩ := r0.one
    obtain ⟨p, vs, rfl, h1, h2⟩ := L.at S r
    cases h2.of_ints
    exact ⟨p, ns, rfl, SqL.of h1, q _ Hf H (Same.refl _) S (.int _)⟩
theorem ed_abs (hm : Z.X.mg "abs" = none) (h : ED Z e ρ own (.int i)) (hg : Gl Z.X "abs" := by rfl) (hs : starEach [e] Z.X.env = (false, eval e Z.X.env) :: starEach [] Z.X.env := by rfl) : ED Z (.Call (.Name "abs" p) [e] [] pos) ρ own (.int (if i < 0 then -i else i)) :=
  es_callB call_abs hg hm (by decide +kernel) (ea_cons h ea_nil hs) fun vs Hf H S r0 Q q => by
    obtain ⟨v, rfl, r⟩ := r0.one
    cases r
    exact ⟨i, rfl, q _ Hf H (Same.refl _) S (.int _)⟩
theorem ed_all {ns : List Bool} (g : Gd Z k) (hm : Z.X.mg "all" = none) (h : ES Z e ρ own s) (L : Lst own s (ns.map PyData.bool)) (hg : Gl Z.X "all" := by rfl) (hs : starEach [e] Z.X.env = (false, eval e Z.X.env) :: starEach [] Z.X.env := by rfl) : ED Z (.Call (.Name "all" p) [e] [] pos) ρ own (.bool (ns.all id)) :=
  es_callB (cr_all g.calm) hg hm (by decide +kernel) (ea_cons h ea_nil hs) fun vs Hf H S r0 Q q => by
    obtain ⟨v, rfl, r⟩ := r0.one
    obtain ⟨p, vs, rfl, e1, e2⟩ := L.at S r
    cases e2.of_bls
    exact ⟨p, ns, rfl, SqL.of e1, q _ Hf H (Same.refl _) S (.bl _)⟩
theorem el_list {ds : List PyData} (hm : Z.X.mg "list" = none) (h : ES Z e ρ own s) (L : Lst own s ds) (hg : Gl Z.X "list" := by rfl) (hs : starEach [e] Z.X.env = (false, eval e Z.X.env) :: starEach [] Z.X.env := by rfl) : EL Z (.Call (.Name "list" p) [e] [] pos) ρ own ds :=
  el_callTy call_list_of hg hm (by decide +kernel) (ea_cons h ea_nil hs) fun vs Hf H S r0 Q q => by
    obtain ⟨v, rfl, r⟩ := r0.one
    obtain ⟨p, vs, rfl, e1, e2⟩ := L.at S r
    exact ⟨p, vs, rfl, .inl (SqL.of e1), fun l hl => q l Hf _ (Same.refl _) (S.newOwn hl ⟨_, upd_same, e2⟩)⟩
/-- isinstance of data -/
def tyD : PyData → String
  | .none => "NoneType"
  | .bool _ => "bool"
  | .int _ => "int"
  | .str _ => "str"
  | .list _ => "list"
  | .tuple _ => "tuple"
  | .dict _ => "dict"
theorem tyX_rep {K : PySem.W.Frag} {H : Hp} {v : V} {d : PyData} (r : Rep H v d) : TyX K H v (.type (tyD d)) := by
  cases r with
  | non => exact .base .non
  | bl b => exact .base (.bl b)
  | int i => exact .base (.int i)
  | str z => exact .base (.str z)
  | lst h _ => exact .base (.lst h)
  | tup h _ => exact .base (.tup h)
theorem ed_isi {T : String} {l : Bool} (hm : Z.X.mg "isinstance" = none) (h : ES Z a ρ own s) (d : Dat own s x) (hc : EV Z b ρ own (.ty T)) (hk : kitB (tyD x) T = some l) (hg : Gl Z.X "isinstance" := by rfl) (hs : starEach [a, b] Z.X.env = (false, eval a Z.X.env) :: starEach [b] Z.X.env := by rfl) (hs2 : starEach [b] Z.X.env = (false, eval b Z.X.env) :: starEach [] Z.X.env := by rfl) (hpl : (backTo pos (starEach [b] Z.X.env)).any (·.1) = false := by rfl) :
    ED Z (.Call (.Name "isinstance" p) [a, b] [] pos) ρ own (.bool l) :=
  es_callB call_isi hg hm (by decide +kernel) (ea_cons h (ea_cons hc ea_nil hs2) hs) (fun vs Hf H S r0 Q q => by
    obtain ⟨v, w, rfl, r1, r2⟩ := r0.two
    cases (show w = .ty T from r2)
    exact ⟨v, .ty T, .type (tyD x), .type T, l, rfl, .ty T, tyX_rep (d.at S r1), kit_ty hk, q _ Hf H (Same.refl _) S (.bl l)⟩) (by decide) (by decide) hs hpl
end

/-! ### targets -/
structure wG (X : Cx) (tg : Expr) (v : V) (σ : L2.St) (H : Hp) (Q : L2.St → Hp → Prop) : Prop where
  run : ∀ (pins : List (Addr × Obj)) (s : Shared) (u : Value), Inv X pins σ H s → RelV v u → wpAny (model X.prog X.w) X.A (assign tg X.env u) (fun _ s' => ∃ σ' H', Inv X pins σ' H' s' ∧ Q σ' H') X.xe s
structure wGs (X : Cx) (ts : List Expr) (vs : List V) (σ : L2.St) (H : Hp) (Q : L2.St → Hp → Prop) : Prop where
  run : ∀ (pins : List (Addr × Obj)) (s : Shared) (us : List Value), Inv X pins σ H s → Vals vs us → wpAny (model X.prog X.w) X.A (assignInOrder ((assignEach ts X.env).map (·.2)) us) (fun _ s' => ∃ σ' H', Inv X pins σ' H' s' ∧ Q σ' H') X.xe s
theorem pgW {X : Cx} {tg : Expr} : PG X tg (wG X tg) := ⟨fun pins s _ _ _ u _ I r h => h.run pins s u I r⟩
theorem pgsW {X : Cx} {ts : List Expr} : PGs X ts (wGs X ts) := ⟨fun pins s _ _ _ us _ I r h => h.run pins s us I r⟩
theorem wG.of {X : Cx} {tg : Expr} {g : TG} (h : PG X tg g) {v : V} {σ : L2.St} {H : Hp} {Q : L2.St → Hp → Prop} (q : g v σ H Q) : wG X tg v σ H Q := ⟨fun pins s u I r => h.run pins s σ H v u Q I r q⟩
theorem wGs.of {X : Cx} {ts : List Expr} {g : TGs} (h : PGs X ts g) {v : List V} {σ : L2.St} {H : Hp} {Q : L2.St → Hp → Prop} (q : g v σ H Q) : wGs X ts v σ H Q := ⟨fun pins s u I r => h.run pins s σ H v u Q I r q⟩
/-- σ' is σ but for the slots is -/
def But (is : List Nat) (σ σ' : L2.St) : Prop := σ'.length = σ.length ∧ ∀ i : Nat, i ∉ is → σ'[i]? = σ[i]?
def GT (Z : Ctx) (tg : Expr) (x : PyData) (ρ ρ' : List Slot) (is : List Nat) : Prop := ∀ own Hf σ H v, Sat Z.B Hf H own → EnvR Hf σ ρ → Rep Hf v x → ∀ Q : L2.St → Hp → Prop, (∀ σ', EnvR Hf σ' ρ' → But is σ σ' → Q σ' H) → wG Z.X tg v σ H Q
def GTs (Z : Ctx) (ts : List Expr) (xs : List PyData) (ρ ρ' : List Slot) (is : List Nat) : Prop := ∀ own Hf σ H vs, Sat Z.B Hf H own → EnvR Hf σ ρ → Reps Hf vs xs → ∀ Q : L2.St → Hp → Prop, (∀ σ', EnvR Hf σ' ρ' → But is σ σ' → Q σ' H) → wGs Z.X ts vs σ H Q
section
variable {Z : Ctx} {e : Expr} {es : List Expr} {ρ ρ' ρ'' : List Slot} {x : PyData} {xs : List PyData} {is js : List Nat} {pos : Pos}
theorem gt_name (i : Nat) {z : Str} (nd : Z.X.N.Nodup) (hi : Z.X.N[i]? = some z := by rfl) (hx : Loc Z.X.env.scope z := by first | exact Or.inl rfl | exact Or.inr rfl) (hf : Z.X.fn z = true ∨ Z.X.env.scope.names.lookup z = some .local := by first | exact .inl rfl | exact .inr rfl | assumption) : GT Z (.Name z pos) x ρ (ρ.set i (.d x)) [i] := fun own Hf σ H v S R r Q q =>
  wG.of (pg_name nd hi hx hf) (q _ (R.set (s := .d x) r i) ⟨by rw [List.length_set], fun j hj => by rw [List.getElem?_set_ne (fun z => hj (by simp [z]))]⟩)
theorem gts_nil : GTs Z [] [] ρ ρ [] := fun own Hf σ H v S R r Q q => wGs.of pgs_nil (by
  cases r
  exact ⟨rfl, q σ R ⟨rfl, fun _ _ => rfl⟩⟩)
theorem gts_cons (h1 : GT Z e x ρ ρ' is) (h2 : GTs Z es xs ρ' ρ'' js) (hs : (assignEach (e :: es) Z.X.env).map (·.2) = assign e Z.X.env :: (assignEach es Z.X.env).map (·.2) := by rfl) : GTs Z (e :: es) (x :: xs) ρ ρ'' (is ++ js) := fun own Hf σ H vs S R r Q q => wGs.of (pgs_cons pgW pgsW hs) (by
  cases r with
  | cons a b =>
    refine ⟨_, _, rfl, h1 own Hf σ H _ S R a _ fun σ1 R1 b1 => h2 own Hf σ1 H _ S R1 b Q fun σ2 R2 b2 => q σ2 R2 ⟨b2.1.trans b1.1, fun i hi => ?_⟩⟩
    rw [b2.2 i (fun z => hi (List.mem_append_right _ z)), b1.2 i (fun z => hi (List.mem_append_left _ z))])
theorem gt_tup {n : Nat} {kk : Nat} (hc : Z.X.calm = true) (h : GTs Z es xs ρ ρ' is) (hl : xs.length = n) (hn : (assignEach es Z.X.env).length = n := by rfl) (hst : (assignEach es Z.X.env).findIdx? (·.1) = none := by rfl) : GT Z (.Tuple es kk pos) (.tuple xs) ρ ρ' is := fun own Hf σ H v S R r Q q => wG.of (pg_tup hc pgsW hn hst) (by
  cases r with
  | tup h1 h2 => exact ⟨_, _, rfl, SqT.of (S.e1 _ _ h1), by rw [h2.length, hl], h own Hf σ H _ S R h2 Q q⟩)
end

/-! ### what is walked -/
structure Walk (B : Bs) (J : It) (Hf : Hp) (ys : List PyData) (Po : Own → Prop) : Prop where
  go : ∀ i Hf' H' own', Same Hf Hf' → Sat B Hf' H' own' → Po own' → i < ys.length → J.go i H'
  yld : ∀ i y Hf' H' own' x H2, Same Hf Hf' → Sat B Hf' H' own' → Po own' → ys[i]? = some y → J.yld i H' x H2 → ∃ Hf2, Same Hf' Hf2 ∧ Sat B Hf2 H2 own' ∧ Rep Hf2 x y
  stop : ∀ i Hf' H' own', Same Hf Hf' → Sat B Hf' H' own' → Po own' → ys.length ≤ i → J.stop i H'
def IT (Z : Ctx) (tg iter : Expr) (ρ : List Slot) (own : Own) (Po : Own → Prop) (ys : List PyData) : Prop := ∃ wi : TI, PI Z.X tg iter wi ∧ ∀ Hf σ H, Sat Z.B Hf H own → EnvR Hf σ ρ → ∀ R : It → Hp → Prop, (∀ J Hf' H', Same Hf Hf' → Sat Z.B Hf' H' own → Walk Z.B J Hf' ys Po → R J H') → wi σ H R
section
variable {Z : Ctx} {e tg a b c : Expr} {ρ : List Slot} {own : Own} {pos p : Pos} {i j : Int} {k : Nat} {s : Slot} {ds : List PyData}
theorem it_list (h : ED Z e ρ own (.list ds)) : IT Z tg e ρ own (fun _ => True) ds := ⟨_, pi_list peW, fun Hf σ H S E R q => h Hf σ H S E _ fun v Hf1 H1 m1 S1 r1 => by
  cases r1 with
  | @lst a xs _ h1 h2 =>
    refine ⟨a, rfl, ⟨xs, SqL.of (S1.e1 _ _ h1)⟩, q _ Hf1 H1 m1 S1 ⟨fun i Hf' H' own' m S' _ hi => ?_, fun i y Hf' H' own' x H2 m S' _ hy hx => ?_, fun i Hf' H' own' m S' _ hi => ?_⟩⟩
    · have hl : i < xs.length := by rw [h2.length]; exact hi
      exact ⟨xs, xs[i], SqL.of (S'.e1 _ _ (m _ _ h1)), List.getElem?_eq_getElem hl⟩
    · obtain ⟨rfl, hx⟩ := hx
      obtain ⟨v, h3, h4⟩ := h2.get hy
      have e1 := hx xs (SqL.of (S'.e1 _ _ (m _ _ h1)))
      rw [h3] at e1
      cases e1
      exact ⟨Hf', Same.refl _, S', h4.mono m⟩
    · exact ⟨xs, SqL.of (S'.e1 _ _ (m _ _ h1)), by rw [h2.length]; exact hi⟩⟩
/-- lo, lo + 1, .. as data -/
def rng (lo : Int) (n : Nat) : List PyData := (List.range n).map fun (k : Nat) => PyData.int (lo + (k : Int))
theorem rng_length (lo : Int) (n : Nat) : (rng lo n).length = n := by simp [rng]
theorem rng_get {lo : Int} {n k : Nat} {y : PyData} (h : (rng lo n)[k]? = some y) : k < n ∧ y = .int (lo + (k : Int)) := by
  unfold rng at h
  rw [List.getElem?_map] at h
  cases e : (List.range n)[k]? with
  | none => rw [e] at h; cases h
  | some m =>
    rw [e] at h
    obtain ⟨h1, h2⟩ := List.getElem?_eq_some_iff.mp e
    rw [List.getElem_range] at h2
    subst h2
    cases h
    exact ⟨by simpa using h1, rfl⟩
theorem walk_rng {B : Bs} {Hf : Hp} (lo : Int) (n : Nat) : Walk B (Itr lo n) Hf (rng lo n) (fun _ => True) where
  go := fun i _ _ _ _ _ _ hi => by rw [rng_length] at hi; exact hi
  yld := fun i y Hf' H' own' x H2 m S _ hy hx => by
    obtain ⟨rfl, rfl⟩ := hx
    obtain ⟨_, rfl⟩ := rng_get hy
    exact ⟨Hf', Same.refl _, S, .int _⟩
  stop := fun i _ _ _ _ _ _ hi => by rw [rng_length] at hi; exact hi
theorem it_range1 (hm : Z.X.mg "range" = none) (h : ED Z a ρ own (.int i)) (hi : -1000000 ≤ i ∧ i ≤ 1000000) (hg : Gl Z.X "range" := by rfl) (hs : starEach [a] Z.X.env = [(false, eval a Z.X.env)] := by rfl) : IT Z tg (.Call (.Name "range" p) [a] [] pos) ρ own (fun _ => True) (rng 0 i.toNat) :=
  ⟨_, pi_range1 hg hm paW hs, fun Hf σ H S E R q => (ea_cons h ea_nil hs) Hf σ H S E _ fun vs Hf1 H1 m1 S1 r1 => by
    obtain ⟨v, rfl, r⟩ := r1.one
    cases r
    exact ⟨i, rfl, by omega, by omega, q _ Hf1 H1 m1 S1 (walk_rng 0 _)⟩⟩
/-- zip of two lists -/
def zipD (xs ys : List PyData) : List PyData := (xs.zip ys).map fun p => PyData.tuple [p.1, p.2]
theorem it_zip {e2 : Expr} {ys : List PyData} {elts : List Expr} {kk : Nat} {tpos : Pos} (hm : Z.X.mg "zip" = none) (h : ED Z e ρ own (.list ds)) (h' : ED Z e2 ρ own (.list ys)) (hg : Gl Z.X "zip" := by rfl) (hs : starEach [e, e2] Z.X.env = (false, eval e Z.X.env) :: starEach [e2] Z.X.env := by rfl) (hs2 : starEach [e2] Z.X.env = (false, eval e2 Z.X.env) :: starEach [] Z.X.env := by rfl) (hpl : (backTo pos (starEach [e2] Z.X.env)).any (·.1) = false := by rfl) : IT Z (.Tuple elts kk tpos) (.Call (.Name "zip" p) [e, e2] [] pos) ρ own (fun _ => True) (zipD ds ys) :=
  ⟨_, pi_zip hg hm paW hs hpl, fun Hf σ H S E R q => (ea_cons h (ea_cons h' ea_nil hs2) hs) Hf σ H S E _ fun vs Hf1 H1 m1 S1 r0 => by
    obtain ⟨v, w, rfl, r1, r2⟩ := r0.two
    cases (show Rep Hf1 v (.list ds) from r1) with
    | @lst a xs _ h1 h2 =>
      cases (show Rep Hf1 w (.list ys) from r2) with
      | @lst b zs _ g1 g2 =>
        have ln : (zipD ds ys).length = min xs.length zs.length := by rw [h2.length, g2.length]; simp [zipD]
        refine ⟨a, b, xs, zs, rfl, SqL.of (S1.e1 _ _ h1), SqL.of (S1.e1 _ _ g1), q _ Hf1 H1 m1 S1 ⟨fun i Hf' H' own' m S' _ hi => ?_, fun i y Hf' H' own' x H2 m S' _ hy hx => ?_, fun i Hf' H' own' m S' _ hi => ?_⟩⟩
        · rw [ln] at hi
          have hl : i < xs.length := by omega
          have hl2 : i < zs.length := by omega
          exact ⟨xs, zs, xs[i], zs[i], SqL.of (S'.e1 _ _ (m _ _ h1)), SqL.of (S'.e1 _ _ (m _ _ g1)), List.getElem?_eq_getElem hl, List.getElem?_eq_getElem hl2⟩
        · obtain ⟨T, z1, z2, rfl, nT, rfl, hx1, hx2⟩ := hx
          unfold zipD at hy
          rw [List.getElem?_map] at hy
          cases ez : (ds.zip ys)[i]? with
          | none => rw [ez] at hy; cases hy
          | some pr =>
            rw [ez] at hy
            cases hy
            obtain ⟨d1, d2⟩ := pr
            rw [List.getElem?_zip_eq_some] at ez
            obtain ⟨v1, h3, h4⟩ := h2.get ez.1
            obtain ⟨v2, h5, h6⟩ := g2.get ez.2
            have e1 := hx1 xs (SqL.of (S'.e1 _ _ (m _ _ h1)))
            rw [h3] at e1
            cases e1
            have e2 := hx2 zs (SqL.of (S'.e1 _ _ (m _ _ g1)))
            rw [h5] at e2
            cases e2
            exact ⟨_, S'.new_same nT _, S'.new nT _, .tup upd_same (.cons (h4.mono (m.trans (S'.new_same nT _))) (.cons (h6.mono (m.trans (S'.new_same nT _))) .nil))⟩
        · rw [ln] at hi
          exact ⟨xs, zs, SqL.of (S'.e1 _ _ (m _ _ h1)), SqL.of (S'.e1 _ _ (m _ _ g1)), by omega⟩⟩
end

/-! ### loops -/
section
variable {Z : Ctx} {D : DE} {ρ : List Slot} {own : Own} {pos : Pos} {body : List Stmt} {tg iter c : Expr} {ys : List PyData} {Po : Own → Prop} {k : Nat}
theorem sd_for (g : Gd Z k) (it : IT Z tg iter ρ own Po ys) (I : Nat → List Slot → Own → Prop) (h0 : I 0 ρ own) (hp : ∀ i ρ own, I i ρ own → Po own)
    (step : ∀ i y ρ1 own1, ys[i]? = some y → I i ρ1 own1 → ∃ ρ2 is, GT Z tg y ρ1 ρ2 is ∧ SDs Z body { D with nx := I (i + 1), ct := I (i + 1), bk := D.nx } ρ2 own1) (hd : ∀ ρ1 own1, I ys.length ρ1 own1 → D.nx ρ1 own1)
    (hs : ∀ x, foldedSetIterable iter Z.X.env x = pure x := by intro _; rfl) : SD Z (.For tg iter body [] pos) D ρ own := by
  obtain ⟨wi, hi, hw⟩ := it
  refine fun H0 Hf σ H m0 S E => wS.of (ps_for g.po g.calm hi pgW pssW hs) (hw Hf σ H S E _ fun J Hf1 H1 m1 S1 W => ?_)
  refine ⟨fun i m σ' H' => m = ys.length - i ∧ i ≤ ys.length ∧ ∃ Hf' ρ' own', Same Hf1 Hf' ∧ Sat Z.B Hf' H' own' ∧ EnvR Hf' σ' ρ' ∧ I i ρ' own', ⟨ys.length, by omega, by omega, Hf1, ρ, own, Same.refl _, S1, E.mono m1, h0⟩, ?_⟩
  rintro i m σ' H' ⟨rfl, hi, Hf', ρ', own', m', S', E', q⟩
  by_cases hlt : i < ys.length
  · refine .inr ⟨W.go i Hf' H' own' m' S' (hp _ _ _ q) hlt, fun σ2 H2 => ∃ Hf2 ρ2 own2, Same Hf1 Hf2 ∧ Sat Z.B Hf2 H2 own2 ∧ EnvR Hf2 σ2 ρ2 ∧ I (i + 1) ρ2 own2, fun σ2 H2 ⟨Hf2, ρ2, own2, m2, S2, E2, q2⟩ => ⟨ys.length - (i + 1), by omega, rfl, hlt, Hf2, ρ2, own2, m2, S2, E2, q2⟩, fun x H2 hx => ?_⟩
    obtain ⟨Hf2, m2, S2, r2⟩ := W.yld i _ Hf' H' own' x H2 m' S' (hp _ _ _ q) (List.getElem?_eq_getElem hlt) hx
    obtain ⟨ρ2, is, gt, sb⟩ := step i _ ρ' own' (List.getElem?_eq_getElem hlt) q
    refine gt own' Hf2 σ' H2 x S2 (E'.mono m2) r2 _ fun σ3 E3 _ => ?_
    refine wSs.imp (sb Hf1 Hf2 σ3 H2 (m'.trans m2) S2 E3) (fun _ _ q => q) (fun v H3 ⟨a1, a2, a3, a4, a5⟩ => ⟨a1, a2, a3, (m0.trans m1).trans a4, a5⟩) (fun v H3 ⟨a1, a2, a3, a4, a5⟩ => ⟨a1, a2, a3, (m0.trans m1).trans a4, a5⟩) (fun _ _ q => q)
  · have e : i = ys.length := by omega
    subst e
    exact .inl ⟨W.stop _ Hf' H' own' m' S' (hp _ _ _ q) (Nat.le_refl _), Hf', ρ', own', (m0.trans m1).trans m', S', E', hd _ _ q⟩
end
end Sd


namespace Sd
open PySem PySem.Spec PyProof.Rows L2
/-! ### promises of defs, over data -/
inductive Out where
  | ret (s : Slot) (own : Own)
  | exc (C : Addr) (own : Own)
abbrev Pr := List Slot → Own → (Out → Prop) → Prop
def spG (Pre : Pr) : Sp := fun vs H Q E => ∃ Hf HB ss own post, Sat ⟨Hf, HB⟩ Hf H own ∧ SlotsR Hf vs ss ∧ Pre ss own post ∧ (∀ s own' v Hf' H', post (.ret s own') → Sat ⟨Hf, HB⟩ Hf' H' own' → SlotR Hf' v s → s ≠ .un → Q v H') ∧
  (∀ C own' Hf' H', post (.exc C own') → Sat ⟨Hf, HB⟩ Hf' H' own' → E (.ref C) none H')
/-- the heap without some addresses -/
def less (H : Hp) (l : List Addr) : Hp := fun p => if p ∈ l then none else H p
theorem less_out {H : Hp} {l : List Addr} {p : Addr} (h : p ∉ l) : less H l p = H p := by unfold less; rw [if_neg h]
theorem less_in {H : Hp} {l : List Addr} {p : Addr} (h : p ∈ l) : less H l p = none := by unfold less; rw [if_pos h]
theorem less_none {H : Hp} {l : List Addr} {p : Addr} (h : less H l p = none) : p ∈ l ∨ H p = none := by
  by_cases hp : p ∈ l
  · exact .inl hp
  · rw [less_out hp] at h; exact .inr h
/-- into a callee with part of what is owned, and back -/
theorem Sat.into {B : Bs} {Hf H : Hp} {oa o1 ob : Own} (S : Sat B Hf H (oa ++ o1 ++ ob)) : Sat ⟨Hf, less H (o1.map (·.1))⟩ Hf H o1 := by
  have nd := S.nd
  rw [List.map_append, List.map_append] at nd
  refine ⟨Same.refl _, S.e1, fun p o h => ?_, fun p o h hb => ?_, fun q hq => ?_, (List.nodup_append.mp (List.nodup_append.mp nd).1).2.1, S.tp⟩
  · have h : less H (o1.map (·.1)) p = some o := h
    by_cases hp : p ∈ o1.map (·.1)
    · rw [show less H (o1.map (·.1)) p = none from less_in hp] at h; cases h
    · rw [← less_out (H := H) hp]; exact h
  · rw [show Hf p = none from hb] at h; cases h
  · obtain ⟨a, b, c⟩ := S.ow q (by simp [hq])
    exact ⟨a, less_in (List.mem_map.mpr ⟨q, hq, rfl⟩), c⟩
theorem Sat.back {B : Bs} {Hf H Hf' H' : Hp} {oa o1 o1' ob : Own} (S : Sat B Hf H (oa ++ o1 ++ ob)) (S' : Sat ⟨Hf, less H (o1.map (·.1))⟩ Hf' H' o1') : Sat B Hf' H' (oa ++ o1' ++ ob) := by
  have nd := S.nd
  rw [List.map_append, List.map_append] at nd
  obtain ⟨nd12, nd3, d3⟩ := List.nodup_append.mp nd
  obtain ⟨nd1, nd2, d1⟩ := List.nodup_append.mp nd12
  have b1 : ∀ p, p ∈ o1.map (·.1) → B.HB p = none := fun p hp => by
    obtain ⟨q, hq, rfl⟩ := List.mem_map.mp hp
    exact (S.ow q (by simp [hq])).2.1
  have other : ∀ q, q ∈ oa ∨ q ∈ ob → q ∈ oa ++ o1 ++ ob ∧ q.1 ∉ o1.map (·.1) := fun q hq => by
    rcases hq with h | h
    · exact ⟨by simp [h], fun z => d1 _ (List.mem_map.mpr ⟨q, h, rfl⟩) _ z rfl⟩
    · exact ⟨by simp [h], fun z => d3 _ (List.mem_append_right _ z) _ (List.mem_map.mpr ⟨q, h, rfl⟩) rfl⟩
  have there : ∀ q, q ∈ oa ∨ q ∈ ob → ∃ u, less H (o1.map (·.1)) q.1 = some u ∧ H q.1 = some u := fun q hq => by
    obtain ⟨hm, hn⟩ := other q hq
    obtain ⟨u, hu⟩ := (S.ow q hm).2.2.there
    exact ⟨u, by rw [less_out hn]; exact hu, hu⟩
  have keyO : ∀ q, q ∈ oa ∨ q ∈ ob → Hf' q.1 = none ∧ B.HB q.1 = none ∧ OwnOk Hf' H' q.1 q.2 := fun q hq => by
    obtain ⟨hm, hn⟩ := other q hq
    obtain ⟨a, b, c⟩ := S.ow q hm
    obtain ⟨u, h1, h2⟩ := there q hq
    refine ⟨?_, b, c.mono S'.e0 fun u' hu' => S'.eb _ _ (by show less H _ q.1 = _; rw [less_out hn]; exact hu')⟩
    cases e : Hf' q.1 with
    | none => rfl
    | some o =>
      have z := S'.fr q.1 o e a
      have z' : less H (o1.map (·.1)) q.1 = none := z
      rw [h1] at z'; cases z'
  refine ⟨S.e0.trans S'.e0, S'.e1, fun p o h => ?_, fun p o h hb => ?_, fun q hq => ?_, ?_, S'.tp⟩
  · refine S'.eb p o ?_
    show less H _ p = some o
    rw [less_out (fun z => by rw [b1 p z] at h; cases h)]
    exact S.eb p o h
  · cases e : Hf p with
    | some u => exact S.fr p u e hb
    | none =>
      have z : less H (o1.map (·.1)) p = none := S'.fr p o h e
      rcases less_none z with z | z
      · exact b1 p z
      · exact S.eb.free z
  · rcases List.mem_append.mp hq with h | h
    · rcases List.mem_append.mp h with h | h
      · exact keyO q (.inl h)
      · obtain ⟨a, b, c⟩ := S'.ow q h
        refine ⟨a, ?_, c⟩
        rcases less_none (show less H (o1.map (·.1)) q.1 = none from b) with z | z
        · exact b1 _ z
        · exact S.eb.free z
    · exact keyO q (.inr h)
  · have dj : ∀ q q', (q ∈ oa ∨ q ∈ ob) → q' ∈ o1' → q.1 ≠ q'.1 := fun q q' hq hq' e => by
      obtain ⟨u, h1, _⟩ := there q hq
      have z : less H (o1.map (·.1)) q'.1 = none := (S'.ow q' hq').2.1
      rw [← e, h1] at z; cases z
    rw [List.map_append, List.map_append]
    refine List.nodup_append.mpr ⟨List.nodup_append.mpr ⟨nd1, S'.nd, fun x hx y hy => ?_⟩, nd3, fun x hx y hy => ?_⟩
    · obtain ⟨q, hq, rfl⟩ := List.mem_map.mp hx
      obtain ⟨q', hq', rfl⟩ := List.mem_map.mp hy
      exact dj q q' (.inl hq) hq'
    · obtain ⟨q', hq', rfl⟩ := List.mem_map.mp hy
      rcases List.mem_append.mp hx with hx | hx
      · exact d3 _ (List.mem_append_left _ hx) _ (List.mem_map.mpr ⟨q', hq', rfl⟩)
      · obtain ⟨q, hq, rfl⟩ := List.mem_map.mp hx
        exact fun e => dj q' q (.inr hq') hq e.symm

/-! ### a def keeps its promise -/
section
variable {P : Program} {w : World} {K : PySem.W.Frag} {mg : Str → Option Value} {base : Heap}
theorem SlotsR.env {Hf : Hp} : ∀ {vs : List V} {ss : List Slot}, SlotsR Hf vs ss → ∀ n : Nat, EnvR Hf (vs.map some ++ List.replicate n none) (ss ++ List.replicate n .un)
  | _, _, .nil, n => ⟨by simp, fun i s h => .inl (by
      have h' : (List.replicate n Slot.un)[i]? = some s := h
      rw [List.getElem?_replicate] at h'
      split at h'
      · cases h'; rfl
      · cases h')⟩
  | _, _, .cons (s := s₀) a b, n => by
    have ih := SlotsR.env b n
    refine ⟨by simpa using ih.len, fun i s h => ?_⟩
    cases i with
    | zero =>
      have e : s₀ = s := by simpa using h
      subst e
      exact .inr ⟨_, rfl, a⟩
    | succ i => exact ih.at_ i s (by simpa using h)
/-- the context of a def's body -/
abbrev ctxOf (P : Program) (w : World) (K : PySem.W.Frag) (mg : Str → Option Value) (base : Heap) (N : List Str) (qual : Str) (st : Stmt) (f : Addr) (cdv : Value) (A : Around) (outer : List Env) (s : Shared) (H : Hp) (E : XK) (B : Bs) (ex : Addr → List Slot → Own → Prop) : Ctx :=
  ⟨cxOf (L2.CX P w) P w K mg base N qual (defScope st) f cdv A outer s H E, B, ex⟩
/-- what a body may lean on: the module's facts, the def's names -/
structure Bd (Z : Ctx) (P : Program) (w : World) (K : PySem.W.Frag) (mg : Str → Option Value) (base : Heap) : Prop where
  p : Z.X.prog = P
  w_ : Z.X.w = w
  k : Z.X.K = K
  mg : Z.X.mg = mg
  b : Z.X.base = base
theorem okG {x qual : Str} {st : Stmt} {f : Addr} {fd : FuncData} {N ps : List Str} {k : Nat} {Pre : Pr} (F : Fun K x qual st f fd) (S : FnScope N ps (defScope st)) (len : ∀ ss own post, Pre ss own post → ss.length = ps.length)
    (hbody : ∀ (ss : List Slot) (own : Own) (post : Out → Prop), Pre ss own post → ∀ (cdv : Value) (A : Around) (outer : List Env) (s : Shared) (H : Hp) (E : XK) (B : Bs), Gd (ctxOf P w K mg base N qual st f cdv A outer s H E B (fun C _ own => post (.exc C own))) k →
      SDs (ctxOf P w K mg base N qual st f cdv A outer s H E B (fun C _ own => post (.exc C own))) (defBody st) { nx := fun _ own => post (.ret (.d .none) own), rt := fun s own => post (.ret s own) } (ss ++ List.replicate (N.length - ss.length) .un) own) :
    FnOk P w K mg base (L2.CX P w) (k + 1) f fd ps (spG Pre) := by
  refine F.okX S (fun vs H Q E h => ?_) (fun cdv A outer s H vs Q E hr h => ?_)
  · obtain ⟨Hf, HB, ss, own, post, _, r, h, _⟩ := h
    rw [r.length]
    exact len _ _ _ h
  · obtain ⟨Hf, HB, ss, own, post, S0, r, h, q1, q2⟩ := h
    refine ⟨_, pssW, ?_⟩
    have g : Gd (ctxOf P w K mg base N qual st f cdv A outer s H E ⟨Hf, HB⟩ (fun C _ own => post (.exc C own))) k := by
      refine ⟨?_, passes_of rfl, rfl, S.nd, hr⟩
      refine Takes.imp (takes_of (E := E) rfl rfl rfl rfl) fun c d σ H' hw => ?_
      obtain ⟨C, Hf', ρ, own', rfl, rfl, S', _, hx⟩ := hw
      exact q2 C own' Hf' H' hx S'
    have z := hbody ss own post h cdv A outer s H E ⟨Hf, HB⟩ g Hf Hf (L2.start N vs) H (Same.refl _) S0 (by unfold L2.start; rw [r.length]; exact r.env _)
    refine wSs.imp z (fun σ H' hz => ?_) (fun v H' hz => ?_) (fun _ _ hz => ?_) (fun _ _ hz => ?_)
    · obtain ⟨Hf', ρ, own', _, S', _, hp⟩ := hz
      exact q1 _ own' _ Hf' H' hp S' (Rep.non) (fun z => nomatch z)
    · obtain ⟨Hf', t, own', _, S', r', hu, hp⟩ := hz
      exact q1 t own' v Hf' H' hp S' r' hu
    · obtain ⟨_, _, _, _, _, _, hp⟩ := hz
      exact hp.elim
    · obtain ⟨_, _, _, _, _, _, hp⟩ := hz
      exact hp.elim
end

/-! ### calls of defs -/
/-- all that a call of the def named z wants -/
structure Fn (K : PySem.W.Frag) (mg : Str → Option Value) (P : Program) (w : World) (base : Heap) (z : Str) (ps : List Str) (k : Nat) (Pre : Pr) : Prop where
  ex : ∃ f fd, FnOk P w K mg base (L2.CX P w) k f fd ps (spG Pre) ∧ mg z = some (.ref f) ∧ PySem.W.keepIn K (.ref f) = true ∧ Binds K fd ps []
section
variable {Z : Ctx} {e a b c : Expr} {es : List Expr} {ρ : List Slot} {own oa o1 ob : Own} {pos p : Pos} {x y : PyData} {s t u : Slot} {k j : Nat} {ss : List Slot} {z : Str} {ps : List Str} {Pre : Pr} {post : Out → Prop} {R : Slot → Own → Prop}
theorem eg_call (F : Fn Z.X.K Z.X.mg Z.X.prog Z.X.w Z.X.base z ps j Pre) (g : Gd Z k) (hj : j ≤ k) (ha : EA Z (e :: es) ρ (oa ++ o1 ++ ob) ss) (hp : Pre ss o1 post) (h1 : ∀ s o1', post (.ret s o1') → R s (oa ++ o1' ++ ob)) (h2 : ∀ C o1', post (.exc C o1') → Z.ex C ρ (oa ++ o1' ++ ob))
    (hg : Gl Z.X z := by rfl) (hdb : (z == ("__debug__" : Str)) = false := by decide) (he : starEach (e :: es) Z.X.env = (false, eval e Z.X.env) :: starEach es Z.X.env := by rfl) (hpl : (backTo pos (starEach es Z.X.env)).any (·.1) = false := by rfl) :
    EG Z (.Call (.Name z p) (e :: es) [] pos) ρ (oa ++ o1 ++ ob) R := by
  obtain ⟨f, fd, ok, hm, hk, hb⟩ := F.ex
  refine fun Hf σ H S E Q q => wE.of (pe_callS (E := WE (Wish Z)) ok (g.hr.mono hj) hg hm hk hb (fun σ => passAt g.tk σ) paW hdb he hpl) (ha Hf σ H S E _ fun vs Hf1 H1 m1 S1 r1 => ?_)
  refine ⟨Hf1, less H1 (o1.map (·.1)), ss, o1, post, S1.into, r1, hp, fun s own' v Hf' H' hq S' r' hs => ?_, fun C own' Hf' H' hq S' => ?_⟩
  · exact q v Hf' H' s _ (m1.trans S'.e0) (S1.back S') r' hs (h1 s own' hq)
  · exact ⟨C, Hf', ρ, _, rfl, rfl, S1.back S', E.mono (m1.trans S'.e0), h2 C own' hq⟩
/-- a def called upon data, that gives data -/
theorem es_call (F : Fn Z.X.K Z.X.mg Z.X.prog Z.X.w Z.X.base z ps j Pre) (g : Gd Z k) (hj : j ≤ k) (ha : EA Z (e :: es) ρ own ss) (hp : Pre ss [] (fun o => o = .ret (.d x) []))
    (hg : Gl Z.X z := by rfl) (hdb : (z == ("__debug__" : Str)) = false := by decide) (he : starEach (e :: es) Z.X.env = (false, eval e Z.X.env) :: starEach es Z.X.env := by rfl) (hpl : (backTo pos (starEach es Z.X.env)).any (·.1) = false := by rfl) : ED Z (.Call (.Name z p) (e :: es) [] pos) ρ own x := by
  have := eg_call (p := p) (oa := []) (o1 := []) (ob := own) (R := fun t o => t = .d x ∧ o = own) F g hj ha hp (fun s o1' h => by cases h; exact ⟨rfl, rfl⟩) (fun C o1' h => nomatch h) hg hdb he hpl
  exact EG.toES this
end

/-! ### statements with a change of what is owned -/
section
variable {Z : Ctx} {D : DE} {ρ : List Slot} {own : Own} {pos : Pos} {e : Expr} {R : Slot → Own → Prop}
theorem sd_setG (i : Nat) {z : Str} {pos' : Pos} (hN : Z.X.N.Nodup) (he : EG Z e ρ own R) (h : ∀ s own', R s own' → D.nx (ρ.set i s) own') (hi : Z.X.N[i]? = some z := by rfl) (hx : Loc Z.X.env.scope z := by first | exact Or.inl rfl | exact Or.inr rfl) (hs : swapsWith e (some (.Name z pos')) pos.line Z.X.env = pure false := by rfl)
    (hf : Z.X.fn z = true ∨ Z.X.env.scope.names.lookup z = some .local := by first | exact .inl rfl | exact .inr rfl | assumption) : SD Z (.Assign [.Name z pos'] e pos) D ρ own := fun H0 Hf σ H m0 S E => wS.of (ps_set hN hi hx peW hs hf) (he Hf σ H S E _ fun v Hf1 H1 s own' m1 S1 r1 _ q => ⟨Hf1, _, own', m0.trans m1, S1, (E.mono m1).set r1 i, h s own' q⟩)
theorem sd_exprG (he : EG Z e ρ own R) (h : ∀ s own', R s own' → D.nx ρ own') (hs : swapsWith e none pos.line Z.X.env = pure false := by rfl) : SD Z (.Expr e pos) D ρ own := fun H0 Hf σ H m0 S E => wS.of (ps_expr peW hs) (he Hf σ H S E _ fun v Hf1 H1 s own' m1 S1 r1 _ q => ⟨Hf1, ρ, own', m0.trans m1, S1, E.mono m1, h s own' q⟩)
theorem sd_retG (he : EG Z e ρ own R) (h : ∀ s own', R s own' → D.rt s own') : SD Z (.Return (some e) pos) D ρ own := fun H0 Hf σ H m0 S E => wS.of (ps_ret peW) (he Hf σ H S E _ fun v Hf1 H1 s own' m1 S1 r1 hs q => ⟨Hf1, s, own', m0.trans m1, S1, r1, hs, h s own' q⟩)
end

/-! ### raise -/
section
variable {Z : Ctx} {D : DE} {ρ : List Slot} {own : Own} {pos p p2 pos' : Pos} {k : Nat}
/-- a class of errors of the program -/
structure ErrC (K : PySem.W.Frag) (mg : Str → Option Value) (z : Str) (C : Addr) : Prop where
  g : mg z = some (.ref C)
  x : PySem.W.excIn K C [.type "ValueError", .type "Exception", .type "BaseException", .type "object"] "ValueError.__new__" = true
  k : PySem.W.keepIn K (.ref C) = true
  b : PySem.W.subIn K (.ref C) (.type "BaseException") = some true
  t : PySem.W.typeIn K (.ref C) = some (.type "type")
theorem sd_raise {z m : Str} {C : Addr} {j : Nat} (g : Gd Z k) (T : ErrC Z.X.K Z.X.mg z C) (h : Z.ex C ρ own) (hg : Gl Z.X z := by rfl) (hdb : (z == ("__debug__" : Str)) = false := by decide) : SD Z (.Raise (some (.Call (.Name z p) [.Constant (.str m) j p2] [] pos')) none pos) D ρ own := fun H0 Hf σ H m0 S E =>
  wS.of (ps_raise g.calm g.tk (pmk_own PySem.F.excBase_ValueError T.x T.g T.k (raises_own T.b T.t) hg hdb)) ⟨C, Hf, ρ, own, rfl, rfl, S, E, h⟩
end

/-! ### while, augmented assignments, items stored, append -/
section
variable {Z : Ctx} {D : DE} {ρ : List Slot} {own oa ob : Own} {pos tpos : Pos} {body : List Stmt} {c e a b : Expr} {k : Nat} {i j : Int} {s t : Slot} {ds : List PyData} {x : PyData}
theorem sd_while (g : Gd Z k) (I : Nat → List Slot → Own → Prop) (m : Nat) (h0 : I m ρ own)
    (step : ∀ m ρ1 own1, I m ρ1 own1 → ∃ l, ET Z c ρ1 own1 l ∧ (l = true → SDs Z body { D with nx := fun ρ2 own2 => ∃ m', m' < m ∧ I m' ρ2 own2, ct := fun ρ2 own2 => ∃ m', m' < m ∧ I m' ρ2 own2, bk := D.nx } ρ1 own1) ∧ (l = false → D.nx ρ1 own1)) : SD Z (.While c body [] pos) D ρ own := by
  refine fun H0 Hf σ H m0 S E => wS.of (ps_while g.po ptW pssW) ?_
  refine ⟨fun m σ' H' => ∃ Hf' ρ' own', Same H0 Hf' ∧ Sat Z.B Hf' H' own' ∧ EnvR Hf' σ' ρ' ∧ I m ρ' own', ⟨m, Hf, ρ, own, m0, S, E, h0⟩, ?_⟩
  rintro m σ' H' ⟨Hf', ρ', own', m', S', E', q⟩
  obtain ⟨l, ht, h1, h2⟩ := step m ρ' own' q
  refine ht Hf' σ' H' S' E' _ fun Hf2 H2 m2 S2 => ?_
  cases l with
  | true =>
    refine iteT ⟨fun σ3 H3 => ∃ Hf3 ρ3 own3, Same H0 Hf3 ∧ Sat Z.B Hf3 H3 own3 ∧ EnvR Hf3 σ3 ρ3 ∧ ∃ m', m' < m ∧ I m' ρ3 own3, fun σ3 H3 ⟨Hf3, ρ3, own3, m3, S3, E3, m', hm, q3⟩ => ⟨m', hm, Hf3, ρ3, own3, m3, S3, E3, q3⟩, ?_⟩
    exact wSs.imp (h1 rfl H0 Hf2 σ' H2 (m'.trans m2) S2 (E'.mono m2)) (fun _ _ q => q) (fun _ _ q => q) (fun _ _ q => q) (fun _ _ q => q)
  | false => exact iteF ⟨Hf2, ρ', own', m'.trans m2, S2, E'.mono m2, h2 rfl⟩
/-- xs[i] = e, xs one's own -/
theorem sd_setitem {p : Addr} {n : Nat} (he : ED Z e ρ (oa ++ (p, .lst ds) :: ob) x) (ha : EV Z a ρ (oa ++ (p, .lst ds) :: ob) (.ref p)) (hb : ED Z b ρ (oa ++ (p, .lst ds) :: ob) (.int i)) (hi : ixN ds.length i = some n) (h : D.nx ρ (oa ++ (p, .lst (ds.set n x)) :: ob))
    (hs : swapsWithSole [.Subscript a b tpos] e pos.line Z.X.env = pure false := by rfl) (hw : swappedStores [.Subscript a b tpos] e Z.X.env = pure none := by rfl) (h1 : (assignEach [.Subscript a b tpos] Z.X.env).map (·.2) = [assign (.Subscript a b tpos) Z.X.env] := by rfl)
    (hq : ∀ v, assign (.Subscript a b tpos) Z.X.env v = (do
      let ov ← holding [v] (eval a Z.X.env)
      let iv ← holding [v, ov] (eval b Z.X.env)
      standAt tpos
      holding [v, ov, iv] (setItem ov iv v)
      release [v, ov, iv] []) := by intro _; rfl) : SD Z (.Assign [.Subscript a b tpos] e pos) D ρ (oa ++ (p, .lst ds) :: ob) := fun H0 Hf σ H m0 S E => wS.of (ps_asg peW (pg_sub peW peW set_list hq) hs hw h1) (he Hf σ H S E _ fun v Hf1 H1 m1 S1 r1 => ha Hf1 σ H1 S1 (E.mono m1) _ fun w Hf2 H2 m2 S2 r2 =>
  hb Hf2 σ H2 S2 (E.mono (m1.trans m2)) _ fun z Hf3 H3 m3 S3 r3 => by
    cases r3
    cases (show w = .ref p from r2)
    obtain ⟨_, _, vs, g1, g2⟩ := S3.at (p := p) (oo := .lst ds) (by simp)
    refine ⟨p, vs, i, n, rfl, rfl, g1, by rw [g2.length]; exact hi, Hf3, ρ, _, ((m0.trans m1).trans m2).trans m3, S3.write (oo' := .lst (ds.set n x)) ⟨_, upd_same, g2.set ((show Rep Hf1 v x from r1).mono (m2.trans m3)) n⟩, E.mono ((m1.trans m2).trans m3), h⟩)
/-- xs.append(e), xs one's own -/
theorem sd_append {p : Addr} {apos cpos : Pos} (ha : EV Z a ρ (oa ++ (p, .lst ds) :: ob) (.ref p)) (he : ED Z e ρ (oa ++ (p, .lst ds) :: ob) x) (hl : ds.length < 100000) (h : D.nx ρ (oa ++ (p, .lst (ds ++ [x])) :: ob))
    (hs0 : swapsWith (.Call (.Attribute a "append" apos) [e] [] cpos) none pos.line Z.X.env = pure false := by rfl) (hbase : attributeBase a "append" Z.X.env (eval a Z.X.env) = eval a Z.X.env := by rfl)
    (hfew : ((backTo cpos (starEach [e] Z.X.env)).all (fun x => !x.1) && (backToKw cpos (keywordEach [] Z.X.env)).all (fun x => x.1.isSome)
      && decide ([e].length + ([] : List Keyword).length + (if ([] : List Keyword).isEmpty then 0 else 1) < 30)) = true := by rfl)
    (hline : (apos.endLine == cpos.line) = true := by rfl) (hs : starEach [e] Z.X.env = (false, eval e Z.X.env) :: starEach [] Z.X.env := by rfl) (hplain : (backTo cpos (starEach [] Z.X.env)).any (·.1) = false := by rfl) :
    SD Z (.Expr (.Call (.Attribute a "append" apos) [e] [] cpos) pos) D ρ (oa ++ (p, .lst ds) :: ob) := fun H0 Hf σ H m0 S E => wS.of (ps_expr (pe_bm PySem.F.plainAttrs_list PySem.F.slot_list_append PySem.F.type_list_append mt_append peW (pa_cons peW pa_nil hs) hbase hfew hline hs hplain) hs0)
  (ha Hf σ H S E _ fun v Hf1 H1 m1 S1 r1 => by
    cases (show v = .ref p from r1)
    obtain ⟨_, _, vs, g1, g2⟩ := S1.at (p := p) (oo := .lst ds) (by simp)
    refine ⟨.inl ⟨rfl, _, SqL.of g1⟩, he Hf1 σ H1 S1 (E.mono m1) _ fun w Hf2 H2 m2 S2 r2 => ?_⟩
    obtain ⟨_, _, vs, g1, g2⟩ := S2.at (p := p) (oo := .lst ds) (by simp)
    refine ⟨p, vs, w, rfl, rfl, g1, by rw [g2.length]; exact Nat.lt_of_lt_of_le hl (by decide), Hf2, ρ, _, (m0.trans m1).trans m2, S2.write (oo' := .lst (ds ++ [x])) ⟨_, upd_same, g2.append (.cons r2 .nil)⟩, E.mono (m1.trans m2), h⟩)
theorem atI_ixN {α : Type} {xs : List α} {i : Int} {n : Nat} {v : α} (h : ixN xs.length i = some n) (hv : xs[n]? = some v) : atI xs i = some v := by
  unfold atI
  rw [h]
  exact hv
/-- a, b = x, y with plain local names -/
theorem sd_par (n m : Nat) {x y : Str} {px py pt pt2 : Pos} {kt k2 : Nat} {s t : Slot} (g : Gd Z k) (ha : EA Z [a, b] ρ own [s, t]) (h : D.nx ((ρ.set n s).set m t) own) (hi : Z.X.N[n]? = some x := by rfl) (hj : Z.X.N[m]? = some y := by rfl) (hij : n ≠ m := by decide)
    (hx : Z.X.env.scope.names.lookup x = some .local := by rfl) (hy : Z.X.env.scope.names.lookup y = some .local := by rfl)
    (hw : swappedStores [.Tuple [.Name x px, .Name y py] kt pt] (.Tuple [a, b] k2 pt2) Z.X.env = pure (some [x, y]) := by rfl)
    (hs : swapsWithSole [.Tuple [.Name x px, .Name y py] kt pt] (.Tuple [a, b] k2 pt2) pos.line Z.X.env = pure false := by rfl) : SD Z (.Assign [.Tuple [.Name x px, .Name y py] kt pt] (.Tuple [a, b] k2 pt2) pos) D ρ own := fun H0 Hf σ H m0 S E => wS.of (ps_par g.calm g.nd hi hj hij hx hy paW hw hs)
  (ha Hf σ H S E _ fun vs Hf1 H1 m1 S1 r1 => by
    obtain ⟨v, w, rfl, r1, r2⟩ := r1.two
    exact ⟨v, w, rfl, Hf1, _, own, m0.trans m1, S1, ((E.mono m1).set r1 n).set r2 m, h⟩)
end
end Sd


namespace Sd
open PySem PySem.Spec PyProof.Rows L2
/-! ### comprehensions -/
abbrev blkZ (Z : Ctx) (scope : Scope) (s : Shared) (H : Hp) (C : Addr) (cl : List (Str × Addr)) (fp : List Addr) : Ctx := ⟨Z.X.blk s H scope (compEnvC scope cl C Z.X.env) fp, Z.B, fun _ _ _ => False⟩
structure wTs (X : Cx) (ifs : List Expr) (σ : L2.St) (H : Hp) (Q : Bool → Hp → Prop) : Prop where
  run : ∀ (pins : List (Addr × Obj)) (s : Shared), Inv X pins σ H s → wpAny (model X.prog X.w) X.A (forIn ifs true fun c r => if r = true then do let ok ← isTrue c X.env (eval c X.env); pure (ForInStep.yield ok) else pure (ForInStep.yield r)) (TP X pins σ Q) X.xe s
theorem wTs.of {X : Cx} {ifs : List Expr} {t : TT} (h : PTs X ifs t) {σ : L2.St} {H : Hp} {Q : Bool → Hp → Prop} (q : t σ H Q) : wTs X ifs σ H Q := ⟨fun pins s I => h.run pins s σ H Q I q⟩
def ETs (Z : Ctx) (ifs : List Expr) (ρ : List Slot) (own : Own) (b : Bool) : Prop := ∀ Hf σ H, Sat Z.B Hf H own → EnvR Hf σ ρ → ∀ Q : Bool → Hp → Prop, (∀ Hf' H', Same Hf Hf' → Sat Z.B Hf' H' own → Q b H') → wTs Z.X ifs σ H Q
theorem ets_nil {Z : Ctx} {ρ : List Slot} {own : Own} : ETs Z [] ρ own true := fun Hf σ H S R Q q => wTs.of pts_nil (q Hf H (Same.refl _) S)
theorem ets_one {Z : Ctx} {c : Expr} {ρ : List Slot} {own : Own} {l : Bool} (h : ET Z c ρ own l) : ETs Z [c] ρ own l := fun Hf σ H S R Q q => wTs.of (pts_one ptW) (h Hf σ H S R Q q)
theorem Gd.blk {Z : Ctx} {k : Nat} (g : Gd Z k) (scope : Scope) (s : Shared) (H : Hp) (C : Addr) (cl : List (Str × Addr)) (fp : List Addr) : Gd (blkZ Z scope s H C cl fp) k :=
  ⟨Takes.imp takes0 fun _ _ _ _ ⟨_, _, _, _, _, _, _, _, h⟩ => h, PassesOwn.never, g.calm, g.nd, g.hr⟩
theorem wipe_get {σ : L2.St} {i : Nat} : ∀ {vs : List Nat}, (wipe σ vs)[i]? = if i ∈ vs then (σ[i]?).map (fun _ => none) else σ[i]?
  | [] => by simp [wipe]
  | v :: vs => by
    unfold wipe
    by_cases hi : v = i
    · subst hi
      rw [if_pos (by simp)]
      by_cases hl : v < σ.length
      · rw [List.getElem?_set_self (by rw [wipe_length]; exact hl), List.getElem?_eq_getElem hl]
        rfl
      · rw [List.getElem?_eq_none (by rw [List.length_set, wipe_length]; omega), List.getElem?_eq_none (by omega)]
        rfl
    · rw [List.getElem?_set_ne hi, wipe_get]
      by_cases h2 : i ∈ vs
      · rw [if_pos h2, if_pos (List.mem_cons_of_mem _ h2)]
      · rw [if_neg h2, if_neg (by simp only [List.mem_cons, not_or]; exact ⟨fun e => hi e.symm, h2⟩)]
theorem wipe_but {σ σ2 : L2.St} {is vs : List Nat} (hb : But is (wipe σ vs) σ2) (hi : ∀ i ∈ is, i ∈ vs) : wipe σ2 vs = wipe σ vs := by
  refine List.ext_getElem? fun i => ?_
  rw [wipe_get, wipe_get]
  by_cases h : i ∈ vs
  · rw [if_pos h, if_pos h]
    have hl : σ2.length = σ.length := by rw [hb.1, wipe_length]
    by_cases hn : i < σ.length
    · rw [List.getElem?_eq_getElem hn, List.getElem?_eq_getElem (by omega)]
      rfl
    · rw [List.getElem?_eq_none (by omega), List.getElem?_eq_none (by omega)]
  · rw [if_neg h, if_neg h, hb.2 i (fun z => h (hi i z)), wipe_get, if_neg h]
/-- a comprehension: what it needs, and what its list may be at the end -/
def CP (Z : Ctx) (elt tg iter : Expr) (ifs : List Expr) (scope : Scope) (ρ : List Slot) (own : Own) (Fin : List PyData → Own → Prop) : Prop :=
  ∃ (wi : TI) (g : TG) (tt : TT) (te : TE) (on : List (Str × Nat)), PI Z.X tg iter wi ∧ BlkOk Z.X.N Z.X.env.scope scope on ∧ (∀ (s : Shared) (H : Hp) (C : Addr) (cl : List (Str × Addr)) (fp : List Addr), PG (Z.X.blk s H scope (compEnvC scope cl C Z.X.env) fp) tg g) ∧
    (∀ (s : Shared) (H : Hp) (C : Addr) (cl : List (Str × Addr)) (fp : List Addr), PTs (Z.X.blk s H scope (compEnvC scope cl C Z.X.env) fp) ifs tt) ∧ (∀ (s : Shared) (H : Hp) (C : Addr) (cl : List (Str × Addr)) (fp : List Addr), PE (Z.X.blk s H scope (compEnvC scope cl C Z.X.env) fp) elt te) ∧
    ∀ Hf σ H, Sat Z.B Hf H own → EnvR Hf σ ρ → ∀ Q : VK, (∀ p Hf' H' ds own', Same Hf Hf' → Sat Z.B Hf' H' ((p, .lst ds) :: own') → Fin ds own' → Q (.ref p) H') → tLc wi g tt te (on.map (·.2)) σ H Q
section
variable {Z : Ctx} {elt tg iter : Expr} {ifs : List Expr} {scope : Scope} {ρ : List Slot} {own : Own} {Fin : List PyData → Own → Prop} {k : Nat} {Po : Own → Prop} {ys : List PyData} {pos : Pos} {D : DE}
theorem comp (g : Gd Z k) (it : IT Z tg iter ρ own Po ys) (on : List (Str × Nat)) (ok : BlkOk Z.X.N Z.X.env.scope scope on) (I : Nat → List PyData → Own → Prop) (h0 : I 0 [] own) (hpo : ∀ i acc o D, I i acc o → Po ((D, .lst acc) :: o)) (hlen : ∀ i acc o, I i acc o → acc.length < 100000)
    (step : ∀ i y acc o D, ys[i]? = some y → I i acc o → ∃ ρ2 is l, (∀ i ∈ is, i ∈ on.map (·.2)) ∧ (∀ s H C cl fp, GT (blkZ Z scope s H C cl fp) tg y (wipeR ρ (on.map (·.2))) ρ2 is) ∧ (∀ s H C cl fp, ETs (blkZ Z scope s H C cl fp) ifs ρ2 ((D, .lst acc) :: o) l) ∧
      (l = true → ∀ s H C cl fp, EG (blkZ Z scope s H C cl fp) elt ρ2 ((D, .lst acc) :: o) (fun t o2 => ∃ d o', t = .d d ∧ o2 = (D, .lst acc) :: o' ∧ I (i + 1) (acc ++ [d]) o')) ∧ (l = false → I (i + 1) acc o)) :
    CP Z elt tg iter ifs scope ρ own (fun ds o => I ys.length ds o) := by
  obtain ⟨wi, hi, hw⟩ := it
  refine ⟨wi, fun v σ H Q => ∀ s' H' C cl fp, wG (Z.X.blk s' H' scope (compEnvC scope cl C Z.X.env) fp) tg v σ H Q, fun σ H Q => ∀ s' H' C cl fp, wTs (Z.X.blk s' H' scope (compEnvC scope cl C Z.X.env) fp) ifs σ H Q, fun σ H Q => ∀ s' H' C cl fp, wE (Z.X.blk s' H' scope (compEnvC scope cl C Z.X.env) fp) elt σ H Q, on, hi, ok,
    fun s' H' C cl fp => ⟨fun pins s σ H v u Q I r h => (h s' H' C cl fp).run pins s u I r⟩, fun s' H' C cl fp => ⟨fun pins s σ H Q I h => (h s' H' C cl fp).run pins s I⟩, fun s' H' C cl fp => ⟨fun pins s σ H Q I h => (h s' H' C cl fp).run pins s I⟩, fun Hf σ H S E Q q => ?_⟩
  refine hw Hf σ H S E _ fun J Hf1 H1 m1 S1 W D hD => ?_
  refine ⟨fun i m H' => m = ys.length - i ∧ i ≤ ys.length ∧ ∃ Hf' acc o, Same Hf1 Hf' ∧ Sat Z.B Hf' H' ((D, .lst acc) :: o) ∧ I i acc o, ⟨ys.length, by omega, by omega, Hf1, [], own, Same.refl _, S1.newOwn hD ⟨[], upd_same, .nil⟩, h0⟩, ?_⟩
  rintro i m H' ⟨rfl, hil, Hf', acc, o, m', S', q'⟩
  by_cases hlt : i < ys.length
  · refine .inr ⟨W.go i Hf' H' _ m' S' (hpo i acc o D q') hlt, fun H2 => ∃ Hf2 acc2 o2, Same Hf1 Hf2 ∧ Sat Z.B Hf2 H2 ((D, .lst acc2) :: o2) ∧ I (i + 1) acc2 o2, fun H2 ⟨Hf2, acc2, o2, m2, S2, q2⟩ => ⟨ys.length - (i + 1), by omega, rfl, hlt, Hf2, acc2, o2, m2, S2, q2⟩, fun x H2 hx => ?_⟩
    obtain ⟨Hf2, m2, S2, r2⟩ := W.yld i _ Hf' H' _ x H2 m' S' (hpo i acc o D q') (List.getElem?_eq_getElem hlt) hx
    obtain ⟨ρ2, is, l, hin, gt, et, h1, h2⟩ := step i _ acc o D (List.getElem?_eq_getElem hlt) q'
    have E2 : EnvR Hf2 (wipe σ (on.map (·.2))) (wipeR ρ (on.map (·.2))) := (E.mono ((m1.trans m').trans m2)).wipe _
    intro s' H'' C cl fp
    refine gt s' H'' C cl fp _ Hf2 _ H2 x S2 E2 r2 _ fun σ3 E3 b3 => ⟨wipe_but b3 hin, ?_⟩
    intro s' H'' C cl fp
    refine et s' H'' C cl fp Hf2 σ3 H2 S2 E3 _ fun Hf3 H3 m3 S3 => ?_
    cases l with
    | false => exact iteF ⟨Hf3, acc, o, (m'.trans m2).trans m3, S3, h2 rfl⟩
    | true =>
      refine iteT ?_
      intro s' H'' C cl fp
      refine h1 rfl s' H'' C cl fp Hf3 σ3 H3 S3 (E3.mono m3) _ fun v Hf4 H4 t o2 m4 S4 r4 _ hq => ?_
      obtain ⟨d, o', rfl, rfl, hI⟩ := hq
      obtain ⟨_, _, vs, g1, g2⟩ := S4.at (p := D) (oo := .lst acc) (by simp)
      exact ⟨vs, g1, by rw [g2.length]; exact Nat.lt_of_lt_of_le (hlen _ _ _ q') (by decide), Hf4, acc ++ [d], o', ((m'.trans m2).trans m3).trans m4, S4.write (oa := []) (oo' := .lst (acc ++ [d])) ⟨_, upd_same, g2.append (.cons r4 .nil)⟩, hI⟩
  · have e : i = ys.length := by omega
    subst e
    exact .inl ⟨W.stop _ Hf' H' _ m' S' (hpo _ _ _ _ q') (Nat.le_refl _), q D Hf' H' acc o (m1.trans m') S' q'⟩
theorem eg_comp (g : Gd Z k) (h : CP Z elt tg iter ifs scope ρ own Fin) (hs : ∀ x, foldedSetIterable iter Z.X.env x = pure x := by intro _; rfl) : EG Z (.ListComp elt [⟨tg, iter, ifs, 0⟩] scope pos) ρ own (fun s o => ∃ p ds o', s = .raw (.ref p) ∧ o = (p, .lst ds) :: o' ∧ Fin ds o') := by
  obtain ⟨wi, gg, tt, te, on, hi, ok, hg, ht, he, hq⟩ := h
  exact fun Hf σ H S E Q q => wE.of (pe_lc g.calm g.nd hi ok hg ht he hs) (hq Hf σ H S E Q fun p Hf' H' ds own' m S' hf => q _ Hf' H' (.raw (.ref p)) _ m S' rfl (fun z => nomatch z) ⟨p, ds, own', rfl, rfl, hf⟩)
theorem el_comp {ds : List PyData} (g : Gd Z k) (h : CP Z elt tg iter ifs scope ρ own (fun xs o => xs = ds ∧ o = own)) (hs : ∀ x, foldedSetIterable iter Z.X.env x = pure x := by intro _; rfl) : EL Z (.ListComp elt [⟨tg, iter, ifs, 0⟩] scope pos) ρ own ds :=
  EG.toEL ((eg_comp g h hs).imp fun s o ⟨p, xs, o', e1, e2, e3, e4⟩ => ⟨p, e1, by rw [e2, e3, e4]⟩)
/-- name = [..] on one line -/
theorem sd_setC (n : Nat) {y : Str} {py spos : Pos} (g : Gd Z k) (h : CP Z elt tg iter ifs scope ρ own Fin) (hn : ∀ p ds o', Fin ds o' → D.nx (ρ.set n (.raw (.ref p))) ((p, .lst ds) :: o'))
    (hsw : swapsWith (.ListComp elt [⟨tg, iter, ifs, 0⟩] scope pos) (some (.Name y py)) spos.line Z.X.env = pure true) (hy : Z.X.N[n]? = some y := by rfl) (hyl : Z.X.env.scope.names.lookup y = some .local := by rfl) (hs : ∀ x, foldedSetIterable iter Z.X.env x = pure x := by intro _; rfl) :
    SD Z (.Assign [.Name y py] (.ListComp elt [⟨tg, iter, ifs, 0⟩] scope pos) spos) D ρ own := by
  obtain ⟨wi, gg, tt, te, on, hi, ok, hg, ht, he, hq⟩ := h
  exact fun H0 Hf σ H m0 S E => wS.of (ps_setLc g.calm g.nd hy hyl hsw hi ok hg ht he hs) (hq Hf σ H S E _ fun p Hf' H' ds own' m S' hf => ⟨Hf', _, _, m0.trans m, S', (E.mono m).set (s := .raw (.ref p)) rfl n, hn p ds own' hf⟩)
/-- .. whose elements change nothing -/
theorem compP {α : Type} (g : Gd Z k) (it : IT Z tg iter ρ own Po ys) (on : List (Str × Nat)) (ok : BlkOk Z.X.N Z.X.env.scope scope on) (xs : List α) (enc : α → PyData) (hy : ys = xs.map enc) (F : α → Option PyData) (ρ2 : α → List Slot) (is : List Nat)
    (his : ∀ i ∈ is, i ∈ on.map (·.2)) (hl : xs.length < 100000) (hpo : ∀ acc D, Po ((D, .lst acc) :: own)) (gt : ∀ a ∈ xs, ∀ s H C cl fp, Gd (blkZ Z scope s H C cl fp) k → GT (blkZ Z scope s H C cl fp) tg (enc a) (wipeR ρ (on.map (·.2))) (ρ2 a) is)
    (et : ∀ a ∈ xs, ∀ s H C cl fp o, Gd (blkZ Z scope s H C cl fp) k → ETs (blkZ Z scope s H C cl fp) ifs (ρ2 a) o (F a).isSome) (ed : ∀ a ∈ xs, ∀ d, F a = some d → ∀ s H C cl fp o, Gd (blkZ Z scope s H C cl fp) k → ED (blkZ Z scope s H C cl fp) elt (ρ2 a) o d) :
    CP Z elt tg iter ifs scope ρ own (fun ds o => ds = xs.filterMap F ∧ o = own) := by
  subst hy
  have := comp (Po := Po) (ys := xs.map enc) (elt := elt) (ifs := ifs) (scope := scope) g it on ok (fun i acc o => acc = (xs.take i).filterMap F ∧ o = own ∧ i ≤ xs.length) ⟨rfl, rfl, Nat.zero_le _⟩ (fun i acc o D h => by rw [h.2.1]; exact hpo acc D) (fun i acc o h => by
    rw [h.1]
    have h1 := List.length_filterMap_le F (xs.take i)
    rw [List.length_take] at h1
    omega) (fun i y acc o D hy h => by
      obtain ⟨rfl, rfl, hi⟩ := h
      rw [List.getElem?_map] at hy
      cases ea : xs[i]? with
      | none => rw [ea] at hy; cases hy
      | some a =>
        rw [ea] at hy
        cases hy
        have hm : a ∈ xs := List.mem_of_getElem? ea
        have hlt : i < xs.length := (List.getElem?_eq_some_iff.mp ea).1
        have tk : (xs.take (i + 1)).filterMap F = (xs.take i).filterMap F ++ (F a).toList := by
          rw [List.take_add_one, ea, List.filterMap_append]
          cases hF : F a <;> simp [hF]
        refine ⟨ρ2 a, is, (F a).isSome, his, fun s H C cl fp => gt a hm s H C cl fp (g.blk ..), fun s H C cl fp => et a hm s H C cl fp _ (g.blk ..), fun hs s H C cl fp => ?_, fun hs => ?_⟩
        · obtain ⟨d, hd⟩ := Option.isSome_iff_exists.mp hs
          exact ES.toEG (ed a hm d hd s H C cl fp _ (g.blk ..)) (fun z => nomatch z) ⟨d, o, rfl, rfl, by rw [tk, hd]; rfl, rfl, hlt⟩
        · refine ⟨?_, rfl, hlt⟩
          rw [tk]
          cases hF : F a with
          | none => simp
          | some d => rw [hF] at hs; cases hs)
  obtain ⟨a1, a2, a3, a4, a5, b1, b2, b3, b4, b5, b6⟩ := this
  refine ⟨a1, a2, a3, a4, a5, b1, b2, b3, b4, b5, fun Hf σ H S E Q q => b6 Hf σ H S E Q fun p Hf' H' ds own' m S' hf => q p Hf' H' ds own' m S' ⟨?_, hf.2.1⟩⟩
  rw [hf.1, List.length_map, List.take_length]
end

/-! ### more values -/
section
variable {Z : Ctx} {D : DE} {e a b : Expr} {ρ : List Slot} {own oa ob : Own} {pos p1 p2 p3 : Pos} {s t : Slot} {k j : Nat} {ds ys : List PyData}
end
end Sd


namespace Sd
open PySem PySem.Spec PyProof.Rows L2
/-! ### lists of values, one's own (raw); items with a change of what is owned -/
section
variable {Z : Ctx} {D : DE} {e a b c : Expr} {es : List Expr} {ρ : List Slot} {own oa ob : Own} {pos tpos p : Pos} {i j : Int} {s t : Slot} {k : Nat} {ds : List PyData} {x : PyData} {q : Addr} {vs : List V} {R : Slot → Own → Prop}
theorem es_ixR {v : V} (hq : (q, OO.raw (.lst vs)) ∈ own) (ha : EV Z a ρ own (.ref q)) (hb : ED Z b ρ own (.int i)) (h : atI vs i = some v) (hs : ∀ H, SlotR H v s) (hp : PlainIx b := by exact fun _ _ => rfl) : ES Z (.Subscript a b pos) ρ own s := fun Hf σ H S E Q k =>
  wE.of (pe_ix ix_list peW peW hp) (ha Hf σ H S E _ fun w Hf1 H1 m1 S1 r1 => hb Hf1 σ H1 S1 (E.mono m1) _ fun w2 Hf2 H2 m2 S2 r2 => by
    cases r2
    cases (show w = .ref q from r1)
    obtain ⟨_, _, g⟩ := S2.at hq
    exact ⟨q, vs, i, v, rfl, rfl, SqL.of g, h, k v Hf2 H2 (m1.trans m2) S2 (hs _)⟩)
theorem sd_setitemR {v : V} {n : Nat} (he : ES Z e ρ (oa ++ (q, .raw (.lst vs)) :: ob) s) (hv : ∀ H w, SlotR H w s → w = v) (ha : EV Z a ρ (oa ++ (q, .raw (.lst vs)) :: ob) (.ref q)) (hb : ED Z b ρ (oa ++ (q, .raw (.lst vs)) :: ob) (.int i)) (hi : ixN vs.length i = some n) (h : D.nx ρ (oa ++ (q, .raw (.lst (vs.set n v))) :: ob))
    (hs : swapsWithSole [.Subscript a b tpos] e pos.line Z.X.env = pure false := by rfl) (hw : swappedStores [.Subscript a b tpos] e Z.X.env = pure none := by rfl) (h1 : (assignEach [.Subscript a b tpos] Z.X.env).map (·.2) = [assign (.Subscript a b tpos) Z.X.env] := by rfl)
    (hq : ∀ v, assign (.Subscript a b tpos) Z.X.env v = (do
      let ov ← holding [v] (eval a Z.X.env)
      let iv ← holding [v, ov] (eval b Z.X.env)
      standAt tpos
      holding [v, ov, iv] (setItem ov iv v)
      release [v, ov, iv] []) := by intro _; rfl) : SD Z (.Assign [.Subscript a b tpos] e pos) D ρ (oa ++ (q, .raw (.lst vs)) :: ob) := fun H0 Hf σ H m0 S E => wS.of (ps_asg peW (pg_sub peW peW set_list hq) hs hw h1) (he Hf σ H S E _ fun v1 Hf1 H1 m1 S1 r1 => ha Hf1 σ H1 S1 (E.mono m1) _ fun w Hf2 H2 m2 S2 r2 =>
  hb Hf2 σ H2 S2 (E.mono (m1.trans m2)) _ fun z Hf3 H3 m3 S3 r3 => by
    cases r3
    cases (show w = .ref q from r2)
    cases hv _ _ r1
    obtain ⟨_, _, g⟩ := S3.at (p := q) (oo := .raw (.lst vs)) (by simp)
    exact ⟨q, vs, i, n, rfl, rfl, g, hi, Hf3, ρ, _, ((m0.trans m1).trans m2).trans m3, S3.write (oo' := .raw (.lst (vs.set n v))) upd_same, E.mono ((m1.trans m2).trans m3), h⟩)
/-- xs[..], the place with a change -/
theorem eg_ixL {P : Int → Own → Prop} (ha : ED Z a ρ own (.list ds)) (hb : EG Z b ρ own fun t o => ∃ i, t = .d (.int i) ∧ P i o) (h : ∀ i o, P i o → ∃ d, atI ds i = some d ∧ R (.d d) o) (hp : PlainIx b := by exact fun _ _ => rfl) : EG Z (.Subscript a b pos) ρ own R := fun Hf σ H S E Q k =>
  wE.of (pe_ix ix_list peW peW hp) (ha Hf σ H S E _ fun v Hf1 H1 m1 S1 r1 => hb Hf1 σ H1 S1 (E.mono m1) _ fun w Hf2 H2 t o m2 S2 r2 _ hq => by
    obtain ⟨i, rfl, hq⟩ := hq
    obtain ⟨d, h1, h2⟩ := h i o hq
    obtain ⟨p, vs, rfl, g1, g2⟩ := (Lst.d (own := o)).at S2 (r1.mono m2)
    cases r2
    obtain ⟨z, h3, h4⟩ := atI_rep g2 h1
    exact ⟨p, vs, i, z, rfl, rfl, SqL.of g1, h3, k z Hf2 H2 (.d d) o (m1.trans m2) S2 h4 (fun z => nomatch z) h2⟩)
/-- a new list turned into data -/
theorem EG.frz {P : List PyData → Own → Prop} (h : EG Z e ρ own fun s o => ∃ p ds o', s = .raw (.ref p) ∧ o = (p, .lst ds) :: o' ∧ P ds o') (hR : ∀ ds o, P ds o → R (.d (.list ds)) o) : EG Z e ρ own R := fun Hf σ H S E Q k => h Hf σ H S E Q fun v Hf1 H1 s o m1 S1 r1 hs hq => by
  obtain ⟨p, ds, o', rfl, rfl, hq⟩ := hq
  obtain ⟨Hf2, m2, S2, r2⟩ := Sat.freeze (oa := []) S1
  cases (show v = .ref p from r1)
  exact k _ Hf2 H1 (.d (.list ds)) o' (m1.trans m2) S2 r2 (fun z => nomatch z) (hR ds o' hq)
/-- arguments, the first with a change -/
def EAG (Z : Ctx) (es : List Expr) (ρ : List Slot) (own : Own) (R : List Slot → Own → Prop) : Prop := ∀ Hf σ H, Sat Z.B Hf H own → EnvR Hf σ ρ → ∀ Q : List V → Hp → Prop, (∀ vs Hf' H' ss own', Same Hf Hf' → Sat Z.B Hf' H' own' → SlotsR Hf' vs ss → R ss own' → Q vs H') → wA Z.X es σ H Q
theorem EA.toEAG {ss : List Slot} {R : List Slot → Own → Prop} (h : EA Z es ρ own ss) (q : R ss own) : EAG Z es ρ own R := fun Hf σ H S E Q k => h Hf σ H S E Q fun vs Hf' H' m S' r => k vs Hf' H' ss own m S' r q
theorem eag_cons {R : List Slot → Own → Prop} {P : Slot → Own → Prop} (h : EG Z e ρ own P) (hr : ∀ s o, P s o → s ≠ .un → EAG Z es ρ o (fun ss o' => R (s :: ss) o')) (hs : starEach (e :: es) Z.X.env = (false, eval e Z.X.env) :: starEach es Z.X.env := by rfl) : EAG Z (e :: es) ρ own R := fun Hf σ H S E Q k => wA.of (pa_cons peW paW hs) (h Hf σ H S E _ fun v Hf1 H1 s o m1 S1 r1 hu q1 =>
  hr s o q1 hu Hf1 σ H1 S1 (E.mono m1) _ fun vs Hf2 H2 ss o2 m2 S2 r2 q2 => k (v :: vs) Hf2 H2 (s :: ss) o2 (m1.trans m2) S2 (.cons (r1.mono m2) r2) q2)
end
/-! ### a range whose end changes what is owned, walked by a comprehension -/
section
variable {Z : Ctx} {elt tg iter a : Expr} {ifs : List Expr} {scope : Scope} {ρ : List Slot} {own : Own} {k : Nat} {pos p : Pos}
def ITG (Z : Ctx) (tg iter : Expr) (ρ : List Slot) (own : Own) (P : List PyData → Own → Prop) : Prop := ∃ wi : TI, PI Z.X tg iter wi ∧ ∀ Hf σ H, Sat Z.B Hf H own → EnvR Hf σ ρ → ∀ R : It → Hp → Prop, (∀ J Hf' H' ys own', Same Hf Hf' → Sat Z.B Hf' H' own' → P ys own' → Walk Z.B J Hf' ys (fun _ => True) → R J H') → wi σ H R
theorem itg_range1 {P : Int → Own → Prop} (hm : Z.X.mg "range" = none) (h : EG Z a ρ own fun t o => ∃ i, t = .d (.int i) ∧ (-1000000 ≤ i ∧ i ≤ 1000000) ∧ P i o) (hg : Gl Z.X "range" := by rfl) (hs : starEach [a] Z.X.env = [(false, eval a Z.X.env)] := by rfl) : ITG Z tg (.Call (.Name "range" p) [a] [] pos) ρ own (fun ys o => ∃ i, ys = rng 0 i.toNat ∧ P i o) :=
  ⟨_, pi_range1 hg hm paW hs, fun Hf σ H S E R q => (eag_cons (R := fun ss o => ∃ i, ss = [.d (.int i)] ∧ (-1000000 ≤ i ∧ i ≤ 1000000) ∧ P i o) h (fun s o hq _ => by
      obtain ⟨i, rfl, hi, hp⟩ := hq
      exact EA.toEAG ea_nil ⟨i, rfl, hi, hp⟩) hs) Hf σ H S E _ fun vs Hf1 H1 ss o m1 S1 r1 hq => by
    obtain ⟨i, rfl, hi, hp⟩ := hq
    obtain ⟨v, rfl, r⟩ := r1.one
    cases r
    exact ⟨i, rfl, by omega, by omega, q _ Hf1 H1 _ _ m1 S1 ⟨i, rfl, hp⟩ (walk_rng 0 _)⟩⟩
theorem compG {P : List PyData → Own → Prop} (g : Gd Z k) (it : ITG Z tg iter ρ own P) (on : List (Str × Nat)) (ok : BlkOk Z.X.N Z.X.env.scope scope on) (I : List PyData → Nat → List PyData → Own → Prop) (h0 : ∀ ys o, P ys o → I ys 0 [] o) (hlen : ∀ ys i acc o, I ys i acc o → acc.length < 100000)
    (step : ∀ ys i y acc o D, ys[i]? = some y → I ys i acc o → ∃ ρ2 is l, (∀ i ∈ is, i ∈ on.map (·.2)) ∧ (∀ s H C cl fp, GT (blkZ Z scope s H C cl fp) tg y (wipeR ρ (on.map (·.2))) ρ2 is) ∧ (∀ s H C cl fp, ETs (blkZ Z scope s H C cl fp) ifs ρ2 ((D, .lst acc) :: o) l) ∧
      (l = true → ∀ s H C cl fp, EG (blkZ Z scope s H C cl fp) elt ρ2 ((D, .lst acc) :: o) (fun t o2 => ∃ d o', t = .d d ∧ o2 = (D, .lst acc) :: o' ∧ I ys (i + 1) (acc ++ [d]) o')) ∧ (l = false → I ys (i + 1) acc o)) :
    CP Z elt tg iter ifs scope ρ own (fun ds o => ∃ ys, I ys ys.length ds o) := by
  obtain ⟨wi, hi, hw⟩ := it
  refine ⟨wi, fun v σ H Q => ∀ s' H' C cl fp, wG (Z.X.blk s' H' scope (compEnvC scope cl C Z.X.env) fp) tg v σ H Q, fun σ H Q => ∀ s' H' C cl fp, wTs (Z.X.blk s' H' scope (compEnvC scope cl C Z.X.env) fp) ifs σ H Q, fun σ H Q => ∀ s' H' C cl fp, wE (Z.X.blk s' H' scope (compEnvC scope cl C Z.X.env) fp) elt σ H Q, on, hi, ok,
    fun s' H' C cl fp => ⟨fun pins s σ H v u Q I r h => (h s' H' C cl fp).run pins s u I r⟩, fun s' H' C cl fp => ⟨fun pins s σ H Q I h => (h s' H' C cl fp).run pins s I⟩, fun s' H' C cl fp => ⟨fun pins s σ H Q I h => (h s' H' C cl fp).run pins s I⟩, fun Hf σ H S E Q q => ?_⟩
  refine hw Hf σ H S E _ fun J Hf1 H1 ys own1 m1 S1 hP W D hD => ?_
  refine ⟨fun i m H' => m = ys.length - i ∧ i ≤ ys.length ∧ ∃ Hf' acc o, Same Hf1 Hf' ∧ Sat Z.B Hf' H' ((D, .lst acc) :: o) ∧ I ys i acc o, ⟨ys.length, by omega, by omega, Hf1, [], own1, Same.refl _, S1.newOwn hD ⟨[], upd_same, .nil⟩, h0 ys own1 hP⟩, ?_⟩
  rintro i m H' ⟨rfl, hil, Hf', acc, o, m', S', q'⟩
  by_cases hlt : i < ys.length
  · refine .inr ⟨W.go i Hf' H' _ m' S' trivial hlt, fun H2 => ∃ Hf2 acc2 o2, Same Hf1 Hf2 ∧ Sat Z.B Hf2 H2 ((D, .lst acc2) :: o2) ∧ I ys (i + 1) acc2 o2, fun H2 ⟨Hf2, acc2, o2, m2, S2, q2⟩ => ⟨ys.length - (i + 1), by omega, rfl, hlt, Hf2, acc2, o2, m2, S2, q2⟩, fun x H2 hx => ?_⟩
    obtain ⟨Hf2, m2, S2, r2⟩ := W.yld i _ Hf' H' _ x H2 m' S' trivial (List.getElem?_eq_getElem hlt) hx
    obtain ⟨ρ2, is, l, hin, gt, et, h1, h2⟩ := step ys i _ acc o D (List.getElem?_eq_getElem hlt) q'
    have E2 : EnvR Hf2 (wipe σ (on.map (·.2))) (wipeR ρ (on.map (·.2))) := (E.mono ((m1.trans m').trans m2)).wipe _
    intro s' H'' C cl fp
    refine gt s' H'' C cl fp _ Hf2 _ H2 x S2 E2 r2 _ fun σ3 E3 b3 => ⟨wipe_but b3 hin, ?_⟩
    intro s' H'' C cl fp
    refine et s' H'' C cl fp Hf2 σ3 H2 S2 E3 _ fun Hf3 H3 m3 S3 => ?_
    cases l with
    | false => exact iteF ⟨Hf3, acc, o, (m'.trans m2).trans m3, S3, h2 rfl⟩
    | true =>
      refine iteT ?_
      intro s' H'' C cl fp
      refine h1 rfl s' H'' C cl fp Hf3 σ3 H3 S3 (E3.mono m3) _ fun v Hf4 H4 t o2 m4 S4 r4 _ hq => ?_
      obtain ⟨d, o', rfl, rfl, hI⟩ := hq
      obtain ⟨_, _, vs, g1, g2⟩ := S4.at (p := D) (oo := .lst acc) (by simp)
      exact ⟨vs, g1, by rw [g2.length]; exact Nat.lt_of_lt_of_le (hlen _ _ _ _ q') (by decide), Hf4, acc ++ [d], o', ((m'.trans m2).trans m3).trans m4, S4.write (oa := []) (oo' := .lst (acc ++ [d])) ⟨_, upd_same, g2.append (.cons r4 .nil)⟩, hI⟩
  · have e : i = ys.length := by omega
    subst e
    exact .inl ⟨W.stop _ Hf' H' _ m' S' trivial (Nat.le_refl _), q D Hf' H' acc o (m1.trans m') S' ⟨ys, q'⟩⟩
end
/-! ### a def of the text as the top has left it -/
structure Df (K : PySem.W.Frag) (mg : Str → Option Value) (z : Str) (st : Stmt) (ps : List Str) : Prop where
  ex : ∃ f fd, Fun K z z st f fd ∧ mg z = some (.ref f) ∧ ∀ us : List Value, us.length = ps.length → bindArgs fd ⟨us, []⟩ = pure (ps.zip us)
theorem Df.fn {K : PySem.W.Frag} {mg : Str → Option Value} {P : Program} {w : World} {base : Heap} {z : Str} {st : Stmt} {ps : List Str} {k : Nat} {Pre : Pr} (D : Df K mg z st ps) (h : ∀ f fd, Fun K z z st f fd → FnOk P w K mg base (L2.CX P w) k f fd ps (spG Pre)) : Fn K mg P w base z ps k Pre := by
  obtain ⟨f, fd, F, hm, hb⟩ := D.ex
  exact ⟨f, fd, h f fd F, hm, F.kp, Binds.all hb⟩
theorem df_mk {K : PySem.W.Frag} {mg : Str → Option Value} {h : Heap} {z : Str} {st : Stmt} {ps : List Str} {f : Addr} {oc : Value} {od an : Option Addr} {sl : Array (Option Value)} {kV dc pm cd ct : Value} (X : K.In h) (G : h.Ns mainGlobals mg)
    (hb : ∀ (kV doc pm : Value) (an : Option Addr) (cdv ct : Value) (us : List Value), us.length = ps.length → bindArgs (PySem.W.fnOf z z (defArgs st) (defBody st) (defScope st) .none kV doc pm an cdv ct) ⟨us, []⟩ = pure (ps.zip us))
    (a : PySem.W.nsIn K mainGlobals z = some (some (.ref f))) (l : K.lookup f = some ⟨oc, od, .func (PySem.W.fnOf z z (defArgs st) (defBody st) (defScope st) .none kV dc pm an cd ct), sl⟩) (c : PySem.W.codeIn K cd z = true) (k : PySem.W.keepIn K (.ref f) = true) : Df K mg z st ps :=
  have F := fun_mk (st := st) l c k
  ⟨f, _, F, PySem.W.mg_of X G a, fun us hl => hb _ _ _ _ _ _ us hl⟩
theorem err_mk {K : PySem.W.Frag} {mg : Str → Option Value} {h : Heap} {z : Str} {C : Addr} (X : K.In h) (G : h.Ns mainGlobals mg) (a : PySem.W.nsIn K mainGlobals z = some (some (.ref C)))
    (x : PySem.W.excIn K C [.type "ValueError", .type "Exception", .type "BaseException", .type "object"] "ValueError.__new__" = true) (k : PySem.W.keepIn K (.ref C) = true) (b : PySem.W.subIn K (.ref C) (.type "BaseException") = some true) (t : PySem.W.typeIn K (.ref C) = some (.type "type")) : ErrC K mg z C := ⟨PySem.W.mg_of X G a, x, k, b, t⟩
/-- the classes of the program -/
structure Cl where
  DayError : Addr
  BadYear : Addr
  BadDay : Addr
  BadNumber : Addr
  BadShare : Addr
  BadText : Addr
  NotFound : Addr
  Calendar : Addr
end Sd


/-! fractions as data, sizes -/
namespace Sd
open PySem PySem.Spec PyProof.Rows L2
def fr (q : Rat) : PyData := .tuple [.int q.num, .int (q.den : Int)]
theorem low_eq (a b : Int) (hb : 0 < b) : ((a : Rat) / b).num = a / (Int.gcd a b) ∧ (((a : Rat) / b).den : Int) = b / (Int.gcd a b) := by
  rw [← Rat.divInt_eq_div]
  refine ⟨?_, ?_⟩
  · rw [Rat.num_divInt, Int.sign_eq_one_of_pos hb, Int.one_mul, Int.gcd_comm]
  · rw [Rat.den_divInt, if_neg (by omega), Int.gcd_comm, Int.natCast_ediv, Int.natAbs_of_nonneg (by omega)]
theorem fr_low (a b : Int) (hb : 0 < b) : PyData.tuple [.int (a / (Int.gcd a b : Nat)), .int (b / (Int.gcd a b : Nat))] = fr ((a : Rat) / b) := by
  unfold fr
  rw [(low_eq a b hb).1, (low_eq a b hb).2]
theorem den_pos (q : Rat) : (0 : Int) < (q.den : Int) := by
  have := q.den_nz
  omega
theorem num_den (q : Rat) : (q.num : Rat) / ((q.den : Int) : Rat) = q := by
  rw [← Rat.divInt_eq_div, Rat.num_divInt_den]
theorem den_ne (q : Rat) : ((q.den : Int) : Rat) ≠ 0 := by
  intro h
  have : (q.den : Int) = 0 := by exact_mod_cast h
  have := den_pos q
  omega
theorem num_eq (q : Rat) : (q.num : Rat) = q * ((q.den : Int) : Rat) := by
  have h := num_den q
  have h2 := den_ne q
  grind
theorem eqv_fr (p q : Rat) : PyData.eqv (fr p) (fr q) = decide (p = q) := by
  have e : PyData.eqv (fr p) (fr q) = (decide (p.num = q.num) && decide ((p.den : Int) = (q.den : Int))) := by
    simp [fr, PyData.eqv, PyData.eqvAll, Bool.beq_eq_decide_eq]
  rw [e, Bool.eq_iff_iff]
  simp only [Bool.and_eq_true, decide_eq_true_eq]
  constructor
  · rintro ⟨h1, h2⟩
    exact Rat.ext h1 (by omega)
  · rintro rfl
    exact ⟨rfl, rfl⟩
/-! shapes -/
def Shp (n : Nat) (d : PyData) : Prop := d.canLay0 = true ∧ d.depth ≤ n
theorem Shp.shaped {n : Nat} {d : PyData} (h : Shp n d) (hn : n ≤ 64) : SeqAt.shaped d = true := by
  unfold SeqAt.shaped
  rw [h.1, decide_eq_true (Nat.le_trans h.2 hn)]
  rfl
theorem depthAll_le {n : Nat} : ∀ {ds : List PyData}, (∀ d ∈ ds, d.depth ≤ n) → PyData.depthAll ds ≤ n
  | [], _ => Nat.zero_le _
  | d :: ds, h => by
    unfold PyData.depthAll
    exact Nat.max_le.mpr ⟨h d (by simp), depthAll_le fun x hx => h x (by simp [hx])⟩
theorem canAll_of : ∀ {ds : List PyData}, (∀ d ∈ ds, d.canLay0 = true) → PyData.canLayAll0 ds = true
  | [], _ => by simp [PyData.canLayAll0]
  | d :: ds, h => by
    unfold PyData.canLayAll0
    rw [h d (by simp), canAll_of fun x hx => h x (by simp [hx])]
    rfl
theorem shp_int (i : Int) : Shp 0 (.int i) := ⟨by simp [PyData.canLay0], by simp [PyData.depth]⟩
theorem shp_bool (i : Bool) : Shp 0 (.bool i) := ⟨by simp [PyData.canLay0], by simp [PyData.depth]⟩
theorem shp_list {n : Nat} {ds : List PyData} (h : ∀ d ∈ ds, Shp n d) : Shp (n + 1) (.list ds) := ⟨by unfold PyData.canLay0; exact canAll_of fun d hd => (h d hd).1, by unfold PyData.depth; have := depthAll_le (n := n) fun d hd => (h d hd).2; omega⟩
theorem shp_tup {n : Nat} {ds : List PyData} (h : ∀ d ∈ ds, Shp n d) : Shp (n + 1) (.tuple ds) := ⟨by unfold PyData.canLay0; exact canAll_of fun d hd => (h d hd).1, by unfold PyData.depth; have := depthAll_le (n := n) fun d hd => (h d hd).2; omega⟩
theorem shp_fr (q : Rat) : Shp 1 (fr q) := shp_tup fun d hd => by
  simp only [List.mem_cons, List.not_mem_nil, or_false] at hd
  rcases hd with rfl | rfl <;> exact shp_int _
theorem shp_ints (ns : List Int) : Shp 1 (.list (ns.map PyData.int)) := shp_list fun d hd => by
  obtain ⟨n, _, rfl⟩ := List.mem_map.mp hd
  exact shp_int n
theorem sh_fr (q : Rat) : SeqAt.shaped (fr q) = true := (shp_fr q).shaped (by decide)
theorem sh_ints (ns : List Int) : SeqAt.shaped (.list (ns.map PyData.int)) = true := (shp_ints ns).shaped (by decide)
def Sz (n : Nat) (i : Int) : Prop := i.natAbs < 2 ^ n
def Sq (n : Nat) (q : Rat) : Prop := q.num.natAbs < 2 ^ n ∧ q.den < 2 ^ n
theorem pow_le {m n : Nat} (h : m ≤ n) : 2 ^ m ≤ 2 ^ n := Nat.pow_le_pow_right (by decide) h
theorem Sz.mono {m n : Nat} {i : Int} (h : Sz m i) (hn : m ≤ n) : Sz n i := Nat.lt_of_lt_of_le h (pow_le hn)
theorem Sq.mono {m n : Nat} {q : Rat} (h : Sq m q) (hn : m ≤ n) : Sq n q := ⟨Nat.lt_of_lt_of_le h.1 (pow_le hn), Nat.lt_of_lt_of_le h.2 (pow_le hn)⟩
theorem Sz.mul {m n : Nat} {i j : Int} (h : Sz m i) (h' : Sz n j) : Sz (m + n) (i * j) := wide_lt h h'
theorem Sz.add {m n : Nat} {i j : Int} (h : Sz m i) (h' : Sz n j) : Sz (max m n + 1) (i + j) := by
  have h1 := (h.mono (Nat.le_max_left m n))
  have h2 := (h'.mono (Nat.le_max_right m n))
  unfold Sz at *
  rw [Nat.pow_succ]
  omega
theorem Sz.neg {m : Nat} {i : Int} (h : Sz m i) : Sz m (-i) := by unfold Sz at *; rw [Int.natAbs_neg]; exact h
theorem Sz.sub {m n : Nat} {i j : Int} (h : Sz m i) (h' : Sz n j) : Sz (max m n + 1) (i - j) := by rw [Int.sub_eq_add_neg]; exact h.add h'.neg
theorem Sq.num {m : Nat} {q : Rat} (h : Sq m q) : Sz m q.num := h.1
theorem Sq.den {m : Nat} {q : Rat} (h : Sq m q) : Sz m (q.den : Int) := by unfold Sz; rw [Int.natAbs_natCast]; exact h.2
theorem cdiv_of {b : Nat} {i j : Int} (h : 0 < j) (hb : Sz b j) (h9 : b ≤ 8999) : CDivW i j := wide_div (b := b + 1) h (hb.mono (by omega)) (by omega) (by omega)
theorem ediv_le_natAbs (a : Int) (g : Nat) (hd : (g : Int) ∣ a) : (a / (g : Int)).natAbs ≤ a.natAbs := by
  rw [Int.natAbs_ediv_of_dvd hd]
  exact Nat.div_le_self _ _
theorem Sq.of_div {n : Nat} {a b : Int} (hb : 0 < b) (h1 : Sz n a) (h2 : Sz n b) : Sq n ((a : Rat) / b) := by
  obtain ⟨e1, e2⟩ := low_eq a b hb
  constructor
  · rw [e1]
    exact Nat.lt_of_le_of_lt (ediv_le_natAbs a _ (Int.gcd_dvd_left a b)) h1
  · have h3 := ediv_le_natAbs b _ (Int.gcd_dvd_right a b)
    rw [← e2] at h3
    rw [Int.natAbs_natCast] at h3
    exact Nat.lt_of_le_of_lt h3 h2
theorem plus_eq (p q : Rat) : ((p.num * (q.den : Int) + q.num * (p.den : Int) : Int) : Rat) / ((p.den : Int) * (q.den : Int) : Int) = p + q := by
  have h1 := num_eq p
  have h2 := num_eq q
  have h3 := den_ne p
  have h4 := den_ne q
  push_cast at *
  rw [h1, h2]
  grind
theorem minus_eq (p q : Rat) : ((p.num * (q.den : Int) - q.num * (p.den : Int) : Int) : Rat) / ((p.den : Int) * (q.den : Int) : Int) = p - q := by
  have h1 := num_eq p
  have h2 := num_eq q
  have h3 := den_ne p
  have h4 := den_ne q
  push_cast at *
  rw [h1, h2]
  grind
theorem Sq.add {m n : Nat} {p q : Rat} (h : Sq m p) (h' : Sq n q) : Sq (m + n + 1) (p + q) := by
  rw [← plus_eq]
  refine Sq.of_div (Int.mul_pos (den_pos p) (den_pos q)) ?_ ((h.den.mul h'.den).mono (by omega))
  exact ((h.num.mul h'.den).add (h'.num.mul h.den)).mono (by omega)
theorem Sq.sub {m n : Nat} {p q : Rat} (h : Sq m p) (h' : Sq n q) : Sq (m + n + 1) (p - q) := by
  rw [← minus_eq]
  refine Sq.of_div (Int.mul_pos (den_pos p) (den_pos q)) ?_ ((h.den.mul h'.den).mono (by omega))
  exact ((h.num.mul h'.den).sub (h'.num.mul h.den)).mono (by omega)
theorem gcd_step (a b : Int) (ha : 0 ≤ a) (hb : 0 < b) : Int.gcd b (a % b) = Int.gcd a b := by
  have e : (a % b).natAbs = a.natAbs % b.natAbs := by
    rw [Int.natAbs_emod_of_nonneg ha]
  unfold Int.gcd
  rw [e, Nat.gcd_comm b.natAbs, ← Nat.gcd_rec, Nat.gcd_comm]
/-! no data is a dict -/
theorem Rep.nd {H : Hp} {v : V} {x : PyData} (h : Rep H v x) : ∀ kvs, x ≠ .dict kvs := fun kvs e => by
  subst e
  cases h
theorem Reps.nd {H : Hp} : ∀ {vs : List V} {ds : List PyData}, Reps H vs ds → ∀ d ∈ ds, ∀ kvs, d ≠ .dict kvs
  | _, _, .nil, _, h => nomatch h
  | _, _, .cons a b, d, h => by
    rcases List.mem_cons.mp h with rfl | h
    · exact a.nd
    · exact b.nd d h
def NoD (x : PyData) : Prop := (∀ kvs, x ≠ .dict kvs) ∧ ∀ ds, x = .list ds ∨ x = .tuple ds → ∀ d ∈ ds, ∀ kvs, d ≠ .dict kvs
theorem Rep.noD {H : Hp} {v : V} {x : PyData} (h : Rep H v x) : NoD x := ⟨h.nd, fun ds e => by
  rcases e with rfl | rfl
  · cases h with
    | lst _ r => exact r.nd
  · cases h with
    | tup _ r => exact r.nd⟩
theorem sds_nd {Z : Ctx} {sts : List Stmt} {D : DE} {ρ : List Slot} {own : Own} (i : Nat) {x : PyData} (hi : ρ[i]? = some (.d x)) (k : NoD x → SDs Z sts D ρ own) : SDs Z sts D ρ own := fun H0 Hf σ H m0 S E => by
  obtain ⟨v, _, r⟩ := E.d hi
  exact k r.noD H0 Hf σ H m0 S E
/-! years -/
def isInt (x : PyData) (lo hi : Int) : Bool := match x with
  | .int i => decide (lo ≤ i) && decide (i ≤ hi)
  | _ => false
def isYear (x : PyData) : Bool := match x with
  | .list ds => decide (1 ≤ (ds.length : Int)) && decide ((ds.length : Int) ≤ 8) && (ds.map fun d => isInt d 1 20).all id
  | _ => false
/-- a year of ints -/
structure Yr (ys : List Int) : Prop where
  lo : 1 ≤ ys.length
  hi : ys.length ≤ 8
  it : ∀ y ∈ ys, 1 ≤ y ∧ y ≤ 20
abbrev li (ns : List Int) : PyData := .list (ns.map PyData.int)
theorem Yr.is {ys : List Int} (h : Yr ys) : isYear (li ys) = true := by
  have e : isYear (li ys) = (decide (1 ≤ ((ys.map PyData.int).length : Int)) && decide (((ys.map PyData.int).length : Int) ≤ 8) && ((ys.map PyData.int).map fun d => isInt d 1 20).all id) := rfl
  have h1 := h.lo
  have h2 := h.hi
  rw [e, List.length_map, decide_eq_true (by omega), decide_eq_true (by omega), List.map_map]
  simp only [Bool.and_self, Bool.true_and, List.all_eq_true, List.mem_map]
  rintro x ⟨y, hy, rfl⟩
  have := h.it y hy
  simp [isInt, this.1, this.2]
theorem fm_congr {α β : Type} {f g : α → Option β} : ∀ {l : List α}, (∀ a ∈ l, f a = g a) → l.filterMap f = l.filterMap g
  | [], _ => rfl
  | a :: l, h => by
    rw [List.filterMap_cons, List.filterMap_cons, h a (by simp), fm_congr fun x hx => h x (by simp [hx])]

theorem zipD_ints (xs ys : List Int) : zipD (xs.map PyData.int) (ys.map PyData.int) = (xs.zip ys).map fun p => PyData.tuple [.int p.1, .int p.2] := by
  unfold zipD
  rw [List.zip_map, List.map_map]
  rfl
theorem sum_le_mul {b : Int} : ∀ {ys : List Int}, (∀ y ∈ ys, y ≤ b) → ys.sum ≤ b * ys.length
  | [], _ => by simp
  | y :: ys, h => by
    have h1 := sum_le_mul (ys := ys) fun z hz => h z (by simp [hz])
    have h2 := h y (by simp)
    rw [List.sum_cons, List.length_cons]
    push_cast
    rw [Int.mul_add]
    omega
theorem sum_ge_mul {b : Int} : ∀ {ys : List Int}, (∀ y ∈ ys, b ≤ y) → b * ys.length ≤ ys.sum
  | [], _ => by simp
  | y :: ys, h => by
    have h1 := sum_ge_mul (ys := ys) fun z hz => h z (by simp [hz])
    have h2 := h y (by simp)
    rw [List.sum_cons, List.length_cons]
    push_cast
    rw [Int.mul_add]
    omega
theorem Yr.sum_lo {ys : List Int} (h : Yr ys) : 1 ≤ ys.sum := by
  have h1 := sum_ge_mul (b := 1) fun y hy => (h.it y hy).1
  have := h.lo
  omega
theorem Yr.sum_hi {ys : List Int} (h : Yr ys) : ys.sum ≤ 160 := by
  have h1 := sum_le_mul (b := 20) fun y hy => (h.it y hy).2
  have := h.hi
  omega
theorem Yr.szW {ys : List Int} (h : Yr ys) : Sz 8 ys.sum := by
  have h1 := h.sum_lo
  have h2 := h.sum_hi
  unfold Sz
  omega
theorem Sz.one : Sz 1 1 := by unfold Sz; decide
theorem Sq.one : Sq 1 1 := ⟨by decide, by decide⟩
def maxL (ys : List Int) : Int := ys.foldl max 0
theorem maxL_aux : ∀ (ys : List Int) (a : Int), a ≤ ys.foldl max a ∧ (∀ y ∈ ys, y ≤ ys.foldl max a) ∧ (ys.foldl max a = a ∨ ys.foldl max a ∈ ys)
  | [], a => ⟨Int.le_refl _, by simp, .inl rfl⟩
  | y :: ys, a => by
    obtain ⟨h1, h2, h3⟩ := maxL_aux ys (max a y)
    rw [List.foldl_cons]
    refine ⟨by omega, fun z hz => ?_, ?_⟩
    · rcases List.mem_cons.mp hz with rfl | hz
      · omega
      · exact h2 z hz
    · rcases h3 with h3 | h3
      · rw [h3]
        by_cases h : a ≤ y
        · right
          rw [Int.max_eq_right h]
          simp
        · left
          exact Int.max_eq_left (by omega)
      · exact .inr (by simp [h3])
theorem Yr.max_le {ys : List Int} (h : Yr ys) : ∀ y ∈ ys, y ≤ maxL ys := (maxL_aux ys 0).2.1
/-- a list of numbers for the days -/
structure Ct (ys : List Int) (cs : List Nat) : Prop where
  len : cs.length = ys.length
  sum : cs.sum ≤ 12
def nI (cs : List Nat) : List Int := cs.map fun (n : Nat) => (n : Int)
theorem nI_sum : ∀ cs : List Nat, (nI cs).sum = (cs.sum : Nat)
  | [] => rfl
  | k :: ks => by
    have := nI_sum ks
    unfold nI at *
    rw [List.map_cons, List.sum_cons, List.sum_cons, this]
    push_cast
    rfl
theorem nat_mem_sum : ∀ {cs : List Nat} {k : Nat}, k ∈ cs → k ≤ cs.sum
  | y :: ys, k, h => by
    rw [List.sum_cons]
    rcases List.mem_cons.mp h with rfl | h
    · omega
    · have := nat_mem_sum h
      omega
end Sd


/-! the script, the draws -/
namespace Sd
open PySem PySem.Spec PyProof.Rows L2
def ScrAt (K : PySem.W.Frag) (own : Own) (a : Addr) (xs : List Int) : Prop := ∀ (Hf H : Hp), (∀ q ∈ own, OwnOk Hf H q.1 q.2) → SqL K H a (xs.map V.int)
theorem ScrAt.at {K : PySem.W.Frag} {own : Own} {a : Addr} {xs : List Int} {B : Bs} {Hf H : Hp} (h : ScrAt K own a xs) (S : Sat B Hf H own) : SqL K H a (xs.map V.int) := h Hf H fun q hq => (S.ow q hq).2.2
theorem dp_ints {K : PySem.W.Frag} {H : Hp} : ∀ xs : List Int, DpAll K H (xs.map V.int) (xs.map PyData.int)
  | [] => .nil
  | x :: xs => .cons (.int x) (dp_ints xs)
section
variable {Z : Ctx} {e a b c : Expr} {ρ : List Slot} {own : Own} {pos p : Pos} {i : Int} {k : Nat} {q : Addr} {xs : List Int}
theorem c_neScr (g : Gd Z k) (h : ScrAt Z.X.K own q xs) : CmpB Z .NotEq own (.raw (.ref q)) (.d (.list [])) (!decide (xs = [])) := ⟨_, op_neD g.hr.units, fun v w Hf H S r1 r2 Q k => by
  cases (show v = .ref q from r1)
  refine ⟨.list (xs.map PyData.int), .list [], .lst (h.at S) (dp_ints xs), (Rep.mono S.e1 r2).dp, sh_ints xs, (shp_list (n := 0) (ds := []) (fun d hd => absurd hd (by simp))).shaped (by decide), ?_⟩
  have e : PyData.eqv (.list (xs.map PyData.int)) (.list []) = decide (xs = []) := by
    cases xs <;> simp [PyData.eqv, PyData.eqvAll]
  rw [e]
  exact k⟩
theorem el_listScr (hm : Z.X.mg "list" = none) (h : EV Z e ρ own (.ref q)) (hs' : ScrAt Z.X.K own q xs) (hg : Gl Z.X "list" := by rfl) (hs : starEach [e] Z.X.env = (false, eval e Z.X.env) :: starEach [] Z.X.env := by rfl) : EL Z (.Call (.Name "list" p) [e] [] pos) ρ own (xs.map PyData.int) :=
  el_callTy call_list_of hg hm (by decide +kernel) (ea_cons h ea_nil hs) fun vs Hf H S r0 Q k => by
    obtain ⟨v, rfl, r⟩ := r0.one
    cases (show v = .ref q from r)
    exact ⟨q, _, rfl, .inl (hs'.at S), fun l hl => k l Hf _ (Same.refl _) (S.newOwn (oo := .lst (xs.map PyData.int)) hl ⟨_, upd_same, Reps.ints xs⟩)⟩
/-- [a, i], the first a value with a change -/
theorem eg_lst2 {P : V → Own → Prop} (h1 : EG Z a ρ own fun s o => ∃ v, s = .raw v ∧ P v o) (h2 : ∀ v o, P v o → ED Z b ρ o (.int i)) (hs : starEach [a, b] Z.X.env = (false, eval a Z.X.env) :: starEach [b] Z.X.env := by rfl) (hs2 : starEach [b] Z.X.env = (false, eval b Z.X.env) :: starEach [] Z.X.env := by rfl) :
    EG Z (.List [a, b] pos) ρ own (fun s o => ∃ q v o', s = .raw (.ref q) ∧ o = (q, .raw (.lst [v, .int i])) :: o' ∧ P v o') := fun Hf σ H S E Q k => wE.of (pe_lst paW)
  ((eag_cons (R := fun ss o => ∃ v, ss = [.raw v, .d (.int i)] ∧ P v o) h1 (fun s o hq _ => by
      obtain ⟨v, rfl, hq⟩ := hq
      exact EA.toEAG (ea_cons (h2 v o hq) ea_nil hs2) ⟨v, rfl, hq⟩) hs) Hf σ H S E _ fun vs Hf1 H1 ss o m1 S1 r1 hq => by
    obtain ⟨v, rfl, hq⟩ := hq
    obtain ⟨v1, v2, rfl, r2, r3⟩ := r1.two
    cases (show v1 = v from r2)
    cases r3
    exact ⟨by show 2 ≤ sizeLine; decide, fun p hp => k _ Hf1 _ (.raw (.ref p)) _ m1 (S1.newOwn (oo := .raw (.lst [v, .int i])) hp upd_same) rfl (fun z => nomatch z) ⟨p, v, o, rfl, rfl, hq⟩⟩)
end
/-- what the draws are: a list of a list of ints and a count -/
def drw (d n : Addr) (cells : List Int) (cnt : Int) : Own := [(d, .raw (.lst [.ref n, .int cnt])), (n, .lst (cells.map PyData.int))]
theorem cx_no {P : Program} {w : World} {H : Hp} {s : Shared} {e : Value} {s' : Shared} (h : L2.CX P w [] H s (fun _ _ _ => False) e s') : False := by
  obtain ⟨_, _, _, _, _, _, _, _, _, _, _, _, z⟩ := h
  exact z
def pre_law (K : PySem.W.Frag) : Pr := fun ss own post => ∃ (a : Addr) (ns : List Int), ss = [.raw (.ref a)] ∧ ScrAt K own a ns ∧ ns.length ≤ 63 ∧ post = fun o => ∃ own', o = .ret (.d (.bool true)) own'
theorem law_in {K : PySem.W.Frag} {H : Hp} {a : Addr} {ns : List Int} (hl : ns.length ≤ 63) (hO : Only H) (hS : SqL K H a (ns.map V.int)) : spG (pre_law K) [.ref a] H (fun v _ => v = .bl true) (fun _ _ _ => False) := by
  have fin : ∀ (own : Own) (HB : Hp), Sat ⟨fun _ => none, HB⟩ (fun _ => none) H own → ScrAt K own a ns → spG (pre_law K) [.ref a] H (fun v _ => v = .bl true) (fun _ _ _ => False) := fun own HB S hs =>
    ⟨fun _ => none, HB, [.raw (.ref a)], own, _, S, .cons rfl .nil, ⟨a, ns, rfl, hs, hl, rfl⟩, fun s own' v Hf' H' hq S' r hu => by
      obtain ⟨o, hq⟩ := hq
      cases hq
      cases r
      rfl, fun C own' Hf' H' hq S' => by
      obtain ⟨o, hq⟩ := hq
      cases hq⟩
  have nt : ∀ (p : Addr) (xs : List V), H p = some (.tup xs) → (none : Option HO) = some (.tup xs) := fun p xs h => by
    rcases hO p with z | ⟨o, ys, z⟩
    · rw [z] at h; cases h
    · rw [z] at h; cases h
  rcases hS with (h | ⟨o, h⟩) | h
  · rcases hO a with z | ⟨o, xs, z⟩
    · rw [z] at h; cases h
    · rw [z] at h; cases h
  · refine fin [(a, .raw (.frz o (.lst (ns.map V.int))))] (less H [a]) ⟨fun _ _ h => h, fun _ _ h => (by cases h), fun p u h => ?_, fun p u h => (by cases h), fun q hq => ?_, by simp, nt⟩ (fun Hf H' hq => ?_)
    · by_cases hp : p ∈ [a]
      · have h : less H [a] p = some u := h
        rw [less_in hp] at h; cases h
      · have h : less H [a] p = some u := h
        rw [less_out hp] at h; exact h
    · have e : q = (a, .raw (.frz o (.lst (ns.map V.int)))) := by simpa using hq
      subst e
      exact ⟨rfl, less_in (by simp), h⟩
    · have h' := hq (a, .raw (.frz o (.lst (ns.map V.int)))) (by simp)
      exact .inl (.inr ⟨o, h'⟩)
  · exact fin [] H ⟨fun _ _ h => h, fun _ _ h => (by cases h), fun _ _ h => h, fun p u h => (by cases h), fun q hq => (nomatch hq), by simp, nt⟩ (fun Hf H' _ => .inr h)
end Sd


/-! more statements -/
namespace Sd
open PySem PySem.Spec PyProof.Rows L2
section
variable {Z : Ctx} {D : DE} {e a b c tg : Expr} {es : List Expr} {ρ : List Slot} {own oa ob : Own} {pos tpos p : Pos} {i j : Int} {s t : Slot} {k : Nat} {ds : List PyData} {x : PyData} {q : Addr} {R : Slot → Own → Prop}
end
section
variable {Z : Ctx} {e : Expr} {es : List Expr} {ρ : List Slot} {o1 : Own} {pos p : Pos} {k j : Nat} {ss : List Slot} {z : Str} {ps : List Str} {Pre : Pr} {post : Out → Prop} {R : Slot → Own → Prop}
/-- a def that gets all that is owned -/
theorem eg_callW (F : Fn Z.X.K Z.X.mg Z.X.prog Z.X.w Z.X.base z ps j Pre) (g : Gd Z k) (hj : j ≤ k) (ha : EA Z (e :: es) ρ o1 ss) (hp : Pre ss o1 post) (h1 : ∀ s o1', post (.ret s o1') → R s o1') (h2 : ∀ C o1', post (.exc C o1') → Z.ex C ρ o1')
    (hg : Gl Z.X z := by rfl) (hdb : (z == ("__debug__" : Str)) = false := by decide) (he : starEach (e :: es) Z.X.env = (false, eval e Z.X.env) :: starEach es Z.X.env := by rfl) (hpl : (backTo pos (starEach es Z.X.env)).any (·.1) = false := by rfl) :
    EG Z (.Call (.Name z p) (e :: es) [] pos) ρ o1 R := by
  have e0 : ∀ o : Own, [] ++ o ++ [] = o := fun o => by rw [List.nil_append, List.append_nil]
  have := eg_call (p := p) (R := R) (oa := []) (o1 := o1) (ob := []) F g hj (by rw [e0]; exact ha) hp (fun s o h => by rw [e0]; exact h1 s o h) (fun C o h => by rw [e0]; exact h2 C o h) hg hdb he hpl
  rw [e0] at this
  exact this
end
end Sd


/-! still more rules -/
namespace Sd
open PySem PySem.Spec PyProof.Rows L2
section
variable {Z : Ctx} {D : DE} {e a b c tg : Expr} {es : List Expr} {ρ : List Slot} {own oa ob : Own} {pos tpos p : Pos} {i j : Int} {s t : Slot} {k : Nat} {ds : List PyData} {x y : PyData} {q : Addr} {R : Slot → Own → Prop}
theorem c_isND : CmpB Z .Is own (.d x) (.d .none) (isNone (.d x)) := c_isN (fun z => nomatch z)
theorem c_isNR {v : V} : CmpB Z .Is own (.raw v) (.d .none) (isNone (.raw v)) := c_isN (fun z => nomatch z)
/-- a test that fails: nothing happens -/
theorem sd_ifF {A : List Stmt} (hc : ET Z c ρ own false) (h : D.nx ρ own) : SD Z (.If c A [] pos) D ρ own := sd_if hc (fun e => nomatch e) fun _ => sds_nil h
end
theorem eqvAll_ints : ∀ a b : List Int, PyData.eqvAll (a.map PyData.int) (b.map PyData.int) = decide (a = b)
  | [], [] => by simp [PyData.eqvAll]
  | [], b :: bs => by simp [PyData.eqvAll]
  | a :: as, [] => by simp [PyData.eqvAll]
  | a :: as, b :: bs => by
    rw [List.map_cons, List.map_cons, PyData.eqvAll, eqvAll_ints as bs, Bool.eq_iff_iff]
    simp [PyData.eqv]
theorem eqv_ints (a b : List Int) : PyData.eqv (li a) (li b) = decide (a = b) := by rw [PyData.eqv, eqvAll_ints]
theorem sh_bool (a : Bool) : SeqAt.shaped (.bool a) = true := (shp_bool a).shaped (by decide)
end Sd


/-! an exception that is caught and kept in a name -/
namespace Sd
open PySem PySem.Spec PyProof.Rows L2
/-- an exception of the class cls stands at a -/
def ExK (cls : Value) (a : Addr) : HO := .ext fun h => ∃ (oe : Obj) (vs : Array Value), h.get? a = some oe ∧ Zc cls none oe ∧ oe.data = .fields vs
section
variable {X : Cx} {pins : List (Addr × Obj)} {σ : L2.St} {H : Hp} {s : Shared}
/-- an object of ours that is not tracked yet, and was not there at the entry, is tracked from here on -/
theorem inv_track {a : Addr} {φ : Heap → Prop} (I : Inv X pins σ H s) (na : H a = none) (n0 : X.s_0.heap.get? a = none) (nL : a ≠ X.env.locals) (nC : ∀ x c, X.env.cells.lookup x = some c → c ≠ a) (nP : ∀ p ∈ X.pn ++ pins, p.1 ≠ a) (ok : ObjOk X.prog X.w (upd H a (.ext φ)) s.heap a (.ext φ)) : Inv X pins σ (upd H a (.ext φ)) s := by
  have ne0 : ∀ b o, X.s_0.heap.get? b = some o → b ≠ a := fun b o q z => by rw [z, n0] at q; cases q
  have B := I.base
  refine { ok := I.ok, os := I.os, bare := I.bare, loc := I.loc, cell := I.cell, len := I.len, base := { keep := B.keep, slot := B.slot, there := B.there, free := ?_, tups := ?_, frzs := ?_, tbls := ?_ }, free := ?_, freeC := ?_, pin := ?_, hok := ?_ }
  · intro b o q n x
    rw [upd_ne (ne0 b o q)]
    exact B.free b o q n x
  · intro b xs q
    have q' := B.tups b xs q
    rw [upd_ne (ne_of_none q' na)]
    exact q'
  · intro b o u q
    have q' := B.frzs b o u q
    rw [upd_ne (ne_of_none q' na)]
    exact q'
  · intro b ps q
    obtain ⟨m, q'⟩ := B.tbls b ps q
    exact ⟨m, by rw [upd_ne (ne_of_none q' na)]; exact q'⟩
  · rw [upd_ne nL.symm]
    exact I.free
  · intro x c q
    rw [upd_ne (nC x c q)]
    exact I.freeC x c q
  · intro p hp
    obtain ⟨p1, p2, p3⟩ := I.pin p hp
    exact ⟨p1, by rw [upd_ne (nP p hp)]; exact p2, p3⟩
  · intro b o q
    by_cases hb : b = a
    · subst hb
      rw [upd_same] at q
      cases q
      exact ok
    · rw [upd_ne hb] at q
      exact (I.hok b o q).stay (fun c u _ r => r) (fun c r => by rw [upd_ne (ne_of_none r na)]; exact r) fun c xs r => by rw [upd_ne (ne_of_none r na)]; exact r
end
/-- the body of a try -/
abbrev trZ (Z : Ctx) (pn : List (Addr × Obj)) (xe : Value → Shared → Prop) (B' : Bs) (ex' : Addr → List Slot → Own → Prop) : Ctx := ⟨Z.X.tr pn xe, B', ex'⟩
section
variable {Z : Ctx} {D : DE} {ρ : List Slot} {own : Own} {k : Nat} {x n z : Str} {c : Value} {body : List Stmt} {np pos pos' p1 p2 p3 : Pos}
/-- try: body; except x as n: z = n. An exception that the body lets out is of a class that x names, and it is z's from then on -/
theorem sd_try_keep (ie ic : Nat) (g : Gd Z k) (hc : Names Z.X x c)
    (hb : ∀ pn xe B', Gd (trZ Z pn xe B' fun C ρ' o' => PySem.W.exmOne Z.X.K (.ref C) c = some true ∧ ∀ a, D.nx (((ρ'.set ie (.raw (.ref a))).set ic (.raw (.ref a))).set ie .un) ((a, .raw (ExK (.ref C) a)) :: o')) k →
      SDs (trZ Z pn xe B' fun C ρ' o' => PySem.W.exmOne Z.X.K (.ref C) c = some true ∧ ∀ a, D.nx (((ρ'.set ie (.raw (.ref a))).set ic (.raw (.ref a))).set ie .un) ((a, .raw (ExK (.ref C) a)) :: o')) body D ρ own)
    (hs : Z.X.stack = Z.X.env :: Z.X.outer := by rfl) (hf : Z.X.env.frame = some Z.X.env.locals := by rfl) (hie : Z.X.N[ie]? = some n := by rfl) (hle : Z.X.env.kindOf n = some .local := by rfl) (hic : Z.X.N[ic]? = some z := by rfl) (hlc : Loc Z.X.env.scope z := by first | exact Or.inl rfl | exact Or.inr rfl)
    (hne : ie ≠ ic := by decide) (hvn : Vis Z.X.env.scope n := by first | exact Or.inl rfl | exact Or.inr (Or.inl rfl) | exact Or.inr (Or.inr rfl)) (hd : (n == ("__debug__" : Str)) = false := by decide) (hcd : (n == ("__classdict__" : Str)) = false := by decide) (hsw : swapsWith (.Name n p2) (some (.Name z p1)) p3.line Z.X.env = pure false := by rfl) (hxx : Z.X.ex = [] := by rfl)
    (hfz : Z.X.fn z = true ∨ Z.X.env.scope.names.lookup z = some .local := by first | exact .inl rfl | exact .inr rfl | assumption) :
    SD Z (.Try body [.ExceptHandler (some (.Name x np)) (some n) [.Assign [.Name z p1] (.Name n p2) p3] pos'] [] [] pos) D ρ own := by
  intro H0 Hf σ H m0 S E
  refine ⟨fun pins s I => ?_⟩
  have ok := I.ok
  have hfr : Z.X.A.frames = some (Z.X.env :: Z.X.outer) := ok.frames.trans (by rw [hs])
  have S0 : Sat Z.B Hf H ([] ++ own ++ []) := by rw [List.nil_append, List.append_nil]; exact S
  have bk : ∀ {Hf' H' : Hp} {o' : Own}, Sat ⟨Hf, less H (own.map (·.1))⟩ Hf' H' o' → Sat Z.B Hf' H' o' := fun {Hf' H' o'} S' => by
    have := S0.back S'
    rw [List.nil_append, List.append_nil] at this
    exact this
  obtain ⟨xe, hxe⟩ : ∃ xe : Value → Shared → Prop, xe = fun e t₁ => wpAny (model Z.X.prog Z.X.w) Z.X.A (noteFrame e Z.X.env) (fun _ t₂ => wpAny (model Z.X.prog Z.X.w) Z.X.A (setFlight e none) (fun _ t₃ => wpAny (model Z.X.prog Z.X.w) Z.X.A (handleBy e Z.X.env [.ExceptHandler (some (.Name x np)) (some n) [.Assign [.Name z p1] (.Name n p2) p3] pos']) (SP Z.X pins (lift Z.B H0 D)) Z.X.xe t₃) Z.X.xe t₂) Z.X.xe t₁ := ⟨_, rfl⟩
  refine wpAny_Try_except ?_
  have gB : Gd (trZ Z (Z.X.pn ++ pins) xe ⟨Hf, less H (own.map (·.1))⟩ fun C ρ' o' => PySem.W.exmOne Z.X.K (.ref C) c = some true ∧ ∀ a, D.nx (((ρ'.set ie (.raw (.ref a))).set ic (.raw (.ref a))).set ie .un) ((a, .raw (ExK (.ref C) a)) :: o')) k := by
    refine ⟨?_, by rw [hxe]; exact PassesOwn.looking, g.calm, g.nd, g.hr⟩
    intro u s' xx
    obtain ⟨a, B, sI, pins', σ', H', cls, d, rfl, J', nb, up, sky, na, os, ag, C, Hf', ρ', o', rfl, rfl, S', E', hex, hnx⟩ := xx
    rw [hxe]
    have J : Inv Z.X pins σ' H' sI := J'.ofTry ok
    have sky2 : Sky B (Z.X.env :: Z.X.outer) a (Zc (.ref C) none) Z.X.env.locals s'.heap := by rw [← hs]; exact sky
    refine Sky.land Zc.steady hfr hf sky2 fun h3 fl3 up3 => ?_
    have J3 : Inv Z.X pins σ' H' { s' with heap := h3 } := J.landed nb fl3.1 (up.trans up3) os ag
    obtain ⟨oe3, vs3, he3, hz3, hd3⟩ := fl3.there
    have aB : B.get? a = none := fl3.2.1
    have nfr : a ∉ frs (Z.X.env :: Z.X.outer) := fun hm => by
      obtain ⟨_, o2, q2, hnf⟩ := fl3.2.2.1.mem hm
      rw [he3] at q2
      cases q2
      exact hnf _ hd3
    have nL : a ≠ Z.X.env.locals := fun q => nfr (List.mem_filterMap.mpr ⟨Z.X.env, List.mem_cons_self, by rw [hf, q]⟩)
    have nF : a ∉ Z.X.fs := fun hm => by
      obtain ⟨e, he, q⟩ := List.mem_filterMap.mp hm
      exact nfr (List.mem_filterMap.mpr ⟨e, List.mem_cons_of_mem _ he, q⟩)
    have notI : ∀ o, sI.heap.get? a ≠ some o := fun o q => by
      rw [nb a o q (by rw [hs]; exact nfr)] at aB
      cases aB
    have n0 : Z.X.s_0.heap.get? a = none := by
      cases q : Z.X.s_0.heap.get? a with
      | none => rfl
      | some o =>
        obtain ⟨o2, q2⟩ := J.base.there a o q (by rw [hxx]; exact fun z => nomatch z)
        exact absurd q2 (notI o2)
    have nC : ∀ x c, Z.X.env.cells.lookup x = some c → c ≠ a := fun x c q e => by
      obtain ⟨v, o, q2, _⟩ := J.cell x c q
      rw [e] at q2
      exact notI o q2
    have nP : ∀ p ∈ Z.X.pn ++ pins, p.1 ≠ a := fun p hp e => by
      have q := (J.pin p hp).1
      rw [e] at q
      exact notI _ q
    have S3 := J3.suite he3 hd3 na nL nF
    refine wpAny_handleBy_cons (codeAny_handlers_test ?_) (by intro q; cases q)
    have LT : PySem.W.Looks (model Z.X.prog Z.X.w) h3 (typeOf (.ref a)) (.ref C) := fun A Q E s k q => wpAny_typeOf_ref (k _ _ he3) (by rw [hz3.1]; exact q)
    have LM := PySem.W.exm_one (M := model Z.X.prog Z.X.w) J3.kIn LT hex
    have test : ∀ {Q : Value → Shared → Prop} {E : Value → Shared → Prop}, Q c { s' with heap := h3 } → wpAny (model Z.X.prog Z.X.w) (Z.X.A.mark (some (.ref a))) (eval (.Name x np) Z.X.env) Q E { s' with heap := h3 } := by
      intro Q E q
      obtain ⟨hg, hdbg, hm | ⟨hm, hv, hnn⟩⟩ := hc
      · exact ld_glob (X := Z.X.suite a ((a, oe3) :: (Z.X.pn ++ pins))) S3 hg hm q hdbg
      · exact ld_blt (X := Z.X.suite a ((a, oe3) :: (Z.X.pn ++ pins))) S3 hg hm hv q hnn hdbg
    refine test (LM.here ?_)
    refine codeAny_handlers_suite_as (HandSPX.lands_againZ fl3 fun h4 fl4 up4 => ?_)
    have J4 : Inv Z.X pins σ' H' { s' with heap := h4 } := J.landed nb fl4.1 ((up.trans up3).trans up4) os ag
    obtain ⟨oe4, vs4, he4, hz4, hd4⟩ := fl4.there
    have S4 := J4.suite he4 hd4 na nL nF
    have hln : σ'.length = Z.X.N.length := J.len
    have hiel : ie < σ'.length := by rw [hln]; exact (List.getElem?_eq_some_iff.mp hie).1
    refine store_ok (X := Z.X.suite a ((a, oe4) :: (Z.X.pn ++ pins))) (v := .ref a) S4 g.nd hie (.inl hle) rfl (fun s5 S5 => ?_) (.inr hle)
    have suite : PSs (Z.X.suite a ((a, oe4) :: (Z.X.pn ++ pins))) [.Assign [.Name z p1] (.Name n p2) p3] _ := pss_one (ps_set g.nd hic hlc (pe_var hie hvn hd hcd) hsw hfz)
    refine wpAny_mono (suite.run [] s5 _ H' { nx := fun σ6 H6 => σ6 = (σ'.set ie (some (.ref a))).set ic (some (.ref a)) ∧ H6 = H', rt := fun _ _ => False, bk := fun _ _ => False, ct := fun _ _ => False } S5 ⟨.ref a, List.getElem?_set_self hiel, rfl, rfl⟩) (fun f s6 hsp => ?_) (fun _ _ z => False.elim z)
    cases f with
    | brk => obtain ⟨_, _, _, q⟩ := hsp; exact q.elim
    | cont => obtain ⟨_, _, _, q⟩ := hsp; exact q.elim
    | ret u => obtain ⟨_, _, _, _, _, q⟩ := hsp; exact q.elim
    | next =>
      obtain ⟨σ6, H6, S6, rfl, rfl⟩ := hsp
      have U6 := S6.unsuite ok
      have J6 : Inv Z.X ((a, oe4) :: pins) ((σ'.set ie (some (.ref a))).set ic (some (.ref a))) H6 s6 := { U6 with pin := fun p hp => S6.pin p (by
        rw [List.append_nil]
        rcases List.mem_append.mp hp with h | h
        · exact List.mem_cons_of_mem _ (List.mem_append_left _ h)
        · rcases List.mem_cons.mp h with h | h
          · rw [h]; exact List.mem_cons_self
          · exact List.mem_cons_of_mem _ (List.mem_append_right _ h)) }
      refine gone_ok J6 g.nd hie hle fun s7 J7 => ?_
      obtain ⟨ha7, _⟩ := J7.pin (a, oe4) (by simp)
      have J7' : Inv Z.X pins (((σ'.set ie (some (.ref a))).set ic (some (.ref a))).set ie none) H6 s7 := { J7 with pin := fun p hp => J7.pin p (by
        rcases List.mem_append.mp hp with h | h
        · exact List.mem_append_left _ h
        · exact List.mem_append_right _ (List.mem_cons_of_mem _ h)) }
      have J8 := inv_track (a := a) J7' (φ := fun h => ∃ (oe : Obj) (vs : Array Value), h.get? a = some oe ∧ Zc (.ref C) none oe ∧ oe.data = .fields vs) na n0 nL nC nP ⟨⟨oe4, vs4, ha7, hz4, hd4⟩, ⟨oe4, ha7⟩, fun h1 h2 ⟨oe, vs, q1, q2, q3⟩ hh => ⟨oe, vs, hh oe q1, q2, q3⟩⟩
      refine ⟨_, _, J8, Hf', _, (a, .raw (ExK (.ref C) a)) :: o', m0.trans S'.e0, (bk S').newOwn na upd_same, ?_, hnx a⟩
      exact ((E'.set (v := .ref a) (s := .raw (.ref a)) rfl ie).set (v := .ref a) (s := .raw (.ref a)) rfl ic).unset ie none
  refine wpAny_mono ((hb _ xe _ gB Hf Hf σ H (Same.refl _) S0.into E).run [] s (I.toTry _)) (fun f s1 hsp => ?_) (fun e s1 he => by rw [hxe] at he; exact he)
  cases f with
  | next =>
    obtain ⟨σ', H', J', Hf', ρ', o', m', S', E', q⟩ := hsp
    exact wpAny_execs_nil ⟨σ', H', J'.ofTry ok, Hf', ρ', o', m0.trans m', bk S', E', q⟩
  | brk =>
    obtain ⟨σ', H', J', Hf', ρ', o', m', S', E', q⟩ := hsp
    exact ⟨σ', H', J'.ofTry ok, Hf', ρ', o', m0.trans m', bk S', E', q⟩
  | cont =>
    obtain ⟨σ', H', J', Hf', ρ', o', m', S', E', q⟩ := hsp
    exact ⟨σ', H', J'.ofTry ok, Hf', ρ', o', m0.trans m', bk S', E', q⟩
  | ret u =>
    obtain ⟨v, σ', H', J', r, Hf', t, o', m', S', r', hu, q⟩ := hsp
    exact ⟨v, σ', H', J'.ofTry ok, r, Hf', t, o', m0.trans m', bk S', r', hu, q⟩
end
/-! ### isinstance of a kept exception -/
theorem call_isX {X : Cx} {a D : Addr} (C : ExcC X.K D) : CallR X (.builtin "isinstance") (fun xs H Q => ∃ (c : V) (cv : Value) (l : Bool), xs = [.ref a, c] ∧ H a = some (ExK (.ref D) a) ∧ (∀ u, RelV c u → u = cv) ∧ PySem.W.kitOne X.K (.ref D) cv = some l ∧ Q (.bl l) H) := by
  intro pins s σ H xs us Q I r h
  obtain ⟨c, cv, l, rfl, ha, hcv, hk, q⟩ := h
  obtain ⟨u1, u2, rfl, r1, r2⟩ := vals2 r
  cases (show u1 = Value.ref a from r1)
  cases hcv u2 r2
  obtain ⟨⟨oe, vs, g1, g2, g3⟩, _⟩ := I.hok a _ ha
  have J : PySem.W.InstAt s.heap a oe D none := by
    obtain ⟨oc, od, oda, osl⟩ := oe
    obtain ⟨z1, z2⟩ := g2
    cases z1
    cases z2
    cases g3
    exact ⟨g1, rfl, rfl, trivial⟩
  exact PySem.W.kia_one (PySem.W.handS_kitx_exc C.hg C.hk C.hs C.hd C.ha C.hn C.ht C.hm) I.kIn J hk (fun z => nomatch z) fun tk => ⟨.bl l, H, I.tok tk, rfl, q⟩
section
variable {Z : Ctx} {a b o e : Expr} {ρ : List Slot} {own : Own} {pos p cpos apos : Pos} {k : Nat} {q D : Addr} {s t : Slot} {ds : List PyData} {x : PyData}
theorem ed_isX {l : Bool} {cv : Value} {cV : V} (C : ExcC Z.X.K D) (hm : Z.X.mg "isinstance" = none) (hq : (q, OO.raw (ExK (.ref D) q)) ∈ own) (h : EV Z a ρ own (.ref q)) (hc : EV Z b ρ own cV) (hcv : ∀ u, RelV cV u → u = cv) (hk : PySem.W.kitOne Z.X.K (.ref D) cv = some l) (hg : Gl Z.X "isinstance" := by rfl) (hs : starEach [a, b] Z.X.env = (false, eval a Z.X.env) :: starEach [b] Z.X.env := by rfl) (hs2 : starEach [b] Z.X.env = (false, eval b Z.X.env) :: starEach [] Z.X.env := by rfl) (hpl : (backTo pos (starEach [b] Z.X.env)).any (·.1) = false := by rfl) :
    ED Z (.Call (.Name "isinstance" p) [a, b] [] pos) ρ own (.bool l) :=
  es_callB (call_isX (a := q) C) hg hm (by decide +kernel) (ea_cons h (ea_cons hc ea_nil hs2) hs) (fun vs Hf H S r0 Q k => by
    obtain ⟨v, w, rfl, r1, r2⟩ := r0.two
    cases (show v = .ref q from r1)
    cases (show w = cV from r2)
    obtain ⟨_, _, g⟩ := S.at hq
    exact ⟨cV, cv, l, rfl, g, hcv, hk, k _ Hf H (Same.refl _) S (.bl l)⟩) (by decide) (by decide) hs hpl
/-! ### xs.count(x), xs.index(x) of data -/
theorem mt_countD {X : Cx} (hu : X.A.units + 65 < cLine) : MtR X "list.count" (fun x xs H Q => ∃ (a : Addr) (y : V) (d : PyData) (ds : List PyData), x = V.ref a ∧ xs = [y] ∧ Dp X.K H (V.ref a) (.list ds) ∧ Dp X.K H y d ∧ PyData.plainAll ds = true ∧ d.plain = true ∧ d.depth ≤ 64 ∧ Q (.int (ds.countP (fun z => PyData.eqv z d) : Nat)) H) := by
  intro pins s σ H x xs v us Q I rx rxs h
  obtain ⟨a, y, d, ds, rfl, rfl, hl, hy, h1, h2, h3, q⟩ := h
  cases rx
  obtain ⟨uy, rfl, ry⟩ := rxs.one
  obtain ⟨bs, r1⟩ := Dp.reads I d y uy hy ry
  cases hl with
  | lst hs ha =>
    obtain ⟨its, rv, ⟨⟨cls, dd, data, sls⟩, n, ho, hc, hdn, hdt⟩, hlen⟩ := I.list hs
    obtain ⟨as, h4⟩ := Dp.readsAll I ds _ its ha rv
    exact SeqAt.count_list_data (vs := its.toArray) ⟨_, ho, hc, n, hdt⟩ h4 r1 h1 h2 (by omega) ⟨.int _, H, I.tok _, ⟨s.toks, rfl⟩, q⟩
theorem ed_count (g : Gd Z (k + 1)) (ho : ES Z o ρ own s) (L : Lst own s ds) (he : ED Z e ρ own x) (h1 : PyData.plainAll ds = true) (h2 : x.plain = true) (h3 : x.depth ≤ 64)
    (hbase : attributeBase o "count" Z.X.env (eval o Z.X.env) = eval o Z.X.env := by rfl)
    (hfew : ((backTo cpos (starEach [e] Z.X.env)).all (fun x => !x.1) && (backToKw cpos (keywordEach [] Z.X.env)).all (fun x => x.1.isSome)
      && decide ([e].length + ([] : List Keyword).length + (if ([] : List Keyword).isEmpty then 0 else 1) < 30)) = true := by rfl)
    (hline : (apos.endLine == cpos.line) = true := by rfl) (hs : starEach [e] Z.X.env = (false, eval e Z.X.env) :: starEach [] Z.X.env := by rfl) (hplain : (backTo cpos (starEach [] Z.X.env)).any (·.1) = false := by rfl) :
    ED Z (.Call (.Attribute o "count" apos) [e] [] cpos) ρ own (.int (ds.countP (fun z => PyData.eqv z x) : Nat)) := fun Hf σ H S E Q q => wE.of (pe_bm PySem.F.plainAttrs_list PySem.F.slot_list_count PySem.F.type_list_count (mt_countD (by have := g.hr.un; omega)) peW (pa_cons peW pa_nil hs) hbase hfew hline hs hplain)
  (ho Hf σ H S E _ fun v Hf1 H1 m1 S1 r1 => by
    obtain ⟨p, vs, rfl, g1, _⟩ := L.at S1 r1
    refine ⟨.inl ⟨rfl, _, SqL.of g1⟩, he Hf1 σ H1 S1 (E.mono m1) _ fun w Hf2 H2 m2 S2 r2 => ?_⟩
    obtain ⟨p', vs', e', g1, g2⟩ := L.at S2 (r1.mono m2)
    cases e'
    exact ⟨p, w, x, ds, rfl, rfl, (Rep.lst g1 (g2.mono S2.e1)).dp, (Rep.mono S2.e1 r2).dp, h1, h2, h3, q _ Hf2 H2 (m1.trans m2) S2 (.int _)⟩)
theorem ed_index {j : Nat} {z : PyData} (g : Gd Z (k + 1)) (ho : ES Z o ρ own s) (L : Lst own s ds) (he : ED Z e ρ own x) (h1 : SeqAt.shaped (.list ds) = true) (h2 : SeqAt.shaped x = true) (hj : ds[j]? = some z) (hz : PyData.eqv z x = true) (hno : ∀ (m : Nat) (z' : PyData), m < j → ds[m]? = some z' → PyData.eqv z' x = false)
    (hbase : attributeBase o "index" Z.X.env (eval o Z.X.env) = eval o Z.X.env := by rfl)
    (hfew : ((backTo cpos (starEach [e] Z.X.env)).all (fun x => !x.1) && (backToKw cpos (keywordEach [] Z.X.env)).all (fun x => x.1.isSome)
      && decide ([e].length + ([] : List Keyword).length + (if ([] : List Keyword).isEmpty then 0 else 1) < 30)) = true := by rfl)
    (hline : (apos.endLine == cpos.line) = true := by rfl) (hs : starEach [e] Z.X.env = (false, eval e Z.X.env) :: starEach [] Z.X.env := by rfl) (hplain : (backTo cpos (starEach [] Z.X.env)).any (·.1) = false := by rfl) :
    ED Z (.Call (.Attribute o "index" apos) [e] [] cpos) ρ own (.int (j : Nat)) := fun Hf σ H S E Q q => wE.of (pe_bm PySem.F.plainAttrs_list PySem.F.slot_list_index PySem.F.type_list_index (mt_indexD (by have := g.hr.un; omega)) peW (pa_cons peW pa_nil hs) hbase hfew hline hs hplain)
  (ho Hf σ H S E _ fun v Hf1 H1 m1 S1 r1 => by
    obtain ⟨p, vs, rfl, g1, _⟩ := L.at S1 r1
    refine ⟨.inl ⟨rfl, _, SqL.of g1⟩, he Hf1 σ H1 S1 (E.mono m1) _ fun w Hf2 H2 m2 S2 r2 => ?_⟩
    obtain ⟨p', vs', e', g1, g2⟩ := L.at S2 (r1.mono m2)
    cases e'
    exact ⟨p, w, x, ds, j, z, rfl, rfl, (Rep.lst g1 (g2.mono S2.e1)).dp, (Rep.mono S2.e1 r2).dp, h1, h2, hj, hz, hno, q _ Hf2 H2 (m1.trans m2) S2 (.int _)⟩)
end
/-- what is known of a class of errors beside the others -/
structure ErrK (K : PySem.W.Frag) (C y d n s t o D : Addr) (by_ bd bn bs bt bo : Bool) : Prop where
  xc : ExcC K C
  y : PySem.W.kitOne K (.ref C) (.ref y) = some by_
  d : PySem.W.kitOne K (.ref C) (.ref d) = some bd
  n : PySem.W.kitOne K (.ref C) (.ref n) = some bn
  s : PySem.W.kitOne K (.ref C) (.ref s) = some bs
  t : PySem.W.kitOne K (.ref C) (.ref t) = some bt
  o : PySem.W.kitOne K (.ref C) (.ref o) = some bo
  de : PySem.W.kitOne K (.ref C) (.ref D) = some true
  ve : PySem.W.kitOne K (.ref C) (.type "ValueError") = some true
  ex : PySem.W.exmOne K (.ref C) (.ref D) = some true
end Sd


/-! sets of ints -/
namespace Sd
open PySem PySem.Spec PyProof.Rows L2
section
variable {X : Cx}
end
section
variable {Z : Ctx} {e : Expr} {ρ : List Slot} {own : Own} {pos p p2 q : Pos} {k : Nat} {s : Slot}
end
theorem Sat.nil {B : Bs} {Hf H : Hp} {own : Own} (S : Sat B Hf H own) : Sat B Hf H [] := ⟨S.e0, S.e1, S.eb, S.fr, (fun q hq => nomatch hq), by simp, S.tp⟩
section
variable {Z : Ctx} {D : DE} {ρ : List Slot} {own : Own} {sts : List Stmt} {a b c : Expr} {pos : Pos} {R : Slot → Own → Prop}
theorem eg_if {k : Bool} (h : ET Z c ρ own k) (h1 : k = true → EG Z a ρ own R) (h2 : k = false → EG Z b ρ own R) : EG Z (.IfExp c a b pos) ρ own R := fun Hf σ H S E Q q => wE.of (pe_ifExp ptW peW peW) (h Hf σ H S E _ fun Hf1 H1 m1 S1 => by
  cases k with
  | true => exact iteT (h1 rfl Hf1 σ H1 S1 (E.mono m1) Q fun v Hf2 H2 s o m2 S2 r2 hs z => q v Hf2 H2 s o (m1.trans m2) S2 r2 hs z)
  | false => exact iteF (h2 rfl Hf1 σ H1 S1 (E.mono m1) Q fun v Hf2 H2 s o m2 S2 r2 hs z => q v Hf2 H2 s o (m1.trans m2) S2 r2 hs z))
end
/-! ### one class of errors beside another -/
theorem kit_ref {K : PySem.W.Frag} {C D : Addr} {l : Bool} (hd : PySem.W.hasDictIn K D = true) (ht : PySem.W.typeIn K (.ref D) = some (.type "type")) (hs : PySem.W.subIn K (.ref C) (.ref D) = some l) (h0 : PySem.W.subIn K (.ref C) (.ref C) = some true) : PySem.W.kitOne K (.ref C) (.ref D) = some l := by
  unfold PySem.W.kitOne
  split
  · rename_i h
    have e : C = D := Value.ref.inj (beq_iff_eq.mp h)
    subst e
    rw [h0] at hs
    exact hs
  · obtain ⟨cd, hc, _⟩ := PySem.W.any_some hd
    show (if ((PySem.W.clsIn K D).isSome && PySem.W.typeIn K (.ref D) == some (.type "type")) = true then PySem.W.subIn K (.ref C) (.ref D) else none) = some l
    rw [if_pos (by rw [hc, ht]; rfl)]
    exact hs
theorem kit_ve {K : PySem.W.Frag} {C : Addr} (hs : PySem.W.subIn K (.ref C) (.type "ValueError") = some true) : PySem.W.kitOne K (.ref C) (.type "ValueError") = some true := by
  unfold PySem.W.kitOne
  split
  · rfl
  · show (if PySem.W.kitMeta "ValueError" = true then PySem.W.subIn K (.ref C) (.type "ValueError") else none) = some true
    rw [if_pos (by decide +kernel)]
    exact hs
end Sd


/-! sorted of pairs of ints -/
namespace Sd
open PySem PySem.Spec PyProof.Rows L2
abbrev pr (p : Int × Int) : PyData := .tuple [.int p.1, .int p.2]
def kOf (H : Hp) (x : V) : Int × Int := match x with
  | .ref t => match H t with
    | some (.tup [.int i, .int j]) => (i, j)
    | _ => (0, 0)
  | _ => (0, 0)
theorem Rep.pair {H : Hp} {v : V} {p : Int × Int} (h : Rep H v (pr p)) : ∃ t, v = .ref t ∧ H t = some (.tup [.int p.1, .int p.2]) ∧ kOf H v = p := by
  cases h with
  | tup h1 h2 =>
    cases h2 with
    | cons a b =>
      cases b with
      | cons b c =>
        cases c
        cases a
        cases b
        exact ⟨_, rfl, h1, by unfold kOf; simp only [h1]⟩
theorem Reps.pairs {H : Hp} : ∀ {vs : List V} {ps : List (Int × Int)}, Reps H vs (ps.map pr) → vs.map (kOf H) = ps
  | [], [], .nil => rfl
  | v :: vs, p :: ps, .cons a b => by
    obtain ⟨_, _, _, e⟩ := a.pair
    rw [List.map_cons, e, Reps.pairs b]
theorem Reps.mem {H : Hp} : ∀ {vs : List V} {ds : List PyData}, Reps H vs ds → ∀ v ∈ vs, ∃ d ∈ ds, Rep H v d
  | _, _, .nil, _, h => nomatch h
  | _, _, .cons a b, v, h => by
    rcases List.mem_cons.mp h with e | h
    · rw [e]; exact ⟨_, by simp, a⟩
    · obtain ⟨d, hd, r⟩ := Reps.mem b v h
      exact ⟨d, by simp [hd], r⟩
section
variable {Z : Ctx} {e : Expr} {ρ : List Slot} {own : Own} {pos p : Pos} {s : Slot}
end
end Sd


/-! texts -/
namespace Sd
open PySem PySem.Spec PyProof.Rows L2
section
variable {Z : Ctx} {e o a b tg : Expr} {ρ : List Slot} {own : Own} {pos p apos cpos : Pos} {s : Slot} {i n : Int} {z y : Str} {k : Nat}
end
end Sd


namespace Sd
open PySem PySem.Spec PyProof.Rows L2
/-! sums over ints, lists given by functions -/
section
variable {Z : Ctx} {elt tg iter : Expr} {scope : Scope} {ρ : List Slot} {own : Own} {k : Nat} {Po : Own → Prop} {ys : List PyData} {pos : Pos} {D : DE}
end
end Sd


/-! list(range(..)), tuple(range(..)), sorted of a tuple of ints -/
namespace Sd
open PySem PySem.Spec PyProof.Rows L2
section
variable {Z : Ctx} {a b e : Expr} {ρ : List Slot} {own : Own} {pos p p2 q : Pos} {k : Nat} {i j : Int}
end
end Sd


/-! dicts with tuples of ints as keys -/
namespace Sd
open PySem PySem.Spec PyProof.Rows L2
/-! ### walking d.items() -/
section
variable {X : Cx} {pins : List (Addr × Obj)} {σ : L2.St} {H : Hp} {s : Shared}
end

/-! ### a display of one pair -/
def getT {κ α : Type} [DecidableEq κ] (tb : List (κ × α)) (k : κ) : Option α := (tb.find? fun e => decide (e.1 = k)).map (·.2)
def putT {κ α : Type} [DecidableEq κ] (tb : List (κ × α)) (k : κ) (v : α) : List (κ × α) :=
  if (tb.any fun e => decide (e.1 = k)) = true then tb.map (fun e => if e.1 = k then (e.1, v) else e) else tb ++ [(k, v)]
theorem inl_inj : ∀ {a b : List Int}, (a.map Sum.inl : List Key) = b.map Sum.inl → a = b
  | [], [], _ => rfl
  | [], _ :: _, h => nomatch h
  | _ :: _, [], h => nomatch h
  | x :: a, y :: b, h => by
    rw [List.map_cons, List.map_cons] at h
    injection h with h1 h2
    injection h1 with h1
    rw [h1, inl_inj h2]
theorem DtOk.nil {Hf : Hp} : DtOk Hf [] [] := ⟨rfl, .nil⟩
theorem DtOk.inv {Hf : Hp} {kvs : List (List Key × V)} {e : List Int × PyData} {tb : List (List Int × PyData)} (h : DtOk Hf kvs (e :: tb)) : ∃ v r, kvs = (e.1.map Sum.inl, v) :: r ∧ Rep Hf v e.2 ∧ DtOk Hf r tb := by
  obtain ⟨h1, h2⟩ := h
  match kvs, h1, h2 with
  | [], h1, _ => exact nomatch h1
  | (k, v) :: r, h1, h2 =>
    rw [List.map_cons, List.map_cons] at h1
    injection h1 with h3 h4
    cases h2 with
    | cons a b => exact ⟨v, r, by rw [← h3], a, h4, b⟩
theorem DtOk.inv0 {Hf : Hp} {kvs : List (List Key × V)} (h : DtOk Hf kvs []) : kvs = [] := by
  have := h.ks
  simpa using this
theorem DtOk.cons {Hf : Hp} {r : List (List Key × V)} {e : List Int × PyData} {tb : List (List Int × PyData)} {v : V} (a : Rep Hf v e.2) (h : DtOk Hf r tb) : DtOk Hf ((e.1.map Sum.inl, v) :: r) (e :: tb) :=
  ⟨by rw [List.map_cons, List.map_cons, h.ks], .cons a h.vs⟩
theorem DtOk.length {Hf : Hp} {kvs : List (List Key × V)} {tb : List (List Int × PyData)} (h : DtOk Hf kvs tb) : kvs.length = tb.length := by
  have := congrArg List.length h.ks
  simpa using this
theorem DtOk.any {Hf : Hp} (k : List Int) : ∀ {tb : List (List Int × PyData)} {kvs : List (List Key × V)}, DtOk Hf kvs tb → (kvs.any fun kv => decide (kv.1 = k.map Sum.inl)) = tb.any fun e => decide (e.1 = k)
  | [], kvs, h => by rw [h.inv0]; rfl
  | e :: tb, kvs, h => by
    obtain ⟨v, r, rfl, _, h2⟩ := h.inv
    rw [List.any_cons, List.any_cons, DtOk.any k h2]
    congr 1
    refine decide_eq_decide.mpr ⟨fun z => inl_inj z, fun z => by rw [z]⟩
theorem DtOk.get {Hf : Hp} (k : List Int) : ∀ {tb : List (List Int × PyData)} {kvs : List (List Key × V)}, DtOk Hf kvs tb → (getT tb k = none → valV kvs (k.map Sum.inl) = none) ∧ ∀ d, getT tb k = some d → ∃ v, valV kvs (k.map Sum.inl) = some v ∧ Rep Hf v d
  | [], kvs, h => by rw [h.inv0]; exact ⟨fun _ => rfl, fun d z => nomatch z⟩
  | e :: tb, kvs, h => by
    obtain ⟨v, r, rfl, hv, h2⟩ := h.inv
    have ih := DtOk.get k h2
    by_cases hk : e.1 = k
    · have g : getT (e :: tb) k = some e.2 := by simp [getT, List.find?_cons, hk]
      rw [g]
      refine ⟨(fun z => nomatch z), fun d z => ?_⟩
      cases z
      exact ⟨v, valV_pos (by rw [hk]), hv⟩
    · have g : getT (e :: tb) k = getT tb k := by simp [getT, List.find?_cons, hk]
      rw [g, valV_neg (fun z => hk (inl_inj z))]
      exact ih
theorem DtOk.repl {Hf : Hp} (k : List Int) {x : V} {d : PyData} (hx : Rep Hf x d) : ∀ {tb : List (List Int × PyData)} {kvs : List (List Key × V)}, DtOk Hf kvs tb → DtOk Hf (kvs.map fun kv => if kv.1 = k.map Sum.inl then (kv.1, x) else kv) (tb.map fun e => if e.1 = k then (e.1, d) else e)
  | [], kvs, h => by rw [h.inv0]; exact .nil
  | e :: tb, kvs, h => by
    obtain ⟨v, r, rfl, hv, h2⟩ := h.inv
    have ih := DtOk.repl k hx h2
    rw [List.map_cons, List.map_cons]
    by_cases hk : e.1 = k
    · rw [if_pos (by rw [hk]), if_pos hk]
      exact .cons (e := (e.1, d)) hx ih
    · rw [if_neg (fun z => hk (inl_inj z)), if_neg hk]
      exact .cons hv ih
theorem DtOk.put {Hf : Hp} (k : List Int) {x : V} {d : PyData} (hx : Rep Hf x d) {tb : List (List Int × PyData)} {kvs : List (List Key × V)} (h : DtOk Hf kvs tb) : DtOk Hf (putK kvs (k.map Sum.inl) x) (putT tb k d) := by
  unfold putK putT
  rw [h.any k]
  by_cases q : (tb.any fun e => decide (e.1 = k)) = true
  · rw [if_pos q, if_pos q]
    exact h.repl k hx
  · rw [if_neg q, if_neg q]
    exact ⟨by rw [List.map_append, List.map_append, h.ks]; rfl, by rw [List.map_append, List.map_append]; exact h.vs.append (.cons hx .nil)⟩
theorem DtOk.at {Hf : Hp} : ∀ {tb : List (List Int × PyData)} {kvs : List (List Key × V)} {i : Nat} {k : List Key} {v : V}, DtOk Hf kvs tb → kvs[i]? = some (k, v) → ∃ e, tb[i]? = some e ∧ k = e.1.map Sum.inl ∧ Rep Hf v e.2
  | [], kvs, i, k, v, h, q => by rw [h.inv0] at q; simp at q
  | e :: tb, kvs, 0, k, v, h, q => by
    obtain ⟨v', r, rfl, hv, h2⟩ := h.inv
    simp at q
    obtain ⟨rfl, rfl⟩ := q
    exact ⟨e, rfl, rfl, hv⟩
  | e :: tb, kvs, i + 1, k, v, h, q => by
    obtain ⟨v', r, rfl, hv, h2⟩ := h.inv
    exact DtOk.at (i := i) h2 (by simpa using q)
section
variable {Z : Ctx} {D : DE} {e f o a : Expr} {ρ : List Slot} {own oa ob : Own} {pos p tpos apos cpos : Pos} {q : Addr} {tb : List (List Int × PyData)} {k : List Int} {d d0 x : PyData} {n : Nat} {R : Slot → Own → Prop}
end
/-! ### what is not needed any more -/
theorem Sat.sub {B : Bs} {Hf H : Hp} {o o' : Own} (h : o'.Sublist o) (S : Sat B Hf H o) : Sat B Hf H o' := ⟨S.e0, S.e1, S.eb, S.fr, fun q hq => S.ow q (h.subset hq), (h.map Prod.fst).nodup S.nd, S.tp⟩
end Sd


/-! a list of one's own, lent: data while an expression runs -/
namespace Sd
open PySem PySem.Spec PyProof.Rows L2
/-- no list within -/
inductive Fre : PyData → Prop
  | non : Fre .none
  | bl (b : Bool) : Fre (.bool b)
  | int (i : Int) : Fre (.int i)
  | str (z : Str) : Fre (.str z)
  | tup {ds : List PyData} : (∀ d ∈ ds, Fre d) → Fre (.tuple ds)
section
variable {Z : Ctx} {D : DE} {e : Expr} {ρ : List Slot} {own : Own} {p : Addr} {ds : List PyData} {R R' : Slot → Own → Prop}
end
/-! ### a def without parameters -/
end Sd


/-! sorted(d), d a dict with tuples of ints as keys -/
namespace Sd
open PySem PySem.Spec PyProof.Rows L2
section
variable {X : Cx}
end
end Sd
namespace Sd
open PySem PySem.Spec PyProof.Rows L2
section
variable {Z : Ctx} {e : Expr} {ρ : List Slot} {own : Own} {pos p : Pos} {s : Slot} {k : Nat}
end
end Sd
namespace Sd
open PySem PySem.Spec PyProof.Rows L2
/-! a comprehension whose elements read what is owned -/
section
variable {Z : Ctx} {elt tg iter : Expr} {ifs : List Expr} {scope : Scope} {ρ : List Slot} {own : Own} {Fin : List PyData → Own → Prop} {k : Nat} {Po : Own → Prop} {ys : List PyData} {pos : Pos} {D : DE}
theorem compO {α : Type} (g : Gd Z k) (it : IT Z tg iter ρ own Po ys) (on : List (Str × Nat)) (ok : BlkOk Z.X.N Z.X.env.scope scope on) (xs : List α) (enc : α → PyData) (hy : ys = xs.map enc) (F : α → Option PyData) (ρ2 : α → List Slot) (is : List Nat)
    (his : ∀ i ∈ is, i ∈ on.map (·.2)) (hl : xs.length < 100000) (hpo : ∀ acc D, Po ((D, .lst acc) :: own)) (gt : ∀ a ∈ xs, ∀ s H C cl fp, Gd (blkZ Z scope s H C cl fp) k → GT (blkZ Z scope s H C cl fp) tg (enc a) (wipeR ρ (on.map (·.2))) (ρ2 a) is)
    (et : ∀ a ∈ xs, ∀ s H C cl fp D acc, Gd (blkZ Z scope s H C cl fp) k → ETs (blkZ Z scope s H C cl fp) ifs (ρ2 a) ((D, .lst acc) :: own) (F a).isSome) (ed : ∀ a ∈ xs, ∀ d, F a = some d → ∀ s H C cl fp D acc, Gd (blkZ Z scope s H C cl fp) k → ED (blkZ Z scope s H C cl fp) elt (ρ2 a) ((D, .lst acc) :: own) d) :
    CP Z elt tg iter ifs scope ρ own (fun ds o => ds = xs.filterMap F ∧ o = own) := by
  subst hy
  have := comp (Po := Po) (ys := xs.map enc) (elt := elt) (ifs := ifs) (scope := scope) g it on ok (fun i acc o => acc = (xs.take i).filterMap F ∧ o = own ∧ i ≤ xs.length) ⟨rfl, rfl, Nat.zero_le _⟩ (fun i acc o D h => by rw [h.2.1]; exact hpo acc D) (fun i acc o h => by
    rw [h.1]
    have h1 := List.length_filterMap_le F (xs.take i)
    rw [List.length_take] at h1
    omega) (fun i y acc o D hy h => by
      obtain ⟨rfl, rfl, hi⟩ := h
      rw [List.getElem?_map] at hy
      cases ea : xs[i]? with
      | none => rw [ea] at hy; cases hy
      | some a =>
        rw [ea] at hy
        cases hy
        have hm : a ∈ xs := List.mem_of_getElem? ea
        have hlt : i < xs.length := (List.getElem?_eq_some_iff.mp ea).1
        have tk : (xs.take (i + 1)).filterMap F = (xs.take i).filterMap F ++ (F a).toList := by
          rw [List.take_add_one, ea, List.filterMap_append]
          cases hF : F a <;> simp [hF]
        refine ⟨ρ2 a, is, (F a).isSome, his, fun s H C cl fp => gt a hm s H C cl fp (g.blk ..), fun s H C cl fp => et a hm s H C cl fp _ _ (g.blk ..), fun hs s H C cl fp => ?_, fun hs => ?_⟩
        · obtain ⟨d, hd⟩ := Option.isSome_iff_exists.mp hs
          exact ES.toEG (ed a hm d hd s H C cl fp _ _ (g.blk ..)) (fun z => nomatch z) ⟨d, o, rfl, rfl, by rw [tk, hd]; rfl, rfl, hlt⟩
        · refine ⟨?_, rfl, hlt⟩
          rw [tk]
          cases hF : F a with
          | none => simp
          | some d => rw [hF] at hs; cases hs)
  obtain ⟨a1, a2, a3, a4, a5, b1, b2, b3, b4, b5, b6⟩ := this
  refine ⟨a1, a2, a3, a4, a5, b1, b2, b3, b4, b5, fun Hf σ H S E Q q => b6 Hf σ H S E Q fun p Hf' H' ds own' m S' hf => q p Hf' H' ds own' m S' ⟨?_, hf.2.1⟩⟩
  rw [hf.1, List.length_map, List.take_length]
end

/-! x in a tuple of ints -/
section
variable {Z : Ctx} {own : Own}
end
end Sd


/-! dicts with int keys -/
namespace Sd
open PySem PySem.Spec PyProof.Rows L2
theorem DkOk.nil {Hf : Hp} : DkOk Hf [] [] := ⟨rfl, .nil⟩
theorem DkOk.inv {Hf : Hp} {kvs : List (Key × V)} {e : Int × PyData} {tb : List (Int × PyData)} (h : DkOk Hf kvs (e :: tb)) : ∃ v r, kvs = ((Sum.inl e.1 : Key), v) :: r ∧ Rep Hf v e.2 ∧ DkOk Hf r tb := by
  obtain ⟨h1, h2⟩ := h
  match kvs, h1, h2 with
  | [], h1, _ => exact nomatch h1
  | (k, v) :: r, h1, h2 =>
    rw [List.map_cons, List.map_cons] at h1
    injection h1 with h3 h4
    cases h2 with
    | cons a b => exact ⟨v, r, by rw [← h3], a, h4, b⟩
theorem DkOk.inv0 {Hf : Hp} {kvs : List (Key × V)} (h : DkOk Hf kvs []) : kvs = [] := by
  have := h.ks
  simpa using this
theorem DkOk.cons {Hf : Hp} {r : List (Key × V)} {e : Int × PyData} {tb : List (Int × PyData)} {v : V} (a : Rep Hf v e.2) (h : DkOk Hf r tb) : DkOk Hf (((Sum.inl e.1 : Key), v) :: r) (e :: tb) :=
  ⟨by rw [List.map_cons, List.map_cons, h.ks], .cons a h.vs⟩
theorem DkOk.length {Hf : Hp} {kvs : List (Key × V)} {tb : List (Int × PyData)} (h : DkOk Hf kvs tb) : kvs.length = tb.length := by
  have := congrArg List.length h.ks
  simpa using this
theorem DkOk.any {Hf : Hp} (k : Int) : ∀ {tb : List (Int × PyData)} {kvs : List (Key × V)}, DkOk Hf kvs tb → (kvs.any fun kv => decide (kv.1 = Sum.inl k)) = tb.any fun e => decide (e.1 = k)
  | [], kvs, h => by rw [h.inv0]; rfl
  | e :: tb, kvs, h => by
    obtain ⟨v, r, rfl, _, h2⟩ := h.inv
    rw [List.any_cons, List.any_cons, DkOk.any k h2]
    congr 1
    refine decide_eq_decide.mpr ⟨fun z => Sum.inl.inj z, fun z => by rw [z]⟩
theorem DkOk.get {Hf : Hp} (k : Int) : ∀ {tb : List (Int × PyData)} {kvs : List (Key × V)}, DkOk Hf kvs tb → (getT tb k = none → valV kvs (Sum.inl k) = none) ∧ ∀ d, getT tb k = some d → ∃ v, valV kvs (Sum.inl k) = some v ∧ Rep Hf v d
  | [], kvs, h => by rw [h.inv0]; exact ⟨fun _ => rfl, fun d z => nomatch z⟩
  | e :: tb, kvs, h => by
    obtain ⟨v, r, rfl, hv, h2⟩ := h.inv
    have ih := DkOk.get k h2
    by_cases hk : e.1 = k
    · have g : getT (e :: tb) k = some e.2 := by simp [getT, List.find?_cons, hk]
      rw [g]
      refine ⟨(fun z => nomatch z), fun d z => ?_⟩
      cases z
      exact ⟨v, valV_pos (by rw [hk]), hv⟩
    · have g : getT (e :: tb) k = getT tb k := by simp [getT, List.find?_cons, hk]
      rw [g, valV_neg (fun z => hk (Sum.inl.inj z))]
      exact ih
theorem DkOk.repl {Hf : Hp} (k : Int) {x : V} {d : PyData} (hx : Rep Hf x d) : ∀ {tb : List (Int × PyData)} {kvs : List (Key × V)}, DkOk Hf kvs tb → DkOk Hf (kvs.map fun kv => if kv.1 = Sum.inl k then (kv.1, x) else kv) (tb.map fun e => if e.1 = k then (e.1, d) else e)
  | [], kvs, h => by rw [h.inv0]; exact .nil
  | e :: tb, kvs, h => by
    obtain ⟨v, r, rfl, hv, h2⟩ := h.inv
    have ih := DkOk.repl k hx h2
    rw [List.map_cons, List.map_cons]
    by_cases hk : e.1 = k
    · rw [if_pos (by rw [hk]), if_pos hk]
      exact .cons (e := (e.1, d)) hx ih
    · rw [if_neg (fun z => hk (Sum.inl.inj z)), if_neg hk]
      exact .cons hv ih
theorem DkOk.put {Hf : Hp} (k : Int) {x : V} {d : PyData} (hx : Rep Hf x d) {tb : List (Int × PyData)} {kvs : List (Key × V)} (h : DkOk Hf kvs tb) : DkOk Hf (putK kvs (Sum.inl k) x) (putT tb k d) := by
  unfold putK putT
  rw [h.any k]
  by_cases q : (tb.any fun e => decide (e.1 = k)) = true
  · rw [if_pos q, if_pos q]
    exact h.repl k hx
  · rw [if_neg q, if_neg q]
    exact ⟨by rw [List.map_append, List.map_append, h.ks]; rfl, by rw [List.map_append, List.map_append]; exact h.vs.append (.cons hx .nil)⟩
section
variable {Z : Ctx} {D : DE} {e f o a : Expr} {ρ : List Slot} {own oa ob : Own} {pos p tpos apos cpos : Pos} {q : Addr} {tb : List (Int × PyData)} {k : Int} {d d0 x : PyData} {n : Nat} {R : Slot → Own → Prop}
end
end Sd


namespace Sd
open PySem PySem.Spec PyProof.Rows L2
/-! displays of constants: the step over a constant is proved once, for any constant (quick) -/
section
variable {Z : Sd.Ctx} {ρ : List Slot} {own : Own} {es : List Expr} {s : Slot} {ss : List Slot} {p pos : Pos} {x1 : Nat}
theorem eb_k {x : Const} {j : Nat} (h : ES Z (.Constant x j p) ρ own s) (hr : EA Z es ρ own ss) : EA Z (.Constant x j p :: es) ρ own (s :: ss) := ea_cons h hr
theorem ed_lstB {ds : List PyData} (h : EA Z es ρ own ss) (e : ss = ds.map Slot.d) (hl : ds.length ≤ 1000) : ED Z (.List es pos) ρ own (.list ds) := ed_lst (ds := ds) (e ▸ h) hl
end
end Sd


/-! objects of a class of the program -/
namespace Sd
open PySem PySem.Spec PyProof.Rows L2
section
variable {X : Cx} {CX : CXT} {k : Nat} {f C : Addr} {fd : FuncData} {ps : List Str} {sp : Sp} {E : L2.St → XK} {x m : Str} {p pos apos : Pos} {e o : Expr} {es : List Expr} {ta : TE} {t : TA}
theorem pe_methE {pl : Sem Bool} (he : PE X o ta) (c : Cls X.K C) (hm : Meth X.K C m f) (F : FnOk X.prog X.w X.K X.mg X.base CX k f fd ps sp) (hr : Room k X.A) (hb : Binds X.K fd ps []) (hx : ∀ σ, PassesAt CX X σ (E σ)) (ha : PA X (e :: es) t)
    (hst : starEach (e :: es) X.env = (false, eval e X.env) :: starEach es X.env := by rfl) (hpl : (backTo pos (starEach es X.env)).any (·.1) = false := by rfl)
    (ht : eval (.Call (.Attribute o m apos) (e :: es) [] pos) X.env = (do
      let ov ← eval o X.env
      standAt apos.atName
      let (f, first) ← holding [ov] (getMethod ov m pl)
      callWith pos f first (backTo pos (starEach (e :: es) X.env)) (backToKw pos (keywordEach [] X.env))) := by rfl) :
    PE X (.Call (.Attribute o m apos) (e :: es) [] pos) (fun σ H Q => ta σ H fun x H1 => ∃ a dx fs, x = .ref a ∧ H1 a = some (.ins C dx fs) ∧ fs.lookup m = none ∧ t σ H1 fun vs H2 => sp (.ref a :: vs) H2 Q (E σ)) := by
  refine ⟨fun pins s σ H Q I h => PySem.W.methodCall_KW (pl := pl) (thn (he.run pins s σ H _ I h) fun u s1 hq => ?_) ht⟩
  obtain ⟨x, H1, I1, rx, a, dx, fs, rfl, ea, l, q⟩ := hq
  cases (show u = Value.ref a from rx)
  refine getmeth_ok I1 ea c hm l (PySem.W.callWith_K (first := [.ref a]) (h₀ := X.base) I.ok.mod.kin hm.kp (thn (ha.run pos pins s1 σ H1 _ I1 q) fun us s2 hq2 => ?_) hst hpl)
  obtain ⟨vs, H2, I2, r, q2⟩ := hq2
  exact ⟨I2.kIn, run_fnS (us := .ref a :: us) (vs := .ref a :: vs) F hr hb (hx σ) I2 (.cons rfl r) q2⟩
theorem pe_methE0 {pl : Sem Bool} (he : PE X o ta) (c : Cls X.K C) (hm : Meth X.K C m f) (F : FnOk X.prog X.w X.K X.mg X.base CX k f fd ps sp) (hr : Room k X.A) (hb : Binds X.K fd ps []) (hx : ∀ σ, PassesAt CX X σ (E σ))
    (ht : eval (.Call (.Attribute o m apos) [] [] pos) X.env = (do
      let ov ← eval o X.env
      standAt apos.atName
      let (f, first) ← holding [ov] (getMethod ov m pl)
      callWith pos f first (backTo pos (starEach [] X.env)) (backToKw pos (keywordEach [] X.env))) := by rfl) :
    PE X (.Call (.Attribute o m apos) [] [] pos) (fun σ H Q => ta σ H fun x H1 => ∃ a dx fs, x = .ref a ∧ H1 a = some (.ins C dx fs) ∧ fs.lookup m = none ∧ sp [.ref a] H1 Q (E σ)) := by
  refine ⟨fun pins s σ H Q I h => PySem.W.methodCall_KW (pl := pl) (thn (he.run pins s σ H _ I h) fun u s1 hq => ?_) ht⟩
  obtain ⟨x, H1, I1, rx, a, dx, fs, rfl, ea, l, q⟩ := hq
  cases (show u = Value.ref a from rx)
  exact getmeth_ok I1 ea c hm l (PySem.W.callWith_K0 (first := [.ref a]) I1.kIn hm.kp (run_fnS (us := [.ref a]) (vs := [.ref a]) F hr hb (hx σ) I1 (.cons rfl .nil) q))
end
/-- a method of the program's class, by its promise -/
structure Mth (K : PySem.W.Frag) (mg : Str → Option Value) (P : Program) (w : World) (base : Heap) (C : Addr) (m : Str) (ps : List Str) (k : Nat) (Pre : Pr) : Prop where
  ex : ∃ f fd, FnOk P w K mg base (L2.CX P w) k f fd ps (spG Pre) ∧ Meth K C m f ∧ Binds K fd ps []
section
variable {Z : Ctx} {D : DE} {e o : Expr} {es : List Expr} {ρ : List Slot} {own oa o1 ob : Own} {pos p apos tpos : Pos} {s : Slot} {k j : Nat} {ss : List Slot} {m f : Str} {ps : List Str} {Pre : Pr} {post : Out → Prop} {R : Slot → Own → Prop} {C x dx : Addr} {fs : List (Str × V)} {v : V} {ds : List PyData} {d : PyData}
theorem ev_fld (cl : Cls Z.X.K C) (nA : NoAttr Z.X.K C f) (hq : (x, OO.raw (.ins C dx fs)) ∈ own) (ho : EV Z o ρ own (.ref x)) (hl : fs.lookup f = some v) (hb : attributeBase o f Z.X.env (eval o Z.X.env) = eval o Z.X.env := by rfl) : EV Z (.Attribute o f pos) ρ own v := fun Hf σ H S E Q q => wE.of (pe_fld peW hb) (ho Hf σ H S E _ fun w Hf1 H1 m1 S1 r1 => by
  cases (show w = .ref x from r1)
  obtain ⟨_, _, g⟩ := S1.at hq
  exact ⟨x, C, dx, fs, v, rfl, g, cl, nA, hl, q v Hf1 H1 m1 S1 rfl⟩)
theorem eg_meth (M : Mth Z.X.K Z.X.mg Z.X.prog Z.X.w Z.X.base C m ps j Pre) (cl : Cls Z.X.K C) (g : Gd Z k) (hj : j ≤ k) (ho : EV Z o ρ (oa ++ o1 ++ ob) (.ref x)) (hq : (x, OO.raw (.ins C dx fs)) ∈ oa ++ o1 ++ ob) (hl : fs.lookup m = none) (ha : EA Z (e :: es) ρ (oa ++ o1 ++ ob) ss) (hp : Pre (.raw (.ref x) :: ss) o1 post) (h1 : ∀ s o1', post (.ret s o1') → R s (oa ++ o1' ++ ob)) (h2 : ∀ C o1', post (.exc C o1') → Z.ex C ρ (oa ++ o1' ++ ob))
    (hst : starEach (e :: es) Z.X.env = (false, eval e Z.X.env) :: starEach es Z.X.env := by rfl) (hpl : (backTo pos (starEach es Z.X.env)).any (·.1) = false := by rfl) {pl : Sem Bool}
    (ht : eval (.Call (.Attribute o m apos) (e :: es) [] pos) Z.X.env = (do
      let ov ← eval o Z.X.env
      standAt apos.atName
      let (f, first) ← holding [ov] (getMethod ov m pl)
      callWith pos f first (backTo pos (starEach (e :: es) Z.X.env)) (backToKw pos (keywordEach [] Z.X.env))) := by rfl) :
    EG Z (.Call (.Attribute o m apos) (e :: es) [] pos) ρ (oa ++ o1 ++ ob) R := by
  obtain ⟨f, fd, ok, hm, hb⟩ := M.ex
  refine fun Hf σ H S E Q q => wE.of (pe_methE (E := WE (Wish Z)) (pl := pl) peW cl hm ok (g.hr.mono hj) hb (fun σ => passAt g.tk σ) paW hst hpl ht) (ho Hf σ H S E _ fun w Hf1 H1 m1 S1 r1 => ?_)
  cases (show w = .ref x from r1)
  obtain ⟨_, _, gx⟩ := S1.at hq
  refine ⟨x, dx, fs, rfl, gx, hl, ha Hf1 σ H1 S1 (E.mono m1) _ fun vs Hf2 H2 m2 S2 r2 => ?_⟩
  refine ⟨Hf2, less H2 (o1.map (·.1)), .raw (.ref x) :: ss, o1, post, S2.into, .cons rfl r2, hp, fun s own' v Hf' H' hq S' r' hs => ?_, fun C own' Hf' H' hq S' => ?_⟩
  · exact q v Hf' H' s _ ((m1.trans m2).trans S'.e0) (S2.back S') r' hs (h1 s own' hq)
  · exact ⟨C, Hf', ρ, _, rfl, rfl, S2.back S', E.mono ((m1.trans m2).trans S'.e0), h2 C own' hq⟩
theorem eg_meth0 (M : Mth Z.X.K Z.X.mg Z.X.prog Z.X.w Z.X.base C m ps j Pre) (cl : Cls Z.X.K C) (g : Gd Z k) (hj : j ≤ k) (ho : EV Z o ρ (oa ++ o1 ++ ob) (.ref x)) (hq : (x, OO.raw (.ins C dx fs)) ∈ oa ++ o1 ++ ob) (hl : fs.lookup m = none) (hp : Pre [.raw (.ref x)] o1 post) (h1 : ∀ s o1', post (.ret s o1') → R s (oa ++ o1' ++ ob)) (h2 : ∀ C o1', post (.exc C o1') → Z.ex C ρ (oa ++ o1' ++ ob)) {pl : Sem Bool}
    (ht : eval (.Call (.Attribute o m apos) [] [] pos) Z.X.env = (do
      let ov ← eval o Z.X.env
      standAt apos.atName
      let (f, first) ← holding [ov] (getMethod ov m pl)
      callWith pos f first (backTo pos (starEach [] Z.X.env)) (backToKw pos (keywordEach [] Z.X.env))) := by rfl) :
    EG Z (.Call (.Attribute o m apos) [] [] pos) ρ (oa ++ o1 ++ ob) R := by
  obtain ⟨f, fd, ok, hm, hb⟩ := M.ex
  refine fun Hf σ H S E Q q => wE.of (pe_methE0 (E := WE (Wish Z)) (pl := pl) peW cl hm ok (g.hr.mono hj) hb (fun σ => passAt g.tk σ) ht) (ho Hf σ H S E _ fun w Hf1 H1 m1 S1 r1 => ?_)
  cases (show w = .ref x from r1)
  obtain ⟨_, _, gx⟩ := S1.at hq
  refine ⟨x, dx, fs, rfl, gx, hl, Hf1, less H1 (o1.map (·.1)), [.raw (.ref x)], o1, post, S1.into, .cons rfl .nil, hp, fun s own' v Hf' H' hq S' r' hs => ?_, fun C own' Hf' H' hq S' => ?_⟩
  · exact q v Hf' H' s _ (m1.trans S'.e0) (S1.back S') r' hs (h1 s own' hq)
  · exact ⟨C, Hf', ρ, _, rfl, rfl, S1.back S', E.mono (m1.trans S'.e0), h2 C own' hq⟩
/-- self.f = a new list -/
theorem sd_fldL (cl : Cls Z.X.K C) (nA : NoAttr Z.X.K C f) (he : EL Z e ρ (oa ++ (x, .raw (.ins C dx fs)) :: ob) ds) (ho : ∀ p', EV Z o ρ ((p', .lst ds) :: (oa ++ (x, .raw (.ins C dx fs)) :: ob)) (.ref x)) (hfew : fs.length < 1000) (h : ∀ p', D.nx ρ ((p', .lst ds) :: (oa ++ (x, .raw (.ins C dx (putF f (.ref p') fs))) :: ob)))
    (hs : swapsWith e (some (.Attribute o f tpos)) pos.line Z.X.env = pure false := by rfl) : SD Z (.Assign [.Attribute o f tpos] e pos) D ρ (oa ++ (x, .raw (.ins C dx fs)) :: ob) := fun H0 Hf σ H m0 S E => wS.of (ps_fld peW peW hs) (he Hf σ H S E _ fun p' Hf1 H1 m1 S1 => ho p' Hf1 σ H1 S1 (E.mono m1) _ fun w Hf2 H2 m2 S2 r2 => by
    cases (show w = .ref x from r2)
    obtain ⟨_, _, g⟩ := S2.at (p := x) (oo := .raw (.ins C dx fs)) (by simp)
    exact ⟨x, C, dx, fs, rfl, g, cl, nA, hfew, Hf2, ρ, _, (m0.trans m1).trans m2, S2.write (oa := (p', .lst ds) :: oa) (oo' := .raw (.ins C dx (putF f (.ref p') fs))) upd_same, E.mono (m1.trans m2), h p'⟩)
end
end Sd


/-! sorted(set(xs)) of a list of ints; pop; making an object; its length -/
namespace Sd
open PySem PySem.Spec PyProof.Rows L2
section
variable {P : Program} {w : World} {A : Around} {E : Value → Shared → Prop} {s : Shared}
/-- set(xs) of a list of ints, as sorted wants it -/
theorem set_of_list {l : Addr} {items : Array Value} (ns : List Int) {Q : Value → Shared → Prop} (calm : A.handled = none) (hl : s.heap.IsList l items) (hit : IntsAre items.toList ns) (hb : ns.length + 1 < scanBound)
    (h : ∀ (h' : Heap) (tk c : Nat), SetR w h' s.heap.objs.size (fun j => decide (j ∈ ns)) c → c ≤ ns.length → (∀ b o, s.heap.get? b = some o → h'.get? b = some o) → Q (.ref s.heap.objs.size) { s with heap := h', toks := tk }) : wpAny (model P w) A (call (.type "set") [.ref l]) Q E s := by
  have size_ns : items.size = ns.length := by rw [← Array.length_toList]; exact IntsAre.length hit
  obtain ⟨m0, m1, mro⟩ := F.called_set.mro
  have made := F.called_set.made
  have subs := F.called_set.sub
  refine wpAny_call (codeAny_of_tree (show wpAny _ _ (callAny (.type "set") _) _ _ _ from wpAny_pure ⟨Code.quiet_builtin _ (by decide +kernel), codeAny_builtin F.entry_type_call ?_⟩))
  rw [Around.under_plain (weight_type_call_type "set" [.ref l] []) rfl]
  have f1 := F.called_set.notType
  have f2 := F.called_set.canCreate
  have f3 := F.typeCall_set_1 (.ref l)
  repeat (any_goals (first | assumption | wp_step))
  refine codeAny_mono (code_set_led1 (.ref l) (E := E) (Q₁ := fun obj t => obj = .ref s.heap.objs.size ∧ t = { s with heap := s.heap.push { cls := .type "set", dict := none, data := .set #[] 0 (.fresh 0 0 (!w.params.followText "set-order")) } }) ⟨rfl, rfl⟩) fun res t hres => ?_
  rcases res with er | fl
  · exact hres
  rcases fl with _ | _ | _ | obj
  all_goals first | exact hres.elim | skip
  obtain ⟨rfl, rfl⟩ := hres
  generalize hN : (⟨.type "set", none, .set #[] 0 (.fresh 0 0 (!w.params.followText "set-order")), #[]⟩ : Obj) = N
  have gS : (s.heap.push N).get? s.heap.objs.size = some N := Heap.get?_push_size _ (by rw [← hN]; rfl)
  have tS : Shared.TypeIs { s with heap := s.heap.push N } (.ref s.heap.objs.size) "set" := ⟨_, gS, by rw [← hN]⟩
  have g1 := F.called_set.init.lookup
  have g2 := F.called_set.init.bind (.ref s.heap.objs.size)
  repeat (any_goals (first | assumption | wp_step))
  refine codeAny_mono (codeAny_call_builtin (R := wants (fun res t => res = .none ∧ ∃ h' tk c, t = { s with heap := h', toks := tk } ∧ SetR w h' s.heap.objs.size (fun j => decide (j ∈ ns)) c ∧ c ≤ ns.length ∧ ∀ b o, s.heap.get? b = some o → h'.get? b = some o) E) F.called_set.init.plain F.entry_set_init (check_set_init_1 tS ?_)) fun res t hres => ?_
  · subst hN
    obtain ⟨⟨lc, ld, lda, ls⟩, gl, rfl, ln, rfl⟩ := hl
    have gl' : (s.heap.push { cls := .type "set", dict := none, data := .set #[] 0 (.fresh 0 0 (!w.params.followText "set-order")) }).get? l = some ⟨.type "list", ld, .seq items ln, ls⟩ := Heap.get?_push_of_some _ gl
    have u1 := F.sub_list_set
    have u2 := F.sub_list_frozenset
    have u3 : (Value.type "list" == Value.type "dict") = false := by decide
    have isl : (s.heap.push { cls := .type "set", dict := none, data := .set #[] 0 (.fresh 0 0 (!w.params.followText "set-order")) }).IsList l items := ⟨_, gl', rfl, ln, rfl⟩
    unfold Builtin.«set.__init__» noKeywords Builtin.Frozenset.updateFrom
    generalize ePI : pyIter = PI
    wp_walk
    subst ePI
    refine wpAny_pyIter_list (s := { s with heap := s.heap.push { cls := .type "set", dict := none, data := .set #[] 0 (.fresh 0 0 (!w.params.followText "set-order")) } }) isl ?_
    refine wpAny_bind (wpAny_runValue ?_)
    have lS : l < s.heap.objs.size := Heap.lt_size gl
    have zN : (s.heap.push { cls := .type "set", dict := none, data := .set #[] 0 (.fresh 0 0 (!w.params.followText "set-order")) }).objs.size = s.heap.objs.size + 1 := Heap.size_push ..
    have lI : l ≠ (s.heap.push { cls := .type "set", dict := none, data := .set #[] 0 (.fresh 0 0 (!w.params.followText "set-order")) }).objs.size := by rw [zN]; exact Nat.ne_of_lt (Nat.lt_succ_of_lt lS)
    have out : s.heap.objs.size ∉ [(s.heap.push { cls := .type "set", dict := none, data := .set #[] 0 (.fresh 0 0 (!w.params.followText "set-order")) }).objs.size, l] := by
      rw [zN]
      simp only [List.mem_cons, List.not_mem_nil, or_false, not_or]
      exact ⟨by omega, Nat.ne_of_gt lS⟩
    refine set_update_ints ((Walks.list (show A.in1.in1.in1.handled = none by simp [calm]) _ l lI items).toS) s.heap.objs.size out ns size_ns hb (fun i v hv => ?_) (items.size - 0) 0 _ (by omega) (Nat.zero_le _) ⟨⟨_, Heap.get?_push_size _ rfl, rfl, rfl⟩, isl.push _⟩ ?_ ?_
    · have hi : i < ns.length := by rw [← size_ns]; exact (Array.getElem?_eq_some_iff.mp hv).1
      obtain ⟨t, e⟩ := IntsAre.int_at hit i v (by rw [Array.getElem?_toList]; exact hv)
      refine ⟨ns[i], t, List.getElem?_eq_getElem hi, ?_⟩
      rw [List.getD_eq_getElem?_getD, List.getElem?_eq_getElem hi] at e
      exact e
    · refine ⟨0, Nat.le_refl 0, setR_new_at ?_⟩
      have := Heap.get?_push_of_some { cls := .type "list_iterator", data := .fields #[.ref l, .int 0 0] } gS
      exact this
    · intro t c' hm hc' hS'
      obtain ⟨h', g', d', tk', os'⟩ := t
      cases (show g' = s.gens from hm.gens)
      cases (show d' = s.drawn from hm.drawn)
      cases (show os' = s.os from hm.os)
      rw [size_ns] at hc'
      show wpAny _ _ _ _ _ _
      refine wpAny_pure ?_
      show wpAny _ _ (ret Value.none) _ _ _
      refine wpAny_pure ⟨rfl, h', tk', c', rfl, hS', hc', fun b o e => ?_⟩
      have b0 : b < s.heap.objs.size := Heap.lt_size e
      refine hm.heap b o ?_ (Heap.get?_push_of_some _ (Heap.get?_push_of_some _ e))
      simp only [List.mem_cons, List.not_mem_nil, or_false, not_or]
      rw [zN]
      exact ⟨Nat.ne_of_lt b0, Nat.ne_of_lt (Nat.lt_succ_of_lt b0)⟩
  · rcases res with er | fl
    · exact hres
    rcases fl with _ | _ | _ | r
    all_goals first | exact hres.elim | skip
    obtain ⟨rfl, h', tk, c', rfl, hS', hc', hk'⟩ := hres
    repeat (any_goals (first | assumption | wp_step))
    exact h _ _ _ hS' hc' hk'
end
section
variable {X : Cx}
def rSetL (K : PySem.W.Frag) (w : World) : List V → Hp → VK → Prop := fun xs H Q => ∃ (l : Addr) (ns : List Int), xs = [.ref l] ∧ SqL K H l (ns.map V.int) ∧ ns.length ≤ 1000 ∧ ∀ p c, c ≤ ns.length → H p = none → Q (.ref p) (upd H p (SetO w p (fun j => decide (j ∈ ns)) c))
theorem call_setL (hc : X.calm = true) : CallR X (.type "set") (rSetL X.K X.w) := by
  intro pins s σ H xs us Q I r h
  obtain ⟨l, ns, rfl, hl, hn, q⟩ := h
  rw [Vals.ref1 r]
  obtain ⟨its, rv, pl, _⟩ := I.list hl
  refine set_of_list ns (I.ok.hd hc) pl.isList (by simpa using ints_of_vals rv) (by show ns.length + 1 < 4096; omega) fun h' tk c hS hc' hk => ?_
  exact ⟨.ref _, upd H s.heap.objs.size (SetO X.w s.heap.objs.size (fun j => decide (j ∈ ns)) c), I.laid (t' := tk) hk (Nat.le_refl _) (setO_new hS), rfl, q _ c hc' (I.hok.fresh (Nat.le_refl _))⟩
end
end Sd


/-! making an object; its length; pop; sorted(set(..)) -/
namespace Sd
open PySem PySem.Spec PyProof.Rows L2
section
variable {X : Cx} {CX : CXT} {k : Nat} {f C : Addr} {fd : FuncData} {ps : List Str} {sp : Sp} {E : L2.St → XK} {x : Str} {p pos : Pos} {e : Expr} {es : List Expr} {t : TA}
theorem run_makeE {pins : List (Addr × Obj)} {σ : L2.St} {H : Hp} {s : Shared} {Q : VK} {us : List Value} {vs : List V} (M : Mk X.K C f) (F : FnOk X.prog X.w X.K X.mg X.base CX k f fd ps sp) (hr : Room (k + 1) X.A) (hb : Binds X.K fd ps [])
    (hx : ∀ σ, PassesAt CX X σ (E σ)) (I : Inv X pins σ H s) (r : Vals vs us)
    (h : ∀ x dx, H x = none → H dx = none → dx ≠ x → sp (.ref x :: vs) (upd (upd H dx (.own x)) x (.ins C dx [])) (fun v H2 => v = .non ∧ Q (.ref x) H2) (E σ)) :
    wpAny (model X.prog X.w) X.A (call (.ref C) us) (EP X pins σ Q) X.xe s := by
  have hq := h (s.heap.objs.size + 1) s.heap.objs.size (I.hok.fresh (Nat.le_succ _)) (I.hok.fresh (Nat.le_refl _)) (Nat.ne_of_lt (Nat.lt_succ_self _))
  have I2 := Inv.made (C := C) I
  have r2 : Vals (V.ref (s.heap.objs.size + 1) :: vs) (Value.ref (s.heap.objs.size + 1) :: us) := .cons rfl r
  have hl : (Value.ref (s.heap.objs.size + 1) :: us).length = ps.length := by
    have e := r2.length
    rw [F.len _ _ _ _ hq] at e
    exact e.symm
  have hbb := hb _ (Value.ref (s.heap.objs.size + 1) :: us) I2.kIn (by rw [List.append_nil]; exact hl)
  rw [List.append_nil] at hbb
  refine wpAny_call (make_map (f := f) I.kIn M.makes M.init (beq_iff_eq.mp M.fn) (codeAny_mono (F.run _ X.stack _ _ ⟨Value.ref (s.heap.objs.size + 1) :: us, []⟩ (Value.ref (s.heap.objs.size + 1) :: us) _ _ (E σ) (hr.make C us [])
    (I2.env0.make C us []) hbb r2 hq) fun r s' hq' => ?_))
  cases r with
  | error e => exact hx σ pins _ _ e s' I2 hq'
  | ok fl =>
    cases fl with
    | ret u =>
      obtain ⟨v, H', I3, rv, ev, q3⟩ := I2.after hq'
      subst ev
      exact ⟨rv, ⟨V.ref (s.heap.objs.size + 1), H', I3, rfl, q3⟩⟩
    | next => exact False.elim hq'
    | brk => exact False.elim hq'
    | cont => exact False.elim hq'
theorem pe_makeE (M : Mk X.K C f) (F : FnOk X.prog X.w X.K X.mg X.base CX k f fd ps sp) (hr : Room (k + 1) X.A) (hg : Gl X x) (hm : X.mg x = some (.ref C)) (hb : Binds X.K fd ps []) (hx : ∀ σ, PassesAt CX X σ (E σ))
    (ha : PA X (e :: es) t) (hdb : (x == ("__debug__" : Str)) = false := by decide) (he : starEach (e :: es) X.env = (false, eval e X.env) :: starEach es X.env := by rfl) (hpl : (backTo pos (starEach es X.env)).any (·.1) = false := by rfl) :
    PE X (.Call (.Name x p) (e :: es) [] pos) (fun σ H Q => t σ H fun vs H1 => ∀ x dx, H1 x = none → H1 dx = none → dx ≠ x → sp (.ref x :: vs) (upd (upd H1 dx (.own x)) x (.ins C dx [])) (fun v H2 => v = .non ∧ Q (.ref x) H2) (E σ)) := by
  refine ⟨fun pins s σ H Q I h => ?_⟩
  refine wpAny_Call_Name_kw (ld_glob I hg hm ?_ hdb)
  refine PySem.W.callWith_K (h₀ := X.base) I.ok.mod.kin M.kp (thn (ha.run pos pins s σ H _ I h) fun us s1 hq => ?_) he hpl
  obtain ⟨vs, H1, I1, r, q⟩ := hq
  exact ⟨I1.kIn, run_makeE M F hr hb hx I1 r q⟩
/-- len(x) of an object with a def of its own -/
theorem pe_lenI {ta : TE} (he : PE X e ta) (hg : Gl X "len") (hm : X.mg "len" = none) (hs : PySem.W.findIn X.K (.ref C) "__len__" = some (some (.ref f))) (hf : PySem.W.isFn X.K (.ref f) = true) (F : FnOk X.prog X.w X.K X.mg X.base CX k f fd ps sp) (hr : Room (k + 1) X.A) (hb : Binds X.K fd ps []) (hx : ∀ σ, PassesAt CX X σ (E σ))
    (hst : starEach [e] X.env = (false, eval e X.env) :: starEach [] X.env := by rfl) :
    PE X (.Call (.Name "len" p) [e] [] pos) (fun σ H Q => ta σ H fun v H1 => ∃ a dx fs, v = .ref a ∧ H1 a = some (.ins C dx fs) ∧ sp [.ref a] H1 (fun v H2 => ∃ n : Int, v = .int n ∧ 0 ≤ n ∧ n < 2 ^ 63 ∧ Q (.int n) H2) (E σ)) := by
  refine ⟨fun pins s σ H Q I h => Call_ (ld_blt I hg hm boot_len (PyProof.Rows.callWith_builtin1 (PyProof.Rows.args_cons (thn (he.run pins s σ H _ I h) fun u s1 hq => PyProof.Rows.args_nil ?_) hst) hst rfl))⟩
  obtain ⟨v, H1, I1, rv, a, dx, fs, rfl, ea, q⟩ := hq
  cases (show u = Value.ref a from rv)
  obtain ⟨mA, O, _, _, _, _⟩ := ins_get I1.hok ea
  obtain ⟨od, O1, O2⟩ := O.look
  have r2 : Vals [V.ref a] [Value.ref a] := .cons rfl .nil
  have hl : ([Value.ref a]).length = ps.length := by
    have e := r2.length
    rw [F.len _ _ _ _ q] at e
    exact e.symm
  have hbb := hb s1 [Value.ref a] I1.kIn (by rw [List.append_nil]; exact hl)
  rw [List.append_nil] at hbb
  have run : wpAny (model X.prog X.w) X.A.in1 (call (.ref f) [.ref a]) (EP X pins σ (fun v H2 => ∃ n : Int, v = .int n ∧ 0 ≤ n ∧ n < 2 ^ 63 ∧ Q (.int n) H2)) X.xe s1 := by
    refine wpAny_call (codeAny_mono (F.run X.A.in1 X.stack s1 H1 ⟨[.ref a], []⟩ [.ref a] [.ref a] _ (E σ) hr.in1 I1.env0.in1 hbb r2 q) fun r s' hq => ?_)
    cases r with
    | error e => exact hx σ pins H1 s1 e s' I1 hq
    | ok fl =>
      cases fl with
      | ret u => exact I1.after hq
      | next => exact False.elim hq
      | brk => exact False.elim hq
      | cont => exact False.elim hq
  refine Calls.call_function_entry kind_len plain_len entry_len (args_len1 _) ?_
  unfold Builtin.«len»
  refine wpAny_bind (m := oneArg "len" _) (wpAny_pure ?_)
  refine wpAny_bind (m := callSpecial? (.ref a) (Str.ofString "__len__")) (PySem.W.special_fn I1.kIn O1 hs (beq_iff_eq.mp hf) (wpAny_mono run (fun r s' hr => ?_) fun _ _ y => y))
  obtain ⟨v, H2, I2, rv, n, rfl, h0, h1, hQ⟩ := hr
  obtain ⟨tk, rfl⟩ := rv
  refine wpAny_bind (wpAny_holding (wpAny_pure ?_))
  refine wpAny_bind (wpAny_letGo ?_)
  show wpAny _ _ (if n < 0 then _ else _) _ _ _
  rw [if_neg (by omega)]
  show wpAny _ _ (if n ≥ 2 ^ 63 then _ else _) _ _ _
  rw [if_neg (by omega)]
  exact wpAny_bind (wpAny_mkInt (wpAny_pure ⟨_, rfl, .int n, H2, I2.tok _, ⟨_, rfl⟩, hQ⟩))
end
/-- a class of the program that can be made -/
structure MkT (K : PySem.W.Frag) (mg : Str → Option Value) (P : Program) (w : World) (base : Heap) (z : Str) (C : Addr) (ps : List Str) (k : Nat) (Pre : Pr) : Prop where
  ex : ∃ f fd, FnOk P w K mg base (L2.CX P w) k f fd ps (spG Pre) ∧ Mk K C f ∧ mg z = some (.ref C) ∧ Binds K fd ps []
theorem Reps.last {H : Hp} {vs : List V} {ds : List PyData} {d : PyData} (r : Reps H vs (ds ++ [d])) : ∃ v, vs[vs.length - 1]? = some v ∧ Rep H v d ∧ Reps H vs.dropLast ds := by
  have hl := r.length
  rw [List.length_append, List.length_singleton] at hl
  obtain ⟨v, h1, h2⟩ := r.get (i := ds.length) (d := d) (by simp)
  refine ⟨v, by rw [hl]; exact h1, h2, ?_⟩
  have h3 := r.take ds.length
  rw [List.take_left'  rfl] at h3
  rw [List.dropLast_eq_take, hl]
  exact h3
section
variable {Z : Ctx} {D : DE} {e o : Expr} {es : List Expr} {ρ : List Slot} {own oa ob : Own} {pos p p2 q apos cpos : Pos} {s : Slot} {k j : Nat} {ss : List Slot} {z : Str} {ps : List Str} {Pre : Pr} {R : Slot → Own → Prop} {C x dx : Addr} {fs : List (Str × V)} {ds : List PyData} {d : PyData}
theorem eg_make {post : Addr → Addr → Out → Prop} (M : MkT Z.X.K Z.X.mg Z.X.prog Z.X.w Z.X.base z C ps j Pre) (g : Gd Z k) (hj : j + 1 ≤ k) (ha : EA Z (e :: es) ρ own ss) (hp : ∀ x dx, Pre (.raw (.ref x) :: ss) [(x, .raw (.ins C dx [])), (dx, .raw (.own x))] (post x dx)) (h1 : ∀ x dx s o1, post x dx (.ret s o1) → s = .d .none ∧ R (.raw (.ref x)) (o1 ++ own)) (h2 : ∀ x dx C o1, post x dx (.exc C o1) → Z.ex C ρ (o1 ++ own))
    (hg : Gl Z.X z := by rfl) (hdb : (z == ("__debug__" : Str)) = false := by decide) (he : starEach (e :: es) Z.X.env = (false, eval e Z.X.env) :: starEach es Z.X.env := by rfl) (hpl : (backTo pos (starEach es Z.X.env)).any (·.1) = false := by rfl) :
    EG Z (.Call (.Name z p) (e :: es) [] pos) ρ own R := by
  obtain ⟨f, fd, ok, mk, hm, hb⟩ := M.ex
  refine fun Hf σ H S E Q q => wE.of (pe_makeE (E := WE (Wish Z)) mk ok (g.hr.mono hj) hg hm hb (fun σ => passAt g.tk σ) paW hdb he hpl) (ha Hf σ H S E _ fun vs Hf1 H1 m1 S1 r1 => ?_)
  intro x dx nx nd ne
  have S2 : Sat Z.B Hf1 _ ((dx, .raw (.own x)) :: own) := S1.newOwn (o := .own x) nd upd_same
  have S3 : Sat Z.B Hf1 _ ([] ++ [(x, .raw (.ins C dx [])), (dx, .raw (.own x))] ++ own) := S2.newOwn (p := x) (o := .ins C dx []) (oo := .raw (.ins C dx [])) (by rw [upd_ne (Ne.symm ne)]; exact nx) upd_same
  refine ⟨Hf1, _, .raw (.ref x) :: ss, _, post x dx, S3.into, .cons rfl r1, hp x dx, fun s own' v Hf' H' hq S' r' hs => ?_, fun C own' Hf' H' hq S' => ?_⟩
  · obtain ⟨rfl, hR⟩ := h1 x dx s own' hq
    cases (show Rep Hf' v .none from r')
    have S4 := S3.back S'
    exact ⟨rfl, q (.ref x) Hf' H' (.raw (.ref x)) _ (m1.trans S'.e0) S4 rfl (fun z => nomatch z) hR⟩
  · exact ⟨C, Hf', ρ, _, rfl, rfl, S3.back S', E.mono (m1.trans S'.e0), h2 x dx C own' hq⟩
/-- len(x), x an object of a class with a length; what is owned stays -/
theorem ed_lenI {n : Int} {o1 : Own} (M : Mth Z.X.K Z.X.mg Z.X.prog Z.X.w Z.X.base C "__len__" ps j Pre) (g : Gd Z k) (hj : j + 1 ≤ k) (hm : Z.X.mg "len" = none) (he : EV Z e ρ (oa ++ o1 ++ ob) (.ref x)) (hq : (x, OO.raw (.ins C dx fs)) ∈ oa ++ o1 ++ ob) (hp : Pre [.raw (.ref x)] o1 (fun t => t = .ret (.d (.int n)) o1)) (h0 : 0 ≤ n) (h1 : n < 2 ^ 63)
    (hg : Gl Z.X "len" := by rfl) (hs : starEach [e] Z.X.env = (false, eval e Z.X.env) :: starEach [] Z.X.env := by rfl) : ED Z (.Call (.Name "len" p) [e] [] pos) ρ (oa ++ o1 ++ ob) (.int n) := by
  obtain ⟨f, fd, ok, mt, hb⟩ := M.ex
  refine fun Hf σ H S E Q q => wE.of (pe_lenI (E := WE (Wish Z)) peW hg hm mt.at_ mt.fn ok (g.hr.mono hj) hb (fun σ => passAt g.tk σ) hs) (he Hf σ H S E _ fun w Hf1 H1 m1 S1 r1 => ?_)
  cases (show w = .ref x from r1)
  obtain ⟨_, _, gx⟩ := S1.at hq
  refine ⟨x, dx, fs, rfl, gx, Hf1, less H1 (o1.map (·.1)), [.raw (.ref x)], o1, _, S1.into, .cons rfl .nil, hp, fun s own' v Hf' H' hq S' r' hs => ?_, fun C own' Hf' H' hq S' => nomatch hq⟩
  cases hq
  cases (show Rep Hf' v (.int n) from r')
  exact ⟨n, rfl, h0, h1, q (.int n) Hf' H' (m1.trans S'.e0) (S1.back S') (.int n)⟩
/-- xs.pop(), xs one's own -/
theorem eg_pop {p : Addr} (ha : EV Z o ρ (oa ++ (p, .lst (ds ++ [d])) :: ob) (.ref p)) (hR : R (.d d) (oa ++ (p, .lst ds) :: ob))
    (hbase : attributeBase o "pop" Z.X.env (eval o Z.X.env) = eval o Z.X.env := by rfl) (hline : (apos.endLine == cpos.line) = true := by rfl) : EG Z (.Call (.Attribute o "pop" apos) [] [] cpos) ρ (oa ++ (p, .lst (ds ++ [d])) :: ob) R := fun Hf σ H S E Q q => wE.of (pe_bm0 PySem.F.plainAttrs_list PySem.F.slot_list_pop PySem.F.type_list_pop mt_pop peW hbase hline)
  (ha Hf σ H S E _ fun v Hf1 H1 m1 S1 r1 => by
    cases (show v = .ref p from r1)
    obtain ⟨_, _, vs, g1, g2⟩ := S1.at (p := p) (oo := .lst (ds ++ [d])) (by simp)
    obtain ⟨y, h1, h2, h3⟩ := g2.last
    exact ⟨.inl ⟨rfl, _, SqL.of g1⟩, p, vs, y, rfl, rfl, g1, h1, q y Hf1 _ (.d d) _ m1 (S1.write (oo' := .lst ds) ⟨_, upd_same, h3⟩) h2 (fun z => nomatch z) hR⟩)
end
/-! sorted(set(xs)) -/
def insU (x : Int) : List Int → List Int
  | [] => [x]
  | y :: ys => if x < y then x :: y :: ys else if x = y then y :: ys else y :: insU x ys
def srtU : List Int → List Int
  | [] => []
  | x :: xs => insU x (srtU xs)
theorem insU_mem (x k : Int) : ∀ l, k ∈ insU x l ↔ k = x ∨ k ∈ l
  | [] => by simp [insU]
  | y :: ys => by
    unfold insU
    split
    · simp
    · split
      · rename_i h
        subst h
        simp
      · rw [List.mem_cons, insU_mem x k ys, List.mem_cons]
        constructor
        · rintro (h | h | h)
          · exact .inr (.inl h)
          · exact .inl h
          · exact .inr (.inr h)
        · rintro (h | h | h)
          · exact .inr (.inl h)
          · exact .inl h
          · exact .inr (.inr h)
theorem srtU_mem (k : Int) : ∀ l, k ∈ srtU l ↔ k ∈ l
  | [] => by simp [srtU]
  | x :: xs => by rw [srtU, insU_mem, srtU_mem k xs, List.mem_cons]
theorem insU_pw (x : Int) : ∀ l, l.Pairwise (· < ·) → (insU x l).Pairwise (· < ·)
  | [], _ => by simp [insU]
  | y :: ys, h => by
    have h' := List.pairwise_cons.mp h
    unfold insU
    split
    · rename_i hx
      refine List.pairwise_cons.mpr ⟨fun z hz => ?_, h⟩
      rcases List.mem_cons.mp hz with e | hz
      · rw [e]; exact hx
      · exact Int.lt_trans hx (h'.1 z hz)
    · split
      · exact h
      · refine List.pairwise_cons.mpr ⟨fun z hz => ?_, insU_pw x ys h'.2⟩
        rcases (insU_mem x z ys).mp hz with e | hz
        · omega
        · exact h'.1 z hz
theorem srtU_pw : ∀ l, (srtU l).Pairwise (· < ·)
  | [] => .nil
  | x :: xs => insU_pw x _ (srtU_pw xs)
theorem pw_ext : ∀ {a b : List Int}, a.Pairwise (· < ·) → b.Pairwise (· < ·) → (∀ k, k ∈ a ↔ k ∈ b) → a = b
  | [], [], _, _, _ => rfl
  | [], y :: b, _, _, h => absurd ((h y).mpr (by simp)) (by simp)
  | x :: a, [], _, _, h => absurd ((h x).mp (by simp)) (by simp)
  | x :: a, y :: b, ha, hb, h => by
    have ha' := List.pairwise_cons.mp ha
    have hb' := List.pairwise_cons.mp hb
    have e : x = y := by
      have h1 := (h x).mp (by simp)
      have h2 := (h y).mpr (by simp)
      rcases List.mem_cons.mp h1 with e | h1
      · exact e
      · rcases List.mem_cons.mp h2 with e | h2
        · exact e.symm
        · have := ha'.1 y h2
          have := hb'.1 x h1
          omega
    subst e
    rw [pw_ext ha'.2 hb'.2 fun k => ⟨fun hk => ?_, fun hk => ?_⟩]
    · rcases List.mem_cons.mp ((h k).mp (by simp [hk])) with e | z
      · have := ha'.1 k hk
        omega
      · exact z
    · rcases List.mem_cons.mp ((h k).mpr (by simp [hk])) with e | z
      · have := hb'.1 k hk
        omega
      · exact z
section
variable {Z : Ctx} {e : Expr} {ρ : List Slot} {own : Own} {pos p p2 q : Pos} {s : Slot} {k : Nat}
theorem el_sortedSet {ns : List Int} (g : Gd Z k) (hm : Z.X.mg "sorted" = none) (hm2 : Z.X.mg "set" = none) (h : ES Z e ρ own s) (L : Lst own s (ns.map PyData.int)) (hn : ns.length < 64) (hg : Gl Z.X "sorted" := by rfl) (hg2 : Gl Z.X "set" := by rfl) (hs : starEach [e] Z.X.env = (false, eval e Z.X.env) :: starEach [] Z.X.env := by rfl)
    (hs2 : starEach [.Call (.Name "set" p2) [e] [] q] Z.X.env = (false, eval (.Call (.Name "set" p2) [e] [] q) Z.X.env) :: starEach [] Z.X.env := by rfl) :
    EL Z (.Call (.Name "sorted" p) [.Call (.Name "set" p2) [e] [] q] [] pos) ρ own ((srtU ns).map PyData.int) := fun Hf σ H S E Q k =>
  wE.of (pe_callB (cr_sortedSet g.calm) hg hm (by decide +kernel) (pa_cons (pe_callTy (call_setL g.calm) hg2 hm2 boot_set (pa_cons peW pa_nil hs) (he := hs)) pa_nil hs2) (he := hs2)) (h Hf σ H S E _ fun v Hf1 H1 m1 S1 r1 => by
    obtain ⟨l, vs, rfl, e1, e2⟩ := L.at S1 r1
    cases e2.of_ints
    refine ⟨l, ns, rfl, SqL.of e1, by omega, fun p c hc hp => ?_⟩
    have S2 := S1.new hp (SetO Z.X.w p (fun j => decide (j ∈ ns)) c)
    refine ⟨p, _, c, rfl, upd_same, by omega, fun ms p' h1 h2 h3 hp' => ?_⟩
    have em : ms = srtU ns := pw_ext h1 (srtU_pw ns) fun k => by rw [h2 k, srtU_mem]; simp
    subst em
    exact k p' _ _ (m1.trans (S1.new_same hp _)) (S2.newOwn hp' ⟨_, upd_same, Reps.ints _⟩))
end
/-! ### a class of the text as the top has left it -/
structure ClsT (K : PySem.W.Frag) (mg : Str → Option Value) (z : Str) (C : Addr) : Prop where
  cl : Cls K C
  mks : PySem.W.makesIn K C = true
  kp : PySem.W.keepIn K (.ref C) = true
  at_ : mg z = some (.ref C)
structure DfM (K : PySem.W.Frag) (C : Addr) (z qual : Str) (st : Stmt) (ps : List Str) : Prop where
  ex : ∃ f fd, Fun K z qual st f fd ∧ PySem.W.findIn K (.ref C) z = some (some (.ref f)) ∧ PySem.W.isFn K (.ref f) = true ∧ ∀ us : List Value, us.length = ps.length → bindArgs fd ⟨us, []⟩ = pure (ps.zip us)
theorem DfM.mth {K : PySem.W.Frag} {mg : Str → Option Value} {P : Program} {w : World} {base : Heap} {C : Addr} {z qual : Str} {st : Stmt} {ps : List Str} {k : Nat} {Pre : Pr} (D : DfM K C z qual st ps) (h : ∀ f fd, Fun K z qual st f fd → FnOk P w K mg base (L2.CX P w) k f fd ps (spG Pre)) : Mth K mg P w base C z ps k Pre := by
  obtain ⟨f, fd, F, hm, hf, hb⟩ := D.ex
  exact ⟨f, fd, h f fd F, ⟨hm, hf, F.kp⟩, Binds.all hb⟩
theorem DfM.mkt {K : PySem.W.Frag} {mg : Str → Option Value} {P : Program} {w : World} {base : Heap} {C : Addr} {y qual : Str} {st : Stmt} {ps : List Str} {k : Nat} {Pre : Pr} (D : DfM K C "__init__" qual st ps) (c : ClsT K mg y C) (h : ∀ f fd, Fun K "__init__" qual st f fd → FnOk P w K mg base (L2.CX P w) k f fd ps (spG Pre)) : MkT K mg P w base y C ps k Pre := by
  obtain ⟨f, fd, F, hm, hf, hb⟩ := D.ex
  exact ⟨f, fd, h f fd F, ⟨c.mks, hm, hf, c.kp⟩, c.at_, Binds.all hb⟩
theorem dfm_mk {K : PySem.W.Frag} {C : Addr} {z qual : Str} {st : Stmt} {ps : List Str} {f : Addr} {oc : Value} {od an : Option Addr} {sl : Array (Option Value)} {kV dc pm cd ct : Value}
    (hb : ∀ (kV doc pm : Value) (an : Option Addr) (cdv ct : Value) (us : List Value), us.length = ps.length → bindArgs (PySem.W.fnOf z qual (defArgs st) (defBody st) (defScope st) .none kV doc pm an cdv ct) ⟨us, []⟩ = pure (ps.zip us))
    (a : PySem.W.findIn K (.ref C) z = some (some (.ref f))) (i : PySem.W.isFn K (.ref f) = true) (l : K.lookup f = some ⟨oc, od, .func (PySem.W.fnOf z qual (defArgs st) (defBody st) (defScope st) .none kV dc pm an cd ct), sl⟩) (c : PySem.W.codeIn K cd qual = true) (k : PySem.W.keepIn K (.ref f) = true) : DfM K C z qual st ps :=
  have F := fun_mk (st := st) l c k
  ⟨f, _, F, a, i, fun us hl => hb _ _ _ _ _ _ us hl⟩
theorem cls_mk {K : PySem.W.Frag} {mg : Str → Option Value} {h : Heap} {z : Str} {C : Addr} (X : K.In h) (G : h.Ns mainGlobals mg) (a : PySem.W.nsIn K mainGlobals z = some (some (.ref C))) (pg : PySem.W.plainGet K C Str.empty = true) (hd : PySem.W.hasDictIn K C = true) (po : PySem.W.plainOver K C = true)
    (sa : PySem.W.findIn K (.ref C) "__setattr__" = some (some (.builtin "object.__setattr__"))) (mk : PySem.W.makesIn K C = true) (kc : PySem.W.keepIn K (.ref C) = true) : ClsT K mg z C := ⟨⟨pg, hd, po, sa⟩, mk, kc, PySem.W.mg_of X G a⟩
end Sd


/-! plain defs (no defaults): what the binder makes, once for all -/
namespace Sd
open PySem PySem.Spec PyProof.Rows L2
def plainA (a : Arguments) (ps : List Str) : Bool := a.posonlyargs.isEmpty && (a.args.map (·.arg) == ps && (a.vararg.isNone && (a.kwonlyargs.isEmpty && (a.kwarg.isNone && decide ps.Nodup))))
theorem lookz_bind : ∀ {ps : List Str} {us : List Value}, us.length = ps.length → ∀ n ∈ ps, (List.lookup n (ps.zip us)).isSome = true
  | [], _, _, n, h => nomatch h
  | p :: ps, [], hl, _, _ => nomatch hl
  | p :: ps, u :: us, hl, n, h => by
    rw [List.zip_cons_cons, List.lookup_cons]
    split
    · rfl
    · rename_i hne
      rcases List.mem_cons.mp h with rfl | h
      · simp at hne
      · exact lookz_bind (by simpa using hl) n h
theorem fmc_bind {α β : Type} {f g : α → Option β} : ∀ {l : List α}, (∀ x ∈ l, f x = g x) → l.filterMap f = l.filterMap g
  | [], _ => rfl
  | x :: l, h => by rw [List.filterMap_cons, List.filterMap_cons, h x (.head _), fmc_bind fun y hy => h y (.tail _ hy)]
theorem mapz_bind : ∀ {ps : List Str} {us : List Value}, us.length = ps.length → ps.Nodup → ps.filterMap (fun n => (List.lookup n (ps.zip us)).map (Prod.mk n)) = ps.zip us
  | [], _, _, _ => rfl
  | p :: ps, [], hl, _ => nomatch hl
  | p :: ps, u :: us, hl, nd => by
    rw [List.nodup_cons] at nd
    rw [List.zip_cons_cons, List.filterMap_cons, List.lookup_cons]
    simp only [beq_self_eq_true, Option.map_some]
    congr 1
    refine Eq.trans ?_ (mapz_bind (ps := ps) (us := us) (by simpa using hl) nd.2)
    refine fmc_bind fun n hn => ?_
    rw [List.lookup_cons, beq_eq_false_iff_ne.mpr (show n ≠ p from fun e => nd.1 (by rw [← e]; exact hn))]
theorem bind_plain {fd : FuncData} {ps : List Str} {us : List Value} (h : plainA fd.params ps = true) (hd : fd.defaults = .none) (hl : us.length = ps.length) : bindArgs fd ⟨us, []⟩ = pure (ps.zip us) := by
  simp only [plainA, Bool.and_eq_true, List.isEmpty_iff, beq_iff_eq, Option.isNone_iff_eq_none, decide_eq_true_eq] at h
  obtain ⟨h1, h2, h3, h4, h5, nd⟩ := h
  have hm : (ps.filter fun n => (List.lookup n (ps.zip us)).isNone) = [] := List.filter_eq_nil_iff.mpr fun n hn => by
    have := lookz_bind hl n hn
    cases h : List.lookup n (ps.zip us) <;> simp_all
  have hz := mapz_bind hl nd
  have hq : seqItems? Value.none = pure none := rfl
  have hg : decide (us.length > ps.length) = false := decide_eq_false (by omega)
  unfold bindArgs
  simp only [h1, h2, h3, h4, h5, hd, hq, hg, List.map_nil, List.nil_append, List.append_nil, List.forIn_nil, pure_bind, Option.getD_none, List.drop_nil, List.length_nil, Nat.sub_zero, List.take_length, List.drop_length, List.zip_nil_right, hm, List.isEmpty_nil, Bool.not_true, Bool.false_and, Bool.false_eq_true, if_false]
  exact congrArg pure hz
theorem df_mk2 {K : PySem.W.Frag} {mg : Str → Option Value} {h : Heap} {z : Str} {st : Stmt} {ps : List Str} {f : Addr} {oc : Value} {od an : Option Addr} {sl : Array (Option Value)} {kV dc pm cd ct : Value} (X : K.In h) (G : h.Ns mainGlobals mg) (hb : plainA (defArgs st) ps = true)
    (a : PySem.W.nsIn K mainGlobals z = some (some (.ref f))) (l : K.lookup f = some ⟨oc, od, .func (PySem.W.fnOf z z (defArgs st) (defBody st) (defScope st) .none kV dc pm an cd ct), sl⟩) (c : PySem.W.codeIn K cd z = true) (k : PySem.W.keepIn K (.ref f) = true) : Df K mg z st ps :=
  df_mk X G (fun _ _ _ _ _ _ _ hl => bind_plain hb rfl hl) a l c k
end Sd


/-! sums, binomial laws -/
namespace Sd
end Sd


namespace Pg
open PySem PySem.Spec PyProof.Rows L2 Sd
def topS (i : Nat) : Stmt := PySem.Challenge.pw_samedays_k08_whole_calendars.main.body.getD i (.Pass ⟨0, 0, 0, 0⟩)
abbrev s_is_int : Stmt := topS 8
theorem sc_is_int : FnScope ["value", "low", "high"] ["value", "low", "high"] (defScope s_is_int) := ⟨rfl, rfl, rfl, by decide +kernel, rfl, by decide +kernel, by decide +kernel⟩
theorem pa_is_int : plainA (defArgs s_is_int) ["value", "low", "high"] = true := by decide +kernel
abbrev s_common : Stmt := topS 9
theorem sc_common : FnScope ["one", "other"] ["one", "other"] (defScope s_common) := ⟨rfl, rfl, rfl, by decide +kernel, rfl, by decide +kernel, by decide +kernel⟩
theorem pa_common : plainA (defArgs s_common) ["one", "other"] = true := by decide +kernel
abbrev s_is_year : Stmt := topS 10
theorem sc_is_year : FnScope ["value", "one"] ["value"] (defScope s_is_year) := ⟨rfl, rfl, rfl, by decide +kernel, rfl, by decide +kernel, by decide +kernel⟩
theorem pa_is_year : plainA (defArgs s_is_year) ["value"] = true := by decide +kernel
abbrev s_check_year : Stmt := topS 11
theorem sc_check_year : FnScope ["value"] ["value"] (defScope s_check_year) := ⟨rfl, rfl, rfl, by decide +kernel, rfl, by decide +kernel, by decide +kernel⟩
theorem pa_check_year : plainA (defArgs s_check_year) ["value"] = true := by decide +kernel
abbrev s_check_day : Stmt := topS 12
theorem sc_check_day : FnScope ["year", "value"] ["year", "value"] (defScope s_check_day) := ⟨rfl, rfl, rfl, by decide +kernel, rfl, by decide +kernel, by decide +kernel⟩
theorem pa_check_day : plainA (defArgs s_check_day) ["year", "value"] = true := by decide +kernel
abbrev s_lowest : Stmt := topS 14
theorem sc_lowest : FnScope ["top", "below", "divisor"] ["top", "below"] (defScope s_lowest) := ⟨rfl, rfl, rfl, by decide +kernel, rfl, by decide +kernel, by decide +kernel⟩
theorem pa_lowest : plainA (defArgs s_lowest) ["top", "below"] = true := by decide +kernel
abbrev s_Calendar_init : Stmt := inClass (topS 16) 0
theorem sc_Calendar_init : FnScope ["self", "year"] ["self", "year"] (defScope s_Calendar_init) := ⟨rfl, rfl, rfl, by decide +kernel, rfl, by decide +kernel, by decide +kernel⟩
abbrev s_Calendar_put : Stmt := inClass (topS 16) 1
theorem sc_Calendar_put : FnScope ["self", "day"] ["self", "day"] (defScope s_Calendar_put) := ⟨rfl, rfl, rfl, by decide +kernel, rfl, by decide +kernel, by decide +kernel⟩
abbrev s_Calendar_counts : Stmt := inClass (topS 16) 2
theorem sc_Calendar_counts : FnScope ["self", "day"] ["self"] (defScope s_Calendar_counts) := ⟨rfl, rfl, rfl, by decide +kernel, rfl, by decide +kernel, by decide +kernel⟩
abbrev s_Calendar_pairs : Stmt := inClass (topS 16) 3
theorem sc_Calendar_pairs : FnScope ["self", "own"] ["self"] (defScope s_Calendar_pairs) := ⟨rfl, rfl, rfl, by decide +kernel, rfl, by decide +kernel, by decide +kernel⟩
abbrev s_Calendar_next_same : Stmt := inClass (topS 16) 4
theorem sc_Calendar_next_same : FnScope ["self", "used", "day"] ["self"] (defScope s_Calendar_next_same) := ⟨rfl, rfl, rfl, by decide +kernel, rfl, by decide +kernel, by decide +kernel⟩
abbrev s_Calendar_days : Stmt := inClass (topS 16) 5
theorem sc_Calendar_days : FnScope ["self"] ["self"] (defScope s_Calendar_days) := ⟨rfl, rfl, rfl, by decide +kernel, rfl, by decide +kernel, by decide +kernel⟩
abbrev s_Calendar_undo : Stmt := inClass (topS 16) 6
theorem sc_Calendar_undo : FnScope ["self"] ["self"] (defScope s_Calendar_undo) := ⟨rfl, rfl, rfl, by decide +kernel, rfl, by decide +kernel, by decide +kernel⟩
abbrev s_Calendar_len : Stmt := inClass (topS 16) 7
theorem sc_Calendar_len : FnScope ["self"] ["self"] (defScope s_Calendar_len) := ⟨rfl, rfl, rfl, by decide +kernel, rfl, by decide +kernel, by decide +kernel⟩
abbrev s_check_counts : Stmt := topS 18
theorem sc_check_counts : FnScope ["year", "value", "one"] ["year", "value"] (defScope s_check_counts) := ⟨rfl, rfl, rfl, by decide +kernel, rfl, by decide +kernel, by decide +kernel⟩
theorem pa_check_counts : plainA (defArgs s_check_counts) ["year", "value"] = true := by decide +kernel
abbrev s_next_on_used : Stmt := topS 19
theorem sc_next_on_used : FnScope ["year", "counts", "weight", "own"] ["year", "counts"] (defScope s_next_on_used) := ⟨rfl, rfl, rfl, by decide +kernel, rfl, by decide +kernel, by decide +kernel⟩
theorem pa_next_on_used : plainA (defArgs s_next_on_used) ["year", "counts"] = true := by decide +kernel
abbrev s_law_start : Stmt := topS 21
theorem sc_law_start : FnScope ["script"] ["script"] (defScope s_law_start) := ⟨rfl, rfl, rfl, by decide +kernel, rfl, by decide +kernel, by decide +kernel⟩
theorem pa_law_start : plainA (defArgs s_law_start) ["script"] = true := by decide +kernel
abbrev s_law_draw : Stmt := topS 22
theorem sc_law_draw : FnScope ["draws", "limit", "numbers", "at", "cell", "mixed"] ["draws", "limit"] (defScope s_law_draw) := ⟨rfl, rfl, rfl, by decide +kernel, rfl, by decide +kernel, by decide +kernel⟩
theorem pa_law_draw : plainA (defArgs s_law_draw) ["draws", "limit"] = true := by decide +kernel
abbrev s_law_pick : Stmt := topS 23
theorem sc_law_pick : FnScope ["draws", "choices"] ["draws", "choices"] (defScope s_law_pick) := ⟨rfl, rfl, rfl, by decide +kernel, rfl, by decide +kernel, by decide +kernel⟩
theorem pa_law_pick : plainA (defArgs s_law_pick) ["draws", "choices"] = true := by decide +kernel
abbrev s_law_error : Stmt := topS 24
theorem sc_law_error : FnScope ["caught", "kinds"] ["caught"] (defScope s_law_error) := ⟨rfl, rfl, rfl, by decide +kernel, rfl, by decide +kernel, by decide +kernel⟩
theorem pa_law_error : plainA (defArgs s_law_error) ["caught"] = true := by decide +kernel
abbrev s_law_year : Stmt := topS 25
theorem sc_law_year : FnScope ["draws", "most", "wide", "k"] ["draws", "most"] (defScope s_law_year) := ⟨rfl, rfl, rfl, by decide +kernel, rfl, by decide +kernel, by decide +kernel⟩
theorem pa_law_year : plainA (defArgs s_law_year) ["draws", "most"] = true := by decide +kernel
abbrev s_law_call : Stmt := topS 26
theorem sc_law_call : FnScope ["shown", "kind", "day", "found", "caught", "e"] ["shown", "kind", "day"] (defScope s_law_call) := ⟨rfl, rfl, rfl, by decide +kernel, rfl, by decide +kernel, by decide +kernel⟩
theorem pa_law_call : plainA (defArgs s_law_call) ["shown", "kind", "day"] = true := by decide +kernel
abbrev s_law : Stmt := topS 27
theorem sc_law : FnScope ["script", "draws", "year", "size", "shown", "line", "turn", "day", "told", "counts", "pairs", "k", "j"] ["script"] (defScope s_law) := ⟨rfl, rfl, rfl, by decide +kernel, rfl, by decide +kernel, by decide +kernel⟩
theorem pa_law : plainA (defArgs s_law) ["script"] = true := by decide +kernel
structure Tx (K : PySem.W.Frag) (mg : Str → Option Value) (c : Cl) : Prop where
  e_DayError : ErrC K mg "DayError" c.DayError
  e_BadYear : ErrC K mg "BadYear" c.BadYear
  e_BadDay : ErrC K mg "BadDay" c.BadDay
  e_BadNumber : ErrC K mg "BadNumber" c.BadNumber
  e_BadShare : ErrC K mg "BadShare" c.BadShare
  e_BadText : ErrC K mg "BadText" c.BadText
  e_NotFound : ErrC K mg "NotFound" c.NotFound
  d_is_int : Df K mg "is_int" s_is_int ["value", "low", "high"]
  d_common : Df K mg "common" s_common ["one", "other"]
  d_is_year : Df K mg "is_year" s_is_year ["value"]
  d_check_year : Df K mg "check_year" s_check_year ["value"]
  d_check_day : Df K mg "check_day" s_check_day ["year", "value"]
  d_lowest : Df K mg "lowest" s_lowest ["top", "below"]
  o_Calendar : ClsT K mg "Calendar" c.Calendar
  o_year : NoAttr K c.Calendar "year"
  o_line : NoAttr K c.Calendar "line"
  m_init : DfM K c.Calendar "__init__" "Calendar.__init__" s_Calendar_init ["self", "year"]
  m_put : DfM K c.Calendar "put" "Calendar.put" s_Calendar_put ["self", "day"]
  m_counts : DfM K c.Calendar "counts" "Calendar.counts" s_Calendar_counts ["self"]
  m_pairs : DfM K c.Calendar "pairs" "Calendar.pairs" s_Calendar_pairs ["self"]
  m_next_same : DfM K c.Calendar "next_same" "Calendar.next_same" s_Calendar_next_same ["self"]
  m_days : DfM K c.Calendar "days" "Calendar.days" s_Calendar_days ["self"]
  m_undo : DfM K c.Calendar "undo" "Calendar.undo" s_Calendar_undo ["self"]
  m_len : DfM K c.Calendar "__len__" "Calendar.__len__" s_Calendar_len ["self"]
  d_check_counts : Df K mg "check_counts" s_check_counts ["year", "value"]
  d_next_on_used : Df K mg "next_on_used" s_next_on_used ["year", "counts"]
  d_law_start : Df K mg "_law_start" s_law_start ["script"]
  d_law_draw : Df K mg "_law_draw" s_law_draw ["draws", "limit"]
  d_law_pick : Df K mg "_law_pick" s_law_pick ["draws", "choices"]
  d_law_error : Df K mg "_law_error" s_law_error ["caught"]
  d_law_year : Df K mg "_law_year" s_law_year ["draws", "most"]
  d_law_call : Df K mg "_law_call" s_law_call ["shown", "kind", "day"]
  d_law : Df K mg "law" s_law ["script"]
  q_BadYear : ErrK K c.BadYear c.BadYear c.BadDay c.BadNumber c.BadShare c.BadText c.NotFound c.DayError true false false false false false
  q_BadDay : ErrK K c.BadDay c.BadYear c.BadDay c.BadNumber c.BadShare c.BadText c.NotFound c.DayError false true false false false false
  q_BadNumber : ErrK K c.BadNumber c.BadYear c.BadDay c.BadNumber c.BadShare c.BadText c.NotFound c.DayError false false true false false false
  q_BadShare : ErrK K c.BadShare c.BadYear c.BadDay c.BadNumber c.BadShare c.BadText c.NotFound c.DayError false false false true false false
  q_BadText : ErrK K c.BadText c.BadYear c.BadDay c.BadNumber c.BadShare c.BadText c.NotFound c.DayError false false false false true false
  q_NotFound : ErrK K c.NotFound c.BadYear c.BadDay c.BadNumber c.BadShare c.BadText c.NotFound c.DayError false false false false false true
  n_isinstance : mg "isinstance" = none
  n_int : mg "int" = none
  n_bool : mg "bool" = none
  n_all : mg "all" = none
  n_list : mg "list" = none
  n_len : mg "len" = none
  n_abs : mg "abs" = none
  n_range : mg "range" = none
  n_sum : mg "sum" = none
  n_sorted : mg "sorted" = none
  n_set : mg "set" = none
  n_zip : mg "zip" = none
  n_ValueError : mg "ValueError" = none
end Pg

namespace Pg
open PySem PySem.Spec PyProof.Rows L2 Sd
section
variable {P : Program} {w : World} {K : PySem.W.Frag} {mg : Str → Option Value} {base : Heap} {c : Cl}
def pre_is_int : Pr := fun ss own post => ∃ x lo hi, ss = [.d x, .d (.int lo), .d (.int hi)] ∧ own = [] ∧ post = fun o => o = .ret (.d (.bool (isInt x lo hi))) []
theorem fn_is_int (T : Tx K mg c) : Fn K mg P w base "is_int" ["value", "low", "high"] 1 pre_is_int := T.d_is_int.fn fun f fd F => okG (k := 0) F sc_is_int (by rintro ss own post ⟨x, lo, hi, rfl, _⟩; rfl) (by
  rintro ss own post ⟨x, lo, hi, rfl, rfl, rfl⟩ cdv A outer s H E B g
  refine sds_nd 0 rfl fun hx => ?_
  have hx := hx.1
  refine sds_one (sd_retD (x := .bool (isInt x lo hi)) (ES.is (ed_and (l := isInt x lo hi) (ed_isi (x := x) (l := (kitB (tyD x) "int").getD false) T.n_isinstance (ed_v 0) .d (ev_ty (T := "int") rfl T.n_int (by decide +kernel)) ?_) fun hk => ?_) ?_) rfl)
  · cases x <;> first | rfl | exact absurd rfl (hx _)
  · refine ES.is (ed_and (l := isInt x lo hi) (ed_not (ed_isi (x := x) (l := (kitB (tyD x) "bool").getD false) T.n_isinstance (ed_v 0) .d (ev_ty (T := "bool") rfl T.n_bool (by decide +kernel)) ?_)) fun hk2 => ed_one ?_) ?_
    · cases x <;> first | rfl | exact absurd rfl (hx _)
    · cases x with
      | int i => exact ed_chain c_le c_le (ed_v 1) (ed_v 0) (ed_v 2)
      | bool b => exact nomatch (show false = true from hk2)
      | none => exact nomatch (show false = true from hk)
      | str z => exact nomatch (show false = true from hk)
      | list z => exact nomatch (show false = true from hk)
      | tuple z => exact nomatch (show false = true from hk)
      | dict z => exact absurd rfl (hx z)
    · cases x <;> first | rfl | exact nomatch (show false = true from hk) | exact absurd rfl (hx _)
  · cases x <;> first | rfl | exact absurd rfl (hx _))
end
end Pg

namespace Pg
open PySem PySem.Spec PyProof.Rows L2 Sd
section
variable {P : Program} {w : World} {K : PySem.W.Frag} {mg : Str → Option Value} {base : Heap} {c : Cl}
def pre_is_year : Pr := fun ss own post => ∃ x, ss = [.d x] ∧ own = [] ∧ post = fun o => o = .ret (.d (.bool (isYear x))) []
theorem fn_is_year (T : Tx K mg c) : Fn K mg P w base "is_year" ["value"] 2 pre_is_year := T.d_is_year.fn fun f fd F => okG (k := 1) F sc_is_year (by rintro ss own post ⟨x, rfl, _⟩; rfl) (by
  rintro ss own post ⟨x, rfl, rfl, rfl⟩ cdv A outer s H E B g
  refine sds_nd 0 rfl fun hx => ?_
  have hx := hx.1
  by_cases hl : ∃ ds, x = .list ds
  · obtain ⟨ds, rfl⟩ := hl
    refine sds_cons (sd_if (l := !(decide (1 ≤ (ds.length : Int)) && decide ((ds.length : Int) ≤ 8))) (ET.is (EW.et (ew_or (et_not (et_val (ed_isi (x := .list ds) (l := true) T.n_isinstance (ed_v 0) .d (ev_ty (T := "list") rfl T.n_list (by decide +kernel)) rfl))) fun _ => ew_or1 (et_not (et_chain c_le c_le ed_int (ed_len T.n_len (ed_v 0) .d) ed_int)))) (by simp)) (fun h => ?_) fun h => ?_)
    · refine sds_one (sd_retD ed_bl ?_)
      have : isYear (.list ds) = false := by
        unfold isYear
        simp only [Bool.not_eq_true', Bool.and_eq_false_iff] at h ⊢
        exact .inl h
      rw [this]
    · have h : (decide (1 ≤ (ds.length : Int)) && decide ((ds.length : Int) ≤ 8)) = true := by simpa using h
      have hlen : ds.length ≤ 8 := by simp at h; omega
      refine sds_nil (sds_one (sd_retD (ed_all (ns := ds.map fun d => isInt d 1 20) g T.n_all (EL.ed (ds := (ds.map fun d => isInt d 1 20).map PyData.bool) (EL.is (el_comp g (compP g (it_list (ed_v 0)) [("one", 1)] (blkOk_by (N := ["value", "one"]) (sc := defScope s_is_year) (by decide +kernel)) ds id (by simp) (fun d => some (.bool (isInt d 1 20))) (fun d => [.d (.list ds), .d d]) [1] (by simp) (by omega) (fun _ _ => trivial)
        (fun d _ s H C cl fp g' => gt_name 1 g'.nd) (fun d _ s H C cl fp o g' => ets_nil) (fun d _ x hx s H C cl fp o g' => ?_))) ?_)) .d) ?_))
      · cases hx
        exact es_call (fn_is_int T) g' (by decide) (ea_cons (ed_v 1) (ea_cons ed_int (ea_cons ed_int ea_nil))) ⟨d, 1, 20, rfl, rfl, rfl⟩
      · rw [List.map_map]
        exact List.filterMap_eq_map' .. |>.symm ▸ rfl
      · show Out.ret (.d (.bool ((ds.map fun d => isInt d 1 20).all id))) [] = Out.ret (.d (.bool (isYear (.list ds)))) []
        have e : isYear (.list ds) = (decide (1 ≤ (ds.length : Int)) && decide ((ds.length : Int) ≤ 8) && (ds.map fun d => isInt d 1 20).all id) := rfl
        rw [e, h, Bool.true_and]
  · have hk : kitB (tyD x) "list" = some false := by
      cases x <;> first | rfl | exact absurd ⟨_, rfl⟩ hl | exact absurd rfl (hx _)
    refine sds_cons (sd_if (l := true) (EW.et (ew_or (k := true) (l := true) (et_not (k := false) (et_val (ed_isi (x := x) (l := false) T.n_isinstance (ed_v 0) .d (ev_ty (T := "list") rfl T.n_list (by decide +kernel)) hk))) fun h => nomatch h)) (fun h => ?_) fun h => nomatch h)
    refine sds_one (sd_retD ed_bl ?_)
    cases x <;> first | rfl | exact absurd ⟨_, rfl⟩ hl)
end
end Pg

namespace Pg
open PySem PySem.Spec PyProof.Rows L2 Sd
section
variable {P : Program} {w : World} {K : PySem.W.Frag} {mg : Str → Option Value} {base : Heap} {c : Cl}
def pre_check_year (c : Cl) : Pr := fun ss own post => ∃ x, ss = [.d x] ∧ own = [] ∧ post = fun o => o = if isYear x = true then .ret (.d .none) [] else .exc c.BadYear []
theorem fn_check_year (T : Tx K mg c) : Fn K mg P w base "check_year" ["value"] 3 (pre_check_year c) := T.d_check_year.fn fun f fd F => okG (k := 2) F sc_check_year (by rintro ss own post ⟨x, rfl, _⟩; rfl) (by
  rintro ss own post ⟨x, rfl, rfl, rfl⟩ cdv A outer s H E B g
  refine sds_one (sd_if (et_not (et_val (es_call (fn_is_year T) g (by decide) (ea_cons (ed_v 0) ea_nil) ⟨x, rfl, rfl, rfl⟩))) (fun h => ?_) fun h => ?_)
  · refine sds_one (sd_raise g T.e_BadYear ?_)
    show Out.exc c.BadYear [] = _
    rw [if_neg (by simpa using h)]
  · refine sds_nil ?_
    show Out.ret (.d .none) [] = _
    rw [if_pos (by simpa using h)])
/-- a year is checked -/
theorem ok_year {c : Cl} {ys : List Int} (h : Yr ys) : pre_check_year c [.d (li ys)] [] (fun o => o = .ret (.d .none) []) := ⟨li ys, rfl, rfl, by rw [if_pos h.is]⟩
end
end Pg

namespace Pg
open PySem PySem.Spec PyProof.Rows L2 Sd
section
variable {P : Program} {w : World} {K : PySem.W.Frag} {mg : Str → Option Value} {base : Heap} {c : Cl}
/-- a calendar as it lies in the heap -/
abbrev calX (c : Cl) (x dx py pl : Addr) : OO := .raw (.ins c.Calendar dx [("year", .ref py), ("line", .ref pl)])
abbrev cal (c : Cl) (x dx py pl : Addr) (ys ls : List Int) : Own := [(pl, .lst (ls.map PyData.int)), (py, .lst (ys.map PyData.int)), (x, calX c x dx py pl), (dx, .raw (.own x))]
theorem cntI (ls : List Int) (n : Int) : ((ls.map PyData.int).countP fun z => PyData.eqv z (.int n)) = ls.count n := by
  rw [List.countP_map]
  unfold List.count
  refine List.countP_congr fun a _ => ?_
  simp [PyData.eqv]
theorem pl_ints : ∀ ls : List Int, PyData.plainAll (ls.map PyData.int) = true
  | [] => rfl
  | x :: l => by
    rw [List.map_cons]
    unfold PyData.plainAll
    rw [pl_ints l]
    rfl
theorem dp_int (i : Int) : (PyData.int i).depth ≤ 64 := by simp [PyData.depth]
end
end Pg

namespace Pg
open PySem PySem.Spec PyProof.Rows L2 Sd
section
variable {P : Program} {w : World} {K : PySem.W.Frag} {mg : Str → Option Value} {base : Heap} {c : Cl}
def pre_cal_init (c : Cl) : Pr := fun ss own post => ∃ (x dx : Addr) (ys : List Int), ss = [.raw (.ref x), .d (li ys)] ∧ own = [(x, .raw (.ins c.Calendar dx [])), (dx, .raw (.own x))] ∧ Yr ys ∧ post = fun o => ∃ py pl, o = .ret (.d .none) (cal c x dx py pl ys [])
theorem fn_cal_init (T : Tx K mg c) : MkT K mg P w base "Calendar" c.Calendar ["self", "year"] 4 (pre_cal_init c) := T.m_init.mkt T.o_Calendar fun f fd F => okG (k := 3) F sc_Calendar_init (by rintro ss own post ⟨x, dx, ys, rfl, _⟩; rfl) (by
  rintro ss own post ⟨x, dx, ys, rfl, rfl, hY, rfl⟩ cdv A outer s H E B g
  refine sds_cons (sd_expr (es_call (fn_check_year T) g (by decide) (ea_cons (ed_v 1) ea_nil) (ok_year hY)) ?_)
  refine sds_cons (sd_fldL (oa := []) T.o_Calendar.cl T.o_year (el_list (ds := ys.map PyData.int) T.n_list (ed_v 1) .d) (fun p' => ev_v 0) (by decide) fun py => ?_)
  refine sds_one (sd_fldL (oa := [_]) T.o_Calendar.cl T.o_line (el_lst (ds := []) ea_nil) (fun p' => ev_v 0) (Nat.lt_of_le_of_lt (Nat.le_refl 1) (by decide)) fun pl => ?_)
  exact ⟨py, pl, rfl⟩)
end
end Pg

namespace Pg
open PySem PySem.Spec PyProof.Rows L2 Sd
section
variable {P : Program} {w : World} {K : PySem.W.Frag} {mg : Str → Option Value} {base : Heap} {c : Cl}
def pre_check_day_o (c : Cl) : Pr := fun ss own post => ∃ (q : Addr) (ds : List PyData) (x : PyData), ss = [.raw (.ref q), .d x] ∧ own = [(q, .lst ds)] ∧ post = fun o => o = if isInt x 0 ((ds.length : Int) - 1) = true then .ret (.d .none) [(q, .lst ds)] else .exc c.BadDay [(q, .lst ds)]
theorem fn_check_day_o (T : Tx K mg c) : Fn K mg P w base "check_day" ["year", "value"] 2 (pre_check_day_o c) := T.d_check_day.fn fun f fd F => okG (k := 1) F sc_check_day (by rintro ss own post ⟨q, ds, x, rfl, _⟩; rfl) (by
  rintro ss own post ⟨q, ds, x, rfl, rfl, rfl⟩ cdv A outer s H E B g
  refine sds_one (sd_if (et_not (et_val (es_call (fn_is_int T) g (by decide) (ea_cons (ed_v 1) (ea_cons ed_int (ea_cons (ed_sub (ed_len (ds := ds) T.n_len (ev_v 0) (Lst.o (by simp))) ed_int) ea_nil))) ⟨x, _, _, rfl, rfl, rfl⟩))) (fun h => ?_) fun h => ?_)
  · refine sds_one (sd_raise g T.e_BadDay ?_)
    show Out.exc c.BadDay _ = _
    rw [if_neg (by simpa using h)]
  · refine sds_nil ?_
    show Out.ret (.d .none) _ = _
    rw [if_pos (by simpa using h)])
end
end Pg

namespace Pg
open PySem PySem.Spec PyProof.Rows L2 Sd
section
variable {P : Program} {w : World} {K : PySem.W.Frag} {mg : Str → Option Value} {base : Heap} {c : Cl}
def pre_cal_put (c : Cl) : Pr := fun ss own post => ∃ (x dx py pl : Addr) (ys ls : List Int) (d : PyData), ss = [.raw (.ref x), .d d] ∧ own = cal c x dx py pl ys ls ∧ ls.length ≤ 12 ∧ post = fun o => (isInt d 0 ((ys.length : Int) - 1) = false ∧ o = .exc c.BadDay (cal c x dx py pl ys ls)) ∨
  ∃ n : Int, d = .int n ∧ 0 ≤ n ∧ n < ys.length ∧ ((ls.length = 12 ∧ o = .exc c.BadNumber (cal c x dx py pl ys ls)) ∨ (ls.length < 12 ∧ o = .ret (.d (.int ((ls ++ [n]).count n : Nat))) (cal c x dx py pl ys (ls ++ [n]))))
theorem isInt_day {d : PyData} {m : Nat} (h : isInt d 0 ((m : Int) - 1) = true) : ∃ n : Int, d = .int n ∧ 0 ≤ n ∧ n < m := by
  unfold Sd.isInt at h
  split at h
  · rename_i i
    rw [Bool.and_eq_true, decide_eq_true_eq, decide_eq_true_eq] at h
    exact ⟨i, rfl, h.1, by omega⟩
  · cases h
theorem fn_cal_put (T : Tx K mg c) : Mth K mg P w base c.Calendar "put" ["self", "day"] 3 (pre_cal_put c) := T.m_put.mth fun f fd F => okG (k := 2) F sc_Calendar_put (by rintro ss own post ⟨x, dx, py, pl, ys, ls, d, rfl, _⟩; rfl) (by
  rintro ss own post ⟨x, dx, py, pl, ys, ls, d, rfl, rfl, hl, rfl⟩ cdv A outer s H E B g
  have len : ((ys.map PyData.int).length : Int) = ys.length := by rw [List.length_map]
  refine sds_cons (sd_exprG (R := fun _ o => o = cal c x dx py pl ys ls ∧ isInt d 0 ((ys.length : Int) - 1) = true) (eg_call (oa := [(pl, .lst (ls.map PyData.int))]) (o1 := [(py, .lst (ys.map PyData.int))]) (ob := [(x, calX c x dx py pl), (dx, .raw (.own x))]) (fn_check_day_o T) g (by decide) (ea_cons (ev_fld T.o_Calendar.cl T.o_year (x := x) (dx := dx) (fs := [("year", .ref py), ("line", .ref pl)]) (by simp) (ev_v 0) rfl) (ea_cons (ed_v 1) ea_nil)) ⟨py, _, d, rfl, rfl, rfl⟩ ?_ ?_) ?_)
  · rintro s' o' h
    rw [len] at h
    split at h
    · cases h
      exact ⟨rfl, by assumption⟩
    · cases h
  · rintro C o' h
    rw [len] at h
    split at h
    · cases h
    · cases h
      exact .inl ⟨by simpa using ‹¬ isInt d 0 ((ys.length : Int) - 1) = true›, rfl⟩
  rintro _ _ ⟨rfl, hd⟩
  obtain ⟨n, rfl, h0, h1⟩ := isInt_day hd
  refine sds_cons (sd_if (l := decide (ls.length = 12)) (ET.is (et_cmp c_eqI (ed_len (ds := ls.map PyData.int) T.n_len (ev_fld T.o_Calendar.cl T.o_line (x := x) (dx := dx) (fs := [("year", .ref py), ("line", .ref pl)]) (by simp) (ev_v 0) rfl) (Lst.o (by simp))) ed_int) ?_) (fun h => ?_) fun h => ?_)
  · rw [List.length_map, decide_eq_decide]
    omega
  · refine sds_one (sd_raise g T.e_BadNumber ?_)
    exact .inr ⟨n, rfl, h0, h1, .inl ⟨by simpa using h, rfl⟩⟩
  · refine sds_nil ?_
    have hl' : ls.length < 12 := by
      have : ls.length ≠ 12 := by simpa using h
      omega
    refine sds_cons (sd_append (oa := []) (p := pl) (ds := ls.map PyData.int) (x := .int n) (ev_fld T.o_Calendar.cl T.o_line (x := x) (dx := dx) (fs := [("year", .ref py), ("line", .ref pl)]) (by simp) (ev_v 0) rfl) (ed_v 1) (by rw [List.length_map]; omega) ?_)
    have e : ls.map PyData.int ++ [.int n] = (ls ++ [n]).map PyData.int := by simp
    rw [e]
    refine sds_one (sd_retD (ES.is (ed_count (k := 1) (ds := (ls ++ [n]).map PyData.int) g (ev_fld T.o_Calendar.cl T.o_line (x := x) (dx := dx) (fs := [("year", .ref py), ("line", .ref pl)]) (by simp) (ev_v 0) rfl) (Lst.o (by simp)) (ed_v 1) (pl_ints _) (by rfl) (dp_int _)) (by rw [cntI])) ?_)
    exact .inr ⟨n, rfl, h0, h1, .inr ⟨hl', rfl⟩⟩)
end
end Pg

namespace Pg
open PySem PySem.Spec PyProof.Rows L2 Sd
section
variable {P : Program} {w : World} {K : PySem.W.Frag} {mg : Str → Option Value} {base : Heap} {c : Cl}
def pre_cal_undo (c : Cl) : Pr := fun ss own post => ∃ (x dx py pl : Addr) (ys ls : List Int), ss = [.raw (.ref x)] ∧ own = cal c x dx py pl ys ls ∧ ls.length ≤ 12 ∧ post = fun o => (ls = [] ∧ o = .exc c.NotFound (cal c x dx py pl ys ls)) ∨ ∃ (l : List Int) (n : Int), ls = l ++ [n] ∧ o = .ret (.d (.int n)) (cal c x dx py pl ys l)
theorem fn_cal_undo (T : Tx K mg c) : Mth K mg P w base c.Calendar "undo" ["self"] 2 (pre_cal_undo c) := T.m_undo.mth fun f fd F => okG (k := 1) F sc_Calendar_undo (by rintro ss own post ⟨x, dx, py, pl, ys, ls, rfl, _⟩; rfl) (by
  rintro ss own post ⟨x, dx, py, pl, ys, ls, rfl, rfl, hl, rfl⟩ cdv A outer s H E B g
  refine sds_cons (sd_if (l := decide (ls = [])) (ET.is (et_cmp (c_eq g (Dat.o (p := pl) (ds := ls.map PyData.int) (by simp)) (Dat.d (x := .list [])) (sh_ints _) (sh_ints [])) (ev_fld T.o_Calendar.cl T.o_line (x := x) (dx := dx) (fs := [("year", .ref py), ("line", .ref pl)]) (by simp) (ev_v 0) rfl) (EL.ed (el_lst (ds := []) ea_nil))) ?_) (fun h => ?_) fun h => ?_)
  · cases ls <;> simp [PyData.eqv, PyData.eqvAll]
  · refine sds_one (sd_raise g T.e_NotFound ?_)
    exact .inl ⟨by simpa using h, rfl⟩
  · refine sds_nil ?_
    have hne : ls ≠ [] := by simpa using h
    obtain ⟨l, n, rfl⟩ : ∃ l n, ls = l ++ [n] := ⟨ls.dropLast, ls.getLast hne, (List.dropLast_concat_getLast hne).symm⟩
    have e : cal c x dx py pl ys (l ++ [n]) = [] ++ (pl, .lst (l.map PyData.int ++ [.int n])) :: [(py, .lst (ys.map PyData.int)), (x, calX c x dx py pl), (dx, .raw (.own x))] := by simp [cal]
    rw [e]
    exact sds_one (sd_retG (R := fun s o => s = .d (.int n) ∧ o = cal c x dx py pl ys l) (eg_pop (oa := []) (ev_fld T.o_Calendar.cl T.o_line (x := x) (dx := dx) (fs := [("year", .ref py), ("line", .ref pl)]) (by simp) (ev_v 0) rfl) ⟨rfl, rfl⟩) fun s o h => .inr ⟨l, n, rfl, by rw [h.1, h.2]⟩))
end
end Pg

namespace Pg
open PySem PySem.Spec PyProof.Rows L2 Sd
section
variable {P : Program} {w : World} {K : PySem.W.Frag} {mg : Str → Option Value} {base : Heap} {c : Cl}
/-- the six kinds of errors -/
def erC (c : Cl) : Nat → Addr
  | 0 => c.BadYear
  | 1 => c.BadDay
  | 2 => c.BadNumber
  | 3 => c.BadShare
  | 4 => c.BadText
  | _ => c.NotFound
def erN : Nat → Str
  | 0 => "year"
  | 1 => "day"
  | 2 => "number"
  | 3 => "share"
  | 4 => "text"
  | _ => "none"
def pre_law_error (c : Cl) : Pr := fun ss own post => ∃ (a : Addr) (i : Nat), ss = [.raw (.ref a)] ∧ i < 6 ∧ own = [(a, .raw (ExK (.ref (erC c i)) a))] ∧ post = fun o => o = .ret (.d (.str (erN i))) [(a, .raw (ExK (.ref (erC c i)) a))]
theorem law_error_at (T : Tx K mg c) {f : Addr} {cdv : Value} {A : Around} {outer : List Env} {s : Shared} {H : Hp} {E : XK} {B : Bs} {ex : Addr → List Slot → Own → Prop} (g : Gd (ctxOf P w K mg base ["caught", "kinds"] "_law_error" s_law_error f cdv A outer s H E B ex) 2) {C a : Addr} {b0 b1 b2 b3 b4 b5 : Bool} {nm : Str} (Q : ErrK K C c.BadYear c.BadDay c.BadNumber c.BadShare c.BadText c.NotFound c.DayError b0 b1 b2 b3 b4 b5)
    (hc : ([PyData.bool b0, .bool b1, .bool b2, .bool b3, .bool b4, .bool b5].countP fun z => PyData.eqv z (.bool true)) = 1) {j : Nat} {z : PyData} (hj : [PyData.bool b0, .bool b1, .bool b2, .bool b3, .bool b4, .bool b5][j]? = some z) (hz : PyData.eqv z (.bool true) = true)
    (hno : ∀ (m : Nat) (z' : PyData), m < j → [PyData.bool b0, .bool b1, .bool b2, .bool b3, .bool b4, .bool b5][m]? = some z' → PyData.eqv z' (.bool true) = false) (hn : atI [PyData.str "year", .str "day", .str "number", .str "share", .str "text", .str "none"] (j : Int) = some (.str nm)) :
    SDs (ctxOf P w K mg base ["caught", "kinds"] "_law_error" s_law_error f cdv A outer s H E B ex) (defBody s_law_error) { nx := fun _ _ => False, rt := fun s own => s = .d (.str nm) ∧ own = [(a, .raw (ExK (.ref C) a))] } [.raw (.ref a), .un] [(a, .raw (ExK (.ref C) a))] := by
  have hm : (a, OO.raw (ExK (.ref C) a)) ∈ [(a, OO.raw (ExK (.ref C) a))] := by simp
  have cr : ∀ (D : Addr) u, RelV (.ref D) u → u = Value.ref D := fun D u r => r
  refine sds_cons (sd_set 1 g.nd (ed_lst (ds := [.bool b0, .bool b1, .bool b2]) (ea_cons (ed_isX Q.xc T.n_isinstance hm (ev_v 0) (ev_glob rfl T.e_BadYear.g) (cr _) Q.y) (ea_cons (ed_isX Q.xc T.n_isinstance hm (ev_v 0) (ev_glob rfl T.e_BadDay.g) (cr _) Q.d) (ea_cons (ed_isX Q.xc T.n_isinstance hm (ev_v 0) (ev_glob rfl T.e_BadNumber.g) (cr _) Q.n) ea_nil)))) ?_)
  refine sds_cons (sd_set 1 g.nd (EL.ed (el_cat (ed_v 1) (ed_lst (ds := [.bool b3, .bool b4, .bool b5]) (ea_cons (ed_isX Q.xc T.n_isinstance hm (ev_v 0) (ev_glob rfl T.e_BadShare.g) (cr _) Q.s) (ea_cons (ed_isX Q.xc T.n_isinstance hm (ev_v 0) (ev_glob rfl T.e_BadText.g) (cr _) Q.t) (ea_cons (ed_isX Q.xc T.n_isinstance hm (ev_v 0) (ev_glob rfl T.e_NotFound.g) (cr _) Q.o) ea_nil)))) .d .d (by simp))) ?_)
  refine sds_cons (sd_ifF (ET.is (EW.et (ew_or (et_cmp c_neI (ed_count (k := 1) g (ed_v 1) .d ed_bl (by rfl) (by rfl) (by decide)) ed_int) fun _ => ew_or (et_not (et_val (ed_isX Q.xc T.n_isinstance hm (ev_v 0) (ev_glob rfl T.e_DayError.g) (cr _) Q.de))) fun _ => ew_or1 (et_not (et_val (ed_isX (cV := .ty "ValueError") (cv := .type "ValueError") Q.xc T.n_isinstance hm (ev_v 0) (ev_ty (T := "ValueError") rfl T.n_ValueError (by decide +kernel)) (fun u r => r) Q.ve))))) ?_) ?_)
  · have e : (([PyData.bool b0, .bool b1, .bool b2] ++ [PyData.bool b3, .bool b4, .bool b5]).countP fun z => PyData.eqv z (.bool true)) = 1 := hc
    rw [e]
    rfl
  show SDs _ (_ :: _) _ _ _
  with_reducible refine sds_one ?_
  with_reducible refine sd_retD (x := .str nm) ?R ?q
  case q => exact ⟨rfl, rfl⟩
  with_reducible refine ed_ixL (i := (j : Int)) (s := .d (.list [.str "year", .str "day", .str "number", .str "share", .str "text", .str "none"])) ?L ?I ?l hn ?hs
  case hs => exact fun _ _ => rfl
  case l => exact .d
  case I => exact ed_index (k := 1) g (ed_v 1) .d ed_bl ((shp_list (n := 0) fun d hd => by
    simp only [List.cons_append, List.nil_append, List.mem_cons, List.not_mem_nil, or_false] at hd
    rcases hd with rfl | rfl | rfl | rfl | rfl | rfl <;> exact shp_bool _).shaped (by decide)) (sh_bool true) hj hz hno
  case L =>
    with_reducible refine ed_lstB (eb_k ed_str (eb_k ed_str (eb_k ed_str (eb_k ed_str (eb_k ed_str (eb_k ed_str ea_nil)))))) ?j2 ?j3
    case j2 => rfl
    case j3 => decide
theorem fn_law_error (T : Tx K mg c) : Fn K mg P w base "_law_error" ["caught"] 3 (pre_law_error c) := T.d_law_error.fn fun f fd F => okG (k := 2) F sc_law_error (by rintro ss own post ⟨a, i, rfl, _⟩; rfl) (by
  rintro ss own post ⟨a, i, rfl, hi, rfl, rfl⟩ cdv A outer s H E B g
  have fin : ∀ (sl : Slot) (o : Own), sl = .d (.str (erN i)) ∧ o = [(a, .raw (ExK (.ref (erC c i)) a))] → Out.ret sl o = .ret (.d (.str (erN i))) [(a, .raw (ExK (.ref (erC c i)) a))] := by
    rintro _ _ ⟨rfl, rfl⟩
    rfl
  have hno : ∀ (l : List PyData) (m : Nat), (∀ z ∈ l.take m, PyData.eqv z (.bool true) = false) → ∀ (n : Nat) (z' : PyData), n < m → l[n]? = some z' → PyData.eqv z' (.bool true) = false := fun l m h n z' hn hz => h z' (by
    have : (l.take m)[n]? = some z' := by rw [List.getElem?_take_of_lt hn]; exact hz
    exact List.mem_of_getElem? this)
  match i, hi with
  | 0, _ => exact SDs.imp (law_error_at (a := a) T g T.q_BadYear (j := 0) (by rfl) rfl rfl (hno _ _ (by simp [PyData.eqv])) rfl) (fun _ _ h => h.elim) fin (fun _ _ h => h) (fun _ _ h => h)
  | 1, _ => exact SDs.imp (law_error_at (a := a) T g T.q_BadDay (j := 1) (by rfl) rfl rfl (hno _ _ (by simp [PyData.eqv])) rfl) (fun _ _ h => h.elim) fin (fun _ _ h => h) (fun _ _ h => h)
  | 2, _ => exact SDs.imp (law_error_at (a := a) T g T.q_BadNumber (j := 2) (by rfl) rfl rfl (hno _ _ (by simp [PyData.eqv])) rfl) (fun _ _ h => h.elim) fin (fun _ _ h => h) (fun _ _ h => h)
  | 3, _ => exact SDs.imp (law_error_at (a := a) T g T.q_BadShare (j := 3) (by rfl) rfl rfl (hno _ _ (by simp [PyData.eqv])) rfl) (fun _ _ h => h.elim) fin (fun _ _ h => h) (fun _ _ h => h)
  | 4, _ => exact SDs.imp (law_error_at (a := a) T g T.q_BadText (j := 4) (by rfl) rfl rfl (hno _ _ (by simp [PyData.eqv])) rfl) (fun _ _ h => h.elim) fin (fun _ _ h => h) (fun _ _ h => h)
  | 5, _ => exact SDs.imp (law_error_at (a := a) T g T.q_NotFound (j := 5) (by rfl) rfl rfl (hno _ _ (by simp [PyData.eqv])) rfl) (fun _ _ h => h.elim) fin (fun _ _ h => h) (fun _ _ h => h))
theorem es_error {Z : Sd.Ctx} {k i : Nat} {ρ : List Slot} {oa ob : Own} {e : Expr} {p pos : Pos} {a : Addr} (F : Fn Z.X.K Z.X.mg Z.X.prog Z.X.w Z.X.base "_law_error" ["caught"] 3 (pre_law_error c)) (g : Gd Z k) (hk : 3 ≤ k) (hi : i < 6) (he : EV Z e ρ (oa ++ [(a, .raw (ExK (.ref (erC c i)) a))] ++ ob) (.ref a)) (hg : Gl Z.X "_law_error" := by rfl) (hs : starEach [e] Z.X.env = (false, eval e Z.X.env) :: starEach [] Z.X.env := by rfl) :
    ED Z (.Call (.Name "_law_error" p) [e] [] pos) ρ (oa ++ [(a, .raw (ExK (.ref (erC c i)) a))] ++ ob) (.str (erN i)) :=
  EG.toES (eg_call F g hk (ea_cons he ea_nil hs) ⟨a, i, rfl, hi, rfl, rfl⟩ (fun s o h => by cases h; exact ⟨rfl, rfl⟩) (fun C o h => nomatch h) hg (by decide) hs rfl)
end
end Pg

namespace Pg
open PySem PySem.Spec PyProof.Rows L2 Sd
section
variable {P : Program} {w : World} {K : PySem.W.Frag} {mg : Str → Option Value} {base : Heap} {c : Cl}
theorem sds_rtdrop1 {Z : Sd.Ctx} {D : DE} {sts : List Stmt} {ρ : List Slot} {own : Own} (h : SDs Z sts { D with rt := fun s o => D.rt s o ∨ ∃ q o', o = q :: o' ∧ D.rt s o' } ρ own) : SDs Z sts D ρ own := fun H0 Hf σ H m0 S E => wSs.imp (h H0 Hf σ H m0 S E) (fun _ _ q => q) (fun v H' ⟨Hf', s, o, m, S', r, hs, q⟩ => by
  rcases q with q | ⟨⟨a, oo⟩, o', rfl, q⟩
  · exact ⟨Hf', s, o, m, S', r, hs, q⟩
  · exact ⟨Hf', s, o', m, Sat.drop (oa := []) S', r, hs, q⟩) (fun _ _ q => q) (fun _ _ q => q)
/-- what a call tells, and what is there then -/
def Cd (ys ls : List Int) (kind : Int) (d r : PyData) (l' : List Int) : Prop :=
  (kind = 0 ∧ ((isInt d 0 ((ys.length : Int) - 1) = false ∧ r = .str "day" ∧ l' = ls) ∨ ∃ n : Int, d = .int n ∧ 0 ≤ n ∧ n < ys.length ∧ ((ls.length = 12 ∧ r = .str "number" ∧ l' = ls) ∨ (ls.length < 12 ∧ r = .int ((ls ++ [n]).count n : Nat) ∧ l' = ls ++ [n])))) ∨
  (kind ≠ 0 ∧ ((ls = [] ∧ r = .str "none" ∧ l' = ls) ∨ ∃ (l : List Int) (n : Int), ls = l ++ [n] ∧ r = .int n ∧ l' = l))
def pre_law_call (c : Cl) : Pr := fun ss own post => ∃ (x dx py pl : Addr) (ys ls : List Int) (kind : Int) (d : PyData), ss = [.raw (.ref x), .d (.int kind), .d d] ∧ own = cal c x dx py pl ys ls ∧ ls.length ≤ 12 ∧ post = fun o => ∃ r l', Cd ys ls kind d r l' ∧ o = .ret (.d r) (cal c x dx py pl ys l')
theorem fn_law_call (T : Tx K mg c) : Fn K mg P w base "_law_call" ["shown", "kind", "day"] 4 (pre_law_call c) := T.d_law_call.fn fun f fd F => okG (k := 3) F sc_law_call (by rintro ss own post ⟨x, dx, py, pl, ys, ls, kind, d, rfl, _⟩; rfl) (by
  rintro ss own post ⟨x, dx, py, pl, ys, ls, kind, d, rfl, rfl, hl, rfl⟩ cdv A outer s H E B g
  refine sds_rtdrop1 ?_
  refine sds_cons (sd_set 3 g.nd ed_non ?_)
  refine sds_cons (sd_set 4 g.nd ed_non ?_)
  refine sds_cons (sd_try_keep 5 4 g ⟨rfl, by decide, .inl T.e_DayError.g⟩ fun pn xe B' g' => ?_)
  refine sds_one (sd_setG (R := fun s o => ∃ r l', Cd ys ls kind d r l' ∧ s = .d r ∧ o = cal c x dx py pl ys l') 3 g'.nd (eg_if (k := decide (kind = 0)) (et_cmp c_eqI (ed_v 1) ed_int) (fun hk => eg_meth (oa := []) (o1 := cal c x dx py pl ys ls) (ob := []) (fn_cal_put T) T.o_Calendar.cl g' (by decide) (x := x) (dx := dx) (fs := [("year", .ref py), ("line", .ref pl)]) (ev_v 0) (by simp) rfl (ea_cons (ed_v 2) ea_nil) ⟨x, dx, py, pl, ys, ls, d, rfl, rfl, hl, rfl⟩ ?_ ?_) (fun hk => eg_meth0 (oa := []) (o1 := cal c x dx py pl ys ls) (ob := []) (fn_cal_undo T) T.o_Calendar.cl g' (by decide) (x := x) (dx := dx) (fs := [("year", .ref py), ("line", .ref pl)]) (ev_v 0) (by simp) rfl ⟨x, dx, py, pl, ys, ls, rfl, rfl, hl, rfl⟩ ?_ ?_)) ?_)
  · rintro s o h
    have hk : kind = 0 := by simpa using hk
    rcases h with ⟨h1, h2⟩ | ⟨n, rfl, h0, h1, h2⟩
    · cases h2
    · rcases h2 with ⟨_, h2⟩ | ⟨h3, h2⟩
      · cases h2
      · cases h2
        exact ⟨_, _, .inl ⟨hk, .inr ⟨n, rfl, h0, h1, .inr ⟨h3, rfl, rfl⟩⟩⟩, rfl, by simp⟩
  · rintro C o h
    have hk : kind = 0 := by simpa using hk
    rcases h with ⟨h1, h2⟩ | ⟨n, rfl, h0, h1, h2⟩
    · cases h2
      refine ⟨T.q_BadDay.ex, fun a => ?_⟩
      refine sds_one (sd_retD (es_if (k := false) (et_cmp c_isNR (ev_v 4) ed_non) (fun h => nomatch h) fun _ => es_error (oa := []) (i := 1) (fn_law_error T) g (by decide) (by decide) (ev_v 4)) ?_)
      exact .inr ⟨_, _, rfl, _, _, .inl ⟨hk, .inl ⟨h1, rfl, rfl⟩⟩, by simp [erN]⟩
    · rcases h2 with ⟨h3, h2⟩ | ⟨h3, h2⟩
      · cases h2
        refine ⟨T.q_BadNumber.ex, fun a => ?_⟩
        refine sds_one (sd_retD (es_if (k := false) (et_cmp c_isNR (ev_v 4) ed_non) (fun h => nomatch h) fun _ => es_error (oa := []) (i := 2) (fn_law_error T) g (by decide) (by decide) (ev_v 4)) ?_)
        exact .inr ⟨_, _, rfl, _, _, .inl ⟨hk, .inr ⟨n, rfl, h0, h1, .inl ⟨h3, rfl, rfl⟩⟩⟩, by simp [erN]⟩
      · cases h2
  · rintro s o h
    have hk : kind ≠ 0 := by simpa using hk
    rcases h with ⟨_, h2⟩ | ⟨l, n, rfl, h2⟩
    · cases h2
    · cases h2
      exact ⟨_, _, .inr ⟨hk, .inr ⟨l, n, rfl, rfl, rfl⟩⟩, rfl, by simp⟩
  · rintro C o h
    have hk : kind ≠ 0 := by simpa using hk
    rcases h with ⟨h1, h2⟩ | ⟨l, n, rfl, h2⟩
    · cases h2
      refine ⟨T.q_NotFound.ex, fun a => ?_⟩
      refine sds_one (sd_retD (es_if (k := false) (et_cmp c_isNR (ev_v 4) ed_non) (fun h => nomatch h) fun _ => es_error (oa := []) (i := 5) (fn_law_error T) g (by decide) (by decide) (ev_v 4)) ?_)
      exact .inr ⟨_, _, rfl, _, _, .inr ⟨hk, .inl ⟨h1, rfl, rfl⟩⟩, by simp [erN]⟩
    · cases h2
  · rintro _ _ ⟨r, l', hC, rfl, rfl⟩
    refine sds_one (sd_retD (es_if (k := true) (et_cmp c_isND (ed_v 4) ed_non) (fun _ => ed_v 3) fun h => nomatch h) ?_)
    exact .inl ⟨r, l', hC, rfl⟩)
end
end Pg

namespace Pg
open PySem PySem.Spec PyProof.Rows L2 Sd
section
variable {P : Program} {w : World} {K : PySem.W.Frag} {mg : Str → Option Value} {base : Heap} {c : Cl}
def pre_law_draw : Pr := fun ss own post => ∃ (d n : Addr) (cells : List Int) (cnt limit : Int), ss = [.raw (.ref d), .d (.int limit)] ∧ own = drw d n cells cnt ∧ cells ≠ [] ∧ 0 < limit ∧ limit < 1073741824 ∧
  post = fun o => ∃ r cells' cnt', 0 ≤ r ∧ r < limit ∧ cells' ≠ [] ∧ o = .ret (.d (.int r)) (drw d n cells' cnt')
theorem fn_law_draw (T : Tx K mg c) : Fn K mg P w base "_law_draw" ["draws", "limit"] 1 pre_law_draw := T.d_law_draw.fn fun f fd F => okG (k := 0) F sc_law_draw (by rintro ss own post ⟨d, n, cells, cnt, limit, rfl, _⟩; rfl) (by
  rintro ss own post ⟨d, n, cells, cnt, limit, rfl, rfl, hc, hl, hl2, rfl⟩ cdv A outer s H E B g
  unfold drw
  have hpos : (0 : Int) < cells.length := by
    have := List.length_pos_iff.mpr hc
    omega
  refine sds_cons (sd_set 2 g.nd (es_ixR (s := .raw (.ref n)) (q := d) (vs := [.ref n, .int cnt]) (by simp) (ev_v 0) ed_int rfl fun _ => rfl) ?_)
  refine sds_cons (sd_setitemR (oa := []) (q := d) (vs := [.ref n, .int cnt]) (n := 1) (v := .int (cnt + 1)) (ed_add (es_ixR (s := .d (.int cnt)) (q := d) (vs := [.ref n, .int cnt]) (by simp) (ev_v 0) ed_int rfl fun _ => Rep.int _) ed_int) (fun _ _ h => by cases h; rfl) (ev_v 0) ed_int rfl ?_)
  have eset : ([.ref n, .int cnt] : List V).set 1 (.int (cnt + 1)) = [.ref n, .int (cnt + 1)] := rfl
  rw [eset]
  refine sds_cons (sd_set 3 g.nd (ed_mod (es_ixR (s := .d (.int (cnt + 1))) (q := d) (vs := [.ref n, .int (cnt + 1)]) (by simp) (ev_v 0) ed_int rfl fun _ => Rep.int _) (ed_len (ds := cells.map PyData.int) T.n_len (ev_v 2) (Lst.o (by simp))) (by rw [List.length_map]; exact hpos)) ?_)
  rw [List.length_map]
  have h1 := Int.emod_nonneg (cnt + 1) (Int.ne_of_gt hpos)
  have h2 := Int.emod_lt_of_pos (cnt + 1) hpos
  obtain ⟨j, hj⟩ : ∃ j : Nat, (cnt + 1) % (cells.length : Int) = (j : Int) := ⟨((cnt + 1) % (cells.length : Int)).toNat, by omega⟩
  rw [hj]
  have hjl : j < cells.length := by omega
  have hat : (cells.map PyData.int)[j]? = some (.int cells[j]) := by
    rw [List.getElem?_map, List.getElem?_eq_getElem hjl]
    rfl
  have hix : ixN (cells.map PyData.int).length (j : Int) = some j := by
    unfold ixN
    rw [if_pos (by omega), if_pos (by rw [List.length_map]; omega)]
    simp
  refine sds_cons (sd_set 4 g.nd (ed_ixL (ds := cells.map PyData.int) (ev_v 2) (ed_v 3) (Lst.o (by simp)) (atI_ixN hix hat)) ?_)
  refine sds_cons (sd_if (et_cmp c_ge (ed_v 4) ed_int) (fun h => ?_) fun h => ?_)
  · refine sds_cons (sd_setitem (oa := [_]) (p := n) (n := j) (ed_fdivS (ed_v 4) (ed_v 1) ⟨hl, hl2⟩) (ev_v 2) (ed_v 3) hix ?_)
    refine sds_one (sd_retD (ed_mod (ed_v 4) (ed_v 1) hl) ?_)
    refine ⟨cells[j] % limit, cells.set j (cells[j] / limit), cnt + 1, Int.emod_nonneg _ (Int.ne_of_gt hl), Int.emod_lt_of_pos _ hl, fun z => hc (by simpa using z), ?_⟩
    rw [List.map_set]
    rfl
  · refine sds_nil ?_
    have m1 := fun x : Int => Int.emod_nonneg x (show (4294967291 : Int) ≠ 0 by decide)
    have m2 := fun x : Int => Int.emod_lt_of_pos x (show (0 : Int) < 4294967291 by decide)
    have m3 := fun x : Int => Int.emod_nonneg x (show (4294967279 : Int) ≠ 0 by decide)
    have m4 := fun x : Int => Int.emod_lt_of_pos x (show (0 : Int) < 4294967279 by decide)
    refine sds_cons (sd_set 5 g.nd (ed_mod (ed_add (ed_v 4) (ed_mulS ed_int (es_ixR (s := .d (.int (cnt + 1))) (q := d) (vs := [.ref n, .int (cnt + 1)]) (by simp) (ev_v 0) ed_int rfl fun _ => Rep.int _) (.inl ⟨by decide, by decide⟩))) ed_int (by decide)) ?_)
    refine sds_cons (sd_set 5 g.nd (ed_mod (ed_pow (ed_v 5) ed_int ⟨by decide, by decide, ?_⟩) ed_int (by decide)) ?_)
    · have a1 := m1 (cells[j] + 104729 * (cnt + 1))
      have a2 := m2 (cells[j] + 104729 * (cnt + 1))
      generalize (cells[j] + 104729 * (cnt + 1)) % 4294967291 = x at a1 a2
      show x.natAbs < 2 ^ 64
      omega
    · refine sds_one (sd_retD (ed_mod (ed_fdivS (ed_mod (ed_add (ed_mulS (ed_fdivS (ed_v 5) ed_int ⟨by decide, by decide⟩) ed_int (.inr ⟨by decide, by decide⟩)) (ed_v 5)) ed_int (by decide)) ed_int ⟨by decide, by decide⟩) (ed_v 1) hl) ?_)
      exact ⟨_, cells, cnt + 1, Int.emod_nonneg _ (Int.ne_of_gt hl), Int.emod_lt_of_pos _ hl, hc, rfl⟩)
end
end Pg

namespace Pg
open PySem PySem.Spec PyProof.Rows L2 Sd
section
variable {P : Program} {w : World} {K : PySem.W.Frag} {mg : Str → Option Value} {base : Heap} {c : Cl}
def pre_law_start (K : PySem.W.Frag) : Pr := fun ss own post => ∃ (a : Addr) (ns : List Int), ss = [.raw (.ref a)] ∧ ScrAt K own a ns ∧ post = fun o => ∃ d n cells, cells ≠ [] ∧ o = .ret (.raw (.ref d)) (drw d n cells 0 ++ own)
theorem fn_law_start (T : Tx K mg c) : Fn K mg P w base "_law_start" ["script"] 1 (pre_law_start K) := T.d_law_start.fn fun f fd F => okG (k := 0) F sc_law_start (by rintro ss own post ⟨a, ns, rfl, _⟩; rfl) (by
  rintro ss own post ⟨a, ns, rfl, hs, rfl⟩ cdv A outer s H E B g
  refine sds_one (sd_retG (eg_lst2 (P := fun v o => ∃ n, v = .ref n ∧ o = (n, .lst ((if ns = [] then [0] else ns).map PyData.int)) :: own) (EL.toEG (el_if (et_cmp (c_neScr g hs) (ev_v 0) (ed_lst (ds := []) ea_nil)) (fun h => EL.is (el_listScr T.n_list (ev_v 0) hs) ?_) fun h => EL.is (el_lst (ds := [.int 0]) (ea_cons ed_int ea_nil)) ?_) fun p => ⟨_, rfl, p, rfl, rfl⟩) fun v o _ => ed_int) ?_)
  · rw [if_neg (by simpa using h)]
  · rw [if_pos (by simpa using h)]
    rfl
  · rintro t o ⟨q, v, o', rfl, rfl, n, rfl, rfl⟩
    exact ⟨q, n, if ns = [] then [0] else ns, by split <;> simp_all, rfl⟩)
end
end Pg

namespace Pg
open PySem PySem.Spec PyProof.Rows L2 Sd
section
variable {P : Program} {w : World} {K : PySem.W.Frag} {mg : Str → Option Value} {base : Heap} {c : Cl}
def cnts (ys ls : List Int) : List Nat := (List.range ys.length).map fun i : Nat => ls.count (i : Int)
def pre_cal_counts (c : Cl) : Pr := fun ss own post => ∃ (x dx py pl : Addr) (ys ls : List Int), ss = [.raw (.ref x)] ∧ own = cal c x dx py pl ys ls ∧ ys.length ≤ 8 ∧ post = fun o => o = .ret (.d (li (nI (cnts ys ls)))) (cal c x dx py pl ys ls)
theorem fn_cal_counts (T : Tx K mg c) : Mth K mg P w base c.Calendar "counts" ["self"] 2 (pre_cal_counts c) := T.m_counts.mth fun f fd F => okG (k := 1) F sc_Calendar_counts (by rintro ss own post ⟨x, dx, py, pl, ys, ls, rfl, _⟩; rfl) (by
  rintro ss own post ⟨x, dx, py, pl, ys, ls, rfl, rfl, hl, rfl⟩ cdv A outer s H E B g
  refine sds_one (sd_retD (EL.ed (EL.is (el_comp g (compO g (it_range1 T.n_range (ed_len (ds := ys.map PyData.int) T.n_len (ev_fld T.o_Calendar.cl T.o_year (x := x) (dx := dx) (fs := [("year", .ref py), ("line", .ref pl)]) (by simp) (ev_v 0) rfl) (Lst.o (by simp))) (by rw [List.length_map]; omega)) [("day", 1)] (blkOk_by (N := ["self", "day"]) (sc := defScope s_Calendar_counts) (by decide +kernel)) (List.range ys.length) (fun i : Nat => PyData.int (i : Int)) ?_ (fun i : Nat => some (.int (ls.count (i : Int) : Nat))) (fun i : Nat => [.raw (.ref x), .d (.int (i : Int))]) [1] (by simp) (by rw [List.length_range]; omega) (fun _ _ => trivial)
      (fun i _ s H C cl fp g' => gt_name 1 g'.nd) (fun i _ s H C cl fp D acc g' => ets_nil) (fun i hi d hd s H C cl fp D acc g' => ?_))) ?_)) rfl)
  · rw [List.length_map]
    simp [rng]
  · cases hd
    exact ES.is (ed_count (k := 0) (ds := ls.map PyData.int) g' (ev_fld T.o_Calendar.cl T.o_line (x := x) (dx := dx) (fs := [("year", .ref py), ("line", .ref pl)]) (by simp) (ev_v 0) rfl) (Lst.o (by simp)) (ed_v 1) (pl_ints _) (by rfl) (dp_int _)) (by rw [cntI])
  · simp [cnts, nI])
end
end Pg

namespace Pg
open PySem PySem.Spec PyProof.Rows L2 Sd
section
variable {P : Program} {w : World} {K : PySem.W.Frag} {mg : Str → Option Value} {base : Heap} {c : Cl}
def pre_cal_days (c : Cl) : Pr := fun ss own post => ∃ (x dx py pl : Addr) (ys ls : List Int), ss = [.raw (.ref x)] ∧ own = cal c x dx py pl ys ls ∧ post = fun o => o = .ret (.d (li ls)) (cal c x dx py pl ys ls)
theorem fn_cal_days (T : Tx K mg c) : Mth K mg P w base c.Calendar "days" ["self"] 1 (pre_cal_days c) := T.m_days.mth fun f fd F => okG (k := 0) F sc_Calendar_days (by rintro ss own post ⟨x, dx, py, pl, ys, ls, rfl, _⟩; rfl) (by
  rintro ss own post ⟨x, dx, py, pl, ys, ls, rfl, rfl, rfl⟩ cdv A outer s H E B g
  refine sds_one (sd_retD (EL.ed (el_list (ds := ls.map PyData.int) T.n_list (ev_fld T.o_Calendar.cl T.o_line (x := x) (dx := dx) (fs := [("year", .ref py), ("line", .ref pl)]) (by simp) (ev_v 0) rfl) (Lst.o (by simp)))) rfl))
end
end Pg

namespace Pg
open PySem PySem.Spec PyProof.Rows L2 Sd
section
variable {P : Program} {w : World} {K : PySem.W.Frag} {mg : Str → Option Value} {base : Heap} {c : Cl}
def pre_cal_len (c : Cl) : Pr := fun ss own post => ∃ (x dx py pl : Addr) (ys ls : List Int), ss = [.raw (.ref x)] ∧ own = cal c x dx py pl ys ls ∧ post = fun o => o = .ret (.d (.int ls.length)) (cal c x dx py pl ys ls)
theorem fn_cal_len (T : Tx K mg c) : Mth K mg P w base c.Calendar "__len__" ["self"] 1 (pre_cal_len c) := T.m_len.mth fun f fd F => okG (k := 0) F sc_Calendar_len (by rintro ss own post ⟨x, dx, py, pl, ys, ls, rfl, _⟩; rfl) (by
  rintro ss own post ⟨x, dx, py, pl, ys, ls, rfl, rfl, rfl⟩ cdv A outer s H E B g
  refine sds_one (sd_retD (ES.is (ed_len (ds := ls.map PyData.int) T.n_len (ev_fld T.o_Calendar.cl T.o_line (x := x) (dx := dx) (fs := [("year", .ref py), ("line", .ref pl)]) (by simp) (ev_v 0) rfl) (Lst.o (by simp))) (by rw [List.length_map])) rfl))
end
end Pg

namespace Pg
open PySem PySem.Spec PyProof.Rows L2 Sd
section
variable {P : Program} {w : World} {K : PySem.W.Frag} {mg : Str → Option Value} {base : Heap} {c : Cl}
def pre_common : Pr := fun ss own post => ∃ a b : Int, ss = [.d (.int a), .d (.int b)] ∧ own = [] ∧ 0 ≤ a ∧ 0 ≤ b ∧ post = fun o => o = .ret (.d (.int (Int.gcd a b : Nat))) []
theorem fn_common (T : Tx K mg c) : Fn K mg P w base "common" ["one", "other"] 1 pre_common := T.d_common.fn fun f fd F => okG (k := 0) F sc_common (by rintro ss own post ⟨a, b, rfl, _⟩; rfl) (by
  rintro ss own post ⟨a, b, rfl, rfl, ha, hb, rfl⟩ cdv A outer s H E B g
  refine sds_cons (sd_while g (fun m ρ own => ∃ x y : Int, 0 ≤ x ∧ 0 ≤ y ∧ ρ = [.d (.int x), .d (.int y)] ∧ own = [] ∧ Int.gcd x y = Int.gcd a b ∧ m = y.toNat) b.toNat ⟨a, b, ha, hb, rfl, rfl, rfl, rfl⟩ ?_)
  rintro m ρ1 own1 ⟨x, y, hx, hy, rfl, rfl, e, rfl⟩
  refine ⟨_, et_cmp c_neI (ed_v 1) ed_int, fun h => ?_, fun h => ?_⟩
  · have h0 : 0 < y := by
      have : y ≠ 0 := fun z => by subst z; simp at h
      omega
    refine sds_one (sd_par 0 1 g (ea_cons (ed_v 1) (ea_cons (ed_mod (ed_v 0) (ed_v 1) h0) ea_nil)) ?_)
    have h1 := Int.emod_nonneg x (Int.ne_of_gt h0)
    have h2 := Int.emod_lt_of_pos x h0
    exact ⟨(x % y).toNat, by omega, y, x % y, hy, h1, rfl, rfl, (gcd_step x y hx h0).trans e, rfl⟩
  · have h0 : y = 0 := by simpa using h
    subst h0
    refine sds_one (sd_retD (ed_v 0) ?_)
    show Out.ret (.d (.int x)) [] = Out.ret (.d (.int (Int.gcd a b : Nat))) []
    rw [← e, Int.gcd_zero_right, Int.natAbs_of_nonneg hx])
end
end Pg

namespace Pg
open PySem PySem.Spec PyProof.Rows L2 Sd
section
variable {P : Program} {w : World} {K : PySem.W.Frag} {mg : Str → Option Value} {base : Heap} {c : Cl}
def pre_lowest : Pr := fun ss own post => ∃ a b : Int, ss = [.d (.int a), .d (.int b)] ∧ own = [] ∧ 0 < b ∧ Sz 8999 b ∧ post = fun o => o = .ret (.d (fr ((a : Rat) / b))) []
theorem fn_lowest (T : Tx K mg c) : Fn K mg P w base "lowest" ["top", "below"] 2 pre_lowest := T.d_lowest.fn fun f fd F => okG (k := 1) F sc_lowest (by rintro ss own post ⟨a, b, rfl, _⟩; rfl) (by
  rintro ss own post ⟨a, b, rfl, rfl, hb, hz, rfl⟩ cdv A outer s H E B g
  have eg : Int.gcd (if a < 0 then -a else a) b = Int.gcd a b := by
    split
    · rw [Int.gcd_comm, Int.gcd_neg, Int.gcd_comm]
    · rfl
  refine sds_cons (sd_set 2 g.nd (es_call (fn_common T) g (by decide) (ea_cons (ed_abs T.n_abs (ed_v 0)) (ea_cons (ed_v 1) ea_nil)) ⟨_, _, rfl, rfl, by split <;> omega, by omega, rfl⟩) ?_)
  rw [eg]
  have g0 : (0 : Int) < (Int.gcd a b : Nat) := by
    have := Int.gcd_pos_of_ne_zero_right a (show b ≠ 0 by omega)
    omega
  have gz : Sz 8999 (Int.gcd a b : Nat) := by
    have := Int.gcd_le_natAbs_right (a := a) (show b ≠ 0 by omega)
    unfold Sz at *
    rw [Int.natAbs_natCast]
    omega
  refine sds_one (sd_retD (ed_tup (ds := [_, _]) (ea_cons (ed_fdiv (ed_v 0) (ed_v 2) (cdiv_of g0 gz (by decide))) (ea_cons (ed_fdiv (ed_v 1) (ed_v 2) (cdiv_of g0 gz (by decide))) ea_nil))) ?_)
  show Out.ret (.d (.tuple [.int (a / (Int.gcd a b : Nat)), .int (b / (Int.gcd a b : Nat))])) [] = _
  rw [fr_low a b hb])
end
end Pg

namespace Pg
open PySem PySem.Spec PyProof.Rows L2 Sd
section
variable {P : Program} {w : World} {K : PySem.W.Frag} {mg : Str → Option Value} {base : Heap} {c : Cl}
def nxS (ys ls : List Int) : Int := ((srtU ls).map fun d => ys.getD d.toNat 0).sum
def pre_cal_next_same (c : Cl) : Pr := fun ss own post => ∃ (x dx py pl : Addr) (ys ls : List Int), ss = [.raw (.ref x)] ∧ own = cal c x dx py pl ys ls ∧ Yr ys ∧ ls.length ≤ 12 ∧ (∀ d ∈ ls, 0 ≤ d ∧ d < (ys.length : Int)) ∧ post = fun o => o = .ret (.d (fr ((nxS ys ls : Rat) / ys.sum))) (cal c x dx py pl ys ls)
theorem srtU_len : ∀ l : List Int, (srtU l).length ≤ l.length
  | [] => Nat.le_refl _
  | x :: l => by
    have h1 : ∀ (x : Int) (l : List Int), (insU x l).length ≤ l.length + 1 := fun x l => by
      induction l with
      | nil => simp [insU]
      | cons y ys ih =>
        unfold insU
        split
        · simp
        · split
          · simp
          · simp only [List.length_cons]; omega
    have h2 := srtU_len l
    have h3 := h1 x (srtU l)
    rw [srtU, List.length_cons]
    omega
theorem fn_cal_next_same (T : Tx K mg c) : Mth K mg P w base c.Calendar "next_same" ["self"] 4 (pre_cal_next_same c) := T.m_next_same.mth fun f fd F => okG (k := 3) F sc_Calendar_next_same (by rintro ss own post ⟨x, dx, py, pl, ys, ls, rfl, _⟩; rfl) (by
  rintro ss own post ⟨x, dx, py, pl, ys, ls, rfl, rfl, hY, hl2, hd, rfl⟩ cdv A outer s H E B g
  have hsl := srtU_len ls
  refine sds_cons (sd_set 1 g.nd (EL.ed (el_sortedSet (ns := ls) g T.n_sorted T.n_set (ev_fld T.o_Calendar.cl T.o_line (x := x) (dx := dx) (fs := [("year", .ref py), ("line", .ref pl)]) (by simp) (ev_v 0) rfl) (Lst.o (by simp)) (by omega))) ?_)
  refine sds_one (sd_retD (ES.is (es_call (fn_lowest T) g (by decide) (ea_cons (ed_sum (ns := (srtU ls).map fun d => ys.getD d.toNat 0) g T.n_sum (EL.ed (EL.is (el_comp g (compO g (it_list (ed_v 1)) [("day", 2)] (blkOk_by (N := ["self", "used", "day"]) (sc := defScope s_Calendar_next_same) (by decide +kernel)) (srtU ls) PyData.int rfl (fun d => some (.int (ys.getD d.toNat 0))) (fun d => [.raw (.ref x), .d (li (srtU ls)), .d (.int d)]) [2] (by simp) (by omega) (fun _ _ => trivial)
      (fun i _ s H C cl fp g' => gt_name 2 g'.nd) (fun i _ s H C cl fp D acc g' => ets_nil) (fun d hm z hz s H C cl fp D acc g' => ?_))) ?_)) .d) (ea_cons (ed_sum (ns := ys) g T.n_sum (ev_fld T.o_Calendar.cl T.o_year (x := x) (dx := dx) (fs := [("year", .ref py), ("line", .ref pl)]) (by simp) (ev_v 0) rfl) (Lst.o (by simp))) ea_nil)) ⟨_, _, rfl, rfl, by have := hY.sum_lo; omega, hY.szW.mono (by decide), rfl⟩) ?_) rfl)
  · cases hz
    obtain ⟨h0, h1⟩ := hd d ((srtU_mem d ls).mp hm)
    have hlt : d.toNat < ys.length := by omega
    refine ed_ixL (ds := ys.map PyData.int) (ev_fld T.o_Calendar.cl T.o_year (x := x) (dx := dx) (fs := [("year", .ref py), ("line", .ref pl)]) (by simp) (ev_v 0) rfl) (ed_v 2) (Lst.o (by simp)) ?_
    have e : d = ((d.toNat : Nat) : Int) := by omega
    rw [e]
    refine atI_nat ?_
    rw [List.getElem?_map, List.getD_eq_getElem?_getD, Int.toNat_natCast, List.getElem?_eq_getElem hlt]
    rfl
  · rw [List.map_map]
    exact List.filterMap_eq_map' .. |>.symm ▸ rfl
  · unfold nxS
    rfl)
end
end Pg

namespace Pg
open PySem PySem.Spec PyProof.Rows L2 Sd
section
variable {P : Program} {w : World} {K : PySem.W.Frag} {mg : Str → Option Value} {base : Heap} {c : Cl}
def prs (cs : List Nat) : Int := (cs.map fun (n : Nat) => (n : Int) * ((n : Int) - 1) / 2).sum
def pre_cal_pairs (c : Cl) : Pr := fun ss own post => ∃ (x dx py pl : Addr) (ys ls : List Int), ss = [.raw (.ref x)] ∧ own = cal c x dx py pl ys ls ∧ ys.length ≤ 8 ∧ ls.length ≤ 12 ∧ post = fun o => o = .ret (.d (.int (prs (cnts ys ls)))) (cal c x dx py pl ys ls)
theorem fn_cal_pairs (T : Tx K mg c) : Mth K mg P w base c.Calendar "pairs" ["self"] 3 (pre_cal_pairs c) := T.m_pairs.mth fun f fd F => okG (k := 2) F sc_Calendar_pairs (by rintro ss own post ⟨x, dx, py, pl, ys, ls, rfl, _⟩; rfl) (by
  rintro ss own post ⟨x, dx, py, pl, ys, ls, rfl, rfl, hl, hl2, rfl⟩ cdv A outer s H E B g
  have hle : ∀ n ∈ cnts ys ls, (n : Int) ≤ 12 := fun n hn => by
    obtain ⟨i, _, rfl⟩ := List.mem_map.mp hn
    have := List.count_le_length (a := (i : Int)) (l := ls)
    omega
  have hcl : (cnts ys ls).length = ys.length := by simp [cnts]
  refine sds_one (sd_retD (ES.is (ed_sum (ns := (cnts ys ls).map fun (n : Nat) => (n : Int) * ((n : Int) - 1) / 2) g T.n_sum (EL.ed (EL.is (el_comp g (compP g (it_list (EG.toES (eg_meth0 (oa := []) (o1 := cal c x dx py pl ys ls) (ob := []) (R := fun s o => s = .d (li (nI (cnts ys ls))) ∧ o = cal c x dx py pl ys ls) (fn_cal_counts T) T.o_Calendar.cl g (by decide) (x := x) (dx := dx) (fs := [("year", .ref py), ("line", .ref pl)]) (ev_v 0) (by simp) rfl ⟨x, dx, py, pl, ys, ls, rfl, rfl, hl, rfl⟩ (fun s o h => by cases h; exact ⟨rfl, by simp⟩) (fun C o h => nomatch h)))) [("own", 1)] (blkOk_by (N := ["self", "own"]) (sc := defScope s_Calendar_pairs) (by decide +kernel)) (cnts ys ls) (fun n : Nat => PyData.int (n : Int)) (by simp [nI]) (fun n : Nat => some (.int ((n : Int) * ((n : Int) - 1) / 2))) (fun n : Nat => [.raw (.ref x), .d (.int (n : Int))]) [1] (by simp) (by omega) (fun _ _ => trivial)
      (fun i _ s H C cl fp g' => gt_name 1 g'.nd) (fun i _ s H C cl fp o g' => ets_nil) (fun n hn z hz s H C cl fp o g' => ?_))) ?_)) .d) ?_) rfl)
  · cases hz
    have := hle n hn
    exact ed_fdivS (ed_mulS (ed_v 1) (ed_sub (ed_v 1) ed_int) (.inl ⟨by omega, by omega⟩)) ed_int ⟨by decide, by decide⟩
  · rw [List.map_map]
    exact List.filterMap_eq_map' .. |>.symm ▸ rfl
  · rfl)
end
end Pg

namespace Pg
open PySem PySem.Spec PyProof.Rows L2 Sd
section
variable {P : Program} {w : World} {K : PySem.W.Frag} {mg : Str → Option Value} {base : Heap} {c : Cl}
def pre_law_pick : Pr := fun ss own post => ∃ (d n : Addr) (cells : List Int) (cnt : Int) (ds : List PyData), ss = [.raw (.ref d), .d (.list ds)] ∧ own = drw d n cells cnt ∧ cells ≠ [] ∧ ds ≠ [] ∧ ds.length ≤ 1000000 ∧
  post = fun o => ∃ x cells' cnt', x ∈ ds ∧ cells' ≠ [] ∧ o = .ret (.d x) (drw d n cells' cnt')
theorem fn_law_pick (T : Tx K mg c) : Fn K mg P w base "_law_pick" ["draws", "choices"] 2 pre_law_pick := T.d_law_pick.fn fun f fd F => okG (k := 1) F sc_law_pick (by rintro ss own post ⟨d, n, cells, cnt, ds, rfl, _⟩; rfl) (by
  rintro ss own post ⟨d, n, cells, cnt, ds, rfl, rfl, hc, hd, hl, rfl⟩ cdv A outer s H E B g
  have hpos : 0 < ds.length := List.length_pos_iff.mpr hd
  refine sds_one (sd_retG (eg_ixL (P := fun i o => ∃ cells' cnt', 0 ≤ i ∧ i < (ds.length : Int) ∧ cells' ≠ [] ∧ o = drw d n cells' cnt') (R := fun t o => ∃ x cells' cnt', x ∈ ds ∧ cells' ≠ [] ∧ t = .d x ∧ o = drw d n cells' cnt') (ed_v 1) (eg_call (oa := []) (o1 := drw d n cells cnt) (ob := []) (fn_law_draw T) g (by decide) (ea_cons (ev_v 0) (ea_cons (ed_len T.n_len (ed_v 1) .d) ea_nil)) ⟨d, n, cells, cnt, _, rfl, rfl, hc, by omega, by omega, rfl⟩ ?_ ?_) ?_) ?_)
  · rintro t o1 ⟨r, cells', cnt', h0, h1, h2, e⟩
    cases e
    exact ⟨r, rfl, cells', cnt', h0, h1, h2, by simp⟩
  · rintro C o1 ⟨r, cells', cnt', h0, h1, h2, e⟩
    cases e
  · rintro i o ⟨cells', cnt', h0, h1, h2, rfl⟩
    obtain ⟨j, rfl⟩ : ∃ j : Nat, i = (j : Int) := ⟨i.toNat, by omega⟩
    have hj : j < ds.length := by omega
    exact ⟨ds[j], atI_nat (List.getElem?_eq_getElem hj), ds[j], cells', cnt', List.getElem_mem hj, h2, rfl, rfl⟩
  · rintro t o ⟨x, cells', cnt', h1, h2, rfl, rfl⟩
    exact ⟨x, cells', cnt', h1, h2, rfl⟩)
end
end Pg

namespace Pg
open PySem PySem.Spec PyProof.Rows L2 Sd
section
variable {P : Program} {w : World} {K : PySem.W.Frag} {mg : Str → Option Value} {base : Heap} {c : Cl}
/-- a draw, a pick: in words of what is owned -/
theorem eg_draw {Z : Sd.Ctx} {k : Nat} {ρ : List Slot} {oa ob : Own} {e1 e2 : Expr} {p pos : Pos} {d n : Addr} {cells : List Int} {cnt limit : Int} (F : Fn Z.X.K Z.X.mg Z.X.prog Z.X.w Z.X.base "_law_draw" ["draws", "limit"] 1 pre_law_draw) (g : Gd Z k) (hk : 1 ≤ k) (hc : cells ≠ []) (ha : EA Z [e1, e2] ρ (oa ++ drw d n cells cnt ++ ob) [.raw (.ref d), .d (.int limit)]) (hl : 0 < limit) (hl2 : limit < 1073741824)
    (hg : Gl Z.X "_law_draw" := by rfl) (he : starEach [e1, e2] Z.X.env = (false, eval e1 Z.X.env) :: starEach [e2] Z.X.env := by rfl) (hpl : (backTo pos (starEach [e2] Z.X.env)).any (·.1) = false := by rfl) :
    EG Z (.Call (.Name "_law_draw" p) [e1, e2] [] pos) ρ (oa ++ drw d n cells cnt ++ ob) (fun t o => ∃ (r : Nat) (cells' : List Int) (cnt' : Int), (r : Int) < limit ∧ cells' ≠ [] ∧ t = .d (.int (r : Int)) ∧ o = oa ++ drw d n cells' cnt' ++ ob) :=
  eg_call F g hk ha ⟨d, n, cells, cnt, limit, rfl, rfl, hc, hl, hl2, rfl⟩ (by
    rintro t o1 ⟨r, cells', cnt', h0, h1, h2, e⟩
    cases e
    exact ⟨r.toNat, cells', cnt', by omega, h2, by rw [Int.toNat_of_nonneg h0], rfl⟩) (by
    rintro C o1 ⟨r, cells', cnt', h0, h1, h2, e⟩
    cases e) hg (by decide) he hpl
end
end Pg

namespace Pg
open PySem PySem.Spec PyProof.Rows L2 Sd
section
variable {P : Program} {w : World} {K : PySem.W.Frag} {mg : Str → Option Value} {base : Heap} {c : Cl}
def pre_check_counts : Pr := fun ss own post => ∃ (ys : List Int) (cs : List Nat), ss = [.d (li ys), .d (li (nI cs))] ∧ own = [] ∧ Ct ys cs ∧ ys.length ≤ 8 ∧ post = fun o => o = .ret (.d .none) []
theorem fn_check_counts (T : Tx K mg c) : Fn K mg P w base "check_counts" ["year", "value"] 2 pre_check_counts := T.d_check_counts.fn fun f fd F => okG (k := 1) F sc_check_counts (by rintro ss own post ⟨ys, cs, rfl, _⟩; rfl) (by
  rintro ss own post ⟨ys, cs, rfl, rfl, hC, hl, rfl⟩ cdv A outer s H E B g
  have hlen : (nI cs).length = cs.length := by simp [nI]
  have hcl := hC.len
  refine sds_cons (sd_if (l := false) (ET.is (EW.et (ew_or (et_not (et_val (ed_isi (x := li (nI cs)) (l := true) T.n_isinstance (ed_v 1) .d (ev_ty (T := "list") rfl T.n_list (by decide +kernel)) rfl))) fun _ => ew_or (et_cmp c_neI (ed_len T.n_len (ed_v 1) .d) (ed_len T.n_len (ed_v 0) .d)) fun _ => ew_or1 (et_not (et_val (ed_all (ns := (nI cs).map fun _ => true) g T.n_all (EL.ed (EL.is (el_comp g (compP g (it_list (ed_v 1)) [("one", 2)] (blkOk_by (N := ["year", "value", "one"]) (sc := defScope s_check_counts) (by decide +kernel)) (nI cs) PyData.int rfl (fun n => some (.bool true)) (fun n => [.d (li ys), .d (li (nI cs)), .d (.int n)]) [2] (by simp) (by omega) (fun _ _ => trivial)
        (fun d _ s H C cl fp g' => gt_name 2 g'.nd) (fun d _ s H C cl fp o g' => ets_nil) (fun n hn x hx s H C cl fp o g' => ?_))) ?_)) .d))))) ?_) (fun h => nomatch h) fun _ => sds_nil ?_)
  · cases hx
    refine ES.is (es_call (fn_is_int T) g' (by decide) (ea_cons (ed_v 2) (ea_cons ed_int (ea_cons ed_int ea_nil))) ⟨_, _, _, rfl, rfl, rfl⟩) ?_
    obtain ⟨k, hk, rfl⟩ := List.mem_map.mp hn
    have := nat_mem_sum hk
    have h12 := hC.sum
    have : ((k : Int) ≤ 12) := by omega
    simp [Sd.isInt, this]
  · rw [List.map_map]
    exact List.filterMap_eq_map' .. |>.symm ▸ rfl
  · rw [List.length_map, List.length_map, hlen, hcl]
    simp
  refine sds_one (sd_if (l := false) (ET.is (et_cmp c_gt (ed_sum (ns := nI cs) g T.n_sum (ed_v 1) .d) ed_int) ?_) (fun h => nomatch h) fun _ => sds_nil rfl)
  rw [nI_sum]
  have := hC.sum
  exact decide_eq_false (by omega))
end
end Pg

namespace Pg
open PySem PySem.Spec PyProof.Rows L2 Sd
section
variable {P : Program} {w : World} {K : PySem.W.Frag} {mg : Str → Option Value} {base : Heap} {c : Cl}
def usedW (ys : List Int) (cs : List Nat) : Int := ((ys.zip cs).map fun p => if 0 < p.2 then p.1 else 0).sum
def pre_next_on_used : Pr := fun ss own post => ∃ (ys : List Int) (cs : List Nat), ss = [.d (li ys), .d (li (nI cs))] ∧ own = [] ∧ Yr ys ∧ Ct ys cs ∧ post = fun o => o = .ret (.d (fr ((usedW ys cs : Rat) / ys.sum))) []
theorem usedW_eq (ys : List Int) (cs : List Nat) : (((ys.zip (nI cs)).filterMap fun p => if 0 < p.2 then some p.1 else none)).sum = usedW ys cs := by
  unfold usedW nI
  rw [List.zip_map_right]
  generalize ys.zip cs = l
  induction l with
  | nil => rfl
  | cons q l ih =>
    obtain ⟨a, b⟩ := q
    rw [List.map_cons, List.map_cons, List.sum_cons, List.filterMap_cons]
    by_cases h : 0 < b
    · simp only [Prod.map, id, if_pos h, if_pos (show (0 : Int) < (b : Int) by omega)]
      rw [List.sum_cons, ih]
    · simp only [Prod.map, id, if_neg h, if_neg (show ¬ (0 : Int) < (b : Int) by omega)]
      rw [ih]
      omega
theorem fn_next_on_used (T : Tx K mg c) : Fn K mg P w base "next_on_used" ["year", "counts"] 4 pre_next_on_used := T.d_next_on_used.fn fun f fd F => okG (k := 3) F sc_next_on_used (by rintro ss own post ⟨ys, cs, rfl, _⟩; rfl) (by
  rintro ss own post ⟨ys, cs, rfl, rfl, hY, hC, rfl⟩ cdv A outer s H E B g
  have hl := hY.hi
  refine sds_cons (sd_expr (es_call (fn_check_year T) g (by decide) (ea_cons (ed_v 0) ea_nil) (ok_year hY)) ?_)
  refine sds_cons (sd_expr (es_call (fn_check_counts T) g (by decide) (ea_cons (ed_v 0) (ea_cons (ed_v 1) ea_nil)) ⟨ys, cs, rfl, rfl, hC, hY.hi, rfl⟩) ?_)
  refine sds_one (sd_retD (es_call (fn_lowest T) g (by decide) (ea_cons (ed_sum (ns := (ys.zip (nI cs)).filterMap fun p => if 0 < p.2 then some p.1 else none) g T.n_sum (EL.ed (EL.is (el_comp g (compP g (it_zip T.n_zip (ed_v 0) (ed_v 1)) [("weight", 2), ("own", 3)] (blkOk_by (N := ["year", "counts", "weight", "own"]) (sc := defScope s_next_on_used) (by decide +kernel)) (ys.zip (nI cs)) (fun p => PyData.tuple [.int p.1, .int p.2]) (zipD_ints _ _) (fun p => if 0 < p.2 then some (.int p.1) else none) (fun p => [.d (li ys), .d (li (nI cs)), .d (.int p.1), .d (.int p.2)]) [2, 3] (by simp) (by rw [List.length_zip]; omega) (fun _ _ => trivial)
        (fun p _ s H C cl fp g' => gt_tup g'.calm (gts_cons (gt_name 2 g'.nd) (gts_cons (gt_name 3 g'.nd) gts_nil)) rfl) (fun p hk s H C cl fp o g' => ets_one (ET.is (et_cmp c_gt (ed_v 3) ed_int) ?_)) (fun p hk x hx s H C cl fp o g' => ?_))) ?_)) .d) (ea_cons (ed_sum g T.n_sum (ed_v 0) .d) ea_nil)) ⟨_, _, rfl, rfl, by have := hY.sum_lo; omega, hY.szW.mono (by decide), rfl⟩) ?_)
  · by_cases h : 0 < p.2
    · rw [if_pos h, decide_eq_true h]; rfl
    · rw [if_neg h, decide_eq_false h]; rfl
  · by_cases h : 0 < p.2
    · rw [if_pos h] at hx
      cases hx
      exact ed_v 2
    · rw [if_neg h] at hx
      cases hx
  · rw [List.map_filterMap]
    refine fm_congr fun q _ => ?_
    by_cases h : 0 < q.2 <;> simp [h]
  · rw [usedW_eq])
end
end Pg

namespace Pg
open PySem PySem.Spec PyProof.Rows L2 Sd
section
variable {P : Program} {w : World} {K : PySem.W.Frag} {mg : Str → Option Value} {base : Heap} {c : Cl}
theorem sum_step (g : Nat → Int) (l : List Int) (n : Nat) : ∀ m : Nat, ((List.range m).map fun i : Nat => g ((l ++ [(n : Int)]).count (i : Int))).sum = ((List.range m).map fun i : Nat => g (l.count (i : Int))).sum + (if n < m then g (l.count (n : Int) + 1) - g (l.count (n : Int)) else 0)
  | 0 => by simp
  | m + 1 => by
    rw [List.range_succ, List.map_append, List.map_append, List.sum_append, List.sum_append, sum_step g l n m]
    simp only [List.map_cons, List.map_nil, List.sum_cons, List.sum_nil, Int.add_zero]
    have ec : (l ++ [(n : Int)]).count (m : Int) = l.count (m : Int) + (if n = m then 1 else 0) := by
      rw [List.count_append, List.count_singleton]
      by_cases h : n = m
      · subst h; simp
      · have : ¬ (n : Int) = (m : Int) := by omega
        simp [h, this]
    rw [ec]
    by_cases h1 : n < m
    · have h2 : ¬ n = m := by omega
      have h3 : n < m + 1 := by omega
      simp only [h1, h2, h3, if_true, if_false, Nat.add_zero]
      omega
    · by_cases h2 : n = m
      · subst h2
        have h3 : n < n + 1 := by omega
        simp only [h1, h3, if_true, if_false]
        omega
      · have h3 : ¬ n < m + 1 := by omega
        simp only [h1, h2, h3, if_false, Nat.add_zero]
        omega
theorem rng_zero (m : Nat) : ((List.range m).map fun j : Nat => (0 : Int)).sum = 0 := by
  induction m with
  | zero => rfl
  | succ m ih => rw [List.range_succ, List.map_append, List.sum_append, ih]; rfl
theorem half_step (c : Nat) : ((c + 1 : Nat) : Int) * (((c + 1 : Nat) : Int) - 1) / 2 - (c : Int) * ((c : Int) - 1) / 2 = c := by
  have e : ((c + 1 : Nat) : Int) * (((c + 1 : Nat) : Int) - 1) = (c : Int) * ((c : Int) - 1) + (c : Int) * 2 := by
    push_cast
    rw [show ((c : Int) + 1 - 1) = c by omega, Int.add_mul, Int.mul_sub]
    omega
  rw [e, Int.add_mul_ediv_right _ _ (by decide)]
  omega
def pf (ls : List Int) (i : Nat) : Int := ((List.range i).map fun k : Nat => ((ls.take k).count (ls.getD k 0) : Int)).sum
theorem pf_succ (ls : List Int) (i : Nat) : pf ls (i + 1) = pf ls i + ((ls.take i).count (ls.getD i 0) : Int) := by
  unfold pf
  rw [List.range_succ, List.map_append, List.sum_append]
  simp
theorem prs_cnts (ys ls : List Int) : prs (cnts ys ls) = ((List.range ys.length).map fun i : Nat => (fun c : Nat => (c : Int) * ((c : Int) - 1) / 2) (ls.count (i : Int))).sum := by
  unfold prs cnts
  rw [List.map_map]
  rfl
theorem pf_prs {ys ls : List Int} (hd : ∀ d ∈ ls, 0 ≤ d ∧ d < (ys.length : Int)) : ∀ i, i ≤ ls.length → pf ls i = prs (cnts ys (ls.take i))
  | 0, _ => by
    rw [prs_cnts]
    have := rng_zero ys.length
    simpa [pf] using this.symm
  | i + 1, hi => by
    have hlt : i < ls.length := by omega
    obtain ⟨h0, h1⟩ := hd ls[i] (List.getElem_mem _)
    have e : ls.take (i + 1) = ls.take i ++ [((ls[i].toNat : Nat) : Int)] := by
      rw [List.take_add_one, List.getElem?_eq_getElem hlt, Int.toNat_of_nonneg h0]
      rfl
    have eg : ls.getD i 0 = ((ls[i].toNat : Nat) : Int) := by
      rw [List.getD_eq_getElem?_getD, List.getElem?_eq_getElem hlt, Int.toNat_of_nonneg h0]
      rfl
    have st := sum_step (fun c : Nat => (c : Int) * ((c : Int) - 1) / 2) (ls.take i) ls[i].toNat ys.length
    rw [if_pos (by omega)] at st
    have hs := half_step ((ls.take i).count ((ls[i].toNat : Nat) : Int))
    rw [pf_succ, pf_prs hd i (by omega), prs_cnts, prs_cnts, e, eg]
    refine Eq.trans ?_ st.symm
    simp only [] at hs ⊢
    omega
theorem pf_all {ys ls : List Int} (hd : ∀ d ∈ ls, 0 ≤ d ∧ d < (ys.length : Int)) : pf ls ls.length = prs (cnts ys ls) := by
  have := pf_prs hd ls.length (Nat.le_refl _)
  rw [List.take_length] at this
  exact this
theorem cnts_sumI {ys ls : List Int} (hd : ∀ d ∈ ls, 0 ≤ d ∧ d < (ys.length : Int)) : ∀ i, i ≤ ls.length → ((List.range ys.length).map fun j : Nat => (fun c : Nat => (c : Int)) ((ls.take i).count (j : Int))).sum = i
  | 0, _ => by
    simpa using rng_zero ys.length
  | i + 1, hi => by
    have hlt : i < ls.length := by omega
    obtain ⟨h0, h1⟩ := hd ls[i] (List.getElem_mem _)
    have e : ls.take (i + 1) = ls.take i ++ [((ls[i].toNat : Nat) : Int)] := by
      rw [List.take_add_one, List.getElem?_eq_getElem hlt, Int.toNat_of_nonneg h0]
      rfl
    have st := sum_step (fun c : Nat => (c : Int)) (ls.take i) ls[i].toNat ys.length
    rw [if_pos (by omega), cnts_sumI hd i (by omega)] at st
    rw [e]
    refine st.trans ?_
    push_cast
    omega
theorem cnts_sum {ys ls : List Int} (hd : ∀ d ∈ ls, 0 ≤ d ∧ d < (ys.length : Int)) : (cnts ys ls).sum = ls.length := by
  have h := cnts_sumI hd ls.length (Nat.le_refl _)
  rw [List.take_length] at h
  have e : ((cnts ys ls).sum : Int) = ((List.range ys.length).map fun j : Nat => (fun c : Nat => (c : Int)) (ls.count (j : Int))).sum := by
    unfold cnts
    generalize List.range ys.length = r
    induction r with
    | nil => rfl
    | cons a r ih => simp only [List.map_cons, List.sum_cons]; push_cast; rw [ih]
  rw [h] at e
  exact_mod_cast e
theorem srtU_rng {ys ls : List Int} (hd : ∀ d ∈ ls, 0 ≤ d ∧ d < (ys.length : Int)) : srtU ls = ((List.range ys.length).filter fun i : Nat => decide (0 < ls.count (i : Int))).map fun i : Nat => (i : Int) := by
  refine pw_ext (srtU_pw ls) ?_ fun k => ?_
  · rw [List.pairwise_map]
    refine List.Pairwise.imp (fun {a b} h => ?_) (List.Pairwise.filter _ List.pairwise_lt_range)
    omega
  · rw [srtU_mem, List.mem_map]
    constructor
    · intro hk
      obtain ⟨h0, h1⟩ := hd k hk
      refine ⟨k.toNat, ?_, Int.toNat_of_nonneg h0⟩
      rw [List.mem_filter, List.mem_range, Int.toNat_of_nonneg h0, decide_eq_true_eq]
      exact ⟨by omega, List.count_pos_iff.mpr hk⟩
    · rintro ⟨i, hi, rfl⟩
      rw [List.mem_filter, decide_eq_true_eq] at hi
      exact List.count_pos_iff.mp hi.2
theorem zip_rng (ys : List Int) (f : Nat → Nat) : ys.zip ((List.range ys.length).map f) = (List.range ys.length).map fun i => (ys.getD i 0, f i) := by
  refine List.ext_getElem (by simp) fun i h1 h2 => ?_
  have : i < ys.length := by simpa using h2
  simp [List.getD_eq_getElem?_getD, List.getElem?_eq_getElem this]
theorem nxS_used {ys ls : List Int} (hd : ∀ d ∈ ls, 0 ≤ d ∧ d < (ys.length : Int)) : nxS ys ls = usedW ys (cnts ys ls) := by
  unfold nxS usedW cnts
  rw [srtU_rng hd, zip_rng, List.map_map, List.map_map]
  generalize List.range ys.length = r
  induction r with
  | nil => rfl
  | cons a r ih =>
    rw [List.filter_cons]
    by_cases h : 0 < ls.count (a : Int)
    · rw [if_pos (by simpa using h)]
      rw [List.map_cons, List.sum_cons, ih, List.map_cons, List.sum_cons]
      simp only [Function.comp, if_pos h, Int.toNat_natCast]
    · rw [if_neg (by simpa using h)]
      rw [ih, List.map_cons, List.sum_cons]
      simp only [Function.comp, if_neg h]
      omega
end
end Pg

namespace Pg
open PySem PySem.Spec PyProof.Rows L2 Sd
section
variable {P : Program} {w : World} {K : PySem.W.Frag} {mg : Str → Option Value} {base : Heap} {c : Cl}
def forB : Stmt → List Stmt
  | .For _ _ b _ _ => b
  | _ => []
def lN : List Str := ["script", "draws", "year", "size", "shown", "line", "turn", "day", "told", "counts", "pairs", "k", "j"]
def lawB : List Stmt := forB ((defBody s_law).getD 4 s_law)
theorem fm_len (ls : List Int) (a : Int) : ∀ k, k ≤ ls.length → ((List.range k).filterMap fun j : Nat => if a = ls.getD j 0 then some (PyData.int (j : Int)) else none).length = (ls.take k).count a
  | 0, _ => rfl
  | k + 1, hk => by
    have hlt : k < ls.length := by omega
    rw [List.range_succ, List.filterMap_append, List.length_append, fm_len ls a k (by omega), List.take_add_one, List.count_append, List.getElem?_eq_getElem hlt]
    have e : ls.getD k 0 = ls[k] := by rw [List.getD_eq_getElem?_getD, List.getElem?_eq_getElem hlt]; rfl
    congr 1
    rw [List.filterMap_cons, e]
    by_cases h : a = ls[k]
    · simp [h]
    · have h' : ¬ ls[k] = a := fun z => h z.symm
      simp [h, h']
theorem law_t (T : Tx K mg c) {f : Addr} {cdv : Value} {A : Around} {outer : List Env} {s : Shared} {H : Hp} {E : XK} {B : Bs} {ex : Addr → List Slot → Own → Prop} (g : Gd (ctxOf P w K mg base lN "law" s_law f cdv A outer s H E B ex) 5) {D : DE}
    {ys ls : List Int} (hY : Yr ys) (hl : ls.length ≤ 12) (hd : ∀ d ∈ ls, 0 ≤ d ∧ d < (ys.length : Int)) {d x dx py pl : Addr} {s0 s6 s7 s8 s9 s10 s11 s12 : Slot} {own0 : Own}
    (hn : ∀ t9 t10 t11 t12, D.nx [s0, .raw (.ref d), .d (li ys), .d (.int (ys.length : Int)), .raw (.ref x), .d (li ls), s6, s7, s8, t9, t10, t11, t12] (cal c x dx py pl ys ls ++ own0)) :
    SDs (ctxOf P w K mg base lN "law" s_law f cdv A outer s H E B ex) (lawB.drop 1) D [s0, .raw (.ref d), .d (li ys), .d (.int (ys.length : Int)), .raw (.ref x), .d (li ls), s6, s7, s8, s9, s10, s11, s12] (cal c x dx py pl ys ls ++ own0) := by
  have hyl := hY.hi
  have ecn : nI (cnts ys ls) = (List.range ys.length).map fun i : Nat => ((ls.count (i : Int) : Nat) : Int) := by simp [nI, cnts]
  refine sds_cons (sd_setC 9 g (compP g (it_range1 T.n_range (ed_v 3) (by omega)) [("day", 7)] (blkOk_by (N := lN) (sc := defScope s_law) (by decide +kernel)) (List.range ys.length) (fun i : Nat => PyData.int (i : Int)) (by simp [rng]) (fun i : Nat => some (.int (ls.count (i : Int) : Nat))) (fun i : Nat => [s0, .raw (.ref d), .d (li ys), .d (.int (ys.length : Int)), .raw (.ref x), .d (li ls), s6, .d (.int (i : Int)), s8, s9, s10, s11, s12]) [7] (by simp) (by rw [List.length_range]; omega) (fun _ _ => trivial)
      (fun i _ s H C cl fp g' => gt_name 7 g'.nd) (fun i _ s H C cl fp o g' => ets_nil) (fun i hi z hz s H C cl fp o g' => ?_)) ?_ rfl)
  · cases hz
    exact ES.is (ed_count (k := 4) (ds := ls.map PyData.int) g' (ed_v 5) .d (ed_v 7) (pl_ints _) (by rfl) (dp_int _)) (by rw [cntI])
  rintro p ds o ⟨e, rfl⟩
  have e2 : ds = (nI (cnts ys ls)).map PyData.int := by
    rw [e, ecn]
    simp
  subst e2
  refine sds_freeze 9 (oa := []) rfl ?_
  refine sds_cons (sd_ifF (ET.is (EW.et (ew_or (et_cmp (c_ne g (.d (x := li ls)) (.d (x := li ls)) (sh_ints _) (sh_ints _)) (EG.toES (eg_meth0 (oa := []) (o1 := cal c x dx py pl ys ls) (ob := own0) (fn_cal_days T) T.o_Calendar.cl g (by decide) (x := x) (dx := dx) (fs := [("year", .ref py), ("line", .ref pl)]) (ev_v 4) (by simp) rfl ⟨x, dx, py, pl, ys, ls, rfl, rfl, rfl⟩ (fun s o h => by cases h; exact ⟨rfl, rfl⟩) (fun C o h => nomatch h))) (ed_v 5)) fun _ =>
    ew_or (et_cmp (c_ne g (.d (x := li (nI (cnts ys ls)))) (.d (x := li (nI (cnts ys ls)))) (sh_ints _) (sh_ints _)) (EG.toES (eg_meth0 (oa := []) (o1 := cal c x dx py pl ys ls) (ob := own0) (fn_cal_counts T) T.o_Calendar.cl g (by decide) (x := x) (dx := dx) (fs := [("year", .ref py), ("line", .ref pl)]) (ev_v 4) (by simp) rfl ⟨x, dx, py, pl, ys, ls, rfl, rfl, hyl, rfl⟩ (fun s o h => by cases h; exact ⟨rfl, rfl⟩) (fun C o h => nomatch h))) (ed_v 9)) fun _ =>
    ew_or (et_cmp c_neI (ed_lenI (n := (ls.length : Int)) (oa := []) (o1 := cal c x dx py pl ys ls) (ob := own0) (fn_cal_len T) g (by decide) T.n_len (x := x) (dx := dx) (fs := [("year", .ref py), ("line", .ref pl)]) (ev_v 4) (by simp) ⟨x, dx, py, pl, ys, ls, rfl, rfl, rfl⟩ (by omega) (by omega)) (ES.is (y := .int (ls.length : Int)) (ed_len T.n_len (ed_v 5) .d) (by rw [List.length_map]))) fun _ =>
    ew_or1 (et_cmp c_neS (EG.toES (s := .d (.str "day")) (eg_call (oa := []) (o1 := cal c x dx py pl ys ls) (ob := own0) (fn_law_call T) g (by decide) (ea_cons (ev_v 4) (ea_cons ed_int (ea_cons (ed_v 3) ea_nil))) ⟨x, dx, py, pl, ys, ls, 0, _, rfl, rfl, hl, rfl⟩ ?_ ?_)) ed_str))) ?_) ?_)
  · rintro s o ⟨r, l', hC, e⟩
    cases e
    rcases hC with ⟨_, ⟨_, rfl, rfl⟩ | ⟨n, en, _, h2, _⟩⟩ | ⟨h, _⟩
    · exact ⟨rfl, rfl⟩
    · cases en
      omega
    · exact absurd rfl h
  · rintro C o ⟨r, l', hC, e⟩
    cases e
  · rw [eqv_ints, eqv_ints]
    simp
  refine sds_cons (sd_set 10 g.nd ed_int ?_)
  refine sds_cons (sd_for g (it_range1 T.n_range (ES.is (y := .int (ls.length : Int)) (ed_len T.n_len (ed_v 5) .d) (by rw [List.length_map])) (by omega)) (fun i ρ o => o = cal c x dx py pl ys ls ++ own0 ∧ ∃ t11 t12, ρ = [s0, .raw (.ref d), .d (li ys), .d (.int (ys.length : Int)), .raw (.ref x), .d (li ls), s6, s7, s8, .d (li (nI (cnts ys ls))), .d (.int (pf ls i)), t11, t12]) ⟨rfl, _, _, rfl⟩ (fun _ _ _ _ => trivial) ?_ ?_)
  · rintro k y ρ1 o1 hy ⟨rfl, t11, t12, rfl⟩
    obtain ⟨hk, rfl⟩ := rng_get hy
    rw [Int.toNat_natCast] at hk
    rw [Int.zero_add]
    have ix : ∀ j : Nat, j < ls.length → atI (ls.map PyData.int) (j : Int) = some (.int (ls.getD j 0)) := fun j hj => atI_nat (by rw [List.getElem?_map, List.getD_eq_getElem?_getD, List.getElem?_eq_getElem hj]; rfl)
    refine ⟨_, _, gt_name 11 g.nd, sds_one (sd_set 10 g.nd (ed_add (ed_v 10) (ed_len T.n_len (EL.ed (el_comp g (compP g (it_range1 T.n_range (ed_v 11) (by omega)) [("j", 12)] (blkOk_by (N := lN) (sc := defScope s_law) (by decide +kernel)) (List.range k) (fun i : Nat => PyData.int (i : Int)) (by simp [rng]) (fun j : Nat => if ls.getD k 0 = ls.getD j 0 then some (PyData.int (j : Int)) else none) (fun j : Nat => [s0, .raw (.ref d), .d (li ys), .d (.int (ys.length : Int)), .raw (.ref x), .d (li ls), s6, s7, s8, .d (li (nI (cnts ys ls))), .d (.int (pf ls k)), .d (.int (k : Int)), .d (.int (j : Int))]) [12] (by simp) (by rw [List.length_range]; omega) (fun _ _ => trivial)
      (fun i _ s H C cl fp g' => gt_name 12 g'.nd) (fun j hj s H C cl fp o g' => ets_one (ET.is (et_cmp c_eqI (ed_ixL (ds := ls.map PyData.int) (ed_v 5) (ed_v 11) .d (ix k hk)) (ed_ixL (ds := ls.map PyData.int) (ed_v 5) (ed_v 12) .d (ix j (by have := List.mem_range.mp hj; omega)))) ?_)) (fun j hj z hz s H C cl fp o g' => ?_)))) .d)) ?_)⟩
    · by_cases h : ls.getD k 0 = ls.getD j 0
      · rw [if_pos h, decide_eq_true h]; rfl
      · rw [if_neg h, decide_eq_false h]; rfl
    · split at hz
      · cases hz
        exact ed_v 12
      · cases hz
    · refine ⟨rfl, .d (.int (k : Int)), t12, ?_⟩
      rw [fm_len ls _ k (by omega), pf_succ]
      rfl
  · rintro ρ1 o1 ⟨rfl, t11, t12, rfl⟩
    rw [rng_length, Int.toNat_natCast, pf_all hd]
    refine sds_cons (sd_ifF (ET.is (et_cmp c_neI (EG.toES (eg_meth0 (oa := []) (o1 := cal c x dx py pl ys ls) (ob := own0) (fn_cal_pairs T) T.o_Calendar.cl g (by decide) (x := x) (dx := dx) (fs := [("year", .ref py), ("line", .ref pl)]) (ev_v 4) (by simp) rfl ⟨x, dx, py, pl, ys, ls, rfl, rfl, hyl, hl, rfl⟩ (fun s o h => by cases h; exact ⟨rfl, rfl⟩) (fun C o h => nomatch h))) (ed_v 10)) (by simp)) ?_)
    refine sds_one (sd_ifF (ET.is (et_cmp (c_ne g .d .d (sh_fr _) (sh_fr _)) (EG.toES (eg_meth0 (oa := []) (o1 := cal c x dx py pl ys ls) (ob := own0) (fn_cal_next_same T) T.o_Calendar.cl g (by decide) (x := x) (dx := dx) (fs := [("year", .ref py), ("line", .ref pl)]) (ev_v 4) (by simp) rfl ⟨x, dx, py, pl, ys, ls, rfl, rfl, hY, hl, hd, rfl⟩ (fun s o h => by cases h; exact ⟨rfl, rfl⟩) (fun C o h => nomatch h))) (es_call (fn_next_on_used T) g (by decide) (ea_cons (ed_v 2) (ea_cons (ed_v 9) ea_nil)) ⟨ys, cnts ys ls, rfl, rfl, hY, ⟨by simp [cnts], by rw [cnts_sum hd]; exact hl⟩, rfl⟩)) ?_) (hn _ _ _ _))
    rw [eqv_fr, nxS_used hd]
    simp
end
end Pg

namespace Pg
open PySem PySem.Spec PyProof.Rows L2 Sd
section
variable {P : Program} {w : World} {K : PySem.W.Frag} {mg : Str → Option Value} {base : Heap} {c : Cl}
def pre_law_year : Pr := fun ss own post => ∃ (d n : Addr) (cells : List Int) (cnt most : Int), ss = [.raw (.ref d), .d (.int most)] ∧ own = drw d n cells cnt ∧ cells ≠ [] ∧ 1 ≤ most ∧ most ≤ 8 ∧
  post = fun o => ∃ p ys cells' cnt', Yr ys ∧ (ys.length : Int) ≤ most ∧ cells' ≠ [] ∧ o = .ret (.raw (.ref p)) ((p, .lst (ys.map PyData.int)) :: drw d n cells' cnt')
theorem fn_law_year (T : Tx K mg c) : Fn K mg P w base "_law_year" ["draws", "most"] 3 pre_law_year := T.d_law_year.fn fun f fd F => okG (k := 2) F sc_law_year (by rintro ss own post ⟨d, n, cells, cnt, most, rfl, _⟩; rfl) (by
  rintro ss own post ⟨d, n, cells, cnt, most, rfl, rfl, hc, hm1, hm8, rfl⟩ cdv A outer s H E B g
  refine sds_cons (sd_setG 2 g.nd (R := fun t o => ∃ wd cells' cnt', (1 ≤ wd ∧ wd ≤ 20) ∧ cells' ≠ [] ∧ t = .d (.int wd) ∧ o = drw d n cells' cnt') (eg_call (oa := []) (o1 := drw d n cells cnt) (ob := []) (fn_law_pick T) g (by decide) (ea_cons (ev_v 0) (ea_cons (ed_lst (ds := [.int 1, .int 3, .int 20]) (ea_cons ed_int (ea_cons ed_int (ea_cons ed_int ea_nil)))) ea_nil)) ⟨d, n, cells, cnt, _, rfl, rfl, hc, by simp, by simp, rfl⟩ ?_ ?_) ?_)
  · rintro t o1 ⟨x, cells', cnt', h1, h2, e⟩
    cases e
    simp only [List.mem_cons, List.not_mem_nil, or_false] at h1
    rcases h1 with rfl | rfl | rfl
    · exact ⟨1, cells', cnt', by decide, h2, rfl, by simp⟩
    · exact ⟨3, cells', cnt', by decide, h2, rfl, by simp⟩
    · exact ⟨20, cells', cnt', by decide, h2, rfl, by simp⟩
  · rintro C o1 ⟨x, cells', cnt', h1, h2, e⟩
    cases e
  rintro t o ⟨wd, cells', cnt', hw, hc', rfl, rfl⟩
  refine sds_one (sd_retG (eg_comp g (compG g (itg_range1 (P := fun i o => (1 ≤ i ∧ i ≤ most) ∧ ∃ cells' cnt', cells' ≠ [] ∧ o = drw d n cells' cnt') T.n_range (EG.imp (eg_add (P := fun j o => (0 ≤ j ∧ j < most) ∧ ∃ cells' cnt', cells' ≠ [] ∧ o = drw d n cells' cnt') ed_int (eg_call (oa := []) (o1 := drw d n cells' cnt') (ob := []) (fn_law_draw T) g (by decide) (ea_cons (ev_v 0) (ea_cons (ed_v 1) ea_nil)) ⟨d, n, cells', cnt', _, rfl, rfl, hc', by omega, by omega, rfl⟩ ?_ ?_)) ?_)) [("k", 3)] (blkOk_by (N := ["draws", "most", "wide", "k"]) (sc := defScope s_law_year) (by decide +kernel))
    (fun ys i acc o => ∃ m : Int, (1 ≤ m ∧ m ≤ most) ∧ ys.length = m.toNat ∧ (∃ vs : List Int, acc = vs.map PyData.int ∧ vs.length = i ∧ ∀ v ∈ vs, 1 ≤ v ∧ v ≤ 20) ∧ i ≤ ys.length ∧ ∃ cells' cnt', cells' ≠ [] ∧ o = drw d n cells' cnt') ?_ ?_ ?_)) ?_)
  · rintro t o1 ⟨r, cells'', cnt'', h0, h1, h2, e⟩
    cases e
    exact ⟨r, rfl, ⟨h0, h1⟩, cells'', cnt'', h2, by simp⟩
  · rintro C o1 ⟨r, cells'', cnt'', h0, h1, h2, e⟩
    cases e
  · rintro t o ⟨j, rfl, hj, cells'', cnt'', h2, rfl⟩
    exact ⟨1 + j, rfl, by omega, by omega, cells'', cnt'', h2, rfl⟩
  · rintro ys o ⟨i, rfl, hi, cells'', cnt'', h2, rfl⟩
    exact ⟨i, hi, rng_length _ _, ⟨[], rfl, rfl, by simp⟩, Nat.zero_le _, cells'', cnt'', h2, rfl⟩
  · rintro ys i acc o ⟨m, hm, hl, ⟨vs, rfl, hv, _⟩, hi, _⟩
    rw [List.length_map]
    omega
  · rintro ys i y acc o D hy ⟨m, hm, hl, ⟨vs, rfl, hv, hvs⟩, hi, cells'', cnt'', h2, rfl⟩
    have hlt : i < ys.length := (List.getElem?_eq_some_iff.mp hy).1
    refine ⟨_, _, true, ?_, fun s H C cl fp => gt_name 3 g.nd, fun s H C cl fp => ets_nil, fun _ s H C cl fp => ?_, fun h => nomatch h⟩
    · intro i hi
      simpa using hi
    · refine EG.imp (eg_add (P := fun j o => (0 ≤ j ∧ j < wd) ∧ ∃ cells' cnt', cells' ≠ [] ∧ o = (D, .lst (vs.map PyData.int)) :: drw d n cells' cnt') ed_int (eg_call (oa := [(D, .lst (vs.map PyData.int))]) (o1 := drw d n cells'' cnt'') (ob := []) (fn_law_draw T) (g.blk ..) (by decide) (ea_cons (ev_v 0) (ea_cons (ed_v 2) ea_nil)) ⟨d, n, cells'', cnt'', _, rfl, rfl, h2, by omega, by omega, rfl⟩ ?_ ?_)) ?_
      · rintro t o1 ⟨r, cells3, cnt3, h0, h1, h2, e⟩
        cases e
        exact ⟨r, rfl, ⟨h0, h1⟩, cells3, cnt3, h2, by simp⟩
      · rintro C o1 ⟨r, cells3, cnt3, h0, h1, h2, e⟩
        cases e
      · rintro t o ⟨j, rfl, hj, cells3, cnt3, h3, rfl⟩
        refine ⟨.int (1 + j), drw d n cells3 cnt3, rfl, rfl, m, hm, hl, ⟨vs ++ [1 + j], by simp, by simp [hv], ?_⟩, hlt, cells3, cnt3, h3, rfl⟩
        intro v hv'
        rcases List.mem_append.mp hv' with h | h
        · exact hvs v h
        · have : v = 1 + j := by simpa using h
          omega
  · rintro t o ⟨p, ds, o', rfl, rfl, ys, m, hm, hl, ⟨vs, rfl, hv, hvs⟩, hi, cells3, cnt3, h3, rfl⟩
    exact ⟨p, vs, cells3, cnt3, ⟨by omega, by omega, hvs⟩, by omega, h3, rfl⟩)
end
end Pg

namespace Pg
open PySem PySem.Spec PyProof.Rows L2 Sd
section
variable {P : Program} {w : World} {K : PySem.W.Frag} {mg : Str → Option Value} {base : Heap} {c : Cl}
theorem atI_last {xs : List PyData} {x : PyData} (h : xs.getLast? = some x) : atI xs (-1) = some x := by
  have hl : 0 < xs.length := by
    cases xs with
    | nil => simp at h
    | cons a l => simp
  unfold atI ixN
  rw [if_neg (by omega), if_pos (by omega)]
  rw [List.getLast?_eq_getElem?] at h
  show xs[((-1 : Int) + (xs.length : Int)).toNat]? = some x
  rw [show ((-1 : Int) + (xs.length : Int)).toNat = xs.length - 1 by omega]
  exact h
theorem cutD_init (xs : List PyData) : Sd.cutD xs none (some (-1)) = xs.dropLast := by
  unfold Sd.cutD
  have e : HT.sIx xs.length xs.length (some (-1)) = xs.length - 1 := by
    show (if (-1 : Int) < 0 then ((-1 : Int) + (xs.length : Int)).toNat else min (-1 : Int).toNat xs.length) = _
    rw [if_pos (by omega)]
    omega
  rw [e, HT.sIx_none, List.drop_zero, List.dropLast_eq_take]
  rfl
end
end Pg

namespace Pg
open PySem PySem.Spec PyProof.Rows L2 Sd
section
variable {P : Program} {w : World} {K : PySem.W.Frag} {mg : Str → Option Value} {base : Heap} {c : Cl}
/-- a test that changes what is owned -/
def ETG (Z : Sd.Ctx) (e : Expr) (ρ : List Slot) (own : Own) (R : Bool → Own → Prop) : Prop := ∀ Hf σ H, Sat Z.B Hf H own → EnvR Hf σ ρ → ∀ Q : Bool → Hp → Prop, (∀ b Hf' H' own', Same Hf Hf' → Sat Z.B Hf' H' own' → R b own' → Q b H') → wT Z.X e σ H Q
theorem etg_cmp {Z : Sd.Ctx} {a b : Expr} {pos : Pos} {ρ : List Slot} {own : Own} {op : CmpOp} {P : Slot → Own → Prop} {R : Bool → Own → Prop} (ha : EG Z a ρ own P) (hb : ∀ s o, P s o → ∃ t k, ES Z b ρ o t ∧ CmpB Z op o s t k ∧ R k o) (hm : behindInMarks op b = false := by first | exact nomark _ | rfl) : ETG Z (.Compare a [op] [b] pos) ρ own R := by
  have hu : OpR Z.X (compareOp op) (fun v w H Q => ∃ r : R2, OpR Z.X (compareOp op) r ∧ r v w H Q) := by
    intro pins s σ H x y v u Q I rx ry h
    obtain ⟨r, ho, h⟩ := h
    exact ho pins s σ H x y v u Q I rx ry h
  refine fun Hf σ H S E Q q => wT.of (pt_cmpR hu peW peW hm) (ha Hf σ H S E _ fun v Hf1 H1 s o m1 S1 r1 _ hP => ?_)
  obtain ⟨t, k, he, ⟨r, ho, hr⟩, hR⟩ := hb s o hP
  exact he Hf1 σ H1 S1 (E.mono m1) _ fun w Hf2 H2 m2 S2 r2 => ⟨r, ho, hr v w Hf2 H2 S2 (r1.mono m2) r2 _ ⟨k, rfl, q k Hf2 H2 o (m1.trans m2) S2 hR⟩⟩
theorem sd_ifG {Z : Sd.Ctx} {D : DE} {c : Expr} {A B : List Stmt} {pos : Pos} {ρ : List Slot} {own : Own} {R : Bool → Own → Prop} (hc : ETG Z c ρ own R) (h1 : ∀ o, R true o → SDs Z A D ρ o) (h2 : ∀ o, R false o → SDs Z B D ρ o) : SD Z (.If c A B pos) D ρ own := fun H0 Hf σ H m0 S E => wS.of (ps_if ptW pssW pssW) (hc Hf σ H S E _ fun b Hf1 H1 o m1 S1 hR => by
  cases b with
  | true => exact iteT (h1 o hR H0 Hf1 σ H1 (m0.trans m1) S1 (E.mono m1))
  | false => exact iteF (h2 o hR H0 Hf1 σ H1 (m0.trans m1) S1 (E.mono m1)))
/-- x, y = (a, b), by a tuple that is made and read -/
theorem sd_parT {Z : Sd.Ctx} {D : DE} {k : Nat} {a b : Expr} {pos : Pos} {ρ : List Slot} {own : Own} (n m : Nat) {x y : Str} {px py pt pt2 : Pos} {kt k2 : Nat} {R : List Slot → Own → Prop} (g : Gd Z k) (ha : EAG Z [a, b] ρ own R) (h : ∀ ss o, R ss o → ∃ s t, ss = [s, t] ∧ D.nx ((ρ.set n s).set m t) o) (hi : Z.X.N[n]? = some x := by rfl) (hj : Z.X.N[m]? = some y := by rfl)
    (hx : Loc Z.X.env.scope x := by first | exact Or.inl rfl | exact Or.inr rfl) (hy : Loc Z.X.env.scope y := by first | exact Or.inl rfl | exact Or.inr rfl) (hfx : Z.X.fn x = true ∨ Z.X.env.scope.names.lookup x = some .local := by first | exact .inl rfl | exact .inr rfl) (hfy : Z.X.fn y = true ∨ Z.X.env.scope.names.lookup y = some .local := by first | exact .inl rfl | exact .inr rfl)
    (hw : swappedStores [.Tuple [.Name x px, .Name y py] kt pt] (.Tuple [a, b] k2 pt2) Z.X.env = pure none := by rfl)
    (hs : swapsWithSole [.Tuple [.Name x px, .Name y py] kt pt] (.Tuple [a, b] k2 pt2) pos.line Z.X.env = pure false := by rfl) : SD Z (.Assign [.Tuple [.Name x px, .Name y py] kt pt] (.Tuple [a, b] k2 pt2) pos) D ρ own := fun H0 Hf σ H m0 S E => wS.of (ps_asg (pe_tup paW) (pg_tup (n := 2) g.calm (pgs_cons (pg_name g.nd hi hx hfx) (pgs_cons (pg_name g.nd hj hy hfy) pgs_nil))) hs hw)
  (ha Hf σ H S E _ fun vs Hf1 H1 ss o m1 S1 r1 hq => by
    obtain ⟨s, t, rfl, hn⟩ := h ss o hq
    obtain ⟨v, w, rfl, r1, r2⟩ := r1.two
    refine ⟨by show 2 ≤ sizeLine; decide, fun p hp => ⟨p, [v, w], rfl, SqT.of upd_same, rfl, v, [w], rfl, w, [], rfl, rfl, ?_⟩⟩
    have m2 := S1.new_same hp (.tup [v, w])
    exact ⟨_, _, o, (m0.trans m1).trans m2, S1.new hp (.tup [v, w]), ((E.mono (m1.trans m2)).set (r1.mono m2) n).set (r2.mono m2) m, hn⟩)
/-- or, and with a change of what is owned: as tests -/
def EWG (Z : Sd.Ctx) (e : Expr) (ρ : List Slot) (own : Own) (R : Bool → Own → Prop) : Prop := ∀ Hf σ H, Sat Z.B Hf H own → EnvR Hf σ ρ → ∀ Q : Bool → Hp → Prop, (∀ b Hf' H' own', Same Hf Hf' → Sat Z.B Hf' H' own' → R b own' → Q b H') → wW Z.X e σ H Q
theorem EWG.et {Z : Sd.Ctx} {e : Expr} {ρ : List Slot} {own : Own} {R : Bool → Own → Prop} (h : EWG Z e ρ own R) : ETG Z e ρ own R := fun Hf σ H S E Q q => wT.of pwW.pt (h Hf σ H S E Q q)
theorem ETG.imp {Z : Sd.Ctx} {e : Expr} {ρ : List Slot} {own : Own} {R R' : Bool → Own → Prop} (h : ETG Z e ρ own R) (q : ∀ b o, R b o → R' b o) : ETG Z e ρ own R' := fun Hf σ H S E Q k => h Hf σ H S E Q fun b Hf' H' o m S' r => k b Hf' H' o m S' (q b o r)
end
end Pg

namespace Pg
open PySem PySem.Spec PyProof.Rows L2 Sd
section
variable {P : Program} {w : World} {K : PySem.W.Frag} {mg : Str → Option Value} {base : Heap} {c : Cl}
theorem eg_year {Z : Sd.Ctx} {k : Nat} {ρ : List Slot} {ob : Own} {e1 e2 : Expr} {p pos : Pos} {d n : Addr} {cells : List Int} {cnt most : Int} (F : Fn Z.X.K Z.X.mg Z.X.prog Z.X.w Z.X.base "_law_year" ["draws", "most"] 3 pre_law_year) (g : Gd Z k) (hk : 3 ≤ k) (hc : cells ≠ []) (ha : EA Z [e1, e2] ρ (drw d n cells cnt ++ ob) [.raw (.ref d), .d (.int most)]) (hl : 1 ≤ most) (hl2 : most ≤ 8)
    (hg : Gl Z.X "_law_year" := by rfl) (he : starEach [e1, e2] Z.X.env = (false, eval e1 Z.X.env) :: starEach [e2] Z.X.env := by rfl) (hpl : (backTo pos (starEach [e2] Z.X.env)).any (·.1) = false := by rfl) :
    EG Z (.Call (.Name "_law_year" p) [e1, e2] [] pos) ρ (drw d n cells cnt ++ ob) (fun t o => ∃ (ys cells' : List Int) (cnt' : Int), Yr ys ∧ (ys.length : Int) ≤ most ∧ cells' ≠ [] ∧ t = .d (li ys) ∧ o = drw d n cells' cnt' ++ ob) :=
  EG.frz (P := fun ds o => ∃ (ys cells' : List Int) (cnt' : Int), ds = ys.map PyData.int ∧ Yr ys ∧ (ys.length : Int) ≤ most ∧ cells' ≠ [] ∧ o = drw d n cells' cnt' ++ ob)
    (eg_call (oa := []) (o1 := drw d n cells cnt) F g hk ha ⟨d, n, cells, cnt, most, rfl, rfl, hc, hl, hl2, rfl⟩ (by
      rintro t o1 ⟨q, ys, cells', cnt', h1, h2, h3, e⟩
      cases e
      exact ⟨q, _, _, rfl, rfl, ys, cells', cnt', rfl, h1, h2, h3, rfl⟩) (by
      rintro C o1 ⟨q, ys, cells', cnt', h1, h2, h3, e⟩
      cases e) hg (by decide) he hpl) (by
    rintro ds o ⟨ys, cells', cnt', rfl, h1, h2, h3, rfl⟩
    exact ⟨ys, cells', cnt', h1, h2, h3, rfl, rfl⟩)
end
end Pg

namespace Pg
open PySem PySem.Spec PyProof.Rows L2 Sd
section
variable {P : Program} {w : World} {K : PySem.W.Frag} {mg : Str → Option Value} {base : Heap} {c : Cl}
theorem ok_law (T : Tx K mg c) {f : Addr} {fd : FuncData} (F : Fun K "law" "law" s_law f fd) : FnOk P w K mg base (L2.CX P w) 6 f fd ["script"] (spG (pre_law K)) := okG (k := 5) F sc_law (by rintro ss own post ⟨a, ns, rfl, _⟩; rfl) (by
  rintro ss own0 post ⟨a, ns, rfl, hs, hns, rfl⟩ cdv A outer s H E B g
  refine sds_cons (sd_setG 1 g.nd (R := fun t o => ∃ (d q : Addr) (cells : List Int), cells ≠ [] ∧ t = .raw (.ref d) ∧ o = drw d q cells 0 ++ own0) (eg_callW (fn_law_start T) g (by decide) (ea_cons (ev_v 0) ea_nil) ⟨a, ns, rfl, hs, rfl⟩ ?_ ?_) ?_)
  · rintro t o ⟨d, n, cells, hc, e⟩
    cases e
    exact ⟨d, n, cells, hc, rfl, rfl⟩
  · rintro C o ⟨d, n, cells, hc, e⟩
    cases e
  rintro t o ⟨d, q, cells, hc, rfl, rfl⟩
  refine sds_cons (sd_setG 2 g.nd (eg_year (fn_law_year T) g (by decide) hc (ea_cons (ev_v 1) (ea_cons ed_int ea_nil)) (by decide) (by decide)) ?_)
  rintro t o ⟨ys, cells2, cnt2, hY, _, hc2, rfl, rfl⟩
  have hyl := hY.hi
  have hy0 := hY.lo
  refine sds_cons (sd_set 3 g.nd (s := .d (.int (ys.length : Int))) (ES.is (ed_len T.n_len (ed_v 2) .d) (by rw [List.length_map])) ?_)
  refine sds_cons (sd_parT 4 5 g (R := fun ss o => ∃ x dx py pl, ss = [.raw (.ref x), .d (li [])] ∧ o = cal c x dx py pl ys [] ++ (drw d q cells2 cnt2 ++ own0)) (eag_cons (P := fun s o => ∃ x dx py pl, s = .raw (.ref x) ∧ o = cal c x dx py pl ys [] ++ (drw d q cells2 cnt2 ++ own0)) (eg_make (fn_cal_init T) g (by decide) (ea_cons (ed_v 2) ea_nil) (fun x dx => ⟨x, dx, ys, rfl, rfl, hY, rfl⟩) ?_ ?_) ?_) ?_)
  · rintro x dx s o ⟨py, pl, e⟩
    cases e
    exact ⟨rfl, x, dx, py, pl, rfl, rfl⟩
  · rintro x dx C o ⟨py, pl, e⟩
    cases e
  · rintro s o ⟨x, dx, py, pl, rfl, rfl⟩ _
    exact EA.toEAG (ea_cons (EL.ed (el_lst (ds := []) ea_nil)) ea_nil) ⟨x, dx, py, pl, rfl, rfl⟩
  rintro ss o ⟨x, dx, py, pl, rfl, rfl⟩
  refine ⟨_, _, rfl, ?_⟩
  refine sds_cons (sd_for g (it_range1 T.n_range ed_int ⟨by decide, by decide⟩) (fun i ρ o => ∃ (ls cells : List Int) (cnt : Int), cells ≠ [] ∧ ls.length ≤ 12 ∧ (∀ d ∈ ls, 0 ≤ d ∧ d < (ys.length : Int)) ∧ o = cal c x dx py pl ys ls ++ (drw d q cells cnt ++ own0) ∧ ∃ s6 s7 s8 s9 s10 s11 s12, ρ = [.raw (.ref a), .raw (.ref d), .d (li ys), .d (.int (ys.length : Int)), .raw (.ref x), .d (li ls), s6, s7, s8, s9, s10, s11, s12]) ⟨[], cells2, cnt2, hc2, by decide, fun _ h => (nomatch h), rfl, _, _, _, _, _, _, _, rfl⟩ (fun _ _ _ _ => trivial) ?_ ?_)
  · rintro i y ρ1 o1 hy ⟨ls, cells3, cnt3, hc3, hl, hd, rfl, s6, s7, s8, s9, s10, s11, s12, rfl⟩
    refine ⟨_, _, gt_name 6 g.nd, ?_⟩
    show SDs _ (lawB.getD 0 s_law :: lawB.drop 1) _ _ _
    refine sds_cons (sd_ifG (R := fun _ o => ∃ (cells : List Int) (cnt : Int), cells ≠ [] ∧ o = cal c x dx py pl ys ls ++ (drw d q cells cnt ++ own0)) (etg_cmp (P := fun s o => ∃ (r : Nat) (cells : List Int) (cnt : Int), s = .d (.int (r : Int)) ∧ cells ≠ [] ∧ o = cal c x dx py pl ys ls ++ (drw d q cells cnt ++ own0)) (EG.imp (eg_draw (oa := cal c x dx py pl ys ls) (ob := own0) (fn_law_draw T) g (by decide) hc3 (ea_cons (ev_v 1) (ea_cons ed_int ea_nil)) (by decide) (by decide)) ?_) ?_) ?_ ?_)
    · rintro t o ⟨r, cells', cnt', h1, h2, rfl, rfl⟩
      exact ⟨r, cells', cnt', rfl, h2, by rw [List.append_assoc]⟩
    · rintro t o ⟨r, cells', cnt', rfl, h2, rfl⟩
      exact ⟨_, _, ed_int, c_gt, cells', cnt', h2, rfl⟩
    · rintro o ⟨cells4, cnt4, hc4, rfl⟩
      refine sds_cons (sd_setG 7 g.nd (R := fun s o => ∃ (n : Nat) (cells : List Int) (cnt : Int), n < ys.length ∧ cells ≠ [] ∧ s = .d (.int (n : Int)) ∧ o = cal c x dx py pl ys ls ++ (drw d q cells cnt ++ own0)) (EG.imp (eg_draw (oa := cal c x dx py pl ys ls) (ob := own0) (fn_law_draw T) g (by decide) hc4 (ea_cons (ev_v 1) (ea_cons (ed_v 3) ea_nil)) (by omega) (by omega)) ?_) ?_)
      · rintro t o ⟨r, cells', cnt', h1, h2, rfl, rfl⟩
        exact ⟨r, cells', cnt', by omega, h2, rfl, by rw [List.append_assoc]⟩
      rintro t o ⟨n, cells5, cnt5, hn, hc5, rfl, rfl⟩
      refine sds_cons (sd_setG 8 g.nd (R := fun s o => ∃ r l', Cd ys ls 0 (.int (n : Int)) r l' ∧ s = .d r ∧ o = cal c x dx py pl ys l' ++ (drw d q cells5 cnt5 ++ own0)) (eg_call (oa := []) (o1 := cal c x dx py pl ys ls) (ob := drw d q cells5 cnt5 ++ own0) (fn_law_call T) g (by decide) (ea_cons (ev_v 4) (ea_cons ed_int (ea_cons (ed_v 7) ea_nil))) ⟨x, dx, py, pl, ys, ls, 0, _, rfl, rfl, hl, rfl⟩ ?_ ?_) ?_)
      · rintro t o ⟨r, l', hC, e⟩
        cases e
        exact ⟨r, l', hC, rfl, rfl⟩
      · rintro C o ⟨r, l', hC, e⟩
        cases e
      rintro t o ⟨r, l', hC, rfl, rfl⟩
      have hC' : (ls.length = 12 ∧ r = .str "number" ∧ l' = ls) ∨ (ls.length < 12 ∧ r = .int ((ls ++ [(n : Int)]).count (n : Int) : Nat) ∧ l' = ls ++ [(n : Int)]) := by
        rcases hC with ⟨_, ⟨h, _⟩ | ⟨m, em, _, _, h⟩⟩ | ⟨h, _⟩
        · exfalso
          simp [Sd.isInt] at h
          omega
        · cases em
          exact h
        · exact absurd rfl h
      rcases hC' with ⟨h12, rfl, rfl⟩ | ⟨h12, rfl, rfl⟩
      · refine sds_one (sd_if (l := true) (ET.is (et_cmp c_eqI (ed_len T.n_len (ed_v 5) .d) ed_int) (by rw [List.length_map, h12]; rfl)) (fun _ => sds_one (sd_ifF (ET.is (et_cmp c_neS (ed_v 8) ed_str) (by simp)) ?_)) fun h => nomatch h)
        exact law_t T g hY hl hd fun _ _ _ _ => ⟨_, cells5, cnt5, hc5, hl, hd, rfl, _, _, _, _, _, _, _, rfl⟩
      · refine sds_one (sd_if (l := false) (ET.is (et_cmp c_eqI (ed_len T.n_len (ed_v 5) .d) ed_int) (by rw [List.length_map]; exact decide_eq_false (by omega))) (fun h => nomatch h) fun _ => ?_)
        have hl' : (ls ++ [(n : Int)]).length ≤ 12 := by simp; omega
        have hd' : ∀ d ∈ ls ++ [(n : Int)], 0 ≤ d ∧ d < (ys.length : Int) := fun d hm => by
          rcases List.mem_append.mp hm with hm | hm
          · exact hd d hm
          · have : d = n := by simpa using hm
            omega
        refine sds_cons (sd_set 5 g.nd (s := .d (li (ls ++ [(n : Int)]))) (EL.ed (EL.is (el_cat (ed_v 5) (ed_lst (ds := [.int (n : Int)]) (ea_cons (ed_v 7) ea_nil)) .d .d (by simp; omega)) (by simp))) ?_)
        refine sds_one (sd_ifF (ET.is (et_cmp c_neI (ed_v 8) (ES.is (ed_count (k := 4) (ds := (ls ++ [(n : Int)]).map PyData.int) g (ed_v 5) .d (ed_v 7) (pl_ints _) (by rfl) (dp_int _)) (by rw [cntI]))) (by simp)) ?_)
        exact law_t T g hY hl' hd' fun _ _ _ _ => ⟨_, cells5, cnt5, hc5, hl', hd', rfl, _, _, _, _, _, _, _, rfl⟩
    · rintro o ⟨cells4, cnt4, hc4, rfl⟩
      refine sds_cons (sd_ifG (R := fun b o => b = false ∧ o = cal c x dx py pl ys ls.dropLast ++ (drw d q cells4 cnt4 ++ own0)) (etg_cmp (P := fun s o => ∃ r l', Cd ys ls 1 (.int 0) r l' ∧ s = .d r ∧ o = cal c x dx py pl ys l' ++ (drw d q cells4 cnt4 ++ own0)) (eg_call (oa := []) (o1 := cal c x dx py pl ys ls) (ob := drw d q cells4 cnt4 ++ own0) (fn_law_call T) g (by decide) (ea_cons (ev_v 4) (ea_cons ed_int (ea_cons ed_int ea_nil))) ⟨x, dx, py, pl, ys, ls, 1, _, rfl, rfl, hl, rfl⟩ ?_ ?_) ?_) ?_ ?_)
      · rintro t o ⟨r, l', hC, e⟩
        cases e
        exact ⟨r, l', hC, rfl, rfl⟩
      · rintro C o ⟨r, l', hC, e⟩
        cases e
      · rintro t o ⟨r, l', hC, rfl, rfl⟩
        rcases hC with ⟨h, _⟩ | ⟨_, ⟨rfl, rfl, rfl⟩ | ⟨l, n, rfl, rfl, el⟩⟩
        · cases h
        · exact ⟨.d (.str "none"), _, es_if (k := false) (ET.is (et_cmp (c_ne g .d .d (sh_ints []) (sh_ints [])) (ed_v 5) (EL.ed (el_lst (ds := []) ea_nil))) (by rfl)) (fun h => nomatch h) fun _ => ed_str, c_neS, by simp, rfl⟩
        · subst el
          exact ⟨.d (.int n), _, es_if (k := true) (ET.is (et_cmp (c_ne g .d .d (sh_ints (l' ++ [n])) (sh_ints [])) (ed_v 5) (EL.ed (el_lst (ds := []) ea_nil))) (by rw [eqv_ints]; simp)) (fun _ => ed_ixL (ds := (l' ++ [n]).map PyData.int) (ed_v 5) (ed_neg ed_int) .d (atI_last (by simp))) (fun h => nomatch h), c_neI, by simp, by simp⟩
      · rintro o ⟨h, _⟩
        cases h
      · rintro o ⟨_, rfl⟩
        refine sds_nil ?_
        have hl' : ls.dropLast.length ≤ 12 := by rw [List.length_dropLast]; omega
        have hd' : ∀ d ∈ ls.dropLast, 0 ≤ d ∧ d < (ys.length : Int) := fun d hm => hd d (List.dropLast_subset _ hm)
        refine sds_one (sd_set 5 g.nd (s := .d (li ls.dropLast)) (EL.ed (EL.is (el_slice (ed_v 5) po_no (po_yes (ed_neg ed_int)) .d) ?_)) ?_)
        · rw [cutD_init, List.map_dropLast]
        · exact law_t T g hY hl' hd' fun _ _ _ _ => ⟨_, cells4, cnt4, hc4, hl', hd', rfl, _, _, _, _, _, _, _, rfl⟩
  · rintro ρ1 o1 ⟨ls, cells3, cnt3, hc3, hl, hd, rfl, s6, s7, s8, s9, s10, s11, s12, rfl⟩
    refine sds_one (sd_retD (ES.is (y := .bool true) (ed_cmp c_eqS (EG.toES (s := .d (.str "day")) (eg_call (oa := []) (o1 := cal c x dx py pl ys ls) (ob := drw d q cells3 cnt3 ++ own0) (fn_law_call T) g (by decide) (ea_cons (ev_v 4) (ea_cons ed_int (ea_cons ed_non ea_nil))) ⟨x, dx, py, pl, ys, ls, 0, .none, rfl, rfl, hl, rfl⟩ ?_ ?_)) ed_str) (by simp)) ⟨_, rfl⟩)
    · rintro s o ⟨r, l', hC, e⟩
      cases e
      rcases hC with ⟨_, ⟨_, rfl, rfl⟩ | ⟨n, en, _⟩⟩ | ⟨h, _⟩
      · exact ⟨rfl, rfl⟩
      · cases en
      · exact absurd rfl h
    · rintro C o ⟨r, l', hC, e⟩
      cases e)
end
end Pg

namespace Pg
open PySem PySem.Spec PyProof.Rows L2 Sd
section
variable {P : Program} {w : World} {K : PySem.W.Frag} {mg : Str → Option Value} {base : Heap} {c : Cl}
theorem law_end {fa cDayError cBadYear cBadDay cBadNumber cBadShare cBadText cNotFound cCalendar : Addr} (T : Tx K mg ⟨cDayError, cBadYear, cBadDay, cBadNumber, cBadShare, cBadText, cNotFound, cCalendar⟩) (hmg : mg "law" = some (.ref fa)) : ∃ fd : FuncData, (∀ (s : Shared) (u : Value), BindsTo s fd ⟨[u], []⟩ [("script", u)]) ∧ ∀ base : Heap, K.In base → base.Ns mainGlobals mg → FnOk P w K mg base (L2.CX P w) 6 fa fd ["script"] (spG (pre_law K)) := by
  obtain ⟨f, fd, F, hm, hb⟩ := T.d_law.ex
  rw [hmg] at hm
  cases hm
  exact ⟨fd, fun s u => .of_eq (hb [u] rfl), fun base _ _ => ok_law T F⟩
end
end Pg

open PySem PySem.W PyProof.Rows
set_option maxRecDepth 100000 in
set_option maxHeartbeats 0 in
theorem PySem.Challenge.cw_samedays_k08_whole_calendars_holds : PySem.Challenge.rw_samedays_k08_whole_calendars.Holds := by
  w_on; o_law; k_head; (case hw => w_witness2)
  k_fill
  refine L2.walk_of (l := PySem.Challenge.rw_samedays_k08_whole_calendars) (n := 63) (k := 6) (x := "script") (CX := fun w => L2.CX PySem.Challenge.rw_samedays_k08_whole_calendars.prog w) (sp := fun w => Sd.spG (Sd.pre_law _)) rfl (by decide) rfl ⟨rfl, by decide, by decide⟩ (fun w h Y => PySem.W.kIn_of Y) ?F (fun _ H a ns hl hO hS => Sd.law_in hl hO hS) (fun _ _ _ _ _ h => Sd.cx_no h)
  case F =>
    intro w mg fa h KX G hmg
    refine' Pg.law_end  ⟨Sd.err_mk KX G ?a0 ?x0 ?k0 ?b0 ?t0, Sd.err_mk KX G ?a1 ?x1 ?k1 ?b1 ?t1, Sd.err_mk KX G ?a2 ?x2 ?k2 ?b2 ?t2, Sd.err_mk KX G ?a3 ?x3 ?k3 ?b3 ?t3, Sd.err_mk KX G ?a4 ?x4 ?k4 ?b4 ?t4, Sd.err_mk KX G ?a5 ?x5 ?k5 ?b5 ?t5, Sd.err_mk KX G ?a6 ?x6 ?k6 ?b6 ?t6, Sd.df_mk2 KX G Pg.pa_is_int ?a7 ?l7 ?c7 ?k7, Sd.df_mk2 KX G Pg.pa_common ?a8 ?l8 ?c8 ?k8, Sd.df_mk2 KX G Pg.pa_is_year ?a9 ?l9 ?c9 ?k9, Sd.df_mk2 KX G Pg.pa_check_year ?a10 ?l10 ?c10 ?k10, Sd.df_mk2 KX G Pg.pa_check_day ?a11 ?l11 ?c11 ?k11, Sd.df_mk2 KX G Pg.pa_lowest ?a12 ?l12 ?c12 ?k12, Sd.cls_mk KX G ?aCC ?yp ?yh ?yo ?ys ?ym ?yk, ?yY, ?yL, Sd.dfm_mk (fun _ _ _ _ _ _ us hl => match us, hl with | [_, _], _ => rfl) ?a13 ?i13 ?l13 ?c13 ?k13, Sd.dfm_mk (fun _ _ _ _ _ _ us hl => match us, hl with | [_, _], _ => rfl) ?a14 ?i14 ?l14 ?c14 ?k14, Sd.dfm_mk (fun _ _ _ _ _ _ us hl => match us, hl with | [_], _ => rfl) ?a15 ?i15 ?l15 ?c15 ?k15, Sd.dfm_mk (fun _ _ _ _ _ _ us hl => match us, hl with | [_], _ => rfl) ?a16 ?i16 ?l16 ?c16 ?k16, Sd.dfm_mk (fun _ _ _ _ _ _ us hl => match us, hl with | [_], _ => rfl) ?a17 ?i17 ?l17 ?c17 ?k17, Sd.dfm_mk (fun _ _ _ _ _ _ us hl => match us, hl with | [_], _ => rfl) ?a18 ?i18 ?l18 ?c18 ?k18, Sd.dfm_mk (fun _ _ _ _ _ _ us hl => match us, hl with | [_], _ => rfl) ?a19 ?i19 ?l19 ?c19 ?k19, Sd.dfm_mk (fun _ _ _ _ _ _ us hl => match us, hl with | [_], _ => rfl) ?a20 ?i20 ?l20 ?c20 ?k20, Sd.df_mk2 KX G Pg.pa_check_counts ?a21 ?l21 ?c21 ?k21, Sd.df_mk2 KX G Pg.pa_next_on_used ?a22 ?l22 ?c22 ?k22, Sd.df_mk2 KX G Pg.pa_law_start ?a23 ?l23 ?c23 ?k23, Sd.df_mk2 KX G Pg.pa_law_draw ?a24 ?l24 ?c24 ?k24, Sd.df_mk2 KX G Pg.pa_law_pick ?a25 ?l25 ?c25 ?k25, Sd.df_mk2 KX G Pg.pa_law_error ?a26 ?l26 ?c26 ?k26, Sd.df_mk2 KX G Pg.pa_law_year ?a27 ?l27 ?c27 ?k27, Sd.df_mk2 KX G Pg.pa_law_call ?a28 ?l28 ?c28 ?k28, Sd.df_mk2 KX G Pg.pa_law ?a29 ?l29 ?c29 ?k29, ⟨⟨?kG0, ?kH0, ?kB0, ?kD0, ?kA0, ?kN, ?kT, ?kM0⟩, Sd.kit_ref ?kD0 ?kY0 ?kS0s0 ?kS0s0, Sd.kit_ref ?kD1 ?kY1 ?kS0s1 ?kS0s0, Sd.kit_ref ?kD2 ?kY2 ?kS0s2 ?kS0s0, Sd.kit_ref ?kD3 ?kY3 ?kS0s3 ?kS0s0, Sd.kit_ref ?kD4 ?kY4 ?kS0s4 ?kS0s0, Sd.kit_ref ?kD5 ?kY5 ?kS0s5 ?kS0s0, Sd.kit_ref ?kD6 ?kY6 ?kS0s6 ?kS0s0, Sd.kit_ve ?kV0, PySem.W.exm_ref ?kB6 ?kD6 ?kY6 ?kS0s6⟩, ⟨⟨?kG1, ?kH1, ?kB1, ?kD1, ?kA1, ?kN, ?kT, ?kM1⟩, Sd.kit_ref ?kD0 ?kY0 ?kS1s0 ?kS1s1, Sd.kit_ref ?kD1 ?kY1 ?kS1s1 ?kS1s1, Sd.kit_ref ?kD2 ?kY2 ?kS1s2 ?kS1s1, Sd.kit_ref ?kD3 ?kY3 ?kS1s3 ?kS1s1, Sd.kit_ref ?kD4 ?kY4 ?kS1s4 ?kS1s1, Sd.kit_ref ?kD5 ?kY5 ?kS1s5 ?kS1s1, Sd.kit_ref ?kD6 ?kY6 ?kS1s6 ?kS1s1, Sd.kit_ve ?kV1, PySem.W.exm_ref ?kB6 ?kD6 ?kY6 ?kS1s6⟩, ⟨⟨?kG2, ?kH2, ?kB2, ?kD2, ?kA2, ?kN, ?kT, ?kM2⟩, Sd.kit_ref ?kD0 ?kY0 ?kS2s0 ?kS2s2, Sd.kit_ref ?kD1 ?kY1 ?kS2s1 ?kS2s2, Sd.kit_ref ?kD2 ?kY2 ?kS2s2 ?kS2s2, Sd.kit_ref ?kD3 ?kY3 ?kS2s3 ?kS2s2, Sd.kit_ref ?kD4 ?kY4 ?kS2s4 ?kS2s2, Sd.kit_ref ?kD5 ?kY5 ?kS2s5 ?kS2s2, Sd.kit_ref ?kD6 ?kY6 ?kS2s6 ?kS2s2, Sd.kit_ve ?kV2, PySem.W.exm_ref ?kB6 ?kD6 ?kY6 ?kS2s6⟩, ⟨⟨?kG3, ?kH3, ?kB3, ?kD3, ?kA3, ?kN, ?kT, ?kM3⟩, Sd.kit_ref ?kD0 ?kY0 ?kS3s0 ?kS3s3, Sd.kit_ref ?kD1 ?kY1 ?kS3s1 ?kS3s3, Sd.kit_ref ?kD2 ?kY2 ?kS3s2 ?kS3s3, Sd.kit_ref ?kD3 ?kY3 ?kS3s3 ?kS3s3, Sd.kit_ref ?kD4 ?kY4 ?kS3s4 ?kS3s3, Sd.kit_ref ?kD5 ?kY5 ?kS3s5 ?kS3s3, Sd.kit_ref ?kD6 ?kY6 ?kS3s6 ?kS3s3, Sd.kit_ve ?kV3, PySem.W.exm_ref ?kB6 ?kD6 ?kY6 ?kS3s6⟩, ⟨⟨?kG4, ?kH4, ?kB4, ?kD4, ?kA4, ?kN, ?kT, ?kM4⟩, Sd.kit_ref ?kD0 ?kY0 ?kS4s0 ?kS4s4, Sd.kit_ref ?kD1 ?kY1 ?kS4s1 ?kS4s4, Sd.kit_ref ?kD2 ?kY2 ?kS4s2 ?kS4s4, Sd.kit_ref ?kD3 ?kY3 ?kS4s3 ?kS4s4, Sd.kit_ref ?kD4 ?kY4 ?kS4s4 ?kS4s4, Sd.kit_ref ?kD5 ?kY5 ?kS4s5 ?kS4s4, Sd.kit_ref ?kD6 ?kY6 ?kS4s6 ?kS4s4, Sd.kit_ve ?kV4, PySem.W.exm_ref ?kB6 ?kD6 ?kY6 ?kS4s6⟩, ⟨⟨?kG5, ?kH5, ?kB5, ?kD5, ?kA5, ?kN, ?kT, ?kM5⟩, Sd.kit_ref ?kD0 ?kY0 ?kS5s0 ?kS5s5, Sd.kit_ref ?kD1 ?kY1 ?kS5s1 ?kS5s5, Sd.kit_ref ?kD2 ?kY2 ?kS5s2 ?kS5s5, Sd.kit_ref ?kD3 ?kY3 ?kS5s3 ?kS5s5, Sd.kit_ref ?kD4 ?kY4 ?kS5s4 ?kS5s5, Sd.kit_ref ?kD5 ?kY5 ?kS5s5 ?kS5s5, Sd.kit_ref ?kD6 ?kY6 ?kS5s6 ?kS5s5, Sd.kit_ve ?kV5, PySem.W.exm_ref ?kB6 ?kD6 ?kY6 ?kS5s6⟩, PySem.W.mg_none_of KX G ?z30, PySem.W.mg_none_of KX G ?z31, PySem.W.mg_none_of KX G ?z32, PySem.W.mg_none_of KX G ?z33, PySem.W.mg_none_of KX G ?z34, PySem.W.mg_none_of KX G ?z35, PySem.W.mg_none_of KX G ?z36, PySem.W.mg_none_of KX G ?z37, PySem.W.mg_none_of KX G ?z38, PySem.W.mg_none_of KX G ?z39, PySem.W.mg_none_of KX G ?z40, PySem.W.mg_none_of KX G ?z41, PySem.W.mg_none_of KX G ?z42⟩ hmg
    (case a0 => k_is)
    (case a1 => k_is)
    (case a2 => k_is)
    (case a3 => k_is)
    (case a4 => k_is)
    (case a5 => k_is)
    (case a6 => k_is)
    (case a7 => k_is)
    (case a8 => k_is)
    (case a9 => k_is)
    (case a10 => k_is)
    (case a11 => k_is)
    (case a12 => k_is)
    (case aCC => k_is)
    (case a13 => k_is)
    (case a14 => k_is)
    (case a15 => k_is)
    (case a16 => k_is)
    (case a17 => k_is)
    (case a18 => k_is)
    (case a19 => k_is)
    (case a20 => k_is)
    (case a21 => k_is)
    (case a22 => k_is)
    (case a23 => k_is)
    (case a24 => k_is)
    (case a25 => k_is)
    (case a26 => k_is)
    (case a27 => k_is)
    (case a28 => k_is)
    (case a29 => k_is)
    (case x0 => k_exc)
    (case k0 => k_is)
    (case b0 => k_is)
    (case t0 => k_is)
    (case x1 => k_exc)
    (case k1 => k_is)
    (case b1 => k_is)
    (case t1 => k_is)
    (case x2 => k_exc)
    (case k2 => k_is)
    (case b2 => k_is)
    (case t2 => k_is)
    (case x3 => k_exc)
    (case k3 => k_is)
    (case b3 => k_is)
    (case t3 => k_is)
    (case x4 => k_exc)
    (case k4 => k_is)
    (case b4 => k_is)
    (case t4 => k_is)
    (case x5 => k_exc)
    (case k5 => k_is)
    (case b5 => k_is)
    (case t5 => k_is)
    (case x6 => k_exc)
    (case k6 => k_is)
    (case b6 => k_is)
    (case t6 => k_is)
    (case l7 => k_is)
    (case c7 => k_is)
    (case k7 => k_is)
    (case l8 => k_is)
    (case c8 => k_is)
    (case k8 => k_is)
    (case l9 => k_is)
    (case c9 => k_is)
    (case k9 => k_is)
    (case l10 => k_is)
    (case c10 => k_is)
    (case k10 => k_is)
    (case l11 => k_is)
    (case c11 => k_is)
    (case k11 => k_is)
    (case l12 => k_is)
    (case c12 => k_is)
    (case k12 => k_is)
    (case yp => k_is)
    (case yh => k_is)
    (case yo => k_is)
    (case ys => k_is)
    (case ym => k_is)
    (case yk => k_is)
    (case yY => (unfold L2.NoAttr; k_is))
    (case yL => (unfold L2.NoAttr; k_is))
    (case i13 => k_is)
    (case l13 => k_is)
    (case c13 => k_is)
    (case k13 => k_is)
    (case i14 => k_is)
    (case l14 => k_is)
    (case c14 => k_is)
    (case k14 => k_is)
    (case i15 => k_is)
    (case l15 => k_is)
    (case c15 => k_is)
    (case k15 => k_is)
    (case i16 => k_is)
    (case l16 => k_is)
    (case c16 => k_is)
    (case k16 => k_is)
    (case i17 => k_is)
    (case l17 => k_is)
    (case c17 => k_is)
    (case k17 => k_is)
    (case i18 => k_is)
    (case l18 => k_is)
    (case c18 => k_is)
    (case k18 => k_is)
    (case i19 => k_is)
    (case l19 => k_is)
    (case c19 => k_is)
    (case k19 => k_is)
    (case i20 => k_is)
    (case l20 => k_is)
    (case c20 => k_is)
    (case k20 => k_is)
    (case l21 => k_is)
    (case c21 => k_is)
    (case k21 => k_is)
    (case l22 => k_is)
    (case c22 => k_is)
    (case k22 => k_is)
    (case l23 => k_is)
    (case c23 => k_is)
    (case k23 => k_is)
    (case l24 => k_is)
    (case c24 => k_is)
    (case k24 => k_is)
    (case l25 => k_is)
    (case c25 => k_is)
    (case k25 => k_is)
    (case l26 => k_is)
    (case c26 => k_is)
    (case k26 => k_is)
    (case l27 => k_is)
    (case c27 => k_is)
    (case k27 => k_is)
    (case l28 => k_is)
    (case c28 => k_is)
    (case k28 => k_is)
    (case l29 => k_is)
    (case c29 => k_is)
    (case k29 => k_is)
    (case kG0 => k_is)
    (case kH0 => k_is)
    (case kA0 => k_is)
    (case kM0 => k_is)
    (case kV0 => k_is)
    (case kS0s0 => k_is)
    (case kS0s1 => k_is)
    (case kS0s2 => k_is)
    (case kS0s3 => k_is)
    (case kS0s4 => k_is)
    (case kS0s5 => k_is)
    (case kS0s6 => k_is)
    (case kG1 => k_is)
    (case kH1 => k_is)
    (case kA1 => k_is)
    (case kM1 => k_is)
    (case kV1 => k_is)
    (case kS1s0 => k_is)
    (case kS1s1 => k_is)
    (case kS1s2 => k_is)
    (case kS1s3 => k_is)
    (case kS1s4 => k_is)
    (case kS1s5 => k_is)
    (case kS1s6 => k_is)
    (case kG2 => k_is)
    (case kH2 => k_is)
    (case kA2 => k_is)
    (case kM2 => k_is)
    (case kV2 => k_is)
    (case kS2s0 => k_is)
    (case kS2s1 => k_is)
    (case kS2s2 => k_is)
    (case kS2s3 => k_is)
    (case kS2s4 => k_is)
    (case kS2s5 => k_is)
    (case kS2s6 => k_is)
    (case kG3 => k_is)
    (case kH3 => k_is)
    (case kA3 => k_is)
    (case kM3 => k_is)
    (case kV3 => k_is)
    (case kS3s0 => k_is)
    (case kS3s1 => k_is)
    (case kS3s2 => k_is)
    (case kS3s3 => k_is)
    (case kS3s4 => k_is)
    (case kS3s5 => k_is)
    (case kS3s6 => k_is)
    (case kG4 => k_is)
    (case kH4 => k_is)
    (case kA4 => k_is)
    (case kM4 => k_is)
    (case kV4 => k_is)
    (case kS4s0 => k_is)
    (case kS4s1 => k_is)
    (case kS4s2 => k_is)
    (case kS4s3 => k_is)
    (case kS4s4 => k_is)
    (case kS4s5 => k_is)
    (case kS4s6 => k_is)
    (case kG5 => k_is)
    (case kH5 => k_is)
    (case kA5 => k_is)
    (case kM5 => k_is)
    (case kV5 => k_is)
    (case kS5s0 => k_is)
    (case kS5s1 => k_is)
    (case kS5s2 => k_is)
    (case kS5s3 => k_is)
    (case kS5s4 => k_is)
    (case kS5s5 => k_is)
    (case kS5s6 => k_is)
    (case kN => k_is)
    (case kT => k_is)
    (case kB0 => k_is)
    (case kB1 => k_is)
    (case kB2 => k_is)
    (case kB3 => k_is)
    (case kB4 => k_is)
    (case kB5 => k_is)
    (case kB6 => k_is)
    (case kD0 => k_is)
    (case kD1 => k_is)
    (case kD2 => k_is)
    (case kD3 => k_is)
    (case kD4 => k_is)
    (case kD5 => k_is)
    (case kD6 => k_is)
    (case kY0 => k_is)
    (case kY1 => k_is)
    (case kY2 => k_is)
    (case kY3 => k_is)
    (case kY4 => k_is)
    (case kY5 => k_is)
    (case kY6 => k_is)
    (case z30 => k_is)
    (case z31 => k_is)
    (case z32 => k_is)
    (case z33 => k_is)
    (case z34 => k_is)
    (case z35 => k_is)
    (case z36 => k_is)
    (case z37 => k_is)
    (case z38 => k_is)
    (case z39 => k_is)
    (case z40 => k_is)
    (case z41 => k_is)
    (case z42 => k_is)
