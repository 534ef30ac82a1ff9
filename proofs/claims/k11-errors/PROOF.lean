import PyProof.Rows.All
import Wide.All
import OpenK.AllK
import Wide.FinOn
import HandS.Base
import HandS.Call
import HandS.List
import HandS.Comp
import HandS.Ends
import HandS.Dict
import HandS.Iter
import HandS.Text
import HandS.Exc
import HandS.TryOnly
import HandS.ExcOwn
import HandS.ExcValue
import HandS.IsInst
import HandS.Wide
import HandS.Words
import HandS.WordsList
import HandS.WordsDict
import HandS.WordsExc
import HandS.Style
import HandS.Deep
import HandS.ExcIs
import KE.DataFind
import HandS.Strs
import HandS.More
import HandS.SortRule
import HandS.Conv
import HandS.DictTup
import KE.KDictDisplayH
import HandS.TupSets
import HandS.SortOrd
import HandS.CallSlots
import HandS.SlotsOwn
import HandS.SetFor
import PySem.Challenge.RW_samedays_k11_errors
set_option Elab.async false
set_option linter.all false
set_option maxRecDepth 100000
set_option maxHeartbeats 16000000
/-! data over the layer: what a value stands for, what is owned, judgements over data -/
namespace Sd
open PySem PySem.Spec PyProof.Rows L2

mutual
inductive Rep (H : Hp) : V → PyData → Prop
  | non : Rep H .non .none
  | bl (b : Bool) : Rep H (.bl b) (.bool b)
  | int (i : Int) : Rep H (.int i) (.int i)
  | str (x : Str) : Rep H (.str x) (.str x)
  | lst {a : Addr} {xs : List V} {ds : List PyData} : H a = some (.lst xs) → Reps H xs ds → Rep H (.ref a) (.list ds)
  | tup {a : Addr} {xs : List V} {ds : List PyData} : H a = some (.tup xs) → Reps H xs ds → Rep H (.ref a) (.tuple ds)
inductive Reps (H : Hp) : List V → List PyData → Prop
  | nil : Reps H [] []
  | cons {v : V} {vs : List V} {d : PyData} {ds : List PyData} : Rep H v d → Reps H vs ds → Reps H (v :: vs) (d :: ds)
end
section
variable {H H' : Hp} {K : PySem.W.Frag}
theorem Rep.mono (e : Same H H') {v : V} {d : PyData} (h : Rep H v d) : Rep H' v d :=
  Rep.rec (motive_1 := fun v d _ => Rep H' v d) (motive_2 := fun vs ds _ => Reps H' vs ds) .non .bl .int .str (fun h _ r => .lst (e _ _ h) r) (fun h _ r => .tup (e _ _ h) r) .nil (fun _ _ a b => .cons a b) h
theorem Reps.mono (e : Same H H') {v : List V} {d : List PyData} (h : Reps H v d) : Reps H' v d :=
  Reps.rec (motive_1 := fun v d _ => Rep H' v d) (motive_2 := fun vs ds _ => Reps H' vs ds) .non .bl .int .str (fun h _ r => .lst (e _ _ h) r) (fun h _ r => .tup (e _ _ h) r) .nil (fun _ _ a b => .cons a b) h
theorem Rep.dp {v : V} {d : PyData} (h : Rep H v d) : Dp K H v d :=
  Rep.rec (motive_1 := fun v d _ => Dp K H v d) (motive_2 := fun vs ds _ => DpAll K H vs ds) .non .bl .int .str (fun h _ r => .lst (SqL.of h) r) (fun h _ r => .tup (SqT.of h) r) .nil (fun _ _ a b => .cons a b) h
theorem Reps.length : ∀ {vs : List V} {ds : List PyData}, Reps H vs ds → vs.length = ds.length
  | _, _, .nil => rfl
  | _, _, .cons _ r => congrArg (· + 1) r.length
theorem Reps.get : ∀ {vs : List V} {ds : List PyData} {i : Nat} {d : PyData}, Reps H vs ds → ds[i]? = some d → ∃ v, vs[i]? = some v ∧ Rep H v d
  | _, _, _, _, .nil, e => by simp at e
  | _, _, 0, _, .cons a _, e => by simp at e; subst e; exact ⟨_, rfl, a⟩
  | _, _, i + 1, d, .cons _ r, e => by
    obtain ⟨v, h1, h2⟩ := Reps.get (i := i) (d := d) r (by simpa using e)
    exact ⟨v, by simpa using h1, h2⟩
theorem Reps.append : ∀ {xs ys : List V} {us ws : List PyData}, Reps H xs us → Reps H ys ws → Reps H (xs ++ ys) (us ++ ws)
  | _, _, _, _, .nil, s => s
  | _, _, _, _, .cons r t, s => .cons r (Reps.append t s)
theorem Reps.take : ∀ {xs : List V} {us : List PyData} (n : Nat), Reps H xs us → Reps H (xs.take n) (us.take n)
  | _, _, 0, _ => .nil
  | _, _, _ + 1, .nil => .nil
  | _, _, n + 1, .cons r t => .cons r (Reps.take n t)
theorem Reps.drop : ∀ {xs : List V} {us : List PyData} (n : Nat), Reps H xs us → Reps H (xs.drop n) (us.drop n)
  | _, _, 0, r => r
  | _, _, _ + 1, .nil => .nil
  | _, _, n + 1, .cons _ t => Reps.drop n t
theorem Reps.set {x : V} {u : PyData} (r : Rep H x u) : ∀ {xs : List V} {us : List PyData} (i : Nat), Reps H xs us → Reps H (xs.set i x) (us.set i u)
  | _, _, _, .nil => .nil
  | _, _, 0, .cons _ t => .cons r t
  | _, _, i + 1, .cons q t => .cons q (Reps.set r i t)
theorem Reps.reverse : ∀ {xs : List V} {us : List PyData}, Reps H xs us → Reps H xs.reverse us.reverse
  | _, _, .nil => .nil
  | _, _, .cons r t => by
    rw [List.reverse_cons, List.reverse_cons]
    exact t.reverse.append (.cons r .nil)
theorem Reps.ints : ∀ (ns : List Int), Reps H (ns.map V.int) (ns.map PyData.int)
  | [] => .nil
  | n :: r => .cons (.int n) (Reps.ints r)
theorem Reps.of_ints : ∀ {ns : List Int} {vs : List V}, Reps H vs (ns.map PyData.int) → vs = ns.map V.int
  | [], _, .nil => rfl
  | n :: r, _, .cons h t => by
    cases h
    rw [Reps.of_ints t]
    rfl
theorem Reps.of_bls : ∀ {ns : List Bool} {vs : List V}, Reps H vs (ns.map PyData.bool) → vs = ns.map V.bl
  | [], _, .nil => rfl
  | n :: r, _, .cons h t => by
    cases h
    rw [Reps.of_bls t]
    rfl
theorem Reps.of_strs : ∀ {ns : List Str} {vs : List V}, Reps H vs (ns.map PyData.str) → vs = ns.map V.str
  | [], _, .nil => rfl
  | n :: r, _, .cons h t => by
    cases h
    rw [Reps.of_strs t]
    rfl
end

/-! ### weakest readings -/
section
variable {X : Cx}
structure wE (X : Cx) (e : Expr) (σ : L2.St) (H : Hp) (Q : VK) : Prop where
  run : ∀ (pins : List (Addr × Obj)) (s : Shared), Inv X pins σ H s → wpAny (model X.prog X.w) X.A (eval e X.env) (EP X pins σ Q) X.xe s
structure wT (X : Cx) (e : Expr) (σ : L2.St) (H : Hp) (Q : Bool → Hp → Prop) : Prop where
  run : ∀ (pins : List (Addr × Obj)) (s : Shared), Inv X pins σ H s → wpAny (model X.prog X.w) X.A (isTrue e X.env (eval e X.env)) (TP X pins σ Q) X.xe s
structure wW (X : Cx) (e : Expr) (σ : L2.St) (H : Hp) (Q : Bool → Hp → Prop) : Prop where
  run : ∀ (whole : Sem Value) (pins : List (Addr × Obj)) (s : Shared), Inv X pins σ H s → wpAny (model X.prog X.w) X.A (isTrue e X.env whole) (TP X pins σ Q) X.xe s
structure wA (X : Cx) (es : List Expr) (σ : L2.St) (H : Hp) (Q : List V → Hp → Prop) : Prop where
  run : ∀ (pos : Pos) (pins : List (Addr × Obj)) (s : Shared), Inv X pins σ H s → wpAny (model X.prog X.w) X.A (spliced (backTo pos (starEach es X.env))) (AP X pins σ Q) X.xe s
structure wS (X : Cx) (st : Stmt) (D : Ends) (σ : L2.St) (H : Hp) : Prop where
  run : ∀ (pins : List (Addr × Obj)) (s : Shared), Inv X pins σ H s → wpAny (model X.prog X.w) X.A (exec st X.env) (SP X pins D) X.xe s
structure wSs (X : Cx) (st : List Stmt) (D : Ends) (σ : L2.St) (H : Hp) : Prop where
  run : ∀ (pins : List (Addr × Obj)) (s : Shared), Inv X pins σ H s → wpAny (model X.prog X.w) X.A (execs st X.env) (SP X pins D) X.xe s
theorem peW {e : Expr} : PE X e (wE X e) := ⟨fun pins s _ _ _ I h => h.run pins s I⟩
theorem ptW {e : Expr} : PT X e (wT X e) := ⟨fun pins s _ _ _ I h => h.run pins s I⟩
theorem pwW {e : Expr} : PW X e (wW X e) := ⟨fun wh pins s _ _ _ I h => h.run wh pins s I⟩
theorem paW {es : List Expr} : PA X es (wA X es) := ⟨fun pos pins s _ _ _ I h => h.run pos pins s I⟩
theorem psW {st : Stmt} : PS X st (wS X st) := ⟨fun pins s _ _ _ I h => h.run pins s I⟩
theorem pssW {st : List Stmt} : PSs X st (wSs X st) := ⟨fun pins s _ _ _ I h => h.run pins s I⟩
theorem wE.of {e : Expr} {t : TE} (h : PE X e t) {σ : L2.St} {H : Hp} {Q : VK} (q : t σ H Q) : wE X e σ H Q := ⟨fun pins s I => h.run pins s σ H Q I q⟩
theorem wT.of {e : Expr} {t : TT} (h : PT X e t) {σ : L2.St} {H : Hp} {Q : Bool → Hp → Prop} (q : t σ H Q) : wT X e σ H Q := ⟨fun pins s I => h.run pins s σ H Q I q⟩
theorem wW.of {e : Expr} {t : TT} (h : PW X e t) {σ : L2.St} {H : Hp} {Q : Bool → Hp → Prop} (q : t σ H Q) : wW X e σ H Q := ⟨fun wh pins s I => h.run wh pins s σ H Q I q⟩
theorem wA.of {es : List Expr} {t : TA} (h : PA X es t) {σ : L2.St} {H : Hp} {Q : List V → Hp → Prop} (q : t σ H Q) : wA X es σ H Q := ⟨fun pos pins s I => h.run pos pins s σ H Q I q⟩
theorem wS.of {st : Stmt} {t : TS} (h : PS X st t) {σ : L2.St} {H : Hp} {D : Ends} (q : t D σ H) : wS X st D σ H := ⟨fun pins s I => h.run pins s σ H D I q⟩
theorem wSs.of {st : List Stmt} {t : TS} (h : PSs X st t) {σ : L2.St} {H : Hp} {D : Ends} (q : t D σ H) : wSs X st D σ H := ⟨fun pins s I => h.run pins s σ H D I q⟩
end

/-! ### what is known of the heap -/
inductive Slot where
  | un
  | d (x : PyData)
  | raw (v : V)
inductive OO where
  | lst (ds : List PyData)
  | raw (o : HO)
  | dt (tb : List (List Int × PyData))
  | dl (od : Obj) (kvs : List (List Key × V)) (tb : List (List Int × PyData))
  | dk (tb : List (Int × PyData))
abbrev Own := List (Addr × OO)
structure Bs where
  Hf : Hp
  HB : Hp
/-- a dict with tuples of ints as keys, as data -/
structure DtOk (Hf : Hp) (kvs : List (List Key × V)) (tb : List (List Int × PyData)) : Prop where
  ks : kvs.map (·.1) = tb.map fun e => e.1.map Sum.inl
  vs : Reps Hf (kvs.map (·.2)) (tb.map (·.2))
structure DkOk (Hf : Hp) (kvs : List (Key × V)) (tb : List (Int × PyData)) : Prop where
  ks : kvs.map (·.1) = tb.map fun e => Sum.inl e.1
  vs : Reps Hf (kvs.map (·.2)) (tb.map (·.2))
def OwnOk (Hf H : Hp) (p : Addr) : OO → Prop
  | .lst ds => ∃ vs, H p = some (.lst vs) ∧ Reps Hf vs ds
  | .raw o => H p = some o
  | .dt tb => ∃ kvs, H p = some (.dT kvs) ∧ DtOk Hf kvs tb
  | .dl od kvs tb => H p = some (.frz od (.dT kvs)) ∧ DtOk Hf kvs tb
  | .dk tb => ∃ kvs, H p = some (.dK kvs) ∧ DkOk Hf kvs tb
theorem OwnOk.mono {Hf Hf' H H' : Hp} {p : Addr} {o : OO} (e : Same Hf Hf') (h : ∀ u, H p = some u → H' p = some u) (x : OwnOk Hf H p o) : OwnOk Hf' H' p o := by
  cases o with
  | lst ds => obtain ⟨vs, h1, h2⟩ := x; exact ⟨vs, h _ h1, h2.mono e⟩
  | raw o => exact h _ x
  | dt tb => obtain ⟨vs, h1, h2⟩ := x; exact ⟨vs, h _ h1, h2.ks, h2.vs.mono e⟩
  | dl od kvs tb => obtain ⟨h1, h2⟩ := x; exact ⟨h _ h1, h2.ks, h2.vs.mono e⟩
  | dk tb => obtain ⟨vs, h1, h2⟩ := x; exact ⟨vs, h _ h1, h2.ks, h2.vs.mono e⟩
theorem OwnOk.there {Hf H : Hp} {p : Addr} {o : OO} (x : OwnOk Hf H p o) : ∃ u, H p = some u := by
  cases o with
  | lst ds => obtain ⟨vs, h1, h2⟩ := x; exact ⟨_, h1⟩
  | raw o => exact ⟨_, x⟩
  | dt tb => obtain ⟨vs, h1, h2⟩ := x; exact ⟨_, h1⟩
  | dl od kvs tb => obtain ⟨h1, h2⟩ := x; exact ⟨_, h1⟩
  | dk tb => obtain ⟨vs, h1, h2⟩ := x; exact ⟨_, h1⟩
structure Sat (B : Bs) (Hf H : Hp) (own : Own) : Prop where
  e0 : Same B.Hf Hf
  e1 : Same Hf H
  eb : Same B.HB H
  fr : ∀ p o, Hf p = some o → B.Hf p = none → B.HB p = none
  ow : ∀ q ∈ own, Hf q.1 = none ∧ B.HB q.1 = none ∧ OwnOk Hf H q.1 q.2
  nd : (own.map Prod.fst).Nodup
  tp : ∀ p xs, H p = some (.tup xs) → Hf p = some (.tup xs)
theorem same_upd {H H' : Hp} {p : Addr} {o : HO} (e : Same H H') (h : H p = none) : Same H (upd H' p o) := fun b x q => by
  rw [upd_ne (ne_of_none q h)]
  exact e b x q
theorem same_upd2 {H H' : Hp} {p : Addr} {o : HO} (e : Same H H') : Same (upd H p o) (upd H' p o) := fun b x q => by
  by_cases hb : b = p
  · subst hb; rw [upd_same] at q ⊢; exact q
  · rw [upd_ne hb] at q ⊢; exact e b x q
section
variable {B : Bs} {Hf H : Hp} {own : Own} {p : Addr}
theorem Sat.none_f (S : Sat B Hf H own) (n : H p = none) : Hf p = none := S.e1.free n
theorem Sat.none_b (S : Sat B Hf H own) (n : H p = none) : B.HB p = none := S.eb.free n
theorem Sat.none_0 (S : Sat B Hf H own) (n : H p = none) : B.Hf p = none := S.e0.free (S.e1.free n)
theorem Sat.ne (S : Sat B Hf H own) (n : H p = none) {q : Addr × OO} (hq : q ∈ own) : q.1 ≠ p := by
  obtain ⟨_, _, c⟩ := S.ow q hq
  obtain ⟨u, hu⟩ := c.there
  exact ne_of_none hu n
/-- a new thing that will not change -/
theorem Sat.new (S : Sat B Hf H own) (n : H p = none) (o : HO) : Sat B (upd Hf p o) (upd H p o) own where
  e0 := same_upd S.e0 (S.none_0 n)
  e1 := same_upd2 S.e1
  eb := same_upd S.eb (S.none_b n)
  fr := fun q u h hb => by
    by_cases e : q = p
    · rw [e]; exact S.none_b n
    · rw [upd_ne e] at h; exact S.fr q u h hb
  ow := fun q hq => by
    obtain ⟨a, b, c⟩ := S.ow q hq
    have ne := S.ne n hq
    exact ⟨by rw [upd_ne ne]; exact a, b, c.mono (same_upd (Same.refl _) (S.none_f n)) fun u hu => by rw [upd_ne ne]; exact hu⟩
  nd := S.nd
  tp := fun q xs h => by
    by_cases e : q = p
    · subst e; rw [upd_same] at h ⊢; exact h
    · rw [upd_ne e] at h ⊢; exact S.tp q xs h
theorem Sat.new_same (S : Sat B Hf H own) (n : H p = none) (o : HO) : Same Hf (upd Hf p o) := same_upd (Same.refl _) (S.none_f n)
/-- a new thing of one's own -/
theorem Sat.newOwn (S : Sat B Hf H own) (n : H p = none) {o : HO} {oo : OO} (ok : OwnOk Hf (upd H p o) p oo) (nt : ∀ xs, o ≠ .tup xs := by intro _ z; cases z) : Sat B Hf (upd H p o) ((p, oo) :: own) where
  e0 := S.e0
  e1 := same_upd S.e1 (S.none_f n)
  eb := same_upd S.eb (S.none_b n)
  fr := S.fr
  ow := fun q hq => by
    rcases List.mem_cons.mp hq with rfl | hq
    · exact ⟨S.none_f n, S.none_b n, ok⟩
    · obtain ⟨a, b, c⟩ := S.ow q hq
      have ne := S.ne n hq
      exact ⟨a, b, c.mono (Same.refl _) fun u hu => by rw [upd_ne ne]; exact hu⟩
  nd := by
    rw [List.map_cons, List.nodup_cons]
    refine ⟨fun hm => ?_, S.nd⟩
    obtain ⟨q, hq, e⟩ := List.mem_map.mp hm
    exact S.ne n hq e
  tp := fun q xs h => by
    by_cases e : q = p
    · subst e; rw [upd_same] at h; exact absurd (Option.some.inj h) (nt xs)
    · rw [upd_ne e] at h; exact S.tp q xs h
theorem Sat.at (S : Sat B Hf H own) {oo : OO} (h : (p, oo) ∈ own) : Hf p = none ∧ B.HB p = none ∧ OwnOk Hf H p oo := S.ow _ h
/-- a thing of one's own changes -/
theorem Sat.write {oa ob : Own} {oo oo' : OO} {o : HO} (S : Sat B Hf H (oa ++ (p, oo) :: ob)) (ok : OwnOk Hf (upd H p o) p oo') (nt : ∀ xs, o ≠ .tup xs := by intro _ z; cases z) : Sat B Hf (upd H p o) (oa ++ (p, oo') :: ob) := by
  obtain ⟨a, b, _⟩ := S.at (p := p) (oo := oo) (by simp)
  have nd := S.nd
  rw [List.map_append, List.map_cons] at nd
  refine ⟨S.e0, same_upd S.e1 a, same_upd S.eb b, S.fr, fun q hq => ?_, by rw [List.map_append, List.map_cons]; exact nd, fun q xs h => ?_⟩
  rotate_left
  · by_cases e : q = p
    · subst e; rw [upd_same] at h; exact absurd (Option.some.inj h) (nt xs)
    · rw [upd_ne e] at h; exact S.tp q xs h
  have key : q ∈ oa ∨ q ∈ ob → Hf q.1 = none ∧ B.HB q.1 = none ∧ OwnOk Hf (upd H p o) q.1 q.2 := fun hq => by
    have hm : q ∈ oa ++ (p, oo) :: ob := by
      rcases hq with h | h
      · exact List.mem_append_left _ h
      · exact List.mem_append_right _ (List.mem_cons_of_mem _ h)
    obtain ⟨a', b', c'⟩ := S.ow q hm
    have ne : q.1 ≠ p := fun e => by
      rcases hq with h | h
      · exact (List.nodup_append.mp nd).2.2 q.1 (List.mem_map.mpr ⟨q, h, rfl⟩) p (List.mem_cons_self) e
      · have := (List.nodup_cons.mp (List.nodup_append.mp nd).2.1).1
        exact this (List.mem_map.mpr ⟨q, h, e⟩)
    exact ⟨a', b', c'.mono (Same.refl _) fun u hu => by rw [upd_ne ne]; exact hu⟩
  rcases List.mem_append.mp hq with h | h
  · exact key (.inl h)
  · rcases List.mem_cons.mp h with rfl | h
    · exact ⟨a, b, ok⟩
    · exact key (.inr h)
/-- a list of one's own will not change any more -/
theorem Sat.freeze {oa ob : Own} {ds : List PyData} (S : Sat B Hf H (oa ++ (p, .lst ds) :: ob)) : ∃ Hf', Same Hf Hf' ∧ Sat B Hf' H (oa ++ ob) ∧ Rep Hf' (.ref p) (.list ds) := by
  obtain ⟨a, b, vs, hp, hr⟩ := S.at (p := p) (oo := .lst ds) (by simp)
  have nd := S.nd
  rw [List.map_append, List.map_cons] at nd
  have sm : Same Hf (upd Hf p (.lst vs)) := same_upd (Same.refl _) a
  refine ⟨upd Hf p (.lst vs), sm, ⟨S.e0.trans sm, fun q u h => ?_, S.eb, fun q u h hb => ?_, fun q hq => ?_, ?_, fun q xs h => sm _ _ (S.tp q xs h)⟩, .lst upd_same (hr.mono sm)⟩
  · by_cases e : q = p
    · subst e; rw [upd_same] at h; rw [hp]; exact h
    · rw [upd_ne e] at h; exact S.e1 q u h
  · by_cases e : q = p
    · subst e; exact b
    · rw [upd_ne e] at h; exact S.fr q u h hb
  · have hm : q ∈ oa ++ (p, .lst ds) :: ob := by
      rcases List.mem_append.mp hq with h | h
      · exact List.mem_append_left _ h
      · exact List.mem_append_right _ (List.mem_cons_of_mem _ h)
    obtain ⟨a', b', c'⟩ := S.ow q hm
    have ne : q.1 ≠ p := fun e => by
      rcases List.mem_append.mp hq with h | h
      · exact (List.nodup_append.mp nd).2.2 q.1 (List.mem_map.mpr ⟨q, h, rfl⟩) p (List.mem_cons_self) e
      · have := (List.nodup_cons.mp (List.nodup_append.mp nd).2.1).1
        exact this (List.mem_map.mpr ⟨q, h, e⟩)
    exact ⟨by rw [upd_ne ne]; exact a', b', c'.mono sm fun u hu => hu⟩
  · rw [List.map_append]
    refine List.nodup_append.mpr ⟨(List.nodup_append.mp nd).1, (List.nodup_cons.mp (List.nodup_append.mp nd).2.1).2, fun x hx y hy => (List.nodup_append.mp nd).2.2 x hx y (List.mem_cons_of_mem _ hy)⟩
/-- forget a thing of one's own -/
theorem Sat.drop {oa ob : Own} {oo : OO} (S : Sat B Hf H (oa ++ (p, oo) :: ob)) : Sat B Hf H (oa ++ ob) := by
  have nd := S.nd
  rw [List.map_append, List.map_cons] at nd
  refine ⟨S.e0, S.e1, S.eb, S.fr, fun q hq => S.ow q ?_, ?_, S.tp⟩
  · rcases List.mem_append.mp hq with h | h
    · exact List.mem_append_left _ h
    · exact List.mem_append_right _ (List.mem_cons_of_mem _ h)
  · rw [List.map_append]
    refine List.nodup_append.mpr ⟨(List.nodup_append.mp nd).1, (List.nodup_cons.mp (List.nodup_append.mp nd).2.1).2, fun x hx y hy => (List.nodup_append.mp nd).2.2 x hx y (List.mem_cons_of_mem _ hy)⟩
end

/-! ### slots -/
def SlotR (Hf : Hp) (v : V) : Slot → Prop
  | .un => True
  | .d x => Rep Hf v x
  | .raw w => v = w
theorem SlotR.mono {Hf Hf' : Hp} (e : Same Hf Hf') {v : V} {s : Slot} (h : SlotR Hf v s) : SlotR Hf' v s := by
  cases s with
  | un => trivial
  | d x => exact Rep.mono e h
  | raw w => exact h
structure EnvR (Hf : Hp) (σ : L2.St) (ρ : List Slot) : Prop where
  len : σ.length = ρ.length
  at_ : ∀ (i : Nat) (s : Slot), ρ[i]? = some s → s = .un ∨ ∃ v, σ[i]? = some (some v) ∧ SlotR Hf v s
section
variable {Hf Hf' : Hp} {σ : L2.St} {ρ : List Slot}
theorem EnvR.mono (e : Same Hf Hf') (h : EnvR Hf σ ρ) : EnvR Hf' σ ρ := ⟨h.len, fun i s q => by
  rcases h.at_ i s q with z | ⟨v, z, r⟩
  · exact .inl z
  · exact .inr ⟨v, z, r.mono e⟩⟩
theorem EnvR.set (h : EnvR Hf σ ρ) {v : V} {s : Slot} (r : SlotR Hf v s) (i : Nat) : EnvR Hf (σ.set i (some v)) (ρ.set i s) := by
  refine ⟨by rw [List.length_set, List.length_set]; exact h.len, fun j t q => ?_⟩
  by_cases e : i = j
  · subst e
    by_cases hi : i < ρ.length
    · rw [List.getElem?_set_self hi] at q
      cases q
      exact .inr ⟨v, by rw [List.getElem?_set_self (by rw [h.len]; exact hi)], r⟩
    · rw [List.getElem?_eq_none (by simpa using hi)] at q
      cases q
  · rw [List.getElem?_set_ne e] at q
    rcases h.at_ j t q with z | ⟨w, z, r'⟩
    · exact .inl z
    · exact .inr ⟨w, by rw [List.getElem?_set_ne e]; exact z, r'⟩
theorem EnvR.unset (h : EnvR Hf σ ρ) (i : Nat) (o : Option V) : EnvR Hf (σ.set i o) (ρ.set i .un) := by
  refine ⟨by rw [List.length_set, List.length_set]; exact h.len, fun j t q => ?_⟩
  by_cases e : i = j
  · subst e
    by_cases hi : i < ρ.length
    · rw [List.getElem?_set_self hi] at q
      cases q
      exact .inl rfl
    · rw [List.getElem?_eq_none (by simpa using hi)] at q
      cases q
  · rw [List.getElem?_set_ne e] at q
    rcases h.at_ j t q with z | ⟨w, z, r'⟩
    · exact .inl z
    · exact .inr ⟨w, by rw [List.getElem?_set_ne e]; exact z, r'⟩
theorem EnvR.d (h : EnvR Hf σ ρ) {i : Nat} {x : PyData} (e : ρ[i]? = some (.d x)) : ∃ v, σ[i]? = some (some v) ∧ Rep Hf v x := by
  rcases h.at_ i _ e with z | z
  · cases z
  · exact z
theorem EnvR.raw (h : EnvR Hf σ ρ) {i : Nat} {w : V} (e : ρ[i]? = some (.raw w)) : σ[i]? = some (some w) := by
  rcases h.at_ i _ e with z | ⟨v, z, r⟩
  · cases z
  · rw [z, show v = w from r]
def wipeR (ρ : List Slot) : List Nat → List Slot
  | [] => ρ
  | v :: vs => (wipeR ρ vs).set v .un
theorem EnvR.wipe (h : EnvR Hf σ ρ) : ∀ is : List Nat, EnvR Hf (wipe σ is) (wipeR ρ is)
  | [] => h
  | i :: is => (EnvR.wipe h is).unset i none
end

/-! ### judgements over data -/
structure Ctx where
  X : Cx
  B : Bs
  ex : Addr → List Slot → Own → Prop
def Wish (Z : Ctx) : WX := fun cls d σ H => ∃ C Hf ρ own, cls = .ref C ∧ d = none ∧ Sat Z.B Hf H own ∧ EnvR Hf σ ρ ∧ Z.ex C ρ own
structure Gd (Z : Ctx) (k : Nat) : Prop where
  tk : Takes Z.X (Wish Z)
  po : PassesOwn (model Z.X.prog Z.X.w) Z.X.A Z.X.env Z.X.xe
  calm : Z.X.calm = true
  nd : Z.X.N.Nodup
  hr : Room k Z.X.A
theorem Gd.mono {Z : Ctx} {j k : Nat} (g : Gd Z k) (h : j ≤ k) : Gd Z j := ⟨g.tk, g.po, g.calm, g.nd, g.hr.mono h⟩
/-- e evaluates to what s says -/
def ES (Z : Ctx) (e : Expr) (ρ : List Slot) (own : Own) (s : Slot) : Prop := ∀ Hf σ H, Sat Z.B Hf H own → EnvR Hf σ ρ → ∀ Q : VK, (∀ v Hf' H', Same Hf Hf' → Sat Z.B Hf' H' own → SlotR Hf' v s → Q v H') → wE Z.X e σ H Q
abbrev ED (Z : Ctx) (e : Expr) (ρ : List Slot) (own : Own) (x : PyData) : Prop := ES Z e ρ own (.d x)
abbrev EV (Z : Ctx) (e : Expr) (ρ : List Slot) (own : Own) (v : V) : Prop := ES Z e ρ own (.raw v)
/-- a new list of one's own -/
def EL (Z : Ctx) (e : Expr) (ρ : List Slot) (own : Own) (ds : List PyData) : Prop := ∀ Hf σ H, Sat Z.B Hf H own → EnvR Hf σ ρ → ∀ Q : VK, (∀ p Hf' H', Same Hf Hf' → Sat Z.B Hf' H' ((p, .lst ds) :: own) → Q (.ref p) H') → wE Z.X e σ H Q
/-- e ends in an exception -/
def EX (Z : Ctx) (e : Expr) (ρ : List Slot) (own : Own) : Prop := ∀ Hf σ H, Sat Z.B Hf H own → EnvR Hf σ ρ → ∀ Q : VK, wE Z.X e σ H Q
def ET (Z : Ctx) (e : Expr) (ρ : List Slot) (own : Own) (b : Bool) : Prop := ∀ Hf σ H, Sat Z.B Hf H own → EnvR Hf σ ρ → ∀ Q : Bool → Hp → Prop, (∀ Hf' H', Same Hf Hf' → Sat Z.B Hf' H' own → Q b H') → wT Z.X e σ H Q
def EW (Z : Ctx) (e : Expr) (ρ : List Slot) (own : Own) (b : Bool) : Prop := ∀ Hf σ H, Sat Z.B Hf H own → EnvR Hf σ ρ → ∀ Q : Bool → Hp → Prop, (∀ Hf' H', Same Hf Hf' → Sat Z.B Hf' H' own → Q b H') → wW Z.X e σ H Q
inductive SlotsR (Hf : Hp) : List V → List Slot → Prop
  | nil : SlotsR Hf [] []
  | cons {v : V} {vs : List V} {s : Slot} {ss : List Slot} : SlotR Hf v s → SlotsR Hf vs ss → SlotsR Hf (v :: vs) (s :: ss)
theorem SlotsR.mono {Hf Hf' : Hp} (e : Same Hf Hf') : ∀ {vs : List V} {ss : List Slot}, SlotsR Hf vs ss → SlotsR Hf' vs ss
  | _, _, .nil => .nil
  | _, _, .cons a b => .cons (a.mono e) (b.mono e)
theorem SlotsR.length {Hf : Hp} : ∀ {vs : List V} {ss : List Slot}, SlotsR Hf vs ss → vs.length = ss.length
  | _, _, .nil => rfl
  | _, _, .cons _ r => congrArg (· + 1) r.length
theorem SlotsR.data {Hf : Hp} : ∀ {vs : List V} {ds : List PyData}, SlotsR Hf vs (ds.map Slot.d) → Reps Hf vs ds
  | _, [], .nil => .nil
  | _, _ :: _, .cons a b => .cons a b.data
def EA (Z : Ctx) (es : List Expr) (ρ : List Slot) (own : Own) (ss : List Slot) : Prop := ∀ Hf σ H, Sat Z.B Hf H own → EnvR Hf σ ρ → ∀ Q : List V → Hp → Prop, (∀ vs Hf' H', Same Hf Hf' → Sat Z.B Hf' H' own → SlotsR Hf' vs ss → Q vs H') → wA Z.X es σ H Q

section
variable {Z : Ctx} {e a b c : Expr} {ρ : List Slot} {own : Own} {pos : Pos} {x y : PyData} {i j : Int} {s t : Slot} {k : Nat}
theorem ES.is (h : ED Z e ρ own x) (q : x = y) : ED Z e ρ own y := q ▸ h
theorem ET.is {b b' : Bool} (h : ET Z e ρ own b) (q : b = b') : ET Z e ρ own b' := q ▸ h
theorem EL.is {xs ys : List PyData} (h : EL Z e ρ own xs) (q : xs = ys) : EL Z e ρ own ys := q ▸ h
/-- a new list is data -/
theorem EL.ed {ds : List PyData} (h : EL Z e ρ own ds) : ED Z e ρ own (.list ds) := fun Hf σ H S R Q q => h Hf σ H S R Q fun p Hf' H' m S' => by
  obtain ⟨Hf2, m2, S2, r⟩ := Sat.freeze (oa := []) S'
  exact q _ Hf2 H' (m.trans m2) S2 r
/-! names, constants -/
theorem es_v (n : Nat) {z : Str} {s : Slot} (he : ρ[n]? = some s) (hs : s ≠ .un) (hN : Z.X.N[n]? = some z := by rfl) (hv : Vis Z.X.env.scope z := by first | exact Or.inl rfl | exact Or.inr (Or.inl rfl) | exact Or.inr (Or.inr rfl)) (hd : (z == ("__debug__" : Str)) = false := by decide)
    (hcd : (z == ("__classdict__" : Str)) = false := by decide) : ES Z (.Name z pos) ρ own s := fun Hf σ H S R Q q => wE.of (pe_var hN hv hd hcd) (by
  rcases R.at_ n s he with z | ⟨v, e, r⟩
  · exact absurd z hs
  · exact ⟨v, e, q v Hf H (Same.refl _) S r⟩)
theorem ed_v (n : Nat) {z : Str} {x : PyData} (he : ρ[n]? = some (.d x) := by rfl) (hN : Z.X.N[n]? = some z := by rfl) (hv : Vis Z.X.env.scope z := by first | exact Or.inl rfl | exact Or.inr (Or.inl rfl) | exact Or.inr (Or.inr rfl)) (hd : (z == ("__debug__" : Str)) = false := by decide)
    (hcd : (z == ("__classdict__" : Str)) = false := by decide) : ED Z (.Name z pos) ρ own x := es_v n he (fun q => nomatch q) hN hv hd hcd
theorem ev_v (n : Nat) {z : Str} {x : V} (he : ρ[n]? = some (.raw x) := by rfl) (hN : Z.X.N[n]? = some z := by rfl) (hv : Vis Z.X.env.scope z := by first | exact Or.inl rfl | exact Or.inr (Or.inl rfl) | exact Or.inr (Or.inr rfl)) (hd : (z == ("__debug__" : Str)) = false := by decide)
    (hcd : (z == ("__classdict__" : Str)) = false := by decide) : EV Z (.Name z pos) ρ own x := es_v n he (fun q => nomatch q) hN hv hd hcd
theorem ed_int {j : Nat} {i : Int} : ED Z (.Constant (.int i) j pos) ρ own (.int i) := fun Hf σ H S R Q q => wE.of pe_int (q _ Hf H (Same.refl _) S (.int i))
theorem ed_bl {j : Nat} {b : Bool} : ED Z (.Constant (.bool b) j pos) ρ own (.bool b) := fun Hf σ H S R Q q => wE.of pe_bl (q _ Hf H (Same.refl _) S (.bl b))
theorem ed_non {j : Nat} : ED Z (.Constant .none j pos) ρ own .none := fun Hf σ H S R Q q => wE.of pe_non (q _ Hf H (Same.refl _) S .non)
theorem ed_str {j : Nat} {z : Str} : ED Z (.Constant (.str z) j pos) ρ own (.str z) := fun Hf σ H S R Q q => wE.of pe_str (q _ Hf H (Same.refl _) S (.str z))
/-- a module's own int -/
theorem ed_glob {z : Str} {n : Int} {t : Tok} (hg : Gl Z.X z) (hm : Z.X.mg z = some (.int n t)) (hd : (z == ("__debug__" : Str)) = false := by decide) : ED Z (.Name z pos) ρ own (.int n) := fun Hf σ H S R Q q => wE.of (pe_glob hg hm (v := .int n) ⟨_, rfl⟩ hd) (q _ Hf H (Same.refl _) S (.int n))
theorem ev_glob {z : Str} {C : Addr} (hg : Gl Z.X z) (hm : Z.X.mg z = some (.ref C)) (hd : (z == ("__debug__" : Str)) = false := by decide) : EV Z (.Name z pos) ρ own (.ref C) := fun Hf σ H S R Q q => wE.of (pe_glob hg hm (v := .ref C) rfl hd) (q _ Hf H (Same.refl _) S rfl)
theorem ev_ty {z : Str} {T : String} (hg : Gl Z.X z) (hm : Z.X.mg z = none) (hv : bootBuiltins z = some (.type T)) (hn : z ≠ "__name__" := by decide) (hd : (z == ("__debug__" : Str)) = false := by decide) : EV Z (.Name z pos) ρ own (.ty T) := fun Hf σ H S R Q q => wE.of (pe_bltn hg hm hv (v := .ty T) rfl hn hd) (q _ Hf H (Same.refl _) S rfl)

end
end Sd


namespace Sd
open PySem PySem.Spec PyProof.Rows L2
section
variable {Z : Ctx} {e a b c : Expr} {es : List Expr} {ρ : List Slot} {own : Own} {pos : Pos} {x y : PyData} {i j : Int} {s t u : Slot} {k : Nat}
theorem es_bin {op : Operator} {r : R2} {u : Slot} (ho : OpR Z.X (binaryOp op) r) (ha : ES Z a ρ own s) (hb : ES Z b ρ own t)
    (hr : ∀ v w Hf H, Sat Z.B Hf H own → SlotR Hf v s → SlotR Hf w t → ∀ Q : VK, (∀ z Hf' H', Same Hf Hf' → Sat Z.B Hf' H' own → SlotR Hf' z u → Q z H') → r v w H Q) : ES Z (.BinOp a op b pos) ρ own u := fun Hf σ H S R Q q =>
  wE.of (pe_op ho peW peW) (ha Hf σ H S R _ fun v Hf1 H1 m1 S1 r1 => hb Hf1 σ H1 S1 (R.mono m1) _ fun w Hf2 H2 m2 S2 r2 => hr v w Hf2 H2 S2 (r1.mono m2) r2 Q fun z Hf3 H3 m3 S3 r3 => q z Hf3 H3 ((m1.trans m2).trans m3) S3 r3)
theorem el_bin {op : Operator} {r : R2} {ds : List PyData} (ho : OpR Z.X (binaryOp op) r) (ha : ES Z a ρ own s) (hb : ES Z b ρ own t)
    (hr : ∀ v w Hf H, Sat Z.B Hf H own → SlotR Hf v s → SlotR Hf w t → ∀ Q : VK, (∀ p Hf' H', Same Hf Hf' → Sat Z.B Hf' H' ((p, .lst ds) :: own) → Q (.ref p) H') → r v w H Q) : EL Z (.BinOp a op b pos) ρ own ds := fun Hf σ H S R Q q =>
  wE.of (pe_op ho peW peW) (ha Hf σ H S R _ fun v Hf1 H1 m1 S1 r1 => hb Hf1 σ H1 S1 (R.mono m1) _ fun w Hf2 H2 m2 S2 r2 => hr v w Hf2 H2 S2 (r1.mono m2) r2 Q fun z Hf3 H3 m3 S3 => q z Hf3 H3 ((m1.trans m2).trans m3) S3)
theorem ed_add (ha : ED Z a ρ own (.int i)) (hb : ED Z b ρ own (.int j)) : ED Z (.BinOp a .Add b pos) ρ own (.int (i + j)) := es_bin op_add ha hb fun v w Hf H S r1 r2 Q q => by
  cases r1; cases r2
  exact ⟨i, j, rfl, rfl, q _ Hf H (Same.refl _) S (.int _)⟩
theorem ed_sub (ha : ED Z a ρ own (.int i)) (hb : ED Z b ρ own (.int j)) : ED Z (.BinOp a .Sub b pos) ρ own (.int (i - j)) := es_bin op_sub ha hb fun v w Hf H S r1 r2 Q q => by
  cases r1; cases r2
  exact ⟨i, j, rfl, rfl, q _ Hf H (Same.refl _) S (.int _)⟩
/-- a product: small by the size of both -/
theorem ed_mul (ha : ED Z a ρ own (.int i)) (hb : ED Z b ρ own (.int j)) (h : CMulW i j) : ED Z (.BinOp a .Mult b pos) ρ own (.int (i * j)) := es_bin op_mulW ha hb fun v w Hf H S r1 r2 Q q => by
  cases r1; cases r2
  exact ⟨i, j, rfl, rfl, h, q _ Hf H (Same.refl _) S (.int _)⟩
theorem ed_mulS (ha : ED Z a ρ own (.int i)) (hb : ED Z b ρ own (.int j)) (h : CMul i j) : ED Z (.BinOp a .Mult b pos) ρ own (.int (i * j)) := es_bin op_mul ha hb fun v w Hf H S r1 r2 Q q => by
  cases r1; cases r2
  exact ⟨i, j, rfl, rfl, h, q _ Hf H (Same.refl _) S (.int _)⟩
theorem ed_fdiv (ha : ED Z a ρ own (.int i)) (hb : ED Z b ρ own (.int j)) (h : CDivW i j) : ED Z (.BinOp a .FloorDiv b pos) ρ own (.int (i / j)) := es_bin op_fdivW ha hb fun v w Hf H S r1 r2 Q q => by
  cases r1; cases r2
  exact ⟨i, j, rfl, rfl, h, q _ Hf H (Same.refl _) S (.int _)⟩
theorem ed_fdivS (ha : ED Z a ρ own (.int i)) (hb : ED Z b ρ own (.int j)) (h : 0 < j ∧ j < 1073741824) : ED Z (.BinOp a .FloorDiv b pos) ρ own (.int (i / j)) := es_bin op_fdiv ha hb fun v w Hf H S r1 r2 Q q => by
  cases r1; cases r2
  exact ⟨i, j, rfl, rfl, h, q _ Hf H (Same.refl _) S (.int _)⟩
theorem ed_mod (ha : ED Z a ρ own (.int i)) (hb : ED Z b ρ own (.int j)) (h : 0 < j) : ED Z (.BinOp a .Mod b pos) ρ own (.int (i % j)) := es_bin op_mod ha hb fun v w Hf H S r1 r2 Q q => by
  cases r1; cases r2
  exact ⟨i, j, rfl, rfl, h, q _ Hf H (Same.refl _) S (.int _)⟩
theorem ed_pow (ha : ED Z a ρ own (.int i)) (hb : ED Z b ρ own (.int j)) (h : CPow i j) : ED Z (.BinOp a .Pow b pos) ρ own (.int (i ^ j.toNat)) := es_bin op_pow ha hb fun v w Hf H S r1 r2 Q q => by
  cases r1; cases r2
  exact ⟨i, j, rfl, rfl, h, q _ Hf H (Same.refl _) S (.int _)⟩
theorem ed_neg (ha : ED Z a ρ own (.int i)) : ED Z (.UnaryOp .USub a pos) ρ own (.int (-i)) := fun Hf σ H S R Q q =>
  wE.of (pe_un un_neg peW) (ha Hf σ H S R _ fun v Hf1 H1 m1 S1 r1 => by
    cases r1
    exact ⟨i, rfl, q _ Hf1 H1 m1 S1 (.int _)⟩)
def Lst (own : Own) (s : Slot) (ds : List PyData) : Prop := s = .d (.list ds) ∨ ∃ p, s = .raw (.ref p) ∧ (p, OO.lst ds) ∈ own
theorem Lst.d {ds : List PyData} : Lst own (.d (.list ds)) ds := .inl rfl
theorem Lst.o {p : Addr} {ds : List PyData} (h : (p, OO.lst ds) ∈ own) : Lst own (.raw (.ref p)) ds := .inr ⟨p, rfl, h⟩
theorem Lst.at {B : Bs} {Hf H : Hp} {ds : List PyData} {v : V} (L : Lst own s ds) (S : Sat B Hf H own) (r : SlotR Hf v s) : ∃ p vs, v = .ref p ∧ H p = some (.lst vs) ∧ Reps Hf vs ds := by
  rcases L with rfl | ⟨p, rfl, h⟩
  · cases r with
    | lst h1 h2 => exact ⟨_, _, rfl, S.e1 _ _ h1, h2⟩
  · obtain ⟨_, _, vs, h1, h2⟩ := S.at h
    exact ⟨p, vs, r, h1, h2⟩
/-- a + b of lists -/
theorem el_cat {xs ys : List PyData} (ha : ES Z a ρ own s) (hb : ES Z b ρ own t) (l1 : Lst own s xs) (l2 : Lst own t ys) (h : xs.length + ys.length ≤ 100000) : EL Z (.BinOp a .Add b pos) ρ own (xs ++ ys) := el_bin op_cat ha hb fun v w Hf H S r1 r2 Q q => by
  obtain ⟨p, vs, rfl, h1, g1⟩ := l1.at S r1
  obtain ⟨p', vs', rfl, h2, g2⟩ := l2.at S r2
  have e1 := g1.length
  have e2 := g2.length
  refine ⟨p, p', vs, vs', rfl, rfl, h1, h2, Nat.le_trans (by omega : _ ≤ 100000) (by decide), fun l hl => q l Hf _ (Same.refl _) (S.newOwn hl ⟨_, upd_same, g1.append g2⟩)⟩
theorem Reps.rep {H : Hp} {xs : List V} {us : List PyData} (h : Reps H xs us) : ∀ k : Nat, Reps H (List.replicate k xs).flatten (List.replicate k us).flatten
  | 0 => .nil
  | k + 1 => by
    rw [List.replicate_succ, List.replicate_succ, List.flatten_cons, List.flatten_cons]
    exact h.append (h.rep k)
/-- xs * n -/
theorem el_rep {xs : List PyData} (ha : ES Z a ρ own s) (hb : ED Z b ρ own (.int i)) (l1 : Lst own s xs) (h : i ≤ 1000 ∧ -1000 ≤ i) (h2 : xs.length ≤ 1000) : EL Z (.BinOp a .Mult b pos) ρ own (List.replicate i.toNat xs).flatten := el_bin op_rep ha hb fun v w Hf H S r1 r2 Q q => by
  obtain ⟨p, vs, rfl, h1, g1⟩ := l1.at S r1
  cases r2
  have e1 := g1.length
  refine ⟨p, i, vs, rfl, rfl, h1, by omega, by omega, ?_, fun l hl => q l Hf _ (Same.refl _) (S.newOwn hl ⟨_, upd_same, g1.rep _⟩)⟩
  have : vs.length * i.toNat ≤ 1000 * 1000 := Nat.mul_le_mul (by omega) (by omega)
  exact Nat.le_trans this (by decide)

/-! comparisons, tests -/
theorem es_cmp {op : CmpOp} {r : R2} {u : Slot} (ho : OpR Z.X (compareOp op) r) (hm : behindInMarks op b = false) (ha : ES Z a ρ own s) (hb : ES Z b ρ own t)
    (hr : ∀ v w Hf H, Sat Z.B Hf H own → SlotR Hf v s → SlotR Hf w t → ∀ Q : VK, (∀ z Hf' H', Same Hf Hf' → Sat Z.B Hf' H' own → SlotR Hf' z u → Q z H') → r v w H Q) : ES Z (.Compare a [op] [b] pos) ρ own u := fun Hf σ H S R Q q =>
  wE.of (pe_cmpR ho peW peW hm) (ha Hf σ H S R _ fun v Hf1 H1 m1 S1 r1 => hb Hf1 σ H1 S1 (R.mono m1) _ fun w Hf2 H2 m2 S2 r2 => hr v w Hf2 H2 S2 (r1.mono m2) r2 Q fun z Hf3 H3 m3 S3 r3 => q z Hf3 H3 ((m1.trans m2).trans m3) S3 r3)
/-- a comparison that is a bool: as a value and as a test -/
def CmpB (Z : Ctx) (op : CmpOp) (own : Own) (s t : Slot) (k : Bool) : Prop := ∃ r : R2, OpR Z.X (compareOp op) r ∧ ∀ v w Hf H, Sat Z.B Hf H own → SlotR Hf v s → SlotR Hf w t → ∀ Q : VK, Q (.bl k) H → r v w H Q
theorem ed_cmp {op : CmpOp} {k : Bool} (hc : CmpB Z op own s t k) (ha : ES Z a ρ own s) (hb : ES Z b ρ own t) (hm : behindInMarks op b = false := by first | exact nomark _ | rfl) : ED Z (.Compare a [op] [b] pos) ρ own (.bool k) := by
  obtain ⟨r, ho, hr⟩ := hc
  exact es_cmp ho hm ha hb fun v w Hf H S r1 r2 Q q => hr v w Hf H S r1 r2 Q (q _ Hf H (Same.refl _) S (.bl k))
theorem et_cmp {op : CmpOp} {k : Bool} (hc : CmpB Z op own s t k) (ha : ES Z a ρ own s) (hb : ES Z b ρ own t) (hm : behindInMarks op b = false := by first | exact nomark _ | rfl) : ET Z (.Compare a [op] [b] pos) ρ own k := by
  obtain ⟨r, ho, hr⟩ := hc
  exact fun Hf σ H S R Q q => wT.of (pt_cmpR ho peW peW hm) (ha Hf σ H S R _ fun v Hf1 H1 m1 S1 r1 => hb Hf1 σ H1 S1 (R.mono m1) _ fun w Hf2 H2 m2 S2 r2 => hr v w Hf2 H2 S2 (r1.mono m2) r2 _ ⟨k, rfl, q Hf2 H2 (m1.trans m2) S2⟩)
theorem c_lt : CmpB Z .Lt own (.d (.int i)) (.d (.int j)) (decide (i < j)) := ⟨_, op_lt, fun v w Hf H S r1 r2 Q q => by cases r1; cases r2; exact ⟨i, j, rfl, rfl, q⟩⟩
theorem c_le : CmpB Z .LtE own (.d (.int i)) (.d (.int j)) (decide (i ≤ j)) := ⟨_, op_le, fun v w Hf H S r1 r2 Q q => by cases r1; cases r2; exact ⟨i, j, rfl, rfl, q⟩⟩
theorem c_gt : CmpB Z .Gt own (.d (.int i)) (.d (.int j)) (decide (j < i)) := ⟨_, op_gt, fun v w Hf H S r1 r2 Q q => by cases r1; cases r2; exact ⟨i, j, rfl, rfl, q⟩⟩
theorem c_ge : CmpB Z .GtE own (.d (.int i)) (.d (.int j)) (decide (j ≤ i)) := ⟨_, op_ge, fun v w Hf H S r1 r2 Q q => by cases r1; cases r2; exact ⟨i, j, rfl, rfl, q⟩⟩
theorem c_eqI : CmpB Z .Eq own (.d (.int i)) (.d (.int j)) (decide (i = j)) := ⟨_, op_eq, fun v w Hf H S r1 r2 Q q => by
  cases r1; cases r2
  refine ⟨rfl, ?_⟩
  rw [dec_int, Bool.beq_eq_decide_eq]
  exact q⟩
theorem c_neI : CmpB Z .NotEq own (.d (.int i)) (.d (.int j)) (!decide (i = j)) := ⟨_, op_ne, fun v w Hf H S r1 r2 Q q => by
  cases r1; cases r2
  refine ⟨rfl, ?_⟩
  rw [dec_int, Bool.beq_eq_decide_eq]
  exact q⟩
/-- data, or a list of one's own, as data -/
def Dat (own : Own) (s : Slot) (x : PyData) : Prop := s = .d x ∨ ∃ ds, x = .list ds ∧ Lst own s ds
theorem Dat.at {B : Bs} {Hf H : Hp} {v : V} (L : Dat own s x) (S : Sat B Hf H own) (r : SlotR Hf v s) : Rep H v x := by
  rcases L with rfl | ⟨ds, rfl, L⟩
  · exact Rep.mono S.e1 r
  · obtain ⟨p, vs, rfl, h1, h2⟩ := L.at S r
    exact .lst h1 (h2.mono S.e1)
theorem Dat.d : Dat own (.d x) x := .inl rfl
theorem Dat.o {p : Addr} {ds : List PyData} (h : (p, OO.lst ds) ∈ own) : Dat own (.raw (.ref p)) (.list ds) := .inr ⟨ds, rfl, .o h⟩
theorem c_eq (g : Gd Z k) (d1 : Dat own s x) (d2 : Dat own t y) (h1 : SeqAt.shaped x = true) (h2 : SeqAt.shaped y = true) : CmpB Z .Eq own s t (PyData.eqv x y) := ⟨_, op_eqD g.hr.units, fun v w Hf H S r1 r2 Q q => ⟨x, y, (d1.at S r1).dp, (d2.at S r2).dp, h1, h2, q⟩⟩
theorem c_ne (g : Gd Z k) (d1 : Dat own s x) (d2 : Dat own t y) (h1 : SeqAt.shaped x = true) (h2 : SeqAt.shaped y = true) : CmpB Z .NotEq own s t (!PyData.eqv x y) := ⟨_, op_neD g.hr.units, fun v w Hf H S r1 r2 Q q => ⟨x, y, (d1.at S r1).dp, (d2.at S r2).dp, h1, h2, q⟩⟩
/-- is None -/
def isNone : Slot → Bool
  | .d .none => true
  | .raw .non => true
  | _ => false
theorem isNone_at {Hf : Hp} {v : V} (hs : s ≠ .un) (r : SlotR Hf v s) : decide (v = .non) = isNone s := by
  cases s with
  | un => exact absurd rfl hs
  | d x => cases r <;> rfl
  | raw w =>
    cases (show v = w from r)
    cases v <;> rfl
theorem c_isN (hs : s ≠ .un) : CmpB Z .Is own s (.d .none) (isNone s) := ⟨_, op_isN, fun v w Hf H S r1 r2 Q q => by
  cases r2
  exact ⟨rfl, by rw [isNone_at hs r1]; exact q⟩⟩
/-- a bool as a test -/
theorem et_val {k : Bool} (h : ED Z e ρ own (.bool k)) (he : ∀ whole, isTrue e Z.X.env whole = (do let v ← whole; standAt e.pos; holding [v] (truthy v)) := by intro _; rfl) : ET Z e ρ own k := fun Hf σ H S R Q q =>
  wT.of (pt_val peW he) (h Hf σ H S R _ fun v Hf1 H1 m1 S1 r1 => by cases r1; exact ⟨k, rfl, q Hf1 H1 m1 S1⟩)
theorem EW.et {k : Bool} (h : EW Z e ρ own k) : ET Z e ρ own k := fun Hf σ H S R Q q => wT.of pwW.pt (h Hf σ H S R Q q)
theorem et_not {k : Bool} (h : ET Z e ρ own k) : ET Z (.UnaryOp .Not e pos) ρ own (!k) := fun Hf σ H S R Q q => wT.of (pt_not ptW) (h Hf σ H S R _ fun Hf1 H1 m1 S1 => q Hf1 H1 m1 S1)
variable {rest : List Expr}
theorem ew_or1 {k : Bool} (h : ET Z a ρ own k) : EW Z (.BoolOp .Or [a] pos) ρ own k := fun Hf σ H S R Q q => wW.of (pw_or1 ptW) (h Hf σ H S R Q q)
theorem ew_or {k l : Bool} (h1 : ET Z a ρ own k) (h2 : k = false → EW Z (.BoolOp .Or (b :: rest) pos) ρ own l) : EW Z (.BoolOp .Or (a :: b :: rest) pos) ρ own (k || l) := fun Hf σ H S R Q q => wW.of (pw_or ptW pwW) (h1 Hf σ H S R _ fun Hf1 H1 m1 S1 => by
  cases k with
  | true => exact iteT (q Hf1 H1 m1 S1)
  | false =>
    refine iteF (h2 rfl Hf1 σ H1 S1 (R.mono m1) Q fun Hf2 H2 m2 S2 => q Hf2 H2 (m1.trans m2) S2))
theorem ed_one {op : BoolOp} (h : ES Z a ρ own s) : ES Z (.BoolOp op [a] pos) ρ own s := fun Hf σ H S R Q q => wE.of (pe_one peW) (h Hf σ H S R Q q)
theorem ed_and {k l : Bool} (h1 : ED Z a ρ own (.bool k)) (h2 : k = true → ED Z (.BoolOp .And (b :: rest) pos) ρ own (.bool l)) : ED Z (.BoolOp .And (a :: b :: rest) pos) ρ own (.bool (k && l)) := fun Hf σ H S R Q q => wE.of (pe_and peW peW) (h1 Hf σ H S R _ fun v Hf1 H1 m1 S1 r1 => by
  cases r1
  refine ⟨k, rfl, ?_⟩
  cases k with
  | true => exact iteT (h2 rfl Hf1 σ H1 S1 (R.mono m1) Q fun v Hf2 H2 m2 S2 r2 => q v Hf2 H2 (m1.trans m2) S2 r2)
  | false => exact iteF (q _ Hf1 H1 m1 S1 (.bl false)))
theorem ed_not {k : Bool} (h : ED Z a ρ own (.bool k)) : ED Z (.UnaryOp .Not a pos) ρ own (.bool (!k)) := fun Hf σ H S R Q q => wE.of (pe_not peW) (h Hf σ H S R _ fun v Hf1 H1 m1 S1 r1 => by
  cases r1
  exact ⟨k, rfl, q _ Hf1 H1 m1 S1 (.bl _)⟩)
theorem es_if {k : Bool} (h : ET Z c ρ own k) (h1 : k = true → ES Z a ρ own s) (h2 : k = false → ES Z b ρ own s) : ES Z (.IfExp c a b pos) ρ own s := fun Hf σ H S R Q q => wE.of (pe_ifExp ptW peW peW) (h Hf σ H S R _ fun Hf1 H1 m1 S1 => by
  cases k with
  | true => exact iteT (h1 rfl Hf1 σ H1 S1 (R.mono m1) Q fun v Hf2 H2 m2 S2 r2 => q v Hf2 H2 (m1.trans m2) S2 r2)
  | false => exact iteF (h2 rfl Hf1 σ H1 S1 (R.mono m1) Q fun v Hf2 H2 m2 S2 r2 => q v Hf2 H2 (m1.trans m2) S2 r2))
theorem el_if {k : Bool} {ds : List PyData} (h : ET Z c ρ own k) (h1 : k = true → EL Z a ρ own ds) (h2 : k = false → EL Z b ρ own ds) : EL Z (.IfExp c a b pos) ρ own ds := fun Hf σ H S R Q q => wE.of (pe_ifExp ptW peW peW) (h Hf σ H S R _ fun Hf1 H1 m1 S1 => by
  cases k with
  | true => exact iteT (h1 rfl Hf1 σ H1 S1 (R.mono m1) Q fun v Hf2 H2 m2 S2 => q v Hf2 H2 (m1.trans m2) S2)
  | false => exact iteF (h2 rfl Hf1 σ H1 S1 (R.mono m1) Q fun v Hf2 H2 m2 S2 => q v Hf2 H2 (m1.trans m2) S2))
theorem et_chain {op op' : CmpOp} {k l : Bool} (hc1 : CmpB Z op own s t k) (hc2 : CmpB Z op' own t u l) (ha : ES Z a ρ own s) (hb : ES Z b ρ own t) (hd : ES Z c ρ own u) (hm : lastMarks [op, op'] [b, c] = false := by with_unfolding_all rfl) :
    ET Z (.Compare a [op, op'] [b, c] pos) ρ own (k && l) := by
  obtain ⟨r, ho, hr⟩ := hc1
  obtain ⟨r', ho', hr'⟩ := hc2
  refine fun Hf σ H S R Q q => wT.of (pt_chain ho ho' peW peW peW hm) (ha Hf σ H S R _ fun v Hf1 H1 m1 S1 r1 => hb Hf1 σ H1 S1 (R.mono m1) _ fun w Hf2 H2 m2 S2 r2 => hr v w Hf2 H2 S2 (r1.mono m2) r2 _ ⟨k, rfl, ?_⟩)
  cases k with
  | false => exact iteF ⟨_, rfl, q Hf2 H2 (m1.trans m2) S2⟩
  | true => exact iteT (hd Hf2 σ H2 S2 (R.mono (m1.trans m2)) _ fun z Hf3 H3 m3 S3 r3 => hr' w z Hf3 H3 S3 (r2.mono m3) r3 _ ⟨l, rfl, q Hf3 H3 ((m1.trans m2).trans m3) S3⟩)
theorem ed_chain {op op' : CmpOp} {k l : Bool} (hc1 : CmpB Z op own s t k) (hc2 : CmpB Z op' own t u l) (ha : ES Z a ρ own s) (hb : ES Z b ρ own t) (hd : ES Z c ρ own u) (hm : lastMarks [op, op'] [b, c] = false := by with_unfolding_all rfl) :
    ED Z (.Compare a [op, op'] [b, c] pos) ρ own (.bool (k && l)) := by
  obtain ⟨r, ho, hr⟩ := hc1
  obtain ⟨r', ho', hr'⟩ := hc2
  refine fun Hf σ H S R Q q => wE.of (pe_chain ho ho' peW peW peW hm) (ha Hf σ H S R _ fun v Hf1 H1 m1 S1 r1 => hb Hf1 σ H1 S1 (R.mono m1) _ fun w Hf2 H2 m2 S2 r2 => hr v w Hf2 H2 S2 (r1.mono m2) r2 _ ⟨k, rfl, ?_⟩)
  cases k with
  | false => exact iteF (q _ Hf2 H2 (m1.trans m2) S2 (.bl false))
  | true => exact iteT (hd Hf2 σ H2 S2 (R.mono (m1.trans m2)) _ fun z Hf3 H3 m3 S3 r3 => hr' w z Hf3 H3 S3 (r2.mono m3) r3 _ (q _ Hf3 H3 ((m1.trans m2).trans m3) S3 (.bl l)))

/-! arguments, displays -/
theorem ea_nil : EA Z [] ρ own [] := fun Hf σ H S R Q q => wA.of pa_nil (q [] Hf H (Same.refl _) S .nil)
theorem ea_cons {ss : List Slot} (h : ES Z e ρ own s) (hr : EA Z es ρ own ss) (hs : starEach (e :: es) Z.X.env = (false, eval e Z.X.env) :: starEach es Z.X.env := by rfl) : EA Z (e :: es) ρ own (s :: ss) := fun Hf σ H S R Q q => wA.of (pa_cons peW paW hs) (h Hf σ H S R _ fun v Hf1 H1 m1 S1 r1 =>
  hr Hf1 σ H1 S1 (R.mono m1) _ fun vs Hf2 H2 m2 S2 r2 => q (v :: vs) Hf2 H2 (m1.trans m2) S2 (.cons (r1.mono m2) r2))
theorem ed_tup {x1 : Nat} {ds : List PyData} (h : EA Z es ρ own (ds.map Slot.d)) (hl : ds.length ≤ 1000 := by exact Nat.le_of_ble_eq_true rfl) : ED Z (.Tuple es x1 pos) ρ own (.tuple ds) := fun Hf σ H S R Q q => wE.of (pe_tup paW) (h Hf σ H S R _ fun vs Hf1 H1 m1 S1 r1 => by
  have r := r1.data
  refine ⟨Nat.le_trans (by rw [r.length]; exact hl) (by decide), fun p hp => q (.ref p) _ _ (m1.trans (S1.new_same hp _)) (S1.new hp _) (.tup upd_same (r.mono (S1.new_same hp _)))⟩)
theorem el_lst {ds : List PyData} (h : EA Z es ρ own (ds.map Slot.d)) (hl : ds.length ≤ 1000 := by exact Nat.le_of_ble_eq_true rfl) : EL Z (.List es pos) ρ own ds := fun Hf σ H S R Q q => wE.of (pe_lst paW) (h Hf σ H S R _ fun vs Hf1 H1 m1 S1 r1 => by
  have r := r1.data
  refine ⟨Nat.le_trans (by rw [r.length]; exact hl) (by decide), fun p hp => q p _ _ m1 (S1.newOwn hp ⟨_, upd_same, r⟩)⟩)
theorem ed_lst {ds : List PyData} (h : EA Z es ρ own (ds.map Slot.d)) (hl : ds.length ≤ 1000 := by exact Nat.le_of_ble_eq_true rfl) : ED Z (.List es pos) ρ own (.list ds) := (el_lst h hl).ed

/-! items, slices -/
theorem atI_rep {H : Hp} {vs : List V} {ds : List PyData} {i : Int} {d : PyData} (r : Reps H vs ds) (h : atI ds i = some d) : ∃ v, atI vs i = some v ∧ Rep H v d := by
  unfold atI at h ⊢
  rw [r.length]
  cases e : ixN ds.length i with
  | none => rw [e] at h; cases h
  | some j =>
    rw [e] at h
    obtain ⟨v, h1, h2⟩ := r.get (show ds[j]? = some d from h)
    exact ⟨v, h1, h2⟩
theorem ed_ixL {ds : List PyData} {d : PyData} (ha : ES Z a ρ own s) (hb : ED Z b ρ own (.int i)) (l : Lst own s ds) (h : atI ds i = some d) (hs : PlainIx b := by exact fun _ _ => rfl) : ED Z (.Subscript a b pos) ρ own d := fun Hf σ H S R Q q =>
  wE.of (pe_ix ix_list peW peW hs) (ha Hf σ H S R _ fun v Hf1 H1 m1 S1 r1 => hb Hf1 σ H1 S1 (R.mono m1) _ fun w Hf2 H2 m2 S2 r2 => by
    obtain ⟨p, vs, rfl, h1, g1⟩ := l.at S2 (r1.mono m2)
    cases r2
    obtain ⟨z, h2, g2⟩ := atI_rep g1 h
    exact ⟨p, vs, i, z, rfl, rfl, SqL.of h1, h2, q z Hf2 H2 (m1.trans m2) S2 g2⟩)
theorem ed_ixT {ds : List PyData} {d : PyData} (ha : ED Z a ρ own (.tuple ds)) (hb : ED Z b ρ own (.int i)) (h : atI ds i = some d) (hs : PlainIx b := by exact fun _ _ => rfl) : ED Z (.Subscript a b pos) ρ own d := fun Hf σ H S R Q q =>
  wE.of (pe_ix ix_tup peW peW hs) (ha Hf σ H S R _ fun v Hf1 H1 m1 S1 r1 => hb Hf1 σ H1 S1 (R.mono m1) _ fun w Hf2 H2 m2 S2 r2 => by
    cases (show Rep Hf2 v (.tuple ds) from r1.mono m2) with
    | tup h1 g1 =>
      cases r2
      obtain ⟨z, h2, g2⟩ := atI_rep g1 h
      exact ⟨_, _, i, z, rfl, rfl, SqT.of (S2.e1 _ _ h1), h2, q z Hf2 H2 (m1.trans m2) S2 g2⟩)
def cutD (xs : List PyData) (lo hi : Option Int) : List PyData := (xs.drop (HT.sIx xs.length 0 lo)).take (HT.sIx xs.length xs.length hi - HT.sIx xs.length 0 lo)
theorem cut_rep {H : Hp} {vs : List V} {ds : List PyData} (r : Reps H vs ds) (lo hi : Option Int) : Reps H (cutV vs lo hi) (cutD ds lo hi) := by
  unfold cutV cutD
  rw [r.length]
  exact (r.drop _).take _
/-- an optional part of a slice -/
def PT2 (Z : Ctx) (e : Option Expr) (ρ : List Slot) (own : Own) (o : Option Int) : Prop := ∃ t : TO, PO Z.X e t ∧ ∀ Hf σ H, Sat Z.B Hf H own → EnvR Hf σ ρ → ∀ Q : Option Int → Hp → Prop, (∀ Hf' H', Same Hf Hf' → Sat Z.B Hf' H' own → Q o H') → t σ H Q
theorem po_no : PT2 Z none ρ own none := ⟨_, po_none, fun Hf σ H S R Q q => q Hf H (Same.refl _) S⟩
theorem po_yes (h : ED Z e ρ own (.int i)) : PT2 Z (some e) ρ own (some i) := ⟨_, po_some peW, fun Hf σ H S R Q q => h Hf σ H S R _ fun v Hf1 H1 m1 S1 r1 => by
  cases r1
  exact ⟨i, rfl, q Hf1 H1 m1 S1⟩⟩
theorem el_slice {ds : List PyData} {lo hi : Option Expr} {l h : Option Int} {p2 : Pos} (ha : ES Z a ρ own s) (hl : PT2 Z lo ρ own l) (hh : PT2 Z hi ρ own h) (L : Lst own s ds) : EL Z (.Subscript a (.Slice lo hi none p2) pos) ρ own (cutD ds l h) := by
  obtain ⟨tl, pl, ql⟩ := hl
  obtain ⟨th, ph, qh⟩ := hh
  refine fun Hf σ H S R Q q => wE.of (pe_slice sl_list peW pl ph) (ha Hf σ H S R _ fun v Hf1 H1 m1 S1 r1 => ql Hf1 σ H1 S1 (R.mono m1) _ fun Hf2 H2 m2 S2 => qh Hf2 σ H2 S2 (R.mono (m1.trans m2)) _ fun Hf3 H3 m3 S3 => ?_)
  obtain ⟨p, vs, rfl, h1, g1⟩ := L.at S3 (r1.mono (m2.trans m3))
  exact ⟨p, vs, rfl, SqL.of h1, fun l hl => q l Hf3 _ ((m1.trans m2).trans m3) (S3.newOwn hl ⟨_, upd_same, cut_rep g1 _ _⟩)⟩
end

/-! ### statements -/
structure DE where
  nx : List Slot → Own → Prop
  rt : Slot → Own → Prop
  bk : List Slot → Own → Prop := fun _ _ => False
  ct : List Slot → Own → Prop := fun _ _ => False
def lift (B : Bs) (H0 : Hp) (D : DE) : Ends where
  nx := fun σ H => ∃ Hf ρ own, Same H0 Hf ∧ Sat B Hf H own ∧ EnvR Hf σ ρ ∧ D.nx ρ own
  rt := fun v H => ∃ Hf s own, Same H0 Hf ∧ Sat B Hf H own ∧ SlotR Hf v s ∧ s ≠ .un ∧ D.rt s own
  bk := fun σ H => ∃ Hf ρ own, Same H0 Hf ∧ Sat B Hf H own ∧ EnvR Hf σ ρ ∧ D.bk ρ own
  ct := fun σ H => ∃ Hf ρ own, Same H0 Hf ∧ Sat B Hf H own ∧ EnvR Hf σ ρ ∧ D.ct ρ own
def SD (Z : Ctx) (st : Stmt) (D : DE) (ρ : List Slot) (own : Own) : Prop := ∀ H0 Hf σ H, Same H0 Hf → Sat Z.B Hf H own → EnvR Hf σ ρ → wS Z.X st (lift Z.B H0 D) σ H
def SDs (Z : Ctx) (st : List Stmt) (D : DE) (ρ : List Slot) (own : Own) : Prop := ∀ H0 Hf σ H, Same H0 Hf → Sat Z.B Hf H own → EnvR Hf σ ρ → wSs Z.X st (lift Z.B H0 D) σ H
section
variable {Z : Ctx} {D : DE} {ρ : List Slot} {own : Own} {pos : Pos} {st : Stmt} {sts A B : List Stmt} {e a b c : Expr} {x : PyData} {s t : Slot} {k : Nat}
theorem SP.imp {X : Cx} {pins : List (Addr × Obj)} {D D' : Ends} {f : Flow} {s' : Shared} (h : SP X pins D f s') (h1 : ∀ σ H, D.nx σ H → D'.nx σ H) (h2 : ∀ v H, D.rt v H → D'.rt v H) (h3 : ∀ σ H, D.bk σ H → D'.bk σ H) (h4 : ∀ σ H, D.ct σ H → D'.ct σ H) : SP X pins D' f s' := by
  cases f with
  | next => obtain ⟨σ, H, I, q⟩ := h; exact ⟨σ, H, I, h1 _ _ q⟩
  | brk => obtain ⟨σ, H, I, q⟩ := h; exact ⟨σ, H, I, h3 _ _ q⟩
  | cont => obtain ⟨σ, H, I, q⟩ := h; exact ⟨σ, H, I, h4 _ _ q⟩
  | ret u => obtain ⟨v, σ, H, I, r, q⟩ := h; exact ⟨v, σ, H, I, r, h2 _ _ q⟩
theorem wS.imp {X : Cx} {D D' : Ends} {σ : L2.St} {H : Hp} (h : wS X st D σ H) (h1 : ∀ σ H, D.nx σ H → D'.nx σ H) (h2 : ∀ v H, D.rt v H → D'.rt v H) (h3 : ∀ σ H, D.bk σ H → D'.bk σ H) (h4 : ∀ σ H, D.ct σ H → D'.ct σ H) : wS X st D' σ H :=
  ⟨fun pins s I => thn (h.run pins s I) fun f s' q => SP.imp q h1 h2 h3 h4⟩
theorem wSs.imp {X : Cx} {D D' : Ends} {σ : L2.St} {H : Hp} (h : wSs X sts D σ H) (h1 : ∀ σ H, D.nx σ H → D'.nx σ H) (h2 : ∀ v H, D.rt v H → D'.rt v H) (h3 : ∀ σ H, D.bk σ H → D'.bk σ H) (h4 : ∀ σ H, D.ct σ H → D'.ct σ H) : wSs X sts D' σ H :=
  ⟨fun pins s I => thn (h.run pins s I) fun f s' q => SP.imp q h1 h2 h3 h4⟩
theorem sds_nil (h : D.nx ρ own) : SDs Z [] D ρ own := fun H0 Hf σ H m0 S R => wSs.of pss_nil ⟨Hf, ρ, own, m0, S, R, h⟩
theorem sds_cons (h : SD Z st { D with nx := fun ρ own => SDs Z sts D ρ own } ρ own) : SDs Z (st :: sts) D ρ own := fun H0 Hf σ H m0 S R => wSs.of (pss_cons psW pssW) (wS.imp (h H0 Hf σ H m0 S R) (fun σ' H' ⟨Hf', ρ', own', m', S', R', q⟩ => q H0 Hf' σ' H' m' S' R') (fun _ _ q => q) (fun _ _ q => q) (fun _ _ q => q))
theorem sds_one (h : SD Z st D ρ own) : SDs Z [st] D ρ own := fun H0 Hf σ H m0 S R => wSs.of (pss_one psW) (h H0 Hf σ H m0 S R)
/-- name = e -/
theorem sd_set (i : Nat) {z : Str} {pos' : Pos} (hN : Z.X.N.Nodup) (he : ES Z e ρ own s) (h : D.nx (ρ.set i s) own) (hi : Z.X.N[i]? = some z := by rfl) (hx : Loc Z.X.env.scope z := by first | exact Or.inl rfl | exact Or.inr rfl) (hs : swapsWith e (some (.Name z pos')) pos.line Z.X.env = pure false := by rfl)
    (hf : Z.X.fn z = true ∨ Z.X.env.scope.names.lookup z = some .local := by first | exact .inl rfl | exact .inr rfl | assumption) : SD Z (.Assign [.Name z pos'] e pos) D ρ own := fun H0 Hf σ H m0 S R => wS.of (ps_set hN hi hx peW hs hf) (he Hf σ H S R _ fun v Hf1 H1 m1 S1 r1 => ⟨Hf1, _, own, m0.trans m1, S1, (R.mono m1).set r1 i, h⟩)
/-- name = a new list of one's own -/
theorem sd_setL (i : Nat) {z : Str} {pos' : Pos} {ds : List PyData} (hN : Z.X.N.Nodup) (he : EL Z e ρ own ds) (h : ∀ p, D.nx (ρ.set i (.raw (.ref p))) ((p, .lst ds) :: own)) (hi : Z.X.N[i]? = some z := by rfl) (hx : Loc Z.X.env.scope z := by first | exact Or.inl rfl | exact Or.inr rfl) (hs : swapsWith e (some (.Name z pos')) pos.line Z.X.env = pure false := by rfl)
    (hf : Z.X.fn z = true ∨ Z.X.env.scope.names.lookup z = some .local := by first | exact .inl rfl | exact .inr rfl | assumption) : SD Z (.Assign [.Name z pos'] e pos) D ρ own := fun H0 Hf σ H m0 S R => wS.of (ps_set hN hi hx peW hs hf) (he Hf σ H S R _ fun p Hf1 H1 m1 S1 => ⟨Hf1, _, _, m0.trans m1, S1, (R.mono m1).set (s := .raw (.ref p)) rfl i, h p⟩)
theorem sd_ret (he : ES Z e ρ own s) (hs : s ≠ .un) (h : D.rt s own) : SD Z (.Return (some e) pos) D ρ own := fun H0 Hf σ H m0 S R => wS.of (ps_ret peW) (he Hf σ H S R _ fun v Hf1 H1 m1 S1 r1 => ⟨Hf1, s, own, m0.trans m1, S1, r1, hs, h⟩)
theorem sd_retD (he : ED Z e ρ own x) (h : D.rt (.d x) own) : SD Z (.Return (some e) pos) D ρ own := sd_ret he (fun q => nomatch q) h
theorem sd_retL {ds : List PyData} (he : EL Z e ρ own ds) (h : ∀ p, D.rt (.raw (.ref p)) ((p, .lst ds) :: own)) : SD Z (.Return (some e) pos) D ρ own := fun H0 Hf σ H m0 S R => wS.of (ps_ret peW) (he Hf σ H S R _ fun p Hf1 H1 m1 S1 => ⟨Hf1, .raw (.ref p), _, m0.trans m1, S1, rfl, (fun q => nomatch q), h p⟩)
theorem sd_retX (he : EX Z e ρ own) : SD Z (.Return (some e) pos) D ρ own := fun H0 Hf σ H m0 S R => wS.of (ps_ret peW) (he Hf σ H S R _)
theorem sd_expr (he : ES Z e ρ own s) (h : D.nx ρ own) (hs : swapsWith e none pos.line Z.X.env = pure false := by rfl) : SD Z (.Expr e pos) D ρ own := fun H0 Hf σ H m0 S R => wS.of (ps_expr peW hs) (he Hf σ H S R _ fun v Hf1 H1 m1 S1 r1 => ⟨Hf1, ρ, own, m0.trans m1, S1, R.mono m1, h⟩)
theorem sd_exprX (he : EX Z e ρ own) (hs : swapsWith e none pos.line Z.X.env = pure false := by rfl) : SD Z (.Expr e pos) D ρ own := fun H0 Hf σ H m0 S R => wS.of (ps_expr peW hs) (he Hf σ H S R _)
theorem sd_if {l : Bool} (hc : ET Z c ρ own l) (h1 : l = true → SDs Z A D ρ own) (h2 : l = false → SDs Z B D ρ own) : SD Z (.If c A B pos) D ρ own := fun H0 Hf σ H m0 S R => wS.of (ps_if ptW pssW pssW) (hc Hf σ H S R _ fun Hf1 H1 m1 S1 => by
  cases l with
  | true => exact iteT (h1 rfl H0 Hf1 σ H1 (m0.trans m1) S1 (R.mono m1))
  | false => exact iteF (h2 rfl H0 Hf1 σ H1 (m0.trans m1) S1 (R.mono m1)))
/-- weaker ends -/
theorem SDs.imp {D' : DE} (h : SDs Z sts D ρ own) (h1 : ∀ ρ own, D.nx ρ own → D'.nx ρ own) (h2 : ∀ s own, D.rt s own → D'.rt s own) (h3 : ∀ ρ own, D.bk ρ own → D'.bk ρ own) (h4 : ∀ ρ own, D.ct ρ own → D'.ct ρ own) : SDs Z sts D' ρ own := fun H0 Hf σ H m0 S R => wSs.imp (h H0 Hf σ H m0 S R)
  (fun _ _ ⟨a, b, c, m, d, e, f⟩ => ⟨a, b, c, m, d, e, h1 _ _ f⟩) (fun _ _ ⟨a, b, c, m, d, e, g, f⟩ => ⟨a, b, c, m, d, e, g, h2 _ _ f⟩) (fun _ _ ⟨a, b, c, m, d, e, f⟩ => ⟨a, b, c, m, d, e, h3 _ _ f⟩) (fun _ _ ⟨a, b, c, m, d, e, f⟩ => ⟨a, b, c, m, d, e, h4 _ _ f⟩)
/-- a list of one's own is data from here on (its name: slot i) -/
theorem sds_freeze (i : Nat) {oa ob : Own} {p : Addr} {ds : List PyData} (hi : ρ[i]? = some (.raw (.ref p))) (h : SDs Z sts D (ρ.set i (.d (.list ds))) (oa ++ ob)) : SDs Z sts D ρ (oa ++ (p, .lst ds) :: ob) := fun H0 Hf σ H m0 S R => by
  obtain ⟨Hf', m, S', r⟩ := S.freeze
  refine h H0 Hf' σ H (m0.trans m) S' ?_
  have hv := (R.mono m).raw hi
  have R' := (R.mono m).set (v := .ref p) (s := .d (.list ds)) r i
  have e : σ.set i (some (.ref p)) = σ := by
    refine List.ext_getElem? fun j => ?_
    by_cases hj : i = j
    · subst hj
      have hl : i < σ.length := by
        obtain ⟨h, _⟩ := List.getElem?_eq_some_iff.mp hv
        exact h
      rw [List.getElem?_set_self hl, hv]
    · rw [List.getElem?_set_ne hj]
  rw [e] at R'
  exact R'
theorem sds_drop {oa ob : Own} {p : Addr} {oo : OO} (h : SDs Z sts D ρ (oa ++ ob)) : SDs Z sts D ρ (oa ++ (p, oo) :: ob) := fun H0 Hf σ H m0 S R => h H0 Hf σ H m0 S.drop R
end
end Sd


namespace Sd
open PySem PySem.Spec PyProof.Rows L2
/-! ### values with a change of what is owned -/
def EG (Z : Ctx) (e : Expr) (ρ : List Slot) (own : Own) (R : Slot → Own → Prop) : Prop := ∀ Hf σ H, Sat Z.B Hf H own → EnvR Hf σ ρ → ∀ Q : VK, (∀ v Hf' H' s own', Same Hf Hf' → Sat Z.B Hf' H' own' → SlotR Hf' v s → s ≠ .un → R s own' → Q v H') → wE Z.X e σ H Q
section
variable {Z : Ctx} {e a b c : Expr} {es : List Expr} {ρ : List Slot} {own : Own} {pos : Pos} {x y : PyData} {i j : Int} {s t u : Slot} {k : Nat} {R : Slot → Own → Prop}
theorem ES.toEG (h : ES Z e ρ own s) (hs : s ≠ .un) (q : R s own) : EG Z e ρ own R := fun Hf σ H S E Q k => h Hf σ H S E Q fun v Hf' H' m S' r => k v Hf' H' s own m S' r hs q
theorem EG.toES (h : EG Z e ρ own fun t o => t = s ∧ o = own) : ES Z e ρ own s := fun Hf σ H S E Q k => h Hf σ H S E Q fun v Hf' H' t o m S' r _ q => by
  obtain ⟨rfl, rfl⟩ := q
  exact k v Hf' H' m S' r
theorem EG.toEL {ds : List PyData} (h : EG Z e ρ own fun t o => ∃ p, t = .raw (.ref p) ∧ o = (p, .lst ds) :: own) : EL Z e ρ own ds := fun Hf σ H S E Q k => h Hf σ H S E Q fun v Hf' H' t o m S' r _ q => by
  obtain ⟨p, rfl, rfl⟩ := q
  cases (show v = .ref p from r)
  exact k p Hf' H' m S'
theorem EL.toEG {ds : List PyData} (h : EL Z e ρ own ds) (q : ∀ p, R (.raw (.ref p)) ((p, .lst ds) :: own)) : EG Z e ρ own R := fun Hf σ H S E Q k => h Hf σ H S E Q fun p Hf' H' m S' => k _ Hf' H' (.raw (.ref p)) _ m S' rfl (fun z => nomatch z) (q p)
theorem EG.imp {R' : Slot → Own → Prop} (h : EG Z e ρ own R) (q : ∀ s o, R s o → R' s o) : EG Z e ρ own R' := fun Hf σ H S E Q k => h Hf σ H S E Q fun v Hf' H' s o m S' r hs z => k v Hf' H' s o m S' r hs (q s o z)
/-- a op b, the right one with a change -/
theorem eg_bin {op : Operator} {r : R2} {R1 : Slot → Own → Prop} (ho : OpR Z.X (binaryOp op) r) (ha : ES Z a ρ own s) (hb : EG Z b ρ own R1)
    (hr : ∀ v w Hf H t own', Sat Z.B Hf H own' → SlotR Hf v s → SlotR Hf w t → R1 t own' → ∀ Q : VK, (∀ z Hf' H' u, Same Hf Hf' → Sat Z.B Hf' H' own' → SlotR Hf' z u → u ≠ .un → R u own' → Q z H') → r v w H Q) : EG Z (.BinOp a op b pos) ρ own R := fun Hf σ H S E Q q =>
  wE.of (pe_op ho peW peW) (ha Hf σ H S E _ fun v Hf1 H1 m1 S1 r1 => hb Hf1 σ H1 S1 (E.mono m1) _ fun w Hf2 H2 t own' m2 S2 r2 _ q2 => hr v w Hf2 H2 t own' S2 (r1.mono m2) r2 q2 Q fun z Hf3 H3 u m3 S3 r3 hu q3 => q z Hf3 H3 u own' ((m1.trans m2).trans m3) S3 r3 hu q3)
theorem eg_add {P : Int → Own → Prop} (ha : ED Z a ρ own (.int i)) (hb : EG Z b ρ own fun t o => ∃ j, t = .d (.int j) ∧ P j o) : EG Z (.BinOp a .Add b pos) ρ own (fun t o => ∃ j, t = .d (.int (i + j)) ∧ P j o) := eg_bin op_add ha hb fun v w Hf H t own' S r1 r2 q2 Q q => by
  obtain ⟨j, rfl, hp⟩ := q2
  cases r1; cases r2
  exact ⟨i, j, rfl, rfl, q _ Hf H (.d (.int (i + j))) (Same.refl _) S (Rep.int (i + j)) (fun z => nomatch z) ⟨j, rfl, hp⟩⟩
end

/-! ### built-ins called by name -/
section
variable {Z : Ctx} {e a b c : Expr} {es : List Expr} {ρ : List Slot} {own : Own} {pos p : Pos} {x y : PyData} {i j : Int} {s t u : Slot} {k : Nat} {ss : List Slot}
theorem es_callB {id : String} {z : Str} {r : List V → Hp → VK → Prop} (hc : CallR Z.X (.builtin id) r) (hg : Gl Z.X z) (hm : Z.X.mg z = none) (hv : bootBuiltins z = some (.builtin id)) (ha : EA Z (e :: es) ρ own ss)
    (hr : ∀ vs Hf H, Sat Z.B Hf H own → SlotsR Hf vs ss → ∀ Q : VK, (∀ v Hf' H', Same Hf Hf' → Sat Z.B Hf' H' own → SlotR Hf' v s → Q v H') → r vs H Q)
    (hn : z ≠ "__name__" := by decide) (hdb : (z == ("__debug__" : Str)) = false := by decide) (hs : starEach (e :: es) Z.X.env = (false, eval e Z.X.env) :: starEach es Z.X.env := by first | assumption | rfl) (hpl : (backTo pos (starEach es Z.X.env)).any (·.1) = false := by first | assumption | rfl) : ES Z (.Call (.Name z p) (e :: es) [] pos) ρ own s := fun Hf σ H S E Q q =>
  wE.of (pe_callB hc hg hm hv paW hn hdb hs hpl) (ha Hf σ H S E _ fun vs Hf1 H1 m1 S1 r1 => hr vs Hf1 H1 S1 r1 Q fun v Hf2 H2 m2 S2 r2 => q v Hf2 H2 (m1.trans m2) S2 r2)
theorem el_callB {id : String} {z : Str} {ds : List PyData} {r : List V → Hp → VK → Prop} (hc : CallR Z.X (.builtin id) r) (hg : Gl Z.X z) (hm : Z.X.mg z = none) (hv : bootBuiltins z = some (.builtin id)) (ha : EA Z (e :: es) ρ own ss)
    (hr : ∀ vs Hf H, Sat Z.B Hf H own → SlotsR Hf vs ss → ∀ Q : VK, (∀ p Hf' H', Same Hf Hf' → Sat Z.B Hf' H' ((p, .lst ds) :: own) → Q (.ref p) H') → r vs H Q)
    (hn : z ≠ "__name__" := by decide) (hdb : (z == ("__debug__" : Str)) = false := by decide) (hs : starEach (e :: es) Z.X.env = (false, eval e Z.X.env) :: starEach es Z.X.env := by first | assumption | rfl) (hpl : (backTo pos (starEach es Z.X.env)).any (·.1) = false := by first | assumption | rfl) : EL Z (.Call (.Name z p) (e :: es) [] pos) ρ own ds := fun Hf σ H S E Q q =>
  wE.of (pe_callB hc hg hm hv paW hn hdb hs hpl) (ha Hf σ H S E _ fun vs Hf1 H1 m1 S1 r1 => hr vs Hf1 H1 S1 r1 Q fun v Hf2 H2 m2 S2 => q v Hf2 H2 (m1.trans m2) S2)
theorem es_callTy {T : String} {z : Str} {r : List V → Hp → VK → Prop} (hc : CallR Z.X (.type T) r) (hg : Gl Z.X z) (hm : Z.X.mg z = none) (hv : bootBuiltins z = some (.type T)) (ha : EA Z (e :: es) ρ own ss)
    (hr : ∀ vs Hf H, Sat Z.B Hf H own → SlotsR Hf vs ss → ∀ Q : VK, (∀ v Hf' H', Same Hf Hf' → Sat Z.B Hf' H' own → SlotR Hf' v s → Q v H') → r vs H Q)
    (hn : z ≠ "__name__" := by decide) (hdb : (z == ("__debug__" : Str)) = false := by decide) (hs : starEach (e :: es) Z.X.env = (false, eval e Z.X.env) :: starEach es Z.X.env := by first | assumption | rfl) (hpl : (backTo pos (starEach es Z.X.env)).any (·.1) = false := by first | assumption | rfl) : ES Z (.Call (.Name z p) (e :: es) [] pos) ρ own s := fun Hf σ H S E Q q =>
  wE.of (pe_callTy hc hg hm hv paW hn hdb hs hpl) (ha Hf σ H S E _ fun vs Hf1 H1 m1 S1 r1 => hr vs Hf1 H1 S1 r1 Q fun v Hf2 H2 m2 S2 r2 => q v Hf2 H2 (m1.trans m2) S2 r2)
theorem el_callTy {T : String} {z : Str} {ds : List PyData} {r : List V → Hp → VK → Prop} (hc : CallR Z.X (.type T) r) (hg : Gl Z.X z) (hm : Z.X.mg z = none) (hv : bootBuiltins z = some (.type T)) (ha : EA Z (e :: es) ρ own ss)
    (hr : ∀ vs Hf H, Sat Z.B Hf H own → SlotsR Hf vs ss → ∀ Q : VK, (∀ p Hf' H', Same Hf Hf' → Sat Z.B Hf' H' ((p, .lst ds) :: own) → Q (.ref p) H') → r vs H Q)
    (hn : z ≠ "__name__" := by decide) (hdb : (z == ("__debug__" : Str)) = false := by decide) (hs : starEach (e :: es) Z.X.env = (false, eval e Z.X.env) :: starEach es Z.X.env := by first | assumption | rfl) (hpl : (backTo pos (starEach es Z.X.env)).any (·.1) = false := by first | assumption | rfl) : EL Z (.Call (.Name z p) (e :: es) [] pos) ρ own ds := fun Hf σ H S E Q q =>
  wE.of (pe_callTy hc hg hm hv paW hn hdb hs hpl) (ha Hf σ H S E _ fun vs Hf1 H1 m1 S1 r1 => hr vs Hf1 H1 S1 r1 Q fun v Hf2 H2 m2 S2 => q v Hf2 H2 (m1.trans m2) S2)
theorem SlotsR.one {Hf : Hp} {vs : List V} (h : SlotsR Hf vs [s]) : ∃ v, vs = [v] ∧ SlotR Hf v s := by
  cases h with
  | cons a b => cases b; exact ⟨_, rfl, a⟩
theorem SlotsR.two {Hf : Hp} {vs : List V} (h : SlotsR Hf vs [s, t]) : ∃ v w, vs = [v, w] ∧ SlotR Hf v s ∧ SlotR Hf w t := by
  cases h with
  | cons a b =>
    obtain ⟨w, rfl, c⟩ := b.one
    exact ⟨_, w, rfl, a, c⟩
/-- len of a list -/
theorem ed_len {ds : List PyData} (hm : Z.X.mg "len" = none) (h : ES Z e ρ own s) (L : Lst own s ds) (hg : Gl Z.X "len" := by rfl) (hs : starEach [e] Z.X.env = (false, eval e Z.X.env) :: starEach [] Z.X.env := by rfl) : ED Z (.Call (.Name "len" p) [e] [] pos) ρ own (.int ds.length) :=
  es_callB call_len_seq hg hm PySem.boot_len (ea_cons h ea_nil hs) fun vs Hf H S r0 Q q => by
    obtain ⟨v, rfl, r⟩ := r0.one
    obtain ⟨p, vs, rfl, h1, h2⟩ := L.at S r
    exact ⟨p, vs, rfl, .inl (SqL.of h1), by rw [h2.length]; exact q _ Hf H (Same.refl _) S (.int _)⟩
theorem ed_lenT {ds : List PyData} (hm : Z.X.mg "len" = none) (h : ED Z e ρ own (.tuple ds)) (hg : Gl Z.X "len" := by rfl) (hs : starEach [e] Z.X.env = (false, eval e Z.X.env) :: starEach [] Z.X.env := by rfl) : ED Z (.Call (.Name "len" p) [e] [] pos) ρ own (.int ds.length) :=
  es_callB call_len_seq hg hm PySem.boot_len (ea_cons h ea_nil hs) fun vs Hf H S r0 Q q => by
    obtain ⟨v, rfl, r⟩ := r0.one
    cases (show Rep Hf v (.tuple ds) from r) with
    | tup h1 h2 => exact ⟨_, _, rfl, .inr (SqT.of (S.e1 _ _ h1)), by rw [h2.length]; exact q _ Hf H (Same.refl _) S (.int _)⟩
/-- sum of a list of ints -/
theorem ed_sum {ns : List Int} (g : Gd Z k) (hm : Z.X.mg "sum" = none) (h : ES Z e ρ own s) (L : Lst own s (ns.map PyData.int)) (hg : Gl Z.X "sum" := by rfl) (hs : starEach [e] Z.X.env = (false, eval e Z.X.env) :: starEach [] Z.X.env := by rfl) : ED Z (.Call (.Name "sum" p) [e] [] pos) ρ own (.int ns.sum) :=
  es_callB (cr_sum g.calm) hg hm (by decide +kernel) (ea_cons h ea_nil hs) fun vs Hf H S r0 Q q => by
    obtain ⟨v, rfl, r⟩ := r0.one
    obtain ⟨p, vs, rfl, h1, h2⟩ := L.at S r
    cases h2.of_ints
    exact ⟨p, ns, rfl, SqL.of h1, q _ Hf H (Same.refl _) S (.int _)⟩
theorem ed_abs (hm : Z.X.mg "abs" = none) (h : ED Z e ρ own (.int i)) (hg : Gl Z.X "abs" := by rfl) (hs : starEach [e] Z.X.env = (false, eval e Z.X.env) :: starEach [] Z.X.env := by rfl) : ED Z (.Call (.Name "abs" p) [e] [] pos) ρ own (.int (if i < 0 then -i else i)) :=
  es_callB call_abs hg hm (by decide +kernel) (ea_cons h ea_nil hs) fun vs Hf H S r0 Q q => by
    obtain ⟨v, rfl, r⟩ := r0.one
    cases r
    exact ⟨i, rfl, q _ Hf H (Same.refl _) S (.int _)⟩
theorem ed_max2 (g : Gd Z k) (hm : Z.X.mg "max" = none) (h1 : ED Z a ρ own (.int i)) (h2 : ED Z b ρ own (.int j)) (hg : Gl Z.X "max" := by rfl) (hs : starEach [a, b] Z.X.env = (false, eval a Z.X.env) :: starEach [b] Z.X.env := by rfl) (hs2 : starEach [b] Z.X.env = (false, eval b Z.X.env) :: starEach [] Z.X.env := by rfl) (hpl : (backTo pos (starEach [b] Z.X.env)).any (·.1) = false := by rfl) : ED Z (.Call (.Name "max" p) [a, b] [] pos) ρ own (.int (if j > i then j else i)) :=
  es_callB (call_max2 g.calm) hg hm (by decide +kernel) (ea_cons h1 (ea_cons h2 ea_nil hs2) hs) (fun vs Hf H S r0 Q q => by
    obtain ⟨v, w, rfl, r1, r2⟩ := r0.two
    cases r1; cases r2
    exact ⟨i, j, rfl, q _ Hf H (Same.refl _) S (.int _)⟩) (by decide) (by decide) hs hpl
theorem ed_min2 (g : Gd Z k) (hm : Z.X.mg "min" = none) (h1 : ED Z a ρ own (.int i)) (h2 : ED Z b ρ own (.int j)) (hg : Gl Z.X "min" := by rfl) (hs : starEach [a, b] Z.X.env = (false, eval a Z.X.env) :: starEach [b] Z.X.env := by rfl) (hs2 : starEach [b] Z.X.env = (false, eval b Z.X.env) :: starEach [] Z.X.env := by rfl) (hpl : (backTo pos (starEach [b] Z.X.env)).any (·.1) = false := by rfl) : ED Z (.Call (.Name "min" p) [a, b] [] pos) ρ own (.int (if j < i then j else i)) :=
  es_callB (call_min2 g.calm) hg hm (by decide +kernel) (ea_cons h1 (ea_cons h2 ea_nil hs2) hs) (fun vs Hf H S r0 Q q => by
    obtain ⟨v, w, rfl, r1, r2⟩ := r0.two
    cases r1; cases r2
    exact ⟨i, j, rfl, q _ Hf H (Same.refl _) S (.int _)⟩) (by decide) (by decide) hs hpl
/-- max, min of a list of ints -/
theorem ed_max {ns : List Int} {m : Int} (g : Gd Z k) (hm : Z.X.mg "max" = none) (h : ES Z e ρ own s) (L : Lst own s (ns.map PyData.int)) (h1 : m ∈ ns) (h2 : ∀ y ∈ ns, y ≤ m) (hg : Gl Z.X "max" := by rfl) (hs : starEach [e] Z.X.env = (false, eval e Z.X.env) :: starEach [] Z.X.env := by rfl) : ED Z (.Call (.Name "max" p) [e] [] pos) ρ own (.int m) :=
  es_callB (cr_max g.calm) hg hm (by decide +kernel) (ea_cons h ea_nil hs) fun vs Hf H S r0 Q q => by
    obtain ⟨v, rfl, r⟩ := r0.one
    obtain ⟨p, vs, rfl, e1, e2⟩ := L.at S r
    cases e2.of_ints
    refine ⟨p, ns, rfl, SqL.of e1, List.length_pos_of_mem h1, fun n hn hle => ?_⟩
    have : n = m := Int.le_antisymm (h2 n hn) (hle m h1)
    subst this
    exact q _ Hf H (Same.refl _) S (.int _)
theorem ed_all {ns : List Bool} (g : Gd Z k) (hm : Z.X.mg "all" = none) (h : ES Z e ρ own s) (L : Lst own s (ns.map PyData.bool)) (hg : Gl Z.X "all" := by rfl) (hs : starEach [e] Z.X.env = (false, eval e Z.X.env) :: starEach [] Z.X.env := by rfl) : ED Z (.Call (.Name "all" p) [e] [] pos) ρ own (.bool (ns.all id)) :=
  es_callB (cr_all g.calm) hg hm (by decide +kernel) (ea_cons h ea_nil hs) fun vs Hf H S r0 Q q => by
    obtain ⟨v, rfl, r⟩ := r0.one
    obtain ⟨p, vs, rfl, e1, e2⟩ := L.at S r
    cases e2.of_bls
    exact ⟨p, ns, rfl, SqL.of e1, q _ Hf H (Same.refl _) S (.bl _)⟩
theorem el_list {ds : List PyData} (hm : Z.X.mg "list" = none) (h : ES Z e ρ own s) (L : Lst own s ds) (hg : Gl Z.X "list" := by rfl) (hs : starEach [e] Z.X.env = (false, eval e Z.X.env) :: starEach [] Z.X.env := by rfl) : EL Z (.Call (.Name "list" p) [e] [] pos) ρ own ds :=
  el_callTy call_list_of hg hm (by decide +kernel) (ea_cons h ea_nil hs) fun vs Hf H S r0 Q q => by
    obtain ⟨v, rfl, r⟩ := r0.one
    obtain ⟨p, vs, rfl, e1, e2⟩ := L.at S r
    exact ⟨p, vs, rfl, .inl (SqL.of e1), fun l hl => q l Hf _ (Same.refl _) (S.newOwn hl ⟨_, upd_same, e2⟩)⟩
/-- isinstance of data -/
def tyD : PyData → String
  | .none => "NoneType"
  | .bool _ => "bool"
  | .int _ => "int"
  | .str _ => "str"
  | .list _ => "list"
  | .tuple _ => "tuple"
  | .dict _ => "dict"
theorem tyX_rep {K : PySem.W.Frag} {H : Hp} {v : V} {d : PyData} (r : Rep H v d) : TyX K H v (.type (tyD d)) := by
  cases r with
  | non => exact .base .non
  | bl b => exact .base (.bl b)
  | int i => exact .base (.int i)
  | str z => exact .base (.str z)
  | lst h _ => exact .base (.lst h)
  | tup h _ => exact .base (.tup h)
theorem ed_isi {T : String} {l : Bool} (hm : Z.X.mg "isinstance" = none) (h : ES Z a ρ own s) (d : Dat own s x) (hc : EV Z b ρ own (.ty T)) (hk : kitB (tyD x) T = some l) (hg : Gl Z.X "isinstance" := by rfl) (hs : starEach [a, b] Z.X.env = (false, eval a Z.X.env) :: starEach [b] Z.X.env := by rfl) (hs2 : starEach [b] Z.X.env = (false, eval b Z.X.env) :: starEach [] Z.X.env := by rfl) (hpl : (backTo pos (starEach [b] Z.X.env)).any (·.1) = false := by rfl) :
    ED Z (.Call (.Name "isinstance" p) [a, b] [] pos) ρ own (.bool l) :=
  es_callB call_isi hg hm (by decide +kernel) (ea_cons h (ea_cons hc ea_nil hs2) hs) (fun vs Hf H S r0 Q q => by
    obtain ⟨v, w, rfl, r1, r2⟩ := r0.two
    cases (show w = .ty T from r2)
    exact ⟨v, .ty T, .type (tyD x), .type T, l, rfl, .ty T, tyX_rep (d.at S r1), kit_ty hk, q _ Hf H (Same.refl _) S (.bl l)⟩) (by decide) (by decide) hs hpl
end

/-! ### targets -/
structure wG (X : Cx) (tg : Expr) (v : V) (σ : L2.St) (H : Hp) (Q : L2.St → Hp → Prop) : Prop where
  run : ∀ (pins : List (Addr × Obj)) (s : Shared) (u : Value), Inv X pins σ H s → RelV v u → wpAny (model X.prog X.w) X.A (assign tg X.env u) (fun _ s' => ∃ σ' H', Inv X pins σ' H' s' ∧ Q σ' H') X.xe s
structure wGs (X : Cx) (ts : List Expr) (vs : List V) (σ : L2.St) (H : Hp) (Q : L2.St → Hp → Prop) : Prop where
  run : ∀ (pins : List (Addr × Obj)) (s : Shared) (us : List Value), Inv X pins σ H s → Vals vs us → wpAny (model X.prog X.w) X.A (assignInOrder ((assignEach ts X.env).map (·.2)) us) (fun _ s' => ∃ σ' H', Inv X pins σ' H' s' ∧ Q σ' H') X.xe s
theorem pgW {X : Cx} {tg : Expr} : PG X tg (wG X tg) := ⟨fun pins s _ _ _ u _ I r h => h.run pins s u I r⟩
theorem pgsW {X : Cx} {ts : List Expr} : PGs X ts (wGs X ts) := ⟨fun pins s _ _ _ us _ I r h => h.run pins s us I r⟩
theorem wG.of {X : Cx} {tg : Expr} {g : TG} (h : PG X tg g) {v : V} {σ : L2.St} {H : Hp} {Q : L2.St → Hp → Prop} (q : g v σ H Q) : wG X tg v σ H Q := ⟨fun pins s u I r => h.run pins s σ H v u Q I r q⟩
theorem wGs.of {X : Cx} {ts : List Expr} {g : TGs} (h : PGs X ts g) {v : List V} {σ : L2.St} {H : Hp} {Q : L2.St → Hp → Prop} (q : g v σ H Q) : wGs X ts v σ H Q := ⟨fun pins s u I r => h.run pins s σ H v u Q I r q⟩
/-- σ' is σ but for the slots is -/
def But (is : List Nat) (σ σ' : L2.St) : Prop := σ'.length = σ.length ∧ ∀ i : Nat, i ∉ is → σ'[i]? = σ[i]?
def GT (Z : Ctx) (tg : Expr) (x : PyData) (ρ ρ' : List Slot) (is : List Nat) : Prop := ∀ own Hf σ H v, Sat Z.B Hf H own → EnvR Hf σ ρ → Rep Hf v x → ∀ Q : L2.St → Hp → Prop, (∀ σ', EnvR Hf σ' ρ' → But is σ σ' → Q σ' H) → wG Z.X tg v σ H Q
def GTs (Z : Ctx) (ts : List Expr) (xs : List PyData) (ρ ρ' : List Slot) (is : List Nat) : Prop := ∀ own Hf σ H vs, Sat Z.B Hf H own → EnvR Hf σ ρ → Reps Hf vs xs → ∀ Q : L2.St → Hp → Prop, (∀ σ', EnvR Hf σ' ρ' → But is σ σ' → Q σ' H) → wGs Z.X ts vs σ H Q
section
variable {Z : Ctx} {e : Expr} {es : List Expr} {ρ ρ' ρ'' : List Slot} {x : PyData} {xs : List PyData} {is js : List Nat} {pos : Pos}
theorem gt_name (i : Nat) {z : Str} (nd : Z.X.N.Nodup) (hi : Z.X.N[i]? = some z := by rfl) (hx : Loc Z.X.env.scope z := by first | exact Or.inl rfl | exact Or.inr rfl) (hf : Z.X.fn z = true ∨ Z.X.env.scope.names.lookup z = some .local := by first | exact .inl rfl | exact .inr rfl | assumption) : GT Z (.Name z pos) x ρ (ρ.set i (.d x)) [i] := fun own Hf σ H v S R r Q q =>
  wG.of (pg_name nd hi hx hf) (q _ (R.set (s := .d x) r i) ⟨by rw [List.length_set], fun j hj => by rw [List.getElem?_set_ne (fun z => hj (by simp [z]))]⟩)
theorem gts_nil : GTs Z [] [] ρ ρ [] := fun own Hf σ H v S R r Q q => wGs.of pgs_nil (by
  cases r
  exact ⟨rfl, q σ R ⟨rfl, fun _ _ => rfl⟩⟩)
theorem gts_cons (h1 : GT Z e x ρ ρ' is) (h2 : GTs Z es xs ρ' ρ'' js) (hs : (assignEach (e :: es) Z.X.env).map (·.2) = assign e Z.X.env :: (assignEach es Z.X.env).map (·.2) := by rfl) : GTs Z (e :: es) (x :: xs) ρ ρ'' (is ++ js) := fun own Hf σ H vs S R r Q q => wGs.of (pgs_cons pgW pgsW hs) (by
  cases r with
  | cons a b =>
    refine ⟨_, _, rfl, h1 own Hf σ H _ S R a _ fun σ1 R1 b1 => h2 own Hf σ1 H _ S R1 b Q fun σ2 R2 b2 => q σ2 R2 ⟨b2.1.trans b1.1, fun i hi => ?_⟩⟩
    rw [b2.2 i (fun z => hi (List.mem_append_right _ z)), b1.2 i (fun z => hi (List.mem_append_left _ z))])
theorem gt_tup {n : Nat} {kk : Nat} (hc : Z.X.calm = true) (h : GTs Z es xs ρ ρ' is) (hl : xs.length = n) (hn : (assignEach es Z.X.env).length = n := by rfl) (hst : (assignEach es Z.X.env).findIdx? (·.1) = none := by rfl) : GT Z (.Tuple es kk pos) (.tuple xs) ρ ρ' is := fun own Hf σ H v S R r Q q => wG.of (pg_tup hc pgsW hn hst) (by
  cases r with
  | tup h1 h2 => exact ⟨_, _, rfl, SqT.of (S.e1 _ _ h1), by rw [h2.length, hl], h own Hf σ H _ S R h2 Q q⟩)
end

/-! ### what is walked -/
structure Walk (B : Bs) (J : It) (Hf : Hp) (ys : List PyData) (Po : Own → Prop) : Prop where
  go : ∀ i Hf' H' own', Same Hf Hf' → Sat B Hf' H' own' → Po own' → i < ys.length → J.go i H'
  yld : ∀ i y Hf' H' own' x H2, Same Hf Hf' → Sat B Hf' H' own' → Po own' → ys[i]? = some y → J.yld i H' x H2 → ∃ Hf2, Same Hf' Hf2 ∧ Sat B Hf2 H2 own' ∧ Rep Hf2 x y
  stop : ∀ i Hf' H' own', Same Hf Hf' → Sat B Hf' H' own' → Po own' → ys.length ≤ i → J.stop i H'
def IT (Z : Ctx) (tg iter : Expr) (ρ : List Slot) (own : Own) (Po : Own → Prop) (ys : List PyData) : Prop := ∃ wi : TI, PI Z.X tg iter wi ∧ ∀ Hf σ H, Sat Z.B Hf H own → EnvR Hf σ ρ → ∀ R : It → Hp → Prop, (∀ J Hf' H', Same Hf Hf' → Sat Z.B Hf' H' own → Walk Z.B J Hf' ys Po → R J H') → wi σ H R
section
variable {Z : Ctx} {e tg a b c : Expr} {ρ : List Slot} {own : Own} {pos p : Pos} {i j : Int} {k : Nat} {s : Slot} {ds : List PyData}
theorem it_list (h : ED Z e ρ own (.list ds)) : IT Z tg e ρ own (fun _ => True) ds := ⟨_, pi_list peW, fun Hf σ H S E R q => h Hf σ H S E _ fun v Hf1 H1 m1 S1 r1 => by
  cases r1 with
  | @lst a xs _ h1 h2 =>
    refine ⟨a, rfl, ⟨xs, SqL.of (S1.e1 _ _ h1)⟩, q _ Hf1 H1 m1 S1 ⟨fun i Hf' H' own' m S' _ hi => ?_, fun i y Hf' H' own' x H2 m S' _ hy hx => ?_, fun i Hf' H' own' m S' _ hi => ?_⟩⟩
    · have hl : i < xs.length := by rw [h2.length]; exact hi
      exact ⟨xs, xs[i], SqL.of (S'.e1 _ _ (m _ _ h1)), List.getElem?_eq_getElem hl⟩
    · obtain ⟨rfl, hx⟩ := hx
      obtain ⟨v, h3, h4⟩ := h2.get hy
      have e1 := hx xs (SqL.of (S'.e1 _ _ (m _ _ h1)))
      rw [h3] at e1
      cases e1
      exact ⟨Hf', Same.refl _, S', h4.mono m⟩
    · exact ⟨xs, SqL.of (S'.e1 _ _ (m _ _ h1)), by rw [h2.length]; exact hi⟩⟩
/-- over a list of one's own that stays -/
theorem it_own {q : Addr} (h : EV Z e ρ own (.ref q)) (hq : (q, OO.lst ds) ∈ own) : IT Z tg e ρ own (fun o => (q, OO.lst ds) ∈ o) ds := ⟨_, pi_list peW, fun Hf σ H S E R qq => h Hf σ H S E _ fun v Hf1 H1 m1 S1 r1 => by
  cases (show v = .ref q from r1)
  obtain ⟨_, _, xs0, h1, h2⟩ := S1.at hq
  have inj : ∀ {H' : Hp} {xs ys : List V}, H' q = some (.lst xs) → SqL Z.X.K H' q ys → True := fun _ _ => trivial
  refine ⟨q, rfl, ⟨xs0, SqL.of h1⟩, qq _ Hf1 H1 m1 S1 ⟨fun i Hf' H' own' m S' ho hi => ?_, fun i y Hf' H' own' x H2 m S' ho hy hx => ?_, fun i Hf' H' own' m S' ho hi => ?_⟩⟩
  · obtain ⟨_, _, xs, h3, h4⟩ := S'.at ho
    have hl : i < xs.length := by rw [h4.length]; exact hi
    exact ⟨xs, xs[i], SqL.of h3, List.getElem?_eq_getElem hl⟩
  · obtain ⟨rfl, hx⟩ := hx
    obtain ⟨_, _, xs, h3, h4⟩ := S'.at ho
    obtain ⟨v, h5, h6⟩ := h4.get hy
    have e1 := hx xs (SqL.of h3)
    rw [h5] at e1
    cases e1
    exact ⟨Hf', Same.refl _, S', h6⟩
  · obtain ⟨_, _, xs, h3, h4⟩ := S'.at ho
    exact ⟨xs, SqL.of h3, by rw [h4.length]; exact hi⟩⟩
theorem it_tup (h : ED Z e ρ own (.tuple ds)) : IT Z tg e ρ own (fun _ => True) ds := ⟨_, pi_tup peW, fun Hf σ H S E R q => h Hf σ H S E _ fun v Hf1 H1 m1 S1 r1 => by
  cases r1 with
  | @tup a xs _ h1 h2 =>
    refine ⟨a, rfl, ⟨xs, SqT.of (S1.e1 _ _ h1)⟩, q _ Hf1 H1 m1 S1 ⟨fun i Hf' H' own' m S' _ hi => ?_, fun i y Hf' H' own' x H2 m S' _ hy hx => ?_, fun i Hf' H' own' m S' _ hi => ?_⟩⟩
    · have hl : i < xs.length := by rw [h2.length]; exact hi
      exact ⟨xs, xs[i], SqT.of (S'.e1 _ _ (m _ _ h1)), List.getElem?_eq_getElem hl⟩
    · obtain ⟨rfl, hx⟩ := hx
      obtain ⟨v, h3, h4⟩ := h2.get hy
      have e1 := hx xs (SqT.of (S'.e1 _ _ (m _ _ h1)))
      rw [h3] at e1
      cases e1
      exact ⟨Hf', Same.refl _, S', h4.mono m⟩
    · exact ⟨xs, SqT.of (S'.e1 _ _ (m _ _ h1)), by rw [h2.length]; exact hi⟩⟩
/-- lo, lo + 1, .. as data -/
def rng (lo : Int) (n : Nat) : List PyData := (List.range n).map fun (k : Nat) => PyData.int (lo + (k : Int))
theorem rng_length (lo : Int) (n : Nat) : (rng lo n).length = n := by simp [rng]
theorem rng_get {lo : Int} {n k : Nat} {y : PyData} (h : (rng lo n)[k]? = some y) : k < n ∧ y = .int (lo + (k : Int)) := by
  unfold rng at h
  rw [List.getElem?_map] at h
  cases e : (List.range n)[k]? with
  | none => rw [e] at h; cases h
  | some m =>
    rw [e] at h
    obtain ⟨h1, h2⟩ := List.getElem?_eq_some_iff.mp e
    rw [List.getElem_range] at h2
    subst h2
    cases h
    exact ⟨by simpa using h1, rfl⟩
theorem walk_rng {B : Bs} {Hf : Hp} (lo : Int) (n : Nat) : Walk B (Itr lo n) Hf (rng lo n) (fun _ => True) where
  go := fun i _ _ _ _ _ _ hi => by rw [rng_length] at hi; exact hi
  yld := fun i y Hf' H' own' x H2 m S _ hy hx => by
    obtain ⟨rfl, rfl⟩ := hx
    obtain ⟨_, rfl⟩ := rng_get hy
    exact ⟨Hf', Same.refl _, S, .int _⟩
  stop := fun i _ _ _ _ _ _ hi => by rw [rng_length] at hi; exact hi
theorem it_range1 (hm : Z.X.mg "range" = none) (h : ED Z a ρ own (.int i)) (hi : -1000000 ≤ i ∧ i ≤ 1000000) (hg : Gl Z.X "range" := by rfl) (hs : starEach [a] Z.X.env = [(false, eval a Z.X.env)] := by rfl) : IT Z tg (.Call (.Name "range" p) [a] [] pos) ρ own (fun _ => True) (rng 0 i.toNat) :=
  ⟨_, pi_range1 hg hm paW hs, fun Hf σ H S E R q => (ea_cons h ea_nil hs) Hf σ H S E _ fun vs Hf1 H1 m1 S1 r1 => by
    obtain ⟨v, rfl, r⟩ := r1.one
    cases r
    exact ⟨i, rfl, by omega, by omega, q _ Hf1 H1 m1 S1 (walk_rng 0 _)⟩⟩
theorem it_range2 (hm : Z.X.mg "range" = none) (h : ED Z a ρ own (.int i)) (h' : ED Z b ρ own (.int j)) (hi : -1000000 ≤ i ∧ i ≤ 1000000 ∧ -1000000 ≤ j ∧ j ≤ 1000000) (hg : Gl Z.X "range" := by rfl) (hs : starEach [a, b] Z.X.env = [(false, eval a Z.X.env), (false, eval b Z.X.env)] := by rfl) (hs2 : starEach [b] Z.X.env = [(false, eval b Z.X.env)] := by rfl) : IT Z tg (.Call (.Name "range" p) [a, b] [] pos) ρ own (fun _ => True) (rng i (j - i).toNat) :=
  ⟨_, pi_range2 hg hm paW hs hs2, fun Hf σ H S E R q => (ea_cons h (ea_cons h' ea_nil hs2) (by rw [hs, hs2])) Hf σ H S E _ fun vs Hf1 H1 m1 S1 r0 => by
    obtain ⟨v, w, rfl, r1, r2⟩ := r0.two
    cases r1; cases r2
    exact ⟨i, j, rfl, by omega, q _ Hf1 H1 m1 S1 (walk_rng i _)⟩⟩
/-- enumerate of a list -/
def enumD (ds : List PyData) : List PyData := (List.range ds.length).map fun (k : Nat) => PyData.tuple [.int (k : Int), ds.getD k .none]
theorem enumD_get {ds : List PyData} {k : Nat} {y : PyData} (h : (enumD ds)[k]? = some y) : ∃ d, ds[k]? = some d ∧ y = .tuple [.int (k : Int), d] := by
  unfold enumD at h
  rw [List.getElem?_map] at h
  cases e : (List.range ds.length)[k]? with
  | none => rw [e] at h; cases h
  | some m =>
    rw [e] at h
    obtain ⟨h1, h2⟩ := List.getElem?_eq_some_iff.mp e
    rw [List.getElem_range] at h2
    subst h2
    cases h
    have h1' : k < ds.length := by simpa using h1
    exact ⟨ds[k], List.getElem?_eq_getElem h1', by dsimp only; rw [List.getD_eq_getElem?_getD, List.getElem?_eq_getElem h1']; rfl⟩
theorem it_enum {elts : List Expr} {kk : Nat} {tpos : Pos} (hm : Z.X.mg "enumerate" = none) (h : ED Z e ρ own (.list ds)) (hg : Gl Z.X "enumerate" := by rfl) (hs : starEach [e] Z.X.env = [(false, eval e Z.X.env)] := by rfl) : IT Z (.Tuple elts kk tpos) (.Call (.Name "enumerate" p) [e] [] pos) ρ own (fun _ => True) (enumD ds) :=
  ⟨_, pi_enum hg hm paW hs, fun Hf σ H S E R q => (ea_cons h ea_nil hs) Hf σ H S E _ fun vs Hf1 H1 m1 S1 r1 => by
    obtain ⟨v, rfl, r⟩ := r1.one
    cases (show Rep Hf1 v (.list ds) from r) with
    | @lst a xs _ h1 h2 =>
      refine ⟨a, xs, rfl, SqL.of (S1.e1 _ _ h1), q _ Hf1 H1 m1 S1 ⟨fun i Hf' H' own' m S' _ hi => ?_, fun i y Hf' H' own' x H2 m S' _ hy hx => ?_, fun i Hf' H' own' m S' _ hi => ?_⟩⟩
      · have hl : i < xs.length := by rw [h2.length]; simpa [enumD] using hi
        exact ⟨xs, xs[i], SqL.of (S'.e1 _ _ (m _ _ h1)), List.getElem?_eq_getElem hl⟩
      · obtain ⟨T, z, rfl, nT, rfl, hx⟩ := hx
        obtain ⟨d, hd, rfl⟩ := enumD_get hy
        obtain ⟨v, h3, h4⟩ := h2.get hd
        have e1 := hx xs (SqL.of (S'.e1 _ _ (m _ _ h1)))
        rw [h3] at e1
        cases e1
        exact ⟨_, S'.new_same nT _, S'.new nT _, .tup upd_same (.cons (.int _) (.cons (h4.mono (m.trans (S'.new_same nT _))) .nil))⟩
      · exact ⟨xs, SqL.of (S'.e1 _ _ (m _ _ h1)), by rw [h2.length]; simpa [enumD] using hi⟩⟩
/-- zip of two lists -/
def zipD (xs ys : List PyData) : List PyData := (xs.zip ys).map fun p => PyData.tuple [p.1, p.2]
theorem it_zip {e2 : Expr} {ys : List PyData} {elts : List Expr} {kk : Nat} {tpos : Pos} (hm : Z.X.mg "zip" = none) (h : ED Z e ρ own (.list ds)) (h' : ED Z e2 ρ own (.list ys)) (hg : Gl Z.X "zip" := by rfl) (hs : starEach [e, e2] Z.X.env = (false, eval e Z.X.env) :: starEach [e2] Z.X.env := by rfl) (hs2 : starEach [e2] Z.X.env = (false, eval e2 Z.X.env) :: starEach [] Z.X.env := by rfl) (hpl : (backTo pos (starEach [e2] Z.X.env)).any (·.1) = false := by rfl) : IT Z (.Tuple elts kk tpos) (.Call (.Name "zip" p) [e, e2] [] pos) ρ own (fun _ => True) (zipD ds ys) :=
  ⟨_, pi_zip hg hm paW hs hpl, fun Hf σ H S E R q => (ea_cons h (ea_cons h' ea_nil hs2) hs) Hf σ H S E _ fun vs Hf1 H1 m1 S1 r0 => by
    obtain ⟨v, w, rfl, r1, r2⟩ := r0.two
    cases (show Rep Hf1 v (.list ds) from r1) with
    | @lst a xs _ h1 h2 =>
      cases (show Rep Hf1 w (.list ys) from r2) with
      | @lst b zs _ g1 g2 =>
        have ln : (zipD ds ys).length = min xs.length zs.length := by rw [h2.length, g2.length]; simp [zipD]
        refine ⟨a, b, xs, zs, rfl, SqL.of (S1.e1 _ _ h1), SqL.of (S1.e1 _ _ g1), q _ Hf1 H1 m1 S1 ⟨fun i Hf' H' own' m S' _ hi => ?_, fun i y Hf' H' own' x H2 m S' _ hy hx => ?_, fun i Hf' H' own' m S' _ hi => ?_⟩⟩
        · rw [ln] at hi
          have hl : i < xs.length := by omega
          have hl2 : i < zs.length := by omega
          exact ⟨xs, zs, xs[i], zs[i], SqL.of (S'.e1 _ _ (m _ _ h1)), SqL.of (S'.e1 _ _ (m _ _ g1)), List.getElem?_eq_getElem hl, List.getElem?_eq_getElem hl2⟩
        · obtain ⟨T, z1, z2, rfl, nT, rfl, hx1, hx2⟩ := hx
          unfold zipD at hy
          rw [List.getElem?_map] at hy
          cases ez : (ds.zip ys)[i]? with
          | none => rw [ez] at hy; cases hy
          | some pr =>
            rw [ez] at hy
            cases hy
            obtain ⟨d1, d2⟩ := pr
            rw [List.getElem?_zip_eq_some] at ez
            obtain ⟨v1, h3, h4⟩ := h2.get ez.1
            obtain ⟨v2, h5, h6⟩ := g2.get ez.2
            have e1 := hx1 xs (SqL.of (S'.e1 _ _ (m _ _ h1)))
            rw [h3] at e1
            cases e1
            have e2 := hx2 zs (SqL.of (S'.e1 _ _ (m _ _ g1)))
            rw [h5] at e2
            cases e2
            exact ⟨_, S'.new_same nT _, S'.new nT _, .tup upd_same (.cons (h4.mono (m.trans (S'.new_same nT _))) (.cons (h6.mono (m.trans (S'.new_same nT _))) .nil))⟩
        · rw [ln] at hi
          exact ⟨xs, zs, SqL.of (S'.e1 _ _ (m _ _ h1)), SqL.of (S'.e1 _ _ (m _ _ g1)), by omega⟩⟩
end

/-! ### loops -/
section
variable {Z : Ctx} {D : DE} {ρ : List Slot} {own : Own} {pos : Pos} {body : List Stmt} {tg iter c : Expr} {ys : List PyData} {Po : Own → Prop} {k : Nat}
theorem sd_for (g : Gd Z k) (it : IT Z tg iter ρ own Po ys) (I : Nat → List Slot → Own → Prop) (h0 : I 0 ρ own) (hp : ∀ i ρ own, I i ρ own → Po own)
    (step : ∀ i y ρ1 own1, ys[i]? = some y → I i ρ1 own1 → ∃ ρ2 is, GT Z tg y ρ1 ρ2 is ∧ SDs Z body { D with nx := I (i + 1), ct := I (i + 1), bk := D.nx } ρ2 own1) (hd : ∀ ρ1 own1, I ys.length ρ1 own1 → D.nx ρ1 own1)
    (hs : ∀ x, foldedSetIterable iter Z.X.env x = pure x := by intro _; rfl) : SD Z (.For tg iter body [] pos) D ρ own := by
  obtain ⟨wi, hi, hw⟩ := it
  refine fun H0 Hf σ H m0 S E => wS.of (ps_for g.po g.calm hi pgW pssW hs) (hw Hf σ H S E _ fun J Hf1 H1 m1 S1 W => ?_)
  refine ⟨fun i m σ' H' => m = ys.length - i ∧ i ≤ ys.length ∧ ∃ Hf' ρ' own', Same Hf1 Hf' ∧ Sat Z.B Hf' H' own' ∧ EnvR Hf' σ' ρ' ∧ I i ρ' own', ⟨ys.length, by omega, by omega, Hf1, ρ, own, Same.refl _, S1, E.mono m1, h0⟩, ?_⟩
  rintro i m σ' H' ⟨rfl, hi, Hf', ρ', own', m', S', E', q⟩
  by_cases hlt : i < ys.length
  · refine .inr ⟨W.go i Hf' H' own' m' S' (hp _ _ _ q) hlt, fun σ2 H2 => ∃ Hf2 ρ2 own2, Same Hf1 Hf2 ∧ Sat Z.B Hf2 H2 own2 ∧ EnvR Hf2 σ2 ρ2 ∧ I (i + 1) ρ2 own2, fun σ2 H2 ⟨Hf2, ρ2, own2, m2, S2, E2, q2⟩ => ⟨ys.length - (i + 1), by omega, rfl, hlt, Hf2, ρ2, own2, m2, S2, E2, q2⟩, fun x H2 hx => ?_⟩
    obtain ⟨Hf2, m2, S2, r2⟩ := W.yld i _ Hf' H' own' x H2 m' S' (hp _ _ _ q) (List.getElem?_eq_getElem hlt) hx
    obtain ⟨ρ2, is, gt, sb⟩ := step i _ ρ' own' (List.getElem?_eq_getElem hlt) q
    refine gt own' Hf2 σ' H2 x S2 (E'.mono m2) r2 _ fun σ3 E3 _ => ?_
    refine wSs.imp (sb Hf1 Hf2 σ3 H2 (m'.trans m2) S2 E3) (fun _ _ q => q) (fun v H3 ⟨a1, a2, a3, a4, a5⟩ => ⟨a1, a2, a3, (m0.trans m1).trans a4, a5⟩) (fun v H3 ⟨a1, a2, a3, a4, a5⟩ => ⟨a1, a2, a3, (m0.trans m1).trans a4, a5⟩) (fun _ _ q => q)
  · have e : i = ys.length := by omega
    subst e
    exact .inl ⟨W.stop _ Hf' H' own' m' S' (hp _ _ _ q) (Nat.le_refl _), Hf', ρ', own', (m0.trans m1).trans m', S', E', hd _ _ q⟩
end
end Sd


namespace Sd
open PySem PySem.Spec PyProof.Rows L2
/-! ### promises of defs, over data -/
inductive Out where
  | ret (s : Slot) (own : Own)
  | exc (C : Addr) (own : Own)
abbrev Pr := List Slot → Own → (Out → Prop) → Prop
def spG (Pre : Pr) : Sp := fun vs H Q E => ∃ Hf HB ss own post, Sat ⟨Hf, HB⟩ Hf H own ∧ SlotsR Hf vs ss ∧ Pre ss own post ∧ (∀ s own' v Hf' H', post (.ret s own') → Sat ⟨Hf, HB⟩ Hf' H' own' → SlotR Hf' v s → s ≠ .un → Q v H') ∧
  (∀ C own' Hf' H', post (.exc C own') → Sat ⟨Hf, HB⟩ Hf' H' own' → E (.ref C) none H')
/-- the heap without some addresses -/
def less (H : Hp) (l : List Addr) : Hp := fun p => if p ∈ l then none else H p
theorem less_out {H : Hp} {l : List Addr} {p : Addr} (h : p ∉ l) : less H l p = H p := by unfold less; rw [if_neg h]
theorem less_in {H : Hp} {l : List Addr} {p : Addr} (h : p ∈ l) : less H l p = none := by unfold less; rw [if_pos h]
theorem less_none {H : Hp} {l : List Addr} {p : Addr} (h : less H l p = none) : p ∈ l ∨ H p = none := by
  by_cases hp : p ∈ l
  · exact .inl hp
  · rw [less_out hp] at h; exact .inr h
/-- into a callee with part of what is owned, and back -/
theorem Sat.into {B : Bs} {Hf H : Hp} {oa o1 ob : Own} (S : Sat B Hf H (oa ++ o1 ++ ob)) : Sat ⟨Hf, less H (o1.map (·.1))⟩ Hf H o1 := by
  have nd := S.nd
  rw [List.map_append, List.map_append] at nd
  refine ⟨Same.refl _, S.e1, fun p o h => ?_, fun p o h hb => ?_, fun q hq => ?_, (List.nodup_append.mp (List.nodup_append.mp nd).1).2.1, S.tp⟩
  · have h : less H (o1.map (·.1)) p = some o := h
    by_cases hp : p ∈ o1.map (·.1)
    · rw [show less H (o1.map (·.1)) p = none from less_in hp] at h; cases h
    · rw [← less_out (H := H) hp]; exact h
  · rw [show Hf p = none from hb] at h; cases h
  · obtain ⟨a, b, c⟩ := S.ow q (by simp [hq])
    exact ⟨a, less_in (List.mem_map.mpr ⟨q, hq, rfl⟩), c⟩
theorem Sat.back {B : Bs} {Hf H Hf' H' : Hp} {oa o1 o1' ob : Own} (S : Sat B Hf H (oa ++ o1 ++ ob)) (S' : Sat ⟨Hf, less H (o1.map (·.1))⟩ Hf' H' o1') : Sat B Hf' H' (oa ++ o1' ++ ob) := by
  have nd := S.nd
  rw [List.map_append, List.map_append] at nd
  obtain ⟨nd12, nd3, d3⟩ := List.nodup_append.mp nd
  obtain ⟨nd1, nd2, d1⟩ := List.nodup_append.mp nd12
  have b1 : ∀ p, p ∈ o1.map (·.1) → B.HB p = none := fun p hp => by
    obtain ⟨q, hq, rfl⟩ := List.mem_map.mp hp
    exact (S.ow q (by simp [hq])).2.1
  have other : ∀ q, q ∈ oa ∨ q ∈ ob → q ∈ oa ++ o1 ++ ob ∧ q.1 ∉ o1.map (·.1) := fun q hq => by
    rcases hq with h | h
    · exact ⟨by simp [h], fun z => d1 _ (List.mem_map.mpr ⟨q, h, rfl⟩) _ z rfl⟩
    · exact ⟨by simp [h], fun z => d3 _ (List.mem_append_right _ z) _ (List.mem_map.mpr ⟨q, h, rfl⟩) rfl⟩
  have there : ∀ q, q ∈ oa ∨ q ∈ ob → ∃ u, less H (o1.map (·.1)) q.1 = some u ∧ H q.1 = some u := fun q hq => by
    obtain ⟨hm, hn⟩ := other q hq
    obtain ⟨u, hu⟩ := (S.ow q hm).2.2.there
    exact ⟨u, by rw [less_out hn]; exact hu, hu⟩
  have keyO : ∀ q, q ∈ oa ∨ q ∈ ob → Hf' q.1 = none ∧ B.HB q.1 = none ∧ OwnOk Hf' H' q.1 q.2 := fun q hq => by
    obtain ⟨hm, hn⟩ := other q hq
    obtain ⟨a, b, c⟩ := S.ow q hm
    obtain ⟨u, h1, h2⟩ := there q hq
    refine ⟨?_, b, c.mono S'.e0 fun u' hu' => S'.eb _ _ (by show less H _ q.1 = _; rw [less_out hn]; exact hu')⟩
    cases e : Hf' q.1 with
    | none => rfl
    | some o =>
      have z := S'.fr q.1 o e a
      have z' : less H (o1.map (·.1)) q.1 = none := z
      rw [h1] at z'; cases z'
  refine ⟨S.e0.trans S'.e0, S'.e1, fun p o h => ?_, fun p o h hb => ?_, fun q hq => ?_, ?_, S'.tp⟩
  · refine S'.eb p o ?_
    show less H _ p = some o
    rw [less_out (fun z => by rw [b1 p z] at h; cases h)]
    exact S.eb p o h
  · cases e : Hf p with
    | some u => exact S.fr p u e hb
    | none =>
      have z : less H (o1.map (·.1)) p = none := S'.fr p o h e
      rcases less_none z with z | z
      · exact b1 p z
      · exact S.eb.free z
  · rcases List.mem_append.mp hq with h | h
    · rcases List.mem_append.mp h with h | h
      · exact keyO q (.inl h)
      · obtain ⟨a, b, c⟩ := S'.ow q h
        refine ⟨a, ?_, c⟩
        rcases less_none (show less H (o1.map (·.1)) q.1 = none from b) with z | z
        · exact b1 _ z
        · exact S.eb.free z
    · exact keyO q (.inr h)
  · have dj : ∀ q q', (q ∈ oa ∨ q ∈ ob) → q' ∈ o1' → q.1 ≠ q'.1 := fun q q' hq hq' e => by
      obtain ⟨u, h1, _⟩ := there q hq
      have z : less H (o1.map (·.1)) q'.1 = none := (S'.ow q' hq').2.1
      rw [← e, h1] at z; cases z
    rw [List.map_append, List.map_append]
    refine List.nodup_append.mpr ⟨List.nodup_append.mpr ⟨nd1, S'.nd, fun x hx y hy => ?_⟩, nd3, fun x hx y hy => ?_⟩
    · obtain ⟨q, hq, rfl⟩ := List.mem_map.mp hx
      obtain ⟨q', hq', rfl⟩ := List.mem_map.mp hy
      exact dj q q' (.inl hq) hq'
    · obtain ⟨q', hq', rfl⟩ := List.mem_map.mp hy
      rcases List.mem_append.mp hx with hx | hx
      · exact d3 _ (List.mem_append_left _ hx) _ (List.mem_map.mpr ⟨q', hq', rfl⟩)
      · obtain ⟨q, hq, rfl⟩ := List.mem_map.mp hx
        exact fun e => dj q' q (.inr hq') hq e.symm

/-! ### a def keeps its promise -/
section
variable {P : Program} {w : World} {K : PySem.W.Frag} {mg : Str → Option Value} {base : Heap}
theorem SlotsR.env {Hf : Hp} : ∀ {vs : List V} {ss : List Slot}, SlotsR Hf vs ss → ∀ n : Nat, EnvR Hf (vs.map some ++ List.replicate n none) (ss ++ List.replicate n .un)
  | _, _, .nil, n => ⟨by simp, fun i s h => .inl (by
      have h' : (List.replicate n Slot.un)[i]? = some s := h
      rw [List.getElem?_replicate] at h'
      split at h'
      · cases h'; rfl
      · cases h')⟩
  | _, _, .cons (s := s₀) a b, n => by
    have ih := SlotsR.env b n
    refine ⟨by simpa using ih.len, fun i s h => ?_⟩
    cases i with
    | zero =>
      have e : s₀ = s := by simpa using h
      subst e
      exact .inr ⟨_, rfl, a⟩
    | succ i => exact ih.at_ i s (by simpa using h)
/-- the context of a def's body -/
abbrev ctxOf (P : Program) (w : World) (K : PySem.W.Frag) (mg : Str → Option Value) (base : Heap) (N : List Str) (qual : Str) (st : Stmt) (f : Addr) (cdv : Value) (A : Around) (outer : List Env) (s : Shared) (H : Hp) (E : XK) (B : Bs) (ex : Addr → List Slot → Own → Prop) : Ctx :=
  ⟨cxOf (L2.CX P w) P w K mg base N qual (defScope st) f cdv A outer s H E, B, ex⟩
/-- what a body may lean on: the module's facts, the def's names -/
structure Bd (Z : Ctx) (P : Program) (w : World) (K : PySem.W.Frag) (mg : Str → Option Value) (base : Heap) : Prop where
  p : Z.X.prog = P
  w_ : Z.X.w = w
  k : Z.X.K = K
  mg : Z.X.mg = mg
  b : Z.X.base = base
theorem okG {x qual : Str} {st : Stmt} {f : Addr} {fd : FuncData} {N ps : List Str} {k : Nat} {Pre : Pr} (F : Fun K x qual st f fd) (S : FnScope N ps (defScope st)) (len : ∀ ss own post, Pre ss own post → ss.length = ps.length)
    (hbody : ∀ (ss : List Slot) (own : Own) (post : Out → Prop), Pre ss own post → ∀ (cdv : Value) (A : Around) (outer : List Env) (s : Shared) (H : Hp) (E : XK) (B : Bs), Gd (ctxOf P w K mg base N qual st f cdv A outer s H E B (fun C _ own => post (.exc C own))) k →
      SDs (ctxOf P w K mg base N qual st f cdv A outer s H E B (fun C _ own => post (.exc C own))) (defBody st) { nx := fun _ own => post (.ret (.d .none) own), rt := fun s own => post (.ret s own) } (ss ++ List.replicate (N.length - ss.length) .un) own) :
    FnOk P w K mg base (L2.CX P w) (k + 1) f fd ps (spG Pre) := by
  refine F.okX S (fun vs H Q E h => ?_) (fun cdv A outer s H vs Q E hr h => ?_)
  · obtain ⟨Hf, HB, ss, own, post, _, r, h, _⟩ := h
    rw [r.length]
    exact len _ _ _ h
  · obtain ⟨Hf, HB, ss, own, post, S0, r, h, q1, q2⟩ := h
    refine ⟨_, pssW, ?_⟩
    have g : Gd (ctxOf P w K mg base N qual st f cdv A outer s H E ⟨Hf, HB⟩ (fun C _ own => post (.exc C own))) k := by
      refine ⟨?_, passes_of rfl, rfl, S.nd, hr⟩
      refine Takes.imp (takes_of (E := E) rfl rfl rfl rfl) fun c d σ H' hw => ?_
      obtain ⟨C, Hf', ρ, own', rfl, rfl, S', _, hx⟩ := hw
      exact q2 C own' Hf' H' hx S'
    have z := hbody ss own post h cdv A outer s H E ⟨Hf, HB⟩ g Hf Hf (L2.start N vs) H (Same.refl _) S0 (by unfold L2.start; rw [r.length]; exact r.env _)
    refine wSs.imp z (fun σ H' hz => ?_) (fun v H' hz => ?_) (fun _ _ hz => ?_) (fun _ _ hz => ?_)
    · obtain ⟨Hf', ρ, own', _, S', _, hp⟩ := hz
      exact q1 _ own' _ Hf' H' hp S' (Rep.non) (fun z => nomatch z)
    · obtain ⟨Hf', t, own', _, S', r', hu, hp⟩ := hz
      exact q1 t own' v Hf' H' hp S' r' hu
    · obtain ⟨_, _, _, _, _, _, hp⟩ := hz
      exact hp.elim
    · obtain ⟨_, _, _, _, _, _, hp⟩ := hz
      exact hp.elim
end

/-! ### calls of defs -/
/-- all that a call of the def named z wants -/
structure Fn (K : PySem.W.Frag) (mg : Str → Option Value) (P : Program) (w : World) (base : Heap) (z : Str) (ps : List Str) (k : Nat) (Pre : Pr) : Prop where
  ex : ∃ f fd, FnOk P w K mg base (L2.CX P w) k f fd ps (spG Pre) ∧ mg z = some (.ref f) ∧ PySem.W.keepIn K (.ref f) = true ∧ Binds K fd ps []
section
variable {Z : Ctx} {e a b c : Expr} {es : List Expr} {ρ : List Slot} {own oa o1 ob : Own} {pos p : Pos} {x y : PyData} {s t u : Slot} {k j : Nat} {ss : List Slot} {z : Str} {ps : List Str} {Pre : Pr} {post : Out → Prop} {R : Slot → Own → Prop}
theorem eg_call (F : Fn Z.X.K Z.X.mg Z.X.prog Z.X.w Z.X.base z ps j Pre) (g : Gd Z k) (hj : j ≤ k) (ha : EA Z (e :: es) ρ (oa ++ o1 ++ ob) ss) (hp : Pre ss o1 post) (h1 : ∀ s o1', post (.ret s o1') → R s (oa ++ o1' ++ ob)) (h2 : ∀ C o1', post (.exc C o1') → Z.ex C ρ (oa ++ o1' ++ ob))
    (hg : Gl Z.X z := by rfl) (hdb : (z == ("__debug__" : Str)) = false := by decide) (he : starEach (e :: es) Z.X.env = (false, eval e Z.X.env) :: starEach es Z.X.env := by rfl) (hpl : (backTo pos (starEach es Z.X.env)).any (·.1) = false := by rfl) :
    EG Z (.Call (.Name z p) (e :: es) [] pos) ρ (oa ++ o1 ++ ob) R := by
  obtain ⟨f, fd, ok, hm, hk, hb⟩ := F.ex
  refine fun Hf σ H S E Q q => wE.of (pe_callS (E := WE (Wish Z)) ok (g.hr.mono hj) hg hm hk hb (fun σ => passAt g.tk σ) paW hdb he hpl) (ha Hf σ H S E _ fun vs Hf1 H1 m1 S1 r1 => ?_)
  refine ⟨Hf1, less H1 (o1.map (·.1)), ss, o1, post, S1.into, r1, hp, fun s own' v Hf' H' hq S' r' hs => ?_, fun C own' Hf' H' hq S' => ?_⟩
  · exact q v Hf' H' s _ (m1.trans S'.e0) (S1.back S') r' hs (h1 s own' hq)
  · exact ⟨C, Hf', ρ, _, rfl, rfl, S1.back S', E.mono (m1.trans S'.e0), h2 C own' hq⟩
/-- a def called upon data, that gives data -/
theorem es_call (F : Fn Z.X.K Z.X.mg Z.X.prog Z.X.w Z.X.base z ps j Pre) (g : Gd Z k) (hj : j ≤ k) (ha : EA Z (e :: es) ρ own ss) (hp : Pre ss [] (fun o => o = .ret (.d x) []))
    (hg : Gl Z.X z := by rfl) (hdb : (z == ("__debug__" : Str)) = false := by decide) (he : starEach (e :: es) Z.X.env = (false, eval e Z.X.env) :: starEach es Z.X.env := by rfl) (hpl : (backTo pos (starEach es Z.X.env)).any (·.1) = false := by rfl) : ED Z (.Call (.Name z p) (e :: es) [] pos) ρ own x := by
  have := eg_call (p := p) (oa := []) (o1 := []) (ob := own) (R := fun t o => t = .d x ∧ o = own) F g hj ha hp (fun s o1' h => by cases h; exact ⟨rfl, rfl⟩) (fun C o1' h => nomatch h) hg hdb he hpl
  exact EG.toES this
/-- .. that raises C -/
theorem ex_call {C : Addr} (F : Fn Z.X.K Z.X.mg Z.X.prog Z.X.w Z.X.base z ps j Pre) (g : Gd Z k) (hj : j ≤ k) (ha : EA Z (e :: es) ρ own ss) (hp : Pre ss [] (fun o => o = .exc C [])) (hx : Z.ex C ρ own)
    (hg : Gl Z.X z := by rfl) (hdb : (z == ("__debug__" : Str)) = false := by decide) (he : starEach (e :: es) Z.X.env = (false, eval e Z.X.env) :: starEach es Z.X.env := by rfl) (hpl : (backTo pos (starEach es Z.X.env)).any (·.1) = false := by rfl) : EX Z (.Call (.Name z p) (e :: es) [] pos) ρ own := by
  have := eg_call (p := p) (oa := []) (o1 := []) (ob := own) (R := fun _ _ => False) F g hj ha hp (fun s o1' h => nomatch h) (fun C' o1' h => by cases h; exact hx) hg hdb he hpl
  exact fun Hf σ H S E Q => this Hf σ H S E Q fun v Hf' H' s own' _ _ _ _ h => h.elim
/-- .. that gives a new list -/
theorem el_call {ds : List PyData} (F : Fn Z.X.K Z.X.mg Z.X.prog Z.X.w Z.X.base z ps j Pre) (g : Gd Z k) (hj : j ≤ k) (ha : EA Z (e :: es) ρ own ss) (hp : Pre ss [] (fun o => ∃ p, o = .ret (.raw (.ref p)) [(p, .lst ds)]))
    (hg : Gl Z.X z := by rfl) (hdb : (z == ("__debug__" : Str)) = false := by decide) (he : starEach (e :: es) Z.X.env = (false, eval e Z.X.env) :: starEach es Z.X.env := by rfl) (hpl : (backTo pos (starEach es Z.X.env)).any (·.1) = false := by rfl) : EL Z (.Call (.Name z p) (e :: es) [] pos) ρ own ds := by
  have := eg_call (p := p) (oa := []) (o1 := []) (ob := own) (R := fun t o => ∃ p, t = .raw (.ref p) ∧ o = (p, .lst ds) :: own) F g hj ha hp (fun s o1' h => by obtain ⟨p, h⟩ := h; cases h; exact ⟨p, rfl, rfl⟩) (fun C o1' h => by obtain ⟨p, h⟩ := h; cases h) hg hdb he hpl
  exact EG.toEL this
end

/-! ### statements with a change of what is owned -/
section
variable {Z : Ctx} {D : DE} {ρ : List Slot} {own : Own} {pos : Pos} {e : Expr} {R : Slot → Own → Prop}
theorem sd_setG (i : Nat) {z : Str} {pos' : Pos} (hN : Z.X.N.Nodup) (he : EG Z e ρ own R) (h : ∀ s own', R s own' → D.nx (ρ.set i s) own') (hi : Z.X.N[i]? = some z := by rfl) (hx : Loc Z.X.env.scope z := by first | exact Or.inl rfl | exact Or.inr rfl) (hs : swapsWith e (some (.Name z pos')) pos.line Z.X.env = pure false := by rfl)
    (hf : Z.X.fn z = true ∨ Z.X.env.scope.names.lookup z = some .local := by first | exact .inl rfl | exact .inr rfl | assumption) : SD Z (.Assign [.Name z pos'] e pos) D ρ own := fun H0 Hf σ H m0 S E => wS.of (ps_set hN hi hx peW hs hf) (he Hf σ H S E _ fun v Hf1 H1 s own' m1 S1 r1 _ q => ⟨Hf1, _, own', m0.trans m1, S1, (E.mono m1).set r1 i, h s own' q⟩)
theorem sd_exprG (he : EG Z e ρ own R) (h : ∀ s own', R s own' → D.nx ρ own') (hs : swapsWith e none pos.line Z.X.env = pure false := by rfl) : SD Z (.Expr e pos) D ρ own := fun H0 Hf σ H m0 S E => wS.of (ps_expr peW hs) (he Hf σ H S E _ fun v Hf1 H1 s own' m1 S1 r1 _ q => ⟨Hf1, ρ, own', m0.trans m1, S1, E.mono m1, h s own' q⟩)
theorem sd_retG (he : EG Z e ρ own R) (h : ∀ s own', R s own' → D.rt s own') : SD Z (.Return (some e) pos) D ρ own := fun H0 Hf σ H m0 S E => wS.of (ps_ret peW) (he Hf σ H S E _ fun v Hf1 H1 s own' m1 S1 r1 hs q => ⟨Hf1, s, own', m0.trans m1, S1, r1, hs, h s own' q⟩)
end

/-! ### raise -/
section
variable {Z : Ctx} {D : DE} {ρ : List Slot} {own : Own} {pos p p2 pos' : Pos} {k : Nat}
/-- a class of errors of the program -/
structure ErrC (K : PySem.W.Frag) (mg : Str → Option Value) (z : Str) (C : Addr) : Prop where
  g : mg z = some (.ref C)
  x : PySem.W.excIn K C [.type "ValueError", .type "Exception", .type "BaseException", .type "object"] "ValueError.__new__" = true
  k : PySem.W.keepIn K (.ref C) = true
  b : PySem.W.subIn K (.ref C) (.type "BaseException") = some true
  t : PySem.W.typeIn K (.ref C) = some (.type "type")
theorem sd_raise {z m : Str} {C : Addr} {j : Nat} (g : Gd Z k) (T : ErrC Z.X.K Z.X.mg z C) (h : Z.ex C ρ own) (hg : Gl Z.X z := by rfl) (hdb : (z == ("__debug__" : Str)) = false := by decide) : SD Z (.Raise (some (.Call (.Name z p) [.Constant (.str m) j p2] [] pos')) none pos) D ρ own := fun H0 Hf σ H m0 S E =>
  wS.of (ps_raise g.calm g.tk (pmk_own PySem.F.excBase_ValueError T.x T.g T.k (raises_own T.b T.t) hg hdb)) ⟨C, Hf, ρ, own, rfl, rfl, S, E, h⟩
end

/-! ### while, augmented assignments, items stored, append -/
section
variable {Z : Ctx} {D : DE} {ρ : List Slot} {own oa ob : Own} {pos tpos : Pos} {body : List Stmt} {c e a b : Expr} {k : Nat} {i j : Int} {s t : Slot} {ds : List PyData} {x : PyData}
theorem sd_while (g : Gd Z k) (I : Nat → List Slot → Own → Prop) (m : Nat) (h0 : I m ρ own)
    (step : ∀ m ρ1 own1, I m ρ1 own1 → ∃ l, ET Z c ρ1 own1 l ∧ (l = true → SDs Z body { D with nx := fun ρ2 own2 => ∃ m', m' < m ∧ I m' ρ2 own2, ct := fun ρ2 own2 => ∃ m', m' < m ∧ I m' ρ2 own2, bk := D.nx } ρ1 own1) ∧ (l = false → D.nx ρ1 own1)) : SD Z (.While c body [] pos) D ρ own := by
  refine fun H0 Hf σ H m0 S E => wS.of (ps_while g.po ptW pssW) ?_
  refine ⟨fun m σ' H' => ∃ Hf' ρ' own', Same H0 Hf' ∧ Sat Z.B Hf' H' own' ∧ EnvR Hf' σ' ρ' ∧ I m ρ' own', ⟨m, Hf, ρ, own, m0, S, E, h0⟩, ?_⟩
  rintro m σ' H' ⟨Hf', ρ', own', m', S', E', q⟩
  obtain ⟨l, ht, h1, h2⟩ := step m ρ' own' q
  refine ht Hf' σ' H' S' E' _ fun Hf2 H2 m2 S2 => ?_
  cases l with
  | true =>
    refine iteT ⟨fun σ3 H3 => ∃ Hf3 ρ3 own3, Same H0 Hf3 ∧ Sat Z.B Hf3 H3 own3 ∧ EnvR Hf3 σ3 ρ3 ∧ ∃ m', m' < m ∧ I m' ρ3 own3, fun σ3 H3 ⟨Hf3, ρ3, own3, m3, S3, E3, m', hm, q3⟩ => ⟨m', hm, Hf3, ρ3, own3, m3, S3, E3, q3⟩, ?_⟩
    exact wSs.imp (h1 rfl H0 Hf2 σ' H2 (m'.trans m2) S2 (E'.mono m2)) (fun _ _ q => q) (fun _ _ q => q) (fun _ _ q => q) (fun _ _ q => q)
  | false => exact iteF ⟨Hf2, ρ', own', m'.trans m2, S2, E'.mono m2, h2 rfl⟩
/-- x op= e for ints -/
theorem sd_aug (n : Nat) {z : Str} {op : Operator} {C : Int → Int → Prop} {f : Int → Int → Int} {pos' : Pos} (ho : OpR Z.X (inplaceOp op) (rI C fun i j => .int (f i j))) (hN : Z.X.N.Nodup) (hv : ρ[n]? = some (.d (.int i))) (he : ED Z e ρ own (.int j)) (hc : C i j) (h : D.nx (ρ.set n (.d (.int (f i j)))) own)
    (hi : Z.X.N[n]? = some z := by rfl) (hx : Loc Z.X.env.scope z := by first | exact Or.inl rfl | exact Or.inr rfl) (hf : Z.X.fn z = true ∨ Z.X.env.scope.names.lookup z = some .local := by first | exact .inl rfl | exact .inr rfl | assumption) : SD Z (.AugAssign (.Name z pos') op e pos) D ρ own := fun H0 Hf σ H m0 S E => wS.of (ps_aug hN hi hx peW ho hf) (by
  obtain ⟨v, hv1, hv2⟩ := E.d hv
  cases hv2
  refine ⟨.int i, hv1, he Hf σ H S E _ fun w Hf1 H1 m1 S1 r1 => ?_⟩
  cases r1
  exact ⟨i, j, rfl, rfl, hc, Hf1, _, own, m0.trans m1, S1, (E.mono m1).set (s := .d (.int (f i j))) (Rep.int _) n, h⟩)
theorem iop_addC {X : Cx} : OpR X (inplaceOp .Add) (rI (fun _ _ => True) fun i j => .int (i + j)) := opI fun _ _ _ _ _ _ _ _ q => iadd_int q
theorem iop_subC {X : Cx} : OpR X (inplaceOp .Sub) (rI (fun _ _ => True) fun i j => .int (i - j)) := opI fun _ _ _ _ _ _ _ _ q => isub_int q
theorem iop_mulW {X : Cx} : OpR X (inplaceOp .Mult) (rI CMulW fun i j => .int (i * j)) := opI fun _ _ _ _ _ _ _ hc q => imul_int q hc.ok
/-- xs[i] = e, xs one's own -/
theorem sd_setitem {p : Addr} {n : Nat} (he : ED Z e ρ (oa ++ (p, .lst ds) :: ob) x) (ha : EV Z a ρ (oa ++ (p, .lst ds) :: ob) (.ref p)) (hb : ED Z b ρ (oa ++ (p, .lst ds) :: ob) (.int i)) (hi : ixN ds.length i = some n) (h : D.nx ρ (oa ++ (p, .lst (ds.set n x)) :: ob))
    (hs : swapsWithSole [.Subscript a b tpos] e pos.line Z.X.env = pure false := by rfl) (hw : swappedStores [.Subscript a b tpos] e Z.X.env = pure none := by rfl) (h1 : (assignEach [.Subscript a b tpos] Z.X.env).map (·.2) = [assign (.Subscript a b tpos) Z.X.env] := by rfl)
    (hq : ∀ v, assign (.Subscript a b tpos) Z.X.env v = (do
      let ov ← holding [v] (eval a Z.X.env)
      let iv ← holding [v, ov] (eval b Z.X.env)
      standAt tpos
      holding [v, ov, iv] (setItem ov iv v)
      release [v, ov, iv] []) := by intro _; rfl) : SD Z (.Assign [.Subscript a b tpos] e pos) D ρ (oa ++ (p, .lst ds) :: ob) := fun H0 Hf σ H m0 S E => wS.of (ps_asg peW (pg_sub peW peW set_list hq) hs hw h1) (he Hf σ H S E _ fun v Hf1 H1 m1 S1 r1 => ha Hf1 σ H1 S1 (E.mono m1) _ fun w Hf2 H2 m2 S2 r2 =>
  hb Hf2 σ H2 S2 (E.mono (m1.trans m2)) _ fun z Hf3 H3 m3 S3 r3 => by
    cases r3
    cases (show w = .ref p from r2)
    obtain ⟨_, _, vs, g1, g2⟩ := S3.at (p := p) (oo := .lst ds) (by simp)
    refine ⟨p, vs, i, n, rfl, rfl, g1, by rw [g2.length]; exact hi, Hf3, ρ, _, ((m0.trans m1).trans m2).trans m3, S3.write (oo' := .lst (ds.set n x)) ⟨_, upd_same, g2.set ((show Rep Hf1 v x from r1).mono (m2.trans m3)) n⟩, E.mono ((m1.trans m2).trans m3), h⟩)
/-- xs.append(e), xs one's own -/
theorem sd_append {p : Addr} {apos cpos : Pos} (ha : EV Z a ρ (oa ++ (p, .lst ds) :: ob) (.ref p)) (he : ED Z e ρ (oa ++ (p, .lst ds) :: ob) x) (hl : ds.length < 100000) (h : D.nx ρ (oa ++ (p, .lst (ds ++ [x])) :: ob))
    (hs0 : swapsWith (.Call (.Attribute a "append" apos) [e] [] cpos) none pos.line Z.X.env = pure false := by rfl) (hbase : attributeBase a "append" Z.X.env (eval a Z.X.env) = eval a Z.X.env := by rfl)
    (hfew : ((backTo cpos (starEach [e] Z.X.env)).all (fun x => !x.1) && (backToKw cpos (keywordEach [] Z.X.env)).all (fun x => x.1.isSome)
      && decide ([e].length + ([] : List Keyword).length + (if ([] : List Keyword).isEmpty then 0 else 1) < 30)) = true := by rfl)
    (hline : (apos.endLine == cpos.line) = true := by rfl) (hs : starEach [e] Z.X.env = (false, eval e Z.X.env) :: starEach [] Z.X.env := by rfl) (hplain : (backTo cpos (starEach [] Z.X.env)).any (·.1) = false := by rfl) :
    SD Z (.Expr (.Call (.Attribute a "append" apos) [e] [] cpos) pos) D ρ (oa ++ (p, .lst ds) :: ob) := fun H0 Hf σ H m0 S E => wS.of (ps_expr (pe_bm PySem.F.plainAttrs_list PySem.F.slot_list_append PySem.F.type_list_append mt_append peW (pa_cons peW pa_nil hs) hbase hfew hline hs hplain) hs0)
  (ha Hf σ H S E _ fun v Hf1 H1 m1 S1 r1 => by
    cases (show v = .ref p from r1)
    obtain ⟨_, _, vs, g1, g2⟩ := S1.at (p := p) (oo := .lst ds) (by simp)
    refine ⟨.inl ⟨rfl, _, SqL.of g1⟩, he Hf1 σ H1 S1 (E.mono m1) _ fun w Hf2 H2 m2 S2 r2 => ?_⟩
    obtain ⟨_, _, vs, g1, g2⟩ := S2.at (p := p) (oo := .lst ds) (by simp)
    refine ⟨p, vs, w, rfl, rfl, g1, by rw [g2.length]; exact Nat.lt_of_lt_of_le hl (by decide), Hf2, ρ, _, (m0.trans m1).trans m2, S2.write (oo' := .lst (ds ++ [x])) ⟨_, upd_same, g2.append (.cons r2 .nil)⟩, E.mono (m1.trans m2), h⟩)
/-- xs[i], by values -/
theorem get_list {X : Cx} : PGet X (rIxL X.K) := by
  intro pins s σ H x y v u Q I rx ry h
  obtain ⟨p, xs, i, z, rfl, rfl, hq, he, q⟩ := h
  cases (show v = Value.ref p from rx)
  obtain ⟨t, rfl⟩ := ry
  obtain ⟨its, r, pl, hz⟩ := I.list hq
  obtain ⟨j, h1, h2, h3, h4, h5⟩ := atI_get he
  obtain ⟨w, ew, rw'⟩ := r.get h2
  have hl := r.length
  have hn := line63
  have fin : EP X pins σ Q w s := ⟨z, H, I, rw', q⟩
  by_cases h0 : 0 ≤ i
  · have hj : i.toNat = j := by
      rw [seqIndex_of h0 h5] at h1
      exact Option.some.inj h1
    exact wpAny_getItem_list pl.isList h0 (by omega) (by rw [hj]; simpa using ew) fin
  · have hj : (i + (its.toArray.size : Int)).toNat = j := by
      rw [seqIndex_neg (by omega) h4] at h1
      rw [List.size_toArray, ← hl]
      exact Option.some.inj h1
    exact wpAny_getItem_list_neg pl.isList (by omega) (by rw [List.size_toArray] <;> omega) (by omega) (by rw [hj]; simpa using ew) fin
theorem atI_ixN {α : Type} {xs : List α} {i : Int} {n : Nat} {v : α} (h : ixN xs.length i = some n) (hv : xs[n]? = some v) : atI xs i = some v := by
  unfold atI
  rw [h]
  exact hv
/-- xs[i] op= e, ints, xs one's own -/
theorem sd_augitem {p : Addr} {n : Nat} {op : Operator} {C : Int → Int → Prop} {f : Int → Int → Int} {y z : Int} (ho : OpR Z.X (inplaceOp op) (rI C fun i j => .int (f i j))) (ha : EV Z a ρ (oa ++ (p, .lst ds) :: ob) (.ref p)) (hb : ED Z b ρ (oa ++ (p, .lst ds) :: ob) (.int i)) (he : ED Z e ρ (oa ++ (p, .lst ds) :: ob) (.int z))
    (hi : ixN ds.length i = some n) (hy : ds[n]? = some (.int y)) (hc : C y z) (h : D.nx ρ (oa ++ (p, .lst (ds.set n (.int (f y z)))) :: ob))
    (hq : ∀ ov iv new, augStore b ov iv new = (do holding [new, ov, iv] (setItem ov iv new); release [new, ov, iv] []; pure .next) := by intros; rfl) : SD Z (.AugAssign (.Subscript a b tpos) op e pos) D ρ (oa ++ (p, .lst ds) :: ob) := fun H0 Hf σ H m0 S E => wS.of (ps_augS peW peW get_list peW ho set_list hq)
  (ha Hf σ H S E _ fun w Hf1 H1 m1 S1 r1 => hb Hf1 σ H1 S1 (E.mono m1) _ fun w2 Hf2 H2 m2 S2 r2 => by
    cases r2
    cases (show w = .ref p from r1)
    obtain ⟨_, _, vs, g1, g2⟩ := S2.at (p := p) (oo := .lst ds) (by simp)
    obtain ⟨u, g3, g4⟩ := g2.get hy
    cases g4
    refine ⟨p, vs, i, .int y, rfl, rfl, SqL.of g1, atI_ixN (by rw [g2.length]; exact hi) g3, he Hf2 σ H2 S2 (E.mono (m1.trans m2)) _ fun w3 Hf3 H3 m3 S3 r3 => ?_⟩
    cases r3
    obtain ⟨_, _, vs, g1, g2⟩ := S3.at (p := p) (oo := .lst ds) (by simp)
    exact ⟨y, z, rfl, rfl, hc, p, vs, i, n, rfl, rfl, g1, by rw [g2.length]; exact hi, Hf3, ρ, _, ((m0.trans m1).trans m2).trans m3, S3.write (oo' := .lst (ds.set n (.int (f y z)))) ⟨_, upd_same, g2.set (.int _) n⟩, E.mono ((m1.trans m2).trans m3), h⟩)
/-- a, b = x, y with plain local names -/
theorem sd_par (n m : Nat) {x y : Str} {px py pt pt2 : Pos} {kt k2 : Nat} {s t : Slot} (g : Gd Z k) (ha : EA Z [a, b] ρ own [s, t]) (h : D.nx ((ρ.set n s).set m t) own) (hi : Z.X.N[n]? = some x := by rfl) (hj : Z.X.N[m]? = some y := by rfl) (hij : n ≠ m := by decide)
    (hx : Z.X.env.scope.names.lookup x = some .local := by rfl) (hy : Z.X.env.scope.names.lookup y = some .local := by rfl)
    (hw : swappedStores [.Tuple [.Name x px, .Name y py] kt pt] (.Tuple [a, b] k2 pt2) Z.X.env = pure (some [x, y]) := by rfl)
    (hs : swapsWithSole [.Tuple [.Name x px, .Name y py] kt pt] (.Tuple [a, b] k2 pt2) pos.line Z.X.env = pure false := by rfl) : SD Z (.Assign [.Tuple [.Name x px, .Name y py] kt pt] (.Tuple [a, b] k2 pt2) pos) D ρ own := fun H0 Hf σ H m0 S E => wS.of (ps_par g.calm g.nd hi hj hij hx hy paW hw hs)
  (ha Hf σ H S E _ fun vs Hf1 H1 m1 S1 r1 => by
    obtain ⟨v, w, rfl, r1, r2⟩ := r1.two
    exact ⟨v, w, rfl, Hf1, _, own, m0.trans m1, S1, ((E.mono m1).set r1 n).set r2 m, h⟩)
/-- target = data -/
theorem sd_asg {tg : Expr} {x : PyData} {ρ' : List Slot} {is : List Nat} (he : ED Z e ρ own x) (hg : GT Z tg x ρ ρ' is) (h : D.nx ρ' own) (hs : swapsWithSole [tg] e pos.line Z.X.env = pure false := by rfl) (hw : swappedStores [tg] e Z.X.env = pure none := by rfl)
    (h1 : (assignEach [tg] Z.X.env).map (·.2) = [assign tg Z.X.env] := by rfl) : SD Z (.Assign [tg] e pos) D ρ own := fun H0 Hf σ H m0 S E => wS.of (ps_asg peW pgW hs hw h1)
  (he Hf σ H S E _ fun v Hf1 H1 m1 S1 r1 => hg own Hf1 σ H1 v S1 (E.mono m1) r1 _ fun σ' E' _ => ⟨Hf1, ρ', own, m0.trans m1, S1, E', h⟩)
end
end Sd


namespace Sd
open PySem PySem.Spec PyProof.Rows L2
/-! ### comprehensions -/
abbrev blkZ (Z : Ctx) (scope : Scope) (s : Shared) (H : Hp) (C : Addr) (cl : List (Str × Addr)) (fp : List Addr) : Ctx := ⟨Z.X.blk s H scope (compEnvC scope cl C Z.X.env) fp, Z.B, fun _ _ _ => False⟩
structure wTs (X : Cx) (ifs : List Expr) (σ : L2.St) (H : Hp) (Q : Bool → Hp → Prop) : Prop where
  run : ∀ (pins : List (Addr × Obj)) (s : Shared), Inv X pins σ H s → wpAny (model X.prog X.w) X.A (forIn ifs true fun c r => if r = true then do let ok ← isTrue c X.env (eval c X.env); pure (ForInStep.yield ok) else pure (ForInStep.yield r)) (TP X pins σ Q) X.xe s
theorem wTs.of {X : Cx} {ifs : List Expr} {t : TT} (h : PTs X ifs t) {σ : L2.St} {H : Hp} {Q : Bool → Hp → Prop} (q : t σ H Q) : wTs X ifs σ H Q := ⟨fun pins s I => h.run pins s σ H Q I q⟩
def ETs (Z : Ctx) (ifs : List Expr) (ρ : List Slot) (own : Own) (b : Bool) : Prop := ∀ Hf σ H, Sat Z.B Hf H own → EnvR Hf σ ρ → ∀ Q : Bool → Hp → Prop, (∀ Hf' H', Same Hf Hf' → Sat Z.B Hf' H' own → Q b H') → wTs Z.X ifs σ H Q
theorem ets_nil {Z : Ctx} {ρ : List Slot} {own : Own} : ETs Z [] ρ own true := fun Hf σ H S R Q q => wTs.of pts_nil (q Hf H (Same.refl _) S)
theorem ets_one {Z : Ctx} {c : Expr} {ρ : List Slot} {own : Own} {l : Bool} (h : ET Z c ρ own l) : ETs Z [c] ρ own l := fun Hf σ H S R Q q => wTs.of (pts_one ptW) (h Hf σ H S R Q q)
theorem Gd.blk {Z : Ctx} {k : Nat} (g : Gd Z k) (scope : Scope) (s : Shared) (H : Hp) (C : Addr) (cl : List (Str × Addr)) (fp : List Addr) : Gd (blkZ Z scope s H C cl fp) k :=
  ⟨Takes.imp takes0 fun _ _ _ _ ⟨_, _, _, _, _, _, _, _, h⟩ => h, PassesOwn.never, g.calm, g.nd, g.hr⟩
theorem wipe_get {σ : L2.St} {i : Nat} : ∀ {vs : List Nat}, (wipe σ vs)[i]? = if i ∈ vs then (σ[i]?).map (fun _ => none) else σ[i]?
  | [] => by simp [wipe]
  | v :: vs => by
    unfold wipe
    by_cases hi : v = i
    · subst hi
      rw [if_pos (by simp)]
      by_cases hl : v < σ.length
      · rw [List.getElem?_set_self (by rw [wipe_length]; exact hl), List.getElem?_eq_getElem hl]
        rfl
      · rw [List.getElem?_eq_none (by rw [List.length_set, wipe_length]; omega), List.getElem?_eq_none (by omega)]
        rfl
    · rw [List.getElem?_set_ne hi, wipe_get]
      by_cases h2 : i ∈ vs
      · rw [if_pos h2, if_pos (List.mem_cons_of_mem _ h2)]
      · rw [if_neg h2, if_neg (by simp only [List.mem_cons, not_or]; exact ⟨fun e => hi e.symm, h2⟩)]
theorem wipe_but {σ σ2 : L2.St} {is vs : List Nat} (hb : But is (wipe σ vs) σ2) (hi : ∀ i ∈ is, i ∈ vs) : wipe σ2 vs = wipe σ vs := by
  refine List.ext_getElem? fun i => ?_
  rw [wipe_get, wipe_get]
  by_cases h : i ∈ vs
  · rw [if_pos h, if_pos h]
    have hl : σ2.length = σ.length := by rw [hb.1, wipe_length]
    by_cases hn : i < σ.length
    · rw [List.getElem?_eq_getElem hn, List.getElem?_eq_getElem (by omega)]
      rfl
    · rw [List.getElem?_eq_none (by omega), List.getElem?_eq_none (by omega)]
  · rw [if_neg h, if_neg h, hb.2 i (fun z => h (hi i z)), wipe_get, if_neg h]
/-- a comprehension: what it needs, and what its list may be at the end -/
def CP (Z : Ctx) (elt tg iter : Expr) (ifs : List Expr) (scope : Scope) (ρ : List Slot) (own : Own) (Fin : List PyData → Own → Prop) : Prop :=
  ∃ (wi : TI) (g : TG) (tt : TT) (te : TE) (on : List (Str × Nat)), PI Z.X tg iter wi ∧ BlkOk Z.X.N Z.X.env.scope scope on ∧ (∀ (s : Shared) (H : Hp) (C : Addr) (cl : List (Str × Addr)) (fp : List Addr), PG (Z.X.blk s H scope (compEnvC scope cl C Z.X.env) fp) tg g) ∧
    (∀ (s : Shared) (H : Hp) (C : Addr) (cl : List (Str × Addr)) (fp : List Addr), PTs (Z.X.blk s H scope (compEnvC scope cl C Z.X.env) fp) ifs tt) ∧ (∀ (s : Shared) (H : Hp) (C : Addr) (cl : List (Str × Addr)) (fp : List Addr), PE (Z.X.blk s H scope (compEnvC scope cl C Z.X.env) fp) elt te) ∧
    ∀ Hf σ H, Sat Z.B Hf H own → EnvR Hf σ ρ → ∀ Q : VK, (∀ p Hf' H' ds own', Same Hf Hf' → Sat Z.B Hf' H' ((p, .lst ds) :: own') → Fin ds own' → Q (.ref p) H') → tLc wi g tt te (on.map (·.2)) σ H Q
section
variable {Z : Ctx} {elt tg iter : Expr} {ifs : List Expr} {scope : Scope} {ρ : List Slot} {own : Own} {Fin : List PyData → Own → Prop} {k : Nat} {Po : Own → Prop} {ys : List PyData} {pos : Pos} {D : DE}
theorem comp (g : Gd Z k) (it : IT Z tg iter ρ own Po ys) (on : List (Str × Nat)) (ok : BlkOk Z.X.N Z.X.env.scope scope on) (I : Nat → List PyData → Own → Prop) (h0 : I 0 [] own) (hpo : ∀ i acc o D, I i acc o → Po ((D, .lst acc) :: o)) (hlen : ∀ i acc o, I i acc o → acc.length < 100000)
    (step : ∀ i y acc o D, ys[i]? = some y → I i acc o → ∃ ρ2 is l, (∀ i ∈ is, i ∈ on.map (·.2)) ∧ (∀ s H C cl fp, GT (blkZ Z scope s H C cl fp) tg y (wipeR ρ (on.map (·.2))) ρ2 is) ∧ (∀ s H C cl fp, ETs (blkZ Z scope s H C cl fp) ifs ρ2 ((D, .lst acc) :: o) l) ∧
      (l = true → ∀ s H C cl fp, EG (blkZ Z scope s H C cl fp) elt ρ2 ((D, .lst acc) :: o) (fun t o2 => ∃ d o', t = .d d ∧ o2 = (D, .lst acc) :: o' ∧ I (i + 1) (acc ++ [d]) o')) ∧ (l = false → I (i + 1) acc o)) :
    CP Z elt tg iter ifs scope ρ own (fun ds o => I ys.length ds o) := by
  obtain ⟨wi, hi, hw⟩ := it
  refine ⟨wi, fun v σ H Q => ∀ s' H' C cl fp, wG (Z.X.blk s' H' scope (compEnvC scope cl C Z.X.env) fp) tg v σ H Q, fun σ H Q => ∀ s' H' C cl fp, wTs (Z.X.blk s' H' scope (compEnvC scope cl C Z.X.env) fp) ifs σ H Q, fun σ H Q => ∀ s' H' C cl fp, wE (Z.X.blk s' H' scope (compEnvC scope cl C Z.X.env) fp) elt σ H Q, on, hi, ok,
    fun s' H' C cl fp => ⟨fun pins s σ H v u Q I r h => (h s' H' C cl fp).run pins s u I r⟩, fun s' H' C cl fp => ⟨fun pins s σ H Q I h => (h s' H' C cl fp).run pins s I⟩, fun s' H' C cl fp => ⟨fun pins s σ H Q I h => (h s' H' C cl fp).run pins s I⟩, fun Hf σ H S E Q q => ?_⟩
  refine hw Hf σ H S E _ fun J Hf1 H1 m1 S1 W D hD => ?_
  refine ⟨fun i m H' => m = ys.length - i ∧ i ≤ ys.length ∧ ∃ Hf' acc o, Same Hf1 Hf' ∧ Sat Z.B Hf' H' ((D, .lst acc) :: o) ∧ I i acc o, ⟨ys.length, by omega, by omega, Hf1, [], own, Same.refl _, S1.newOwn hD ⟨[], upd_same, .nil⟩, h0⟩, ?_⟩
  rintro i m H' ⟨rfl, hil, Hf', acc, o, m', S', q'⟩
  by_cases hlt : i < ys.length
  · refine .inr ⟨W.go i Hf' H' _ m' S' (hpo i acc o D q') hlt, fun H2 => ∃ Hf2 acc2 o2, Same Hf1 Hf2 ∧ Sat Z.B Hf2 H2 ((D, .lst acc2) :: o2) ∧ I (i + 1) acc2 o2, fun H2 ⟨Hf2, acc2, o2, m2, S2, q2⟩ => ⟨ys.length - (i + 1), by omega, rfl, hlt, Hf2, acc2, o2, m2, S2, q2⟩, fun x H2 hx => ?_⟩
    obtain ⟨Hf2, m2, S2, r2⟩ := W.yld i _ Hf' H' _ x H2 m' S' (hpo i acc o D q') (List.getElem?_eq_getElem hlt) hx
    obtain ⟨ρ2, is, l, hin, gt, et, h1, h2⟩ := step i _ acc o D (List.getElem?_eq_getElem hlt) q'
    have E2 : EnvR Hf2 (wipe σ (on.map (·.2))) (wipeR ρ (on.map (·.2))) := (E.mono ((m1.trans m').trans m2)).wipe _
    intro s' H'' C cl fp
    refine gt s' H'' C cl fp _ Hf2 _ H2 x S2 E2 r2 _ fun σ3 E3 b3 => ⟨wipe_but b3 hin, ?_⟩
    intro s' H'' C cl fp
    refine et s' H'' C cl fp Hf2 σ3 H2 S2 E3 _ fun Hf3 H3 m3 S3 => ?_
    cases l with
    | false => exact iteF ⟨Hf3, acc, o, (m'.trans m2).trans m3, S3, h2 rfl⟩
    | true =>
      refine iteT ?_
      intro s' H'' C cl fp
      refine h1 rfl s' H'' C cl fp Hf3 σ3 H3 S3 (E3.mono m3) _ fun v Hf4 H4 t o2 m4 S4 r4 _ hq => ?_
      obtain ⟨d, o', rfl, rfl, hI⟩ := hq
      obtain ⟨_, _, vs, g1, g2⟩ := S4.at (p := D) (oo := .lst acc) (by simp)
      exact ⟨vs, g1, by rw [g2.length]; exact Nat.lt_of_lt_of_le (hlen _ _ _ q') (by decide), Hf4, acc ++ [d], o', ((m'.trans m2).trans m3).trans m4, S4.write (oa := []) (oo' := .lst (acc ++ [d])) ⟨_, upd_same, g2.append (.cons r4 .nil)⟩, hI⟩
  · have e : i = ys.length := by omega
    subst e
    exact .inl ⟨W.stop _ Hf' H' _ m' S' (hpo _ _ _ _ q') (Nat.le_refl _), q D Hf' H' acc o (m1.trans m') S' q'⟩
theorem eg_comp (g : Gd Z k) (h : CP Z elt tg iter ifs scope ρ own Fin) (hs : ∀ x, foldedSetIterable iter Z.X.env x = pure x := by intro _; rfl) : EG Z (.ListComp elt [⟨tg, iter, ifs, 0⟩] scope pos) ρ own (fun s o => ∃ p ds o', s = .raw (.ref p) ∧ o = (p, .lst ds) :: o' ∧ Fin ds o') := by
  obtain ⟨wi, gg, tt, te, on, hi, ok, hg, ht, he, hq⟩ := h
  exact fun Hf σ H S E Q q => wE.of (pe_lc g.calm g.nd hi ok hg ht he hs) (hq Hf σ H S E Q fun p Hf' H' ds own' m S' hf => q _ Hf' H' (.raw (.ref p)) _ m S' rfl (fun z => nomatch z) ⟨p, ds, own', rfl, rfl, hf⟩)
theorem el_comp {ds : List PyData} (g : Gd Z k) (h : CP Z elt tg iter ifs scope ρ own (fun xs o => xs = ds ∧ o = own)) (hs : ∀ x, foldedSetIterable iter Z.X.env x = pure x := by intro _; rfl) : EL Z (.ListComp elt [⟨tg, iter, ifs, 0⟩] scope pos) ρ own ds :=
  EG.toEL ((eg_comp g h hs).imp fun s o ⟨p, xs, o', e1, e2, e3, e4⟩ => ⟨p, e1, by rw [e2, e3, e4]⟩)
/-- name = [..] on one line -/
theorem sd_setC (n : Nat) {y : Str} {py spos : Pos} (g : Gd Z k) (h : CP Z elt tg iter ifs scope ρ own Fin) (hn : ∀ p ds o', Fin ds o' → D.nx (ρ.set n (.raw (.ref p))) ((p, .lst ds) :: o'))
    (hsw : swapsWith (.ListComp elt [⟨tg, iter, ifs, 0⟩] scope pos) (some (.Name y py)) spos.line Z.X.env = pure true) (hy : Z.X.N[n]? = some y := by rfl) (hyl : Z.X.env.scope.names.lookup y = some .local := by rfl) (hs : ∀ x, foldedSetIterable iter Z.X.env x = pure x := by intro _; rfl) :
    SD Z (.Assign [.Name y py] (.ListComp elt [⟨tg, iter, ifs, 0⟩] scope pos) spos) D ρ own := by
  obtain ⟨wi, gg, tt, te, on, hi, ok, hg, ht, he, hq⟩ := h
  exact fun H0 Hf σ H m0 S E => wS.of (ps_setLc g.calm g.nd hy hyl hsw hi ok hg ht he hs) (hq Hf σ H S E _ fun p Hf' H' ds own' m S' hf => ⟨Hf', _, _, m0.trans m, S', (E.mono m).set (s := .raw (.ref p)) rfl n, hn p ds own' hf⟩)
/-- .. whose elements change nothing -/
theorem compP {α : Type} (g : Gd Z k) (it : IT Z tg iter ρ own Po ys) (on : List (Str × Nat)) (ok : BlkOk Z.X.N Z.X.env.scope scope on) (xs : List α) (enc : α → PyData) (hy : ys = xs.map enc) (F : α → Option PyData) (ρ2 : α → List Slot) (is : List Nat)
    (his : ∀ i ∈ is, i ∈ on.map (·.2)) (hl : xs.length < 100000) (hpo : ∀ acc D, Po ((D, .lst acc) :: own)) (gt : ∀ a ∈ xs, ∀ s H C cl fp, Gd (blkZ Z scope s H C cl fp) k → GT (blkZ Z scope s H C cl fp) tg (enc a) (wipeR ρ (on.map (·.2))) (ρ2 a) is)
    (et : ∀ a ∈ xs, ∀ s H C cl fp o, Gd (blkZ Z scope s H C cl fp) k → ETs (blkZ Z scope s H C cl fp) ifs (ρ2 a) o (F a).isSome) (ed : ∀ a ∈ xs, ∀ d, F a = some d → ∀ s H C cl fp o, Gd (blkZ Z scope s H C cl fp) k → ED (blkZ Z scope s H C cl fp) elt (ρ2 a) o d) :
    CP Z elt tg iter ifs scope ρ own (fun ds o => ds = xs.filterMap F ∧ o = own) := by
  subst hy
  have := comp (Po := Po) (ys := xs.map enc) (elt := elt) (ifs := ifs) (scope := scope) g it on ok (fun i acc o => acc = (xs.take i).filterMap F ∧ o = own ∧ i ≤ xs.length) ⟨rfl, rfl, Nat.zero_le _⟩ (fun i acc o D h => by rw [h.2.1]; exact hpo acc D) (fun i acc o h => by
    rw [h.1]
    have h1 := List.length_filterMap_le F (xs.take i)
    rw [List.length_take] at h1
    omega) (fun i y acc o D hy h => by
      obtain ⟨rfl, rfl, hi⟩ := h
      rw [List.getElem?_map] at hy
      cases ea : xs[i]? with
      | none => rw [ea] at hy; cases hy
      | some a =>
        rw [ea] at hy
        cases hy
        have hm : a ∈ xs := List.mem_of_getElem? ea
        have hlt : i < xs.length := (List.getElem?_eq_some_iff.mp ea).1
        have tk : (xs.take (i + 1)).filterMap F = (xs.take i).filterMap F ++ (F a).toList := by
          rw [List.take_add_one, ea, List.filterMap_append]
          cases hF : F a <;> simp [hF]
        refine ⟨ρ2 a, is, (F a).isSome, his, fun s H C cl fp => gt a hm s H C cl fp (g.blk ..), fun s H C cl fp => et a hm s H C cl fp _ (g.blk ..), fun hs s H C cl fp => ?_, fun hs => ?_⟩
        · obtain ⟨d, hd⟩ := Option.isSome_iff_exists.mp hs
          exact ES.toEG (ed a hm d hd s H C cl fp _ (g.blk ..)) (fun z => nomatch z) ⟨d, o, rfl, rfl, by rw [tk, hd]; rfl, rfl, hlt⟩
        · refine ⟨?_, rfl, hlt⟩
          rw [tk]
          cases hF : F a with
          | none => simp
          | some d => rw [hF] at hs; cases hs)
  obtain ⟨a1, a2, a3, a4, a5, b1, b2, b3, b4, b5, b6⟩ := this
  refine ⟨a1, a2, a3, a4, a5, b1, b2, b3, b4, b5, fun Hf σ H S E Q q => b6 Hf σ H S E Q fun p Hf' H' ds own' m S' hf => q p Hf' H' ds own' m S' ⟨?_, hf.2.1⟩⟩
  rw [hf.1, List.length_map, List.take_length]
end

/-! ### more values -/
section
variable {Z : Ctx} {D : DE} {e a b : Expr} {ρ : List Slot} {own oa ob : Own} {pos p1 p2 p3 : Pos} {s t : Slot} {k j : Nat} {ds ys : List PyData}
theorem c_isB {x y : Bool} : CmpB Z .Is own (.d (.bool x)) (.d (.bool y)) (decide (x = y)) := ⟨_, op_isBl, fun v w Hf H S r1 r2 Q q => by cases r1; cases r2; exact ⟨x, y, rfl, rfl, q⟩⟩
theorem c_notB {x y : Bool} : CmpB Z .IsNot own (.d (.bool x)) (.d (.bool y)) (!decide (x = y)) := ⟨_, op_notBl, fun v w Hf H S r1 r2 Q q => by cases r1; cases r2; exact ⟨x, y, rfl, rfl, q⟩⟩
/-- xs += ys -/
theorem sd_ext (n : Nat) {z : Str} {p : Addr} {pos' : Pos} (hN : Z.X.N.Nodup) (hv : ρ[n]? = some (.raw (.ref p))) (he : ES Z e ρ (oa ++ (p, .lst ds) :: ob) t) (L : Lst (oa ++ (p, .lst ds) :: ob) t ys) (hl : ds.length + ys.length ≤ 100000) (h : D.nx ρ (oa ++ (p, .lst (ds ++ ys)) :: ob))
    (hi : Z.X.N[n]? = some z := by rfl) (hx : Loc Z.X.env.scope z := by first | exact Or.inl rfl | exact Or.inr rfl) (hf : Z.X.fn z = true ∨ Z.X.env.scope.names.lookup z = some .local := by first | exact .inl rfl | exact .inr rfl | assumption) : SD Z (.AugAssign (.Name z pos') .Add e pos) D ρ (oa ++ (p, .lst ds) :: ob) := fun H0 Hf σ H m0 S E => wS.of (ps_aug hN hi hx peW iop_ext hf) (by
  have hv1 := E.raw hv
  refine ⟨.ref p, hv1, he Hf σ H S E _ fun w Hf1 H1 m1 S1 r1 => ?_⟩
  obtain ⟨q, vs, rfl, h1, g1⟩ := L.at S1 r1
  obtain ⟨_, _, us, h2, g2⟩ := S1.at (p := p) (oo := .lst ds) (by simp)
  refine ⟨p, q, us, vs, rfl, rfl, h2, h1, by rw [g1.length, g2.length]; exact Nat.le_trans hl (by decide), Hf1, ρ, _, m0.trans m1, S1.write (oo' := .lst (ds ++ ys)) ⟨_, upd_same, g2.append g1⟩, ?_, h⟩
  have R' := (E.mono m1).set (v := .ref p) (s := .raw (.ref p)) rfl n
  have e : ρ.set n (.raw (.ref p)) = ρ := by
    refine List.ext_getElem? fun j => ?_
    by_cases hj : n = j
    · subst hj
      have hl : n < ρ.length := (List.getElem?_eq_some_iff.mp hv).1
      rw [List.getElem?_set_self hl, hv]
    · rw [List.getElem?_set_ne hj]
  rw [e] at R'
  exact R')
end
end Sd


namespace Sd
open PySem PySem.Spec PyProof.Rows L2
/-! ### lists of values, one's own (raw); items with a change of what is owned -/
section
variable {Z : Ctx} {D : DE} {e a b c : Expr} {es : List Expr} {ρ : List Slot} {own oa ob : Own} {pos tpos p : Pos} {i j : Int} {s t : Slot} {k : Nat} {ds : List PyData} {x : PyData} {q : Addr} {vs : List V} {R : Slot → Own → Prop}
theorem es_ixR {v : V} (hq : (q, OO.raw (.lst vs)) ∈ own) (ha : EV Z a ρ own (.ref q)) (hb : ED Z b ρ own (.int i)) (h : atI vs i = some v) (hs : ∀ H, SlotR H v s) (hp : PlainIx b := by exact fun _ _ => rfl) : ES Z (.Subscript a b pos) ρ own s := fun Hf σ H S E Q k =>
  wE.of (pe_ix ix_list peW peW hp) (ha Hf σ H S E _ fun w Hf1 H1 m1 S1 r1 => hb Hf1 σ H1 S1 (E.mono m1) _ fun w2 Hf2 H2 m2 S2 r2 => by
    cases r2
    cases (show w = .ref q from r1)
    obtain ⟨_, _, g⟩ := S2.at hq
    exact ⟨q, vs, i, v, rfl, rfl, SqL.of g, h, k v Hf2 H2 (m1.trans m2) S2 (hs _)⟩)
theorem sd_setitemR {v : V} {n : Nat} (he : ES Z e ρ (oa ++ (q, .raw (.lst vs)) :: ob) s) (hv : ∀ H w, SlotR H w s → w = v) (ha : EV Z a ρ (oa ++ (q, .raw (.lst vs)) :: ob) (.ref q)) (hb : ED Z b ρ (oa ++ (q, .raw (.lst vs)) :: ob) (.int i)) (hi : ixN vs.length i = some n) (h : D.nx ρ (oa ++ (q, .raw (.lst (vs.set n v))) :: ob))
    (hs : swapsWithSole [.Subscript a b tpos] e pos.line Z.X.env = pure false := by rfl) (hw : swappedStores [.Subscript a b tpos] e Z.X.env = pure none := by rfl) (h1 : (assignEach [.Subscript a b tpos] Z.X.env).map (·.2) = [assign (.Subscript a b tpos) Z.X.env] := by rfl)
    (hq : ∀ v, assign (.Subscript a b tpos) Z.X.env v = (do
      let ov ← holding [v] (eval a Z.X.env)
      let iv ← holding [v, ov] (eval b Z.X.env)
      standAt tpos
      holding [v, ov, iv] (setItem ov iv v)
      release [v, ov, iv] []) := by intro _; rfl) : SD Z (.Assign [.Subscript a b tpos] e pos) D ρ (oa ++ (q, .raw (.lst vs)) :: ob) := fun H0 Hf σ H m0 S E => wS.of (ps_asg peW (pg_sub peW peW set_list hq) hs hw h1) (he Hf σ H S E _ fun v1 Hf1 H1 m1 S1 r1 => ha Hf1 σ H1 S1 (E.mono m1) _ fun w Hf2 H2 m2 S2 r2 =>
  hb Hf2 σ H2 S2 (E.mono (m1.trans m2)) _ fun z Hf3 H3 m3 S3 r3 => by
    cases r3
    cases (show w = .ref q from r2)
    cases hv _ _ r1
    obtain ⟨_, _, g⟩ := S3.at (p := q) (oo := .raw (.lst vs)) (by simp)
    exact ⟨q, vs, i, n, rfl, rfl, g, hi, Hf3, ρ, _, ((m0.trans m1).trans m2).trans m3, S3.write (oo' := .raw (.lst (vs.set n v))) upd_same, E.mono ((m1.trans m2).trans m3), h⟩)
/-- xs[..], the place with a change -/
theorem eg_ixL {P : Int → Own → Prop} (ha : ED Z a ρ own (.list ds)) (hb : EG Z b ρ own fun t o => ∃ i, t = .d (.int i) ∧ P i o) (h : ∀ i o, P i o → ∃ d, atI ds i = some d ∧ R (.d d) o) (hp : PlainIx b := by exact fun _ _ => rfl) : EG Z (.Subscript a b pos) ρ own R := fun Hf σ H S E Q k =>
  wE.of (pe_ix ix_list peW peW hp) (ha Hf σ H S E _ fun v Hf1 H1 m1 S1 r1 => hb Hf1 σ H1 S1 (E.mono m1) _ fun w Hf2 H2 t o m2 S2 r2 _ hq => by
    obtain ⟨i, rfl, hq⟩ := hq
    obtain ⟨d, h1, h2⟩ := h i o hq
    obtain ⟨p, vs, rfl, g1, g2⟩ := (Lst.d (own := o)).at S2 (r1.mono m2)
    cases r2
    obtain ⟨z, h3, h4⟩ := atI_rep g2 h1
    exact ⟨p, vs, i, z, rfl, rfl, SqL.of g1, h3, k z Hf2 H2 (.d d) o (m1.trans m2) S2 h4 (fun z => nomatch z) h2⟩)
/-- a new list turned into data -/
theorem EG.frz {P : List PyData → Own → Prop} (h : EG Z e ρ own fun s o => ∃ p ds o', s = .raw (.ref p) ∧ o = (p, .lst ds) :: o' ∧ P ds o') (hR : ∀ ds o, P ds o → R (.d (.list ds)) o) : EG Z e ρ own R := fun Hf σ H S E Q k => h Hf σ H S E Q fun v Hf1 H1 s o m1 S1 r1 hs hq => by
  obtain ⟨p, ds, o', rfl, rfl, hq⟩ := hq
  obtain ⟨Hf2, m2, S2, r2⟩ := Sat.freeze (oa := []) S1
  cases (show v = .ref p from r1)
  exact k _ Hf2 H1 (.d (.list ds)) o' (m1.trans m2) S2 r2 (fun z => nomatch z) (hR ds o' hq)
/-- arguments, the first with a change -/
def EAG (Z : Ctx) (es : List Expr) (ρ : List Slot) (own : Own) (R : List Slot → Own → Prop) : Prop := ∀ Hf σ H, Sat Z.B Hf H own → EnvR Hf σ ρ → ∀ Q : List V → Hp → Prop, (∀ vs Hf' H' ss own', Same Hf Hf' → Sat Z.B Hf' H' own' → SlotsR Hf' vs ss → R ss own' → Q vs H') → wA Z.X es σ H Q
theorem EA.toEAG {ss : List Slot} {R : List Slot → Own → Prop} (h : EA Z es ρ own ss) (q : R ss own) : EAG Z es ρ own R := fun Hf σ H S E Q k => h Hf σ H S E Q fun vs Hf' H' m S' r => k vs Hf' H' ss own m S' r q
theorem eag_cons {R : List Slot → Own → Prop} {P : Slot → Own → Prop} (h : EG Z e ρ own P) (hr : ∀ s o, P s o → s ≠ .un → EAG Z es ρ o (fun ss o' => R (s :: ss) o')) (hs : starEach (e :: es) Z.X.env = (false, eval e Z.X.env) :: starEach es Z.X.env := by rfl) : EAG Z (e :: es) ρ own R := fun Hf σ H S E Q k => wA.of (pa_cons peW paW hs) (h Hf σ H S E _ fun v Hf1 H1 s o m1 S1 r1 hu q1 =>
  hr s o q1 hu Hf1 σ H1 S1 (E.mono m1) _ fun vs Hf2 H2 ss o2 m2 S2 r2 q2 => k (v :: vs) Hf2 H2 (s :: ss) o2 (m1.trans m2) S2 (.cons (r1.mono m2) r2) q2)
/-- a call whose arguments change what is owned; the callee gets part of it -/
theorem eg_callG {z : Str} {ps : List Str} {j : Nat} {Pre : Pr} {RA : List Slot → Own → Prop} (F : Fn Z.X.K Z.X.mg Z.X.prog Z.X.w Z.X.base z ps j Pre) (g : Gd Z k) (hj : j ≤ k) (ha : EAG Z (e :: es) ρ own RA)
    (h : ∀ ss o, RA ss o → ∃ oa o1 ob post, o = oa ++ o1 ++ ob ∧ Pre ss o1 post ∧ (∀ s o1', post (.ret s o1') → R s (oa ++ o1' ++ ob)) ∧ (∀ C o1', post (.exc C o1') → Z.ex C ρ (oa ++ o1' ++ ob)))
    (hg : Gl Z.X z := by rfl) (hdb : (z == ("__debug__" : Str)) = false := by decide) (he : starEach (e :: es) Z.X.env = (false, eval e Z.X.env) :: starEach es Z.X.env := by rfl) (hpl : (backTo pos (starEach es Z.X.env)).any (·.1) = false := by rfl) :
    EG Z (.Call (.Name z p) (e :: es) [] pos) ρ own R := by
  obtain ⟨f, fd, ok, hm, hk, hb⟩ := F.ex
  refine fun Hf σ H S E Q q => wE.of (pe_callS (E := WE (Wish Z)) ok (g.hr.mono hj) hg hm hk hb (fun σ => passAt g.tk σ) paW hdb he hpl) (ha Hf σ H S E _ fun vs Hf1 H1 ss o m1 S1 r1 hq => ?_)
  obtain ⟨oa, o1, ob, post, rfl, hp, h1, h2⟩ := h ss o hq
  refine ⟨Hf1, less H1 (o1.map (·.1)), ss, o1, post, S1.into, r1, hp, fun s own' v Hf' H' hq S' r' hs => ?_, fun C own' Hf' H' hq S' => ?_⟩
  · exact q v Hf' H' s _ (m1.trans S'.e0) (S1.back S') r' hs (h1 s own' hq)
  · exact ⟨C, Hf', ρ, _, rfl, rfl, S1.back S', E.mono (m1.trans S'.e0), h2 C own' hq⟩
end
/-! ### a range whose end changes what is owned, walked by a comprehension -/
section
variable {Z : Ctx} {elt tg iter a : Expr} {ifs : List Expr} {scope : Scope} {ρ : List Slot} {own : Own} {k : Nat} {pos p : Pos}
def ITG (Z : Ctx) (tg iter : Expr) (ρ : List Slot) (own : Own) (P : List PyData → Own → Prop) : Prop := ∃ wi : TI, PI Z.X tg iter wi ∧ ∀ Hf σ H, Sat Z.B Hf H own → EnvR Hf σ ρ → ∀ R : It → Hp → Prop, (∀ J Hf' H' ys own', Same Hf Hf' → Sat Z.B Hf' H' own' → P ys own' → Walk Z.B J Hf' ys (fun _ => True) → R J H') → wi σ H R
theorem itg_range1 {P : Int → Own → Prop} (hm : Z.X.mg "range" = none) (h : EG Z a ρ own fun t o => ∃ i, t = .d (.int i) ∧ (-1000000 ≤ i ∧ i ≤ 1000000) ∧ P i o) (hg : Gl Z.X "range" := by rfl) (hs : starEach [a] Z.X.env = [(false, eval a Z.X.env)] := by rfl) : ITG Z tg (.Call (.Name "range" p) [a] [] pos) ρ own (fun ys o => ∃ i, ys = rng 0 i.toNat ∧ P i o) :=
  ⟨_, pi_range1 hg hm paW hs, fun Hf σ H S E R q => (eag_cons (R := fun ss o => ∃ i, ss = [.d (.int i)] ∧ (-1000000 ≤ i ∧ i ≤ 1000000) ∧ P i o) h (fun s o hq _ => by
      obtain ⟨i, rfl, hi, hp⟩ := hq
      exact EA.toEAG ea_nil ⟨i, rfl, hi, hp⟩) hs) Hf σ H S E _ fun vs Hf1 H1 ss o m1 S1 r1 hq => by
    obtain ⟨i, rfl, hi, hp⟩ := hq
    obtain ⟨v, rfl, r⟩ := r1.one
    cases r
    exact ⟨i, rfl, by omega, by omega, q _ Hf1 H1 _ _ m1 S1 ⟨i, rfl, hp⟩ (walk_rng 0 _)⟩⟩
theorem compG {P : List PyData → Own → Prop} (g : Gd Z k) (it : ITG Z tg iter ρ own P) (on : List (Str × Nat)) (ok : BlkOk Z.X.N Z.X.env.scope scope on) (I : List PyData → Nat → List PyData → Own → Prop) (h0 : ∀ ys o, P ys o → I ys 0 [] o) (hlen : ∀ ys i acc o, I ys i acc o → acc.length < 100000)
    (step : ∀ ys i y acc o D, ys[i]? = some y → I ys i acc o → ∃ ρ2 is l, (∀ i ∈ is, i ∈ on.map (·.2)) ∧ (∀ s H C cl fp, GT (blkZ Z scope s H C cl fp) tg y (wipeR ρ (on.map (·.2))) ρ2 is) ∧ (∀ s H C cl fp, ETs (blkZ Z scope s H C cl fp) ifs ρ2 ((D, .lst acc) :: o) l) ∧
      (l = true → ∀ s H C cl fp, EG (blkZ Z scope s H C cl fp) elt ρ2 ((D, .lst acc) :: o) (fun t o2 => ∃ d o', t = .d d ∧ o2 = (D, .lst acc) :: o' ∧ I ys (i + 1) (acc ++ [d]) o')) ∧ (l = false → I ys (i + 1) acc o)) :
    CP Z elt tg iter ifs scope ρ own (fun ds o => ∃ ys, I ys ys.length ds o) := by
  obtain ⟨wi, hi, hw⟩ := it
  refine ⟨wi, fun v σ H Q => ∀ s' H' C cl fp, wG (Z.X.blk s' H' scope (compEnvC scope cl C Z.X.env) fp) tg v σ H Q, fun σ H Q => ∀ s' H' C cl fp, wTs (Z.X.blk s' H' scope (compEnvC scope cl C Z.X.env) fp) ifs σ H Q, fun σ H Q => ∀ s' H' C cl fp, wE (Z.X.blk s' H' scope (compEnvC scope cl C Z.X.env) fp) elt σ H Q, on, hi, ok,
    fun s' H' C cl fp => ⟨fun pins s σ H v u Q I r h => (h s' H' C cl fp).run pins s u I r⟩, fun s' H' C cl fp => ⟨fun pins s σ H Q I h => (h s' H' C cl fp).run pins s I⟩, fun s' H' C cl fp => ⟨fun pins s σ H Q I h => (h s' H' C cl fp).run pins s I⟩, fun Hf σ H S E Q q => ?_⟩
  refine hw Hf σ H S E _ fun J Hf1 H1 ys own1 m1 S1 hP W D hD => ?_
  refine ⟨fun i m H' => m = ys.length - i ∧ i ≤ ys.length ∧ ∃ Hf' acc o, Same Hf1 Hf' ∧ Sat Z.B Hf' H' ((D, .lst acc) :: o) ∧ I ys i acc o, ⟨ys.length, by omega, by omega, Hf1, [], own1, Same.refl _, S1.newOwn hD ⟨[], upd_same, .nil⟩, h0 ys own1 hP⟩, ?_⟩
  rintro i m H' ⟨rfl, hil, Hf', acc, o, m', S', q'⟩
  by_cases hlt : i < ys.length
  · refine .inr ⟨W.go i Hf' H' _ m' S' trivial hlt, fun H2 => ∃ Hf2 acc2 o2, Same Hf1 Hf2 ∧ Sat Z.B Hf2 H2 ((D, .lst acc2) :: o2) ∧ I ys (i + 1) acc2 o2, fun H2 ⟨Hf2, acc2, o2, m2, S2, q2⟩ => ⟨ys.length - (i + 1), by omega, rfl, hlt, Hf2, acc2, o2, m2, S2, q2⟩, fun x H2 hx => ?_⟩
    obtain ⟨Hf2, m2, S2, r2⟩ := W.yld i _ Hf' H' _ x H2 m' S' trivial (List.getElem?_eq_getElem hlt) hx
    obtain ⟨ρ2, is, l, hin, gt, et, h1, h2⟩ := step ys i _ acc o D (List.getElem?_eq_getElem hlt) q'
    have E2 : EnvR Hf2 (wipe σ (on.map (·.2))) (wipeR ρ (on.map (·.2))) := (E.mono ((m1.trans m').trans m2)).wipe _
    intro s' H'' C cl fp
    refine gt s' H'' C cl fp _ Hf2 _ H2 x S2 E2 r2 _ fun σ3 E3 b3 => ⟨wipe_but b3 hin, ?_⟩
    intro s' H'' C cl fp
    refine et s' H'' C cl fp Hf2 σ3 H2 S2 E3 _ fun Hf3 H3 m3 S3 => ?_
    cases l with
    | false => exact iteF ⟨Hf3, acc, o, (m'.trans m2).trans m3, S3, h2 rfl⟩
    | true =>
      refine iteT ?_
      intro s' H'' C cl fp
      refine h1 rfl s' H'' C cl fp Hf3 σ3 H3 S3 (E3.mono m3) _ fun v Hf4 H4 t o2 m4 S4 r4 _ hq => ?_
      obtain ⟨d, o', rfl, rfl, hI⟩ := hq
      obtain ⟨_, _, vs, g1, g2⟩ := S4.at (p := D) (oo := .lst acc) (by simp)
      exact ⟨vs, g1, by rw [g2.length]; exact Nat.lt_of_lt_of_le (hlen _ _ _ _ q') (by decide), Hf4, acc ++ [d], o', ((m'.trans m2).trans m3).trans m4, S4.write (oa := []) (oo' := .lst (acc ++ [d])) ⟨_, upd_same, g2.append (.cons r4 .nil)⟩, hI⟩
  · have e : i = ys.length := by omega
    subst e
    exact .inl ⟨W.stop _ Hf' H' _ m' S' trivial (Nat.le_refl _), q D Hf' H' acc o (m1.trans m') S' ⟨ys, q'⟩⟩
end
/-! ### a def of the text as the top has left it -/
structure Df (K : PySem.W.Frag) (mg : Str → Option Value) (z : Str) (st : Stmt) (ps : List Str) : Prop where
  ex : ∃ f fd, Fun K z z st f fd ∧ mg z = some (.ref f) ∧ ∀ us : List Value, us.length = ps.length → bindArgs fd ⟨us, []⟩ = pure (ps.zip us)
theorem Df.fn {K : PySem.W.Frag} {mg : Str → Option Value} {P : Program} {w : World} {base : Heap} {z : Str} {st : Stmt} {ps : List Str} {k : Nat} {Pre : Pr} (D : Df K mg z st ps) (h : ∀ f fd, Fun K z z st f fd → FnOk P w K mg base (L2.CX P w) k f fd ps (spG Pre)) : Fn K mg P w base z ps k Pre := by
  obtain ⟨f, fd, F, hm, hb⟩ := D.ex
  exact ⟨f, fd, h f fd F, hm, F.kp, Binds.all hb⟩
theorem df_mk {K : PySem.W.Frag} {mg : Str → Option Value} {h : Heap} {z : Str} {st : Stmt} {ps : List Str} {f : Addr} {oc : Value} {od an : Option Addr} {sl : Array (Option Value)} {kV dc pm cd ct : Value} (X : K.In h) (G : h.Ns mainGlobals mg)
    (hb : ∀ (kV doc pm : Value) (an : Option Addr) (cdv ct : Value) (us : List Value), us.length = ps.length → bindArgs (PySem.W.fnOf z z (defArgs st) (defBody st) (defScope st) .none kV doc pm an cdv ct) ⟨us, []⟩ = pure (ps.zip us))
    (a : PySem.W.nsIn K mainGlobals z = some (some (.ref f))) (l : K.lookup f = some ⟨oc, od, .func (PySem.W.fnOf z z (defArgs st) (defBody st) (defScope st) .none kV dc pm an cd ct), sl⟩) (c : PySem.W.codeIn K cd z = true) (k : PySem.W.keepIn K (.ref f) = true) : Df K mg z st ps :=
  have F := fun_mk (st := st) l c k
  ⟨f, _, F, PySem.W.mg_of X G a, fun us hl => hb _ _ _ _ _ _ us hl⟩
theorem err_mk {K : PySem.W.Frag} {mg : Str → Option Value} {h : Heap} {z : Str} {C : Addr} (X : K.In h) (G : h.Ns mainGlobals mg) (a : PySem.W.nsIn K mainGlobals z = some (some (.ref C)))
    (x : PySem.W.excIn K C [.type "ValueError", .type "Exception", .type "BaseException", .type "object"] "ValueError.__new__" = true) (k : PySem.W.keepIn K (.ref C) = true) (b : PySem.W.subIn K (.ref C) (.type "BaseException") = some true) (t : PySem.W.typeIn K (.ref C) = some (.type "type")) : ErrC K mg z C := ⟨PySem.W.mg_of X G a, x, k, b, t⟩
/-- the classes of the program -/
structure Cl where
  DayError : Addr
  BadYear : Addr
  BadDay : Addr
  BadNumber : Addr
  BadShare : Addr
  BadText : Addr
  NotFound : Addr
  Calendar : Addr
end Sd


/-! fractions as data, sizes -/
namespace Sd
open PySem PySem.Spec PyProof.Rows L2
def fr (q : Rat) : PyData := .tuple [.int q.num, .int (q.den : Int)]
theorem low_eq (a b : Int) (hb : 0 < b) : ((a : Rat) / b).num = a / (Int.gcd a b) ∧ (((a : Rat) / b).den : Int) = b / (Int.gcd a b) := by
  rw [← Rat.divInt_eq_div]
  refine ⟨?_, ?_⟩
  · rw [Rat.num_divInt, Int.sign_eq_one_of_pos hb, Int.one_mul, Int.gcd_comm]
  · rw [Rat.den_divInt, if_neg (by omega), Int.gcd_comm, Int.natCast_ediv, Int.natAbs_of_nonneg (by omega)]
theorem fr_low (a b : Int) (hb : 0 < b) : PyData.tuple [.int (a / (Int.gcd a b : Nat)), .int (b / (Int.gcd a b : Nat))] = fr ((a : Rat) / b) := by
  unfold fr
  rw [(low_eq a b hb).1, (low_eq a b hb).2]
theorem den_pos (q : Rat) : (0 : Int) < (q.den : Int) := by
  have := q.den_nz
  omega
theorem num_den (q : Rat) : (q.num : Rat) / ((q.den : Int) : Rat) = q := by
  rw [← Rat.divInt_eq_div, Rat.num_divInt_den]
theorem den_ne (q : Rat) : ((q.den : Int) : Rat) ≠ 0 := by
  intro h
  have : (q.den : Int) = 0 := by exact_mod_cast h
  have := den_pos q
  omega
theorem num_eq (q : Rat) : (q.num : Rat) = q * ((q.den : Int) : Rat) := by
  have h := num_den q
  have h2 := den_ne q
  grind
theorem eqv_fr (p q : Rat) : PyData.eqv (fr p) (fr q) = decide (p = q) := by
  have e : PyData.eqv (fr p) (fr q) = (decide (p.num = q.num) && decide ((p.den : Int) = (q.den : Int))) := by
    simp [fr, PyData.eqv, PyData.eqvAll, Bool.beq_eq_decide_eq]
  rw [e, Bool.eq_iff_iff]
  simp only [Bool.and_eq_true, decide_eq_true_eq]
  constructor
  · rintro ⟨h1, h2⟩
    exact Rat.ext h1 (by omega)
  · rintro rfl
    exact ⟨rfl, rfl⟩
/-! shapes -/
def Shp (n : Nat) (d : PyData) : Prop := d.canLay0 = true ∧ d.depth ≤ n
theorem Shp.shaped {n : Nat} {d : PyData} (h : Shp n d) (hn : n ≤ 64) : SeqAt.shaped d = true := by
  unfold SeqAt.shaped
  rw [h.1, decide_eq_true (Nat.le_trans h.2 hn)]
  rfl
theorem depthAll_le {n : Nat} : ∀ {ds : List PyData}, (∀ d ∈ ds, d.depth ≤ n) → PyData.depthAll ds ≤ n
  | [], _ => Nat.zero_le _
  | d :: ds, h => by
    unfold PyData.depthAll
    exact Nat.max_le.mpr ⟨h d (by simp), depthAll_le fun x hx => h x (by simp [hx])⟩
theorem canAll_of : ∀ {ds : List PyData}, (∀ d ∈ ds, d.canLay0 = true) → PyData.canLayAll0 ds = true
  | [], _ => by simp [PyData.canLayAll0]
  | d :: ds, h => by
    unfold PyData.canLayAll0
    rw [h d (by simp), canAll_of fun x hx => h x (by simp [hx])]
    rfl
theorem shp_int (i : Int) : Shp 0 (.int i) := ⟨by simp [PyData.canLay0], by simp [PyData.depth]⟩
theorem shp_bool (i : Bool) : Shp 0 (.bool i) := ⟨by simp [PyData.canLay0], by simp [PyData.depth]⟩
theorem shp_str {z : Str} (h : PyData.strOk z = true) : Shp 0 (.str z) := ⟨by simp [PyData.canLay0, h], by simp [PyData.depth]⟩
theorem shp_list {n : Nat} {ds : List PyData} (h : ∀ d ∈ ds, Shp n d) : Shp (n + 1) (.list ds) := ⟨by unfold PyData.canLay0; exact canAll_of fun d hd => (h d hd).1, by unfold PyData.depth; have := depthAll_le (n := n) fun d hd => (h d hd).2; omega⟩
theorem shp_tup {n : Nat} {ds : List PyData} (h : ∀ d ∈ ds, Shp n d) : Shp (n + 1) (.tuple ds) := ⟨by unfold PyData.canLay0; exact canAll_of fun d hd => (h d hd).1, by unfold PyData.depth; have := depthAll_le (n := n) fun d hd => (h d hd).2; omega⟩
theorem shp_fr (q : Rat) : Shp 1 (fr q) := shp_tup fun d hd => by
  simp only [List.mem_cons, List.not_mem_nil, or_false] at hd
  rcases hd with rfl | rfl <;> exact shp_int _
theorem shp_ints (ns : List Int) : Shp 1 (.list (ns.map PyData.int)) := shp_list fun d hd => by
  obtain ⟨n, _, rfl⟩ := List.mem_map.mp hd
  exact shp_int n
theorem sh_fr (q : Rat) : SeqAt.shaped (fr q) = true := (shp_fr q).shaped (by decide)
theorem sh_ints (ns : List Int) : SeqAt.shaped (.list (ns.map PyData.int)) = true := (shp_ints ns).shaped (by decide)
def Sz (n : Nat) (i : Int) : Prop := i.natAbs < 2 ^ n
def Sq (n : Nat) (q : Rat) : Prop := q.num.natAbs < 2 ^ n ∧ q.den < 2 ^ n
theorem pow_le {m n : Nat} (h : m ≤ n) : 2 ^ m ≤ 2 ^ n := Nat.pow_le_pow_right (by decide) h
theorem Sz.mono {m n : Nat} {i : Int} (h : Sz m i) (hn : m ≤ n) : Sz n i := Nat.lt_of_lt_of_le h (pow_le hn)
theorem Sq.mono {m n : Nat} {q : Rat} (h : Sq m q) (hn : m ≤ n) : Sq n q := ⟨Nat.lt_of_lt_of_le h.1 (pow_le hn), Nat.lt_of_lt_of_le h.2 (pow_le hn)⟩
theorem Sz.mul {m n : Nat} {i j : Int} (h : Sz m i) (h' : Sz n j) : Sz (m + n) (i * j) := wide_lt h h'
theorem Sz.add {m n : Nat} {i j : Int} (h : Sz m i) (h' : Sz n j) : Sz (max m n + 1) (i + j) := by
  have h1 := (h.mono (Nat.le_max_left m n))
  have h2 := (h'.mono (Nat.le_max_right m n))
  unfold Sz at *
  rw [Nat.pow_succ]
  omega
theorem Sz.neg {m : Nat} {i : Int} (h : Sz m i) : Sz m (-i) := by unfold Sz at *; rw [Int.natAbs_neg]; exact h
theorem Sz.sub {m n : Nat} {i j : Int} (h : Sz m i) (h' : Sz n j) : Sz (max m n + 1) (i - j) := by rw [Int.sub_eq_add_neg]; exact h.add h'.neg
theorem Sq.num {m : Nat} {q : Rat} (h : Sq m q) : Sz m q.num := h.1
theorem Sq.den {m : Nat} {q : Rat} (h : Sq m q) : Sz m (q.den : Int) := by unfold Sz; rw [Int.natAbs_natCast]; exact h.2
theorem cmul_of {a b : Nat} {i j : Int} (ha : Sz a i) (hb : Sz b j) (h : a + b ≤ 999998) : CMulW i j := wide_mul (a := a + 1) (b := b + 1) (ha.mono (by omega)) (hb.mono (by omega)) (by omega) (by omega) (by omega)
theorem cdiv_of {b : Nat} {i j : Int} (h : 0 < j) (hb : Sz b j) (h9 : b ≤ 8999) : CDivW i j := wide_div (b := b + 1) h (hb.mono (by omega)) (by omega) (by omega)
theorem ediv_le_natAbs (a : Int) (g : Nat) (hd : (g : Int) ∣ a) : (a / (g : Int)).natAbs ≤ a.natAbs := by
  rw [Int.natAbs_ediv_of_dvd hd]
  exact Nat.div_le_self _ _
theorem Sq.of_div {n : Nat} {a b : Int} (hb : 0 < b) (h1 : Sz n a) (h2 : Sz n b) : Sq n ((a : Rat) / b) := by
  obtain ⟨e1, e2⟩ := low_eq a b hb
  constructor
  · rw [e1]
    exact Nat.lt_of_le_of_lt (ediv_le_natAbs a _ (Int.gcd_dvd_left a b)) h1
  · have h3 := ediv_le_natAbs b _ (Int.gcd_dvd_right a b)
    rw [← e2] at h3
    rw [Int.natAbs_natCast] at h3
    exact Nat.lt_of_le_of_lt h3 h2
theorem plus_eq (p q : Rat) : ((p.num * (q.den : Int) + q.num * (p.den : Int) : Int) : Rat) / ((p.den : Int) * (q.den : Int) : Int) = p + q := by
  have h1 := num_eq p
  have h2 := num_eq q
  have h3 := den_ne p
  have h4 := den_ne q
  push_cast at *
  rw [h1, h2]
  grind
theorem minus_eq (p q : Rat) : ((p.num * (q.den : Int) - q.num * (p.den : Int) : Int) : Rat) / ((p.den : Int) * (q.den : Int) : Int) = p - q := by
  have h1 := num_eq p
  have h2 := num_eq q
  have h3 := den_ne p
  have h4 := den_ne q
  push_cast at *
  rw [h1, h2]
  grind
theorem Sq.add {m n : Nat} {p q : Rat} (h : Sq m p) (h' : Sq n q) : Sq (m + n + 1) (p + q) := by
  rw [← plus_eq]
  refine Sq.of_div (Int.mul_pos (den_pos p) (den_pos q)) ?_ ((h.den.mul h'.den).mono (by omega))
  exact ((h.num.mul h'.den).add (h'.num.mul h.den)).mono (by omega)
theorem Sq.sub {m n : Nat} {p q : Rat} (h : Sq m p) (h' : Sq n q) : Sq (m + n + 1) (p - q) := by
  rw [← minus_eq]
  refine Sq.of_div (Int.mul_pos (den_pos p) (den_pos q)) ?_ ((h.den.mul h'.den).mono (by omega))
  exact ((h.num.mul h'.den).sub (h'.num.mul h.den)).mono (by omega)
theorem le_fr (p q : Rat) : (p.num * (q.den : Int) ≤ q.num * (p.den : Int)) ↔ p ≤ q := (Rat.le_iff p q).symm
theorem gcd_step (a b : Int) (ha : 0 ≤ a) (hb : 0 < b) : Int.gcd b (a % b) = Int.gcd a b := by
  have e : (a % b).natAbs = a.natAbs % b.natAbs := by
    rw [Int.natAbs_emod_of_nonneg ha]
  unfold Int.gcd
  rw [e, Nat.gcd_comm b.natAbs, ← Nat.gcd_rec, Nat.gcd_comm]
/-! no data is a dict -/
theorem Rep.nd {H : Hp} {v : V} {x : PyData} (h : Rep H v x) : ∀ kvs, x ≠ .dict kvs := fun kvs e => by
  subst e
  cases h
theorem Reps.nd {H : Hp} : ∀ {vs : List V} {ds : List PyData}, Reps H vs ds → ∀ d ∈ ds, ∀ kvs, d ≠ .dict kvs
  | _, _, .nil, _, h => nomatch h
  | _, _, .cons a b, d, h => by
    rcases List.mem_cons.mp h with rfl | h
    · exact a.nd
    · exact b.nd d h
def NoD (x : PyData) : Prop := (∀ kvs, x ≠ .dict kvs) ∧ ∀ ds, x = .list ds ∨ x = .tuple ds → ∀ d ∈ ds, ∀ kvs, d ≠ .dict kvs
theorem Rep.noD {H : Hp} {v : V} {x : PyData} (h : Rep H v x) : NoD x := ⟨h.nd, fun ds e => by
  rcases e with rfl | rfl
  · cases h with
    | lst _ r => exact r.nd
  · cases h with
    | tup _ r => exact r.nd⟩
theorem sds_nd {Z : Ctx} {sts : List Stmt} {D : DE} {ρ : List Slot} {own : Own} (i : Nat) {x : PyData} (hi : ρ[i]? = some (.d x)) (k : NoD x → SDs Z sts D ρ own) : SDs Z sts D ρ own := fun H0 Hf σ H m0 S E => by
  obtain ⟨v, _, r⟩ := E.d hi
  exact k r.noD H0 Hf σ H m0 S E
/-! years -/
def isInt (x : PyData) (lo hi : Int) : Bool := match x with
  | .int i => decide (lo ≤ i) && decide (i ≤ hi)
  | _ => false
def isYear (x : PyData) : Bool := match x with
  | .list ds => decide (1 ≤ (ds.length : Int)) && decide ((ds.length : Int) ≤ 8) && (ds.map fun d => isInt d 1 20).all id
  | _ => false
/-- a year of ints -/
structure Yr (ys : List Int) : Prop where
  lo : 1 ≤ ys.length
  hi : ys.length ≤ 8
  it : ∀ y ∈ ys, 1 ≤ y ∧ y ≤ 20
abbrev li (ns : List Int) : PyData := .list (ns.map PyData.int)
theorem Yr.is {ys : List Int} (h : Yr ys) : isYear (li ys) = true := by
  have e : isYear (li ys) = (decide (1 ≤ ((ys.map PyData.int).length : Int)) && decide (((ys.map PyData.int).length : Int) ≤ 8) && ((ys.map PyData.int).map fun d => isInt d 1 20).all id) := rfl
  have h1 := h.lo
  have h2 := h.hi
  rw [e, List.length_map, decide_eq_true (by omega), decide_eq_true (by omega), List.map_map]
  simp only [Bool.and_self, Bool.true_and, List.all_eq_true, List.mem_map]
  rintro x ⟨y, hy, rfl⟩
  have := h.it y hy
  simp [isInt, this.1, this.2]
theorem Sz.pow {k : Nat} {b : Int} (h : Sz k b) : ∀ n : Nat, Sz (k * n + 1) (b ^ n)
  | 0 => by unfold Sz; simp
  | n + 1 => by
    rw [Int.pow_succ]
    exact ((Sz.pow h n).mul h).mono (by rw [Nat.mul_succ]; omega)
/-! binomials -/
def bin : Nat → Nat → Nat
  | _, 0 => 1
  | 0, _ + 1 => 0
  | n + 1, k + 1 => bin n k + bin n (k + 1)
theorem bin_zero (n : Nat) : bin n 0 = 1 := by cases n <;> rfl
theorem bin_succ (n k : Nat) : bin (n + 1) (k + 1) = bin n k + bin n (k + 1) := rfl
theorem bin_out : ∀ (n k : Nat), n < k → bin n k = 0
  | _, 0, h => by omega
  | 0, _ + 1, _ => rfl
  | n + 1, k + 1, h => by rw [bin_succ, bin_out n k (by omega), bin_out n (k + 1) (by omega)]
theorem bin_mul : ∀ (n k : Nat), (n + 1) * bin n k = bin (n + 1) (k + 1) * (k + 1)
  | 0, 0 => rfl
  | 0, k + 1 => by simp [bin]
  | n + 1, 0 => by
    have h := bin_mul n 0
    rw [bin_zero] at *
    rw [bin_succ, bin_zero]
    omega
  | n + 1, k + 1 => by
    have h1 := bin_mul n k
    have h2 := bin_mul n (k + 1)
    rw [bin_succ (n + 1) (k + 1)]
    rw [bin_succ n (k + 1)] at h2 ⊢
    rw [bin_succ n k] at h1 ⊢
    grind
theorem bin_next (n k : Nat) (h : k ≤ n) : bin n (k + 1) * (k + 1) = bin n k * (n - k) := by
  have h1 := bin_mul n k
  rw [bin_succ] at h1
  obtain ⟨m, rfl⟩ : ∃ m, n = k + m := ⟨n - k, by omega⟩
  have e : k + m - k = m := by omega
  rw [e]
  grind
theorem bin_step (n i : Nat) (h : i ≤ n) : ((bin n i : Nat) : Int) * ((n : Int) - (0 + (i : Int))) / (0 + (i : Int) + 1) = (bin n (i + 1) : Nat) := by
  have h1 := bin_next n i h
  have h2 : ((bin n i : Nat) : Int) * ((n : Int) - (0 + (i : Int))) = ((bin n (i + 1) : Nat) : Int) * (0 + (i : Int) + 1) := by
    have e1 : ((n : Int) - (0 + (i : Int))) = ((n - i : Nat) : Int) := by omega
    have e2 : (0 + (i : Int) + 1) = ((i + 1 : Nat) : Int) := by omega
    rw [e1, e2]
    exact_mod_cast h1.symm
  rw [h2, Int.mul_ediv_cancel _ (by omega)]
theorem bin_le : ∀ (n k : Nat), bin n k ≤ 2 ^ n
  | n, 0 => by rw [bin_zero]; exact Nat.one_le_two_pow
  | 0, k + 1 => by simp [bin]
  | n + 1, k + 1 => by
    have h1 := bin_le n k
    have h2 := bin_le n (k + 1)
    rw [bin_succ, Nat.pow_succ]
    omega
theorem bin_lt (n i : Nat) {k : Nat} (h : i < k) (hk : k ≤ n) : bin n i < 2 ^ n := by
  cases n with
  | zero => omega
  | succ n =>
    cases i with
    | zero => rw [bin_zero]; exact Nat.one_lt_two_pow (by omega)
    | succ i =>
      have h1 := bin_le n i
      have h2 := bin_le n (i + 1)
      rw [bin_succ, Nat.pow_succ]
      by_cases e : i = n
      · omega
      · have : ∀ (n i : Nat), i < n → bin n i < 2 ^ n := fun n i hi => by
          induction n generalizing i with
          | zero => omega
          | succ n ih =>
            cases i with
            | zero => rw [bin_zero]; exact Nat.one_lt_two_pow (by omega)
            | succ i =>
              have a1 := ih i (by omega)
              have a2 := bin_le n (i + 1)
              rw [bin_succ, Nat.pow_succ]
              omega
        have a := this n i (by omega)
        omega
/-! lists of ints walked -/
theorem fm_congr {α β : Type} {f g : α → Option β} : ∀ {l : List α}, (∀ a ∈ l, f a = g a) → l.filterMap f = l.filterMap g
  | [], _ => rfl
  | a :: l, h => by
    rw [List.filterMap_cons, List.filterMap_cons, h a (by simp), fm_congr fun x hx => h x (by simp [hx])]

theorem enumD_ints (xs : List Int) : enumD (xs.map PyData.int) = (List.range xs.length).map fun (k : Nat) => PyData.tuple [.int (k : Int), .int (xs.getD k 0)] := by
  unfold enumD
  rw [List.length_map]
  refine List.map_congr_left fun k hk => ?_
  have hk : k < xs.length := by simpa using hk
  rw [List.getD_eq_getElem?_getD, List.getD_eq_getElem?_getD, List.getElem?_map, List.getElem?_eq_getElem hk]
  rfl
theorem sum_le_mul {b : Int} : ∀ {ys : List Int}, (∀ y ∈ ys, y ≤ b) → ys.sum ≤ b * ys.length
  | [], _ => by simp
  | y :: ys, h => by
    have h1 := sum_le_mul (ys := ys) fun z hz => h z (by simp [hz])
    have h2 := h y (by simp)
    rw [List.sum_cons, List.length_cons]
    push_cast
    rw [Int.mul_add]
    omega
theorem sum_ge_mul {b : Int} : ∀ {ys : List Int}, (∀ y ∈ ys, b ≤ y) → b * ys.length ≤ ys.sum
  | [], _ => by simp
  | y :: ys, h => by
    have h1 := sum_ge_mul (ys := ys) fun z hz => h z (by simp [hz])
    have h2 := h y (by simp)
    rw [List.sum_cons, List.length_cons]
    push_cast
    rw [Int.mul_add]
    omega
theorem Yr.sum_lo {ys : List Int} (h : Yr ys) : 1 ≤ ys.sum := by
  have h1 := sum_ge_mul (b := 1) fun y hy => (h.it y hy).1
  have := h.lo
  omega
theorem Yr.sum_hi {ys : List Int} (h : Yr ys) : ys.sum ≤ 160 := by
  have h1 := sum_le_mul (b := 20) fun y hy => (h.it y hy).2
  have := h.hi
  omega
theorem mem_le_sum : ∀ {ys : List Int}, (∀ y ∈ ys, 0 ≤ y) → ∀ y ∈ ys, y ≤ ys.sum
  | y :: ys, h, z, hz => by
    have hs : 0 ≤ ys.sum := by
      have := sum_ge_mul (b := 0) (ys := ys) fun x hx => h x (by simp [hx])
      simpa using this
    rw [List.sum_cons]
    rcases List.mem_cons.mp hz with rfl | hz
    · omega
    · have h1 := mem_le_sum (ys := ys) (fun x hx => h x (by simp [hx])) z hz
      have := h y (by simp)
      omega
theorem Yr.le_sum {ys : List Int} (h : Yr ys) {y : Int} (hy : y ∈ ys) : y ≤ ys.sum := mem_le_sum (fun z hz => by have := h.it z hz; omega) y hy
theorem Yr.szW {ys : List Int} (h : Yr ys) : Sz 8 ys.sum := by
  have h1 := h.sum_lo
  have h2 := h.sum_hi
  unfold Sz
  omega
theorem Yr.szD {ys : List Int} (h : Yr ys) {y : Int} (hy : y ∈ ys) : Sz 8 (ys.sum - y) := by
  have h1 := h.sum_lo
  have h2 := h.sum_hi
  have h3 := h.it y hy
  have h4 := h.le_sum hy
  unfold Sz
  omega
theorem Yr.szy {ys : List Int} (h : Yr ys) {y : Int} (hy : y ∈ ys) : Sz 8 y := by
  have h3 := h.it y hy
  unfold Sz
  omega
theorem Yr.posP {ys : List Int} (h : Yr ys) (n : Nat) : 0 < ys.sum ^ n := Int.pow_pos (by have := h.sum_lo; omega)
theorem Sz.nat {n k : Nat} (h : n < 2 ^ k) : Sz k (n : Int) := by unfold Sz; rw [Int.natAbs_natCast]; exact h
theorem Sz.one : Sz 1 1 := by unfold Sz; decide
theorem fr_zero : fr 0 = .tuple [.int 0, .int 1] := rfl
theorem Sq.one : Sq 1 1 := ⟨by decide, by decide⟩
theorem Sq.zero : Sq 1 0 := ⟨by decide, by decide⟩
theorem getI {ys : List Int} {j : Nat} {y : Int} (h : ys[j]? = some y) : atI (ys.map PyData.int) (j : Int) = some (.int y) := atI_nat (by rw [List.getElem?_map, h]; rfl)
theorem bin_sz (n k : Nat) : Sz (n + 1) (bin n k : Nat) := Sz.nat (Nat.lt_of_le_of_lt (bin_le n k) (by rw [Nat.pow_succ]; have := Nat.one_le_two_pow (n := n); omega))
def maxL (ys : List Int) : Int := ys.foldl max 0
theorem maxL_aux : ∀ (ys : List Int) (a : Int), a ≤ ys.foldl max a ∧ (∀ y ∈ ys, y ≤ ys.foldl max a) ∧ (ys.foldl max a = a ∨ ys.foldl max a ∈ ys)
  | [], a => ⟨Int.le_refl _, by simp, .inl rfl⟩
  | y :: ys, a => by
    obtain ⟨h1, h2, h3⟩ := maxL_aux ys (max a y)
    rw [List.foldl_cons]
    refine ⟨by omega, fun z hz => ?_, ?_⟩
    · rcases List.mem_cons.mp hz with rfl | hz
      · omega
      · exact h2 z hz
    · rcases h3 with h3 | h3
      · rw [h3]
        by_cases h : a ≤ y
        · right
          rw [Int.max_eq_right h]
          simp
        · left
          exact Int.max_eq_left (by omega)
      · exact .inr (by simp [h3])
theorem Yr.max_mem {ys : List Int} (h : Yr ys) : maxL ys ∈ ys := by
  obtain ⟨_, h2, h3⟩ := maxL_aux ys 0
  rcases h3 with h3 | h3
  · have hl := h.lo
    obtain ⟨y, hy⟩ := List.exists_mem_of_length_pos (show 0 < ys.length by omega)
    have a1 := h2 y hy
    have a2 := h.it y hy
    omega
  · exact h3
theorem Yr.max_le {ys : List Int} (h : Yr ys) : ∀ y ∈ ys, y ≤ maxL ys := (maxL_aux ys 0).2.1
/-- a list of numbers for the days -/
structure Ct (ys : List Int) (cs : List Nat) : Prop where
  len : cs.length = ys.length
  sum : cs.sum ≤ 12
def nI (cs : List Nat) : List Int := cs.map fun (n : Nat) => (n : Int)
end Sd


/-! the script, the draws -/
namespace Sd
open PySem PySem.Spec PyProof.Rows L2
def ScrAt (K : PySem.W.Frag) (own : Own) (a : Addr) (xs : List Int) : Prop := ∀ (Hf H : Hp), (∀ q ∈ own, OwnOk Hf H q.1 q.2) → SqL K H a (xs.map V.int)
theorem ScrAt.at {K : PySem.W.Frag} {own : Own} {a : Addr} {xs : List Int} {B : Bs} {Hf H : Hp} (h : ScrAt K own a xs) (S : Sat B Hf H own) : SqL K H a (xs.map V.int) := h Hf H fun q hq => (S.ow q hq).2.2
theorem dp_ints {K : PySem.W.Frag} {H : Hp} : ∀ xs : List Int, DpAll K H (xs.map V.int) (xs.map PyData.int)
  | [] => .nil
  | x :: xs => .cons (.int x) (dp_ints xs)
section
variable {Z : Ctx} {e a b c : Expr} {ρ : List Slot} {own : Own} {pos p : Pos} {i : Int} {k : Nat} {q : Addr} {xs : List Int}
theorem c_neScr (g : Gd Z k) (h : ScrAt Z.X.K own q xs) : CmpB Z .NotEq own (.raw (.ref q)) (.d (.list [])) (!decide (xs = [])) := ⟨_, op_neD g.hr.units, fun v w Hf H S r1 r2 Q k => by
  cases (show v = .ref q from r1)
  refine ⟨.list (xs.map PyData.int), .list [], .lst (h.at S) (dp_ints xs), (Rep.mono S.e1 r2).dp, sh_ints xs, (shp_list (n := 0) (ds := []) (fun d hd => absurd hd (by simp))).shaped (by decide), ?_⟩
  have e : PyData.eqv (.list (xs.map PyData.int)) (.list []) = decide (xs = []) := by
    cases xs <;> simp [PyData.eqv, PyData.eqvAll]
  rw [e]
  exact k⟩
theorem el_listScr (hm : Z.X.mg "list" = none) (h : EV Z e ρ own (.ref q)) (hs' : ScrAt Z.X.K own q xs) (hg : Gl Z.X "list" := by rfl) (hs : starEach [e] Z.X.env = (false, eval e Z.X.env) :: starEach [] Z.X.env := by rfl) : EL Z (.Call (.Name "list" p) [e] [] pos) ρ own (xs.map PyData.int) :=
  el_callTy call_list_of hg hm (by decide +kernel) (ea_cons h ea_nil hs) fun vs Hf H S r0 Q k => by
    obtain ⟨v, rfl, r⟩ := r0.one
    cases (show v = .ref q from r)
    exact ⟨q, _, rfl, .inl (hs'.at S), fun l hl => k l Hf _ (Same.refl _) (S.newOwn (oo := .lst (xs.map PyData.int)) hl ⟨_, upd_same, Reps.ints xs⟩)⟩
/-- [a, i], the first a value with a change -/
theorem eg_lst2 {P : V → Own → Prop} (h1 : EG Z a ρ own fun s o => ∃ v, s = .raw v ∧ P v o) (h2 : ∀ v o, P v o → ED Z b ρ o (.int i)) (hs : starEach [a, b] Z.X.env = (false, eval a Z.X.env) :: starEach [b] Z.X.env := by rfl) (hs2 : starEach [b] Z.X.env = (false, eval b Z.X.env) :: starEach [] Z.X.env := by rfl) :
    EG Z (.List [a, b] pos) ρ own (fun s o => ∃ q v o', s = .raw (.ref q) ∧ o = (q, .raw (.lst [v, .int i])) :: o' ∧ P v o') := fun Hf σ H S E Q k => wE.of (pe_lst paW)
  ((eag_cons (R := fun ss o => ∃ v, ss = [.raw v, .d (.int i)] ∧ P v o) h1 (fun s o hq _ => by
      obtain ⟨v, rfl, hq⟩ := hq
      exact EA.toEAG (ea_cons (h2 v o hq) ea_nil hs2) ⟨v, rfl, hq⟩) hs) Hf σ H S E _ fun vs Hf1 H1 ss o m1 S1 r1 hq => by
    obtain ⟨v, rfl, hq⟩ := hq
    obtain ⟨v1, v2, rfl, r2, r3⟩ := r1.two
    cases (show v1 = v from r2)
    cases r3
    exact ⟨by show 2 ≤ sizeLine; decide, fun p hp => k _ Hf1 _ (.raw (.ref p)) _ m1 (S1.newOwn (oo := .raw (.lst [v, .int i])) hp upd_same) rfl (fun z => nomatch z) ⟨p, v, o, rfl, rfl, hq⟩⟩)
end
/-- what the draws are: a list of a list of ints and a count -/
def drw (d n : Addr) (cells : List Int) (cnt : Int) : Own := [(d, .raw (.lst [.ref n, .int cnt])), (n, .lst (cells.map PyData.int))]
theorem cx_no {P : Program} {w : World} {H : Hp} {s : Shared} {e : Value} {s' : Shared} (h : L2.CX P w [] H s (fun _ _ _ => False) e s') : False := by
  obtain ⟨_, _, _, _, _, _, _, _, _, _, _, _, z⟩ := h
  exact z
def pre_law (K : PySem.W.Frag) : Pr := fun ss own post => ∃ (a : Addr) (ns : List Int), ss = [.raw (.ref a)] ∧ ScrAt K own a ns ∧ ns.length ≤ 63 ∧ post = fun o => ∃ own', o = .ret (.d (.bool true)) own'
theorem law_in {K : PySem.W.Frag} {H : Hp} {a : Addr} {ns : List Int} (hl : ns.length ≤ 63) (hO : Only H) (hS : SqL K H a (ns.map V.int)) : spG (pre_law K) [.ref a] H (fun v _ => v = .bl true) (fun _ _ _ => False) := by
  have fin : ∀ (own : Own) (HB : Hp), Sat ⟨fun _ => none, HB⟩ (fun _ => none) H own → ScrAt K own a ns → spG (pre_law K) [.ref a] H (fun v _ => v = .bl true) (fun _ _ _ => False) := fun own HB S hs =>
    ⟨fun _ => none, HB, [.raw (.ref a)], own, _, S, .cons rfl .nil, ⟨a, ns, rfl, hs, hl, rfl⟩, fun s own' v Hf' H' hq S' r hu => by
      obtain ⟨o, hq⟩ := hq
      cases hq
      cases r
      rfl, fun C own' Hf' H' hq S' => by
      obtain ⟨o, hq⟩ := hq
      cases hq⟩
  have nt : ∀ (p : Addr) (xs : List V), H p = some (.tup xs) → (none : Option HO) = some (.tup xs) := fun p xs h => by
    rcases hO p with z | ⟨o, ys, z⟩
    · rw [z] at h; cases h
    · rw [z] at h; cases h
  rcases hS with (h | ⟨o, h⟩) | h
  · rcases hO a with z | ⟨o, xs, z⟩
    · rw [z] at h; cases h
    · rw [z] at h; cases h
  · refine fin [(a, .raw (.frz o (.lst (ns.map V.int))))] (less H [a]) ⟨fun _ _ h => h, fun _ _ h => (by cases h), fun p u h => ?_, fun p u h => (by cases h), fun q hq => ?_, by simp, nt⟩ (fun Hf H' hq => ?_)
    · by_cases hp : p ∈ [a]
      · have h : less H [a] p = some u := h
        rw [less_in hp] at h; cases h
      · have h : less H [a] p = some u := h
        rw [less_out hp] at h; exact h
    · have e : q = (a, .raw (.frz o (.lst (ns.map V.int)))) := by simpa using hq
      subst e
      exact ⟨rfl, less_in (by simp), h⟩
    · have h' := hq (a, .raw (.frz o (.lst (ns.map V.int)))) (by simp)
      exact .inl (.inr ⟨o, h'⟩)
  · exact fin [] H ⟨fun _ _ h => h, fun _ _ h => (by cases h), fun _ _ h => h, fun p u h => (by cases h), fun q hq => (nomatch hq), by simp, nt⟩ (fun Hf H' _ => .inr h)
end Sd


/-! more statements -/
namespace Sd
open PySem PySem.Spec PyProof.Rows L2
section
variable {Z : Ctx} {D : DE} {e a b c tg : Expr} {es : List Expr} {ρ : List Slot} {own oa ob : Own} {pos tpos p : Pos} {i j : Int} {s t : Slot} {k : Nat} {ds : List PyData} {x : PyData} {q : Addr} {R : Slot → Own → Prop}
/-- sorted of ints -/
theorem el_sorted {ns res : List Int} (hm : Z.X.mg "sorted" = none) (h : ES Z e ρ own s) (L : Lst own s (ns.map PyData.int)) (hl : ns.length < 64) (hr : ∀ ns' : List Int, ns'.Perm ns → ns'.Pairwise (· ≤ ·) → ns' = res) (hg : Gl Z.X "sorted" := by rfl) (hs : starEach [e] Z.X.env = (false, eval e Z.X.env) :: starEach [] Z.X.env := by rfl) : EL Z (.Call (.Name "sorted" p) [e] [] pos) ρ own (res.map PyData.int) :=
  el_callB cr_sorted hg hm (by decide +kernel) (ea_cons h ea_nil hs) fun vs Hf H S r0 Q k => by
    obtain ⟨v, rfl, r⟩ := r0.one
    obtain ⟨q, vs, rfl, e1, e2⟩ := L.at S r
    cases e2.of_ints
    refine ⟨q, ns, rfl, SqL.of e1, hl, fun ns' l hp ho hn => ?_⟩
    rw [hr ns' hp ho]
    exact k l Hf _ (Same.refl _) (S.newOwn (oo := .lst (res.map PyData.int)) hn ⟨_, upd_same, Reps.ints res⟩)
end
section
variable {Z : Ctx} {e : Expr} {es : List Expr} {ρ : List Slot} {o1 : Own} {pos p : Pos} {k j : Nat} {ss : List Slot} {z : Str} {ps : List Str} {Pre : Pr} {post : Out → Prop} {R : Slot → Own → Prop}
/-- a def that gets all that is owned -/
theorem eg_callW (F : Fn Z.X.K Z.X.mg Z.X.prog Z.X.w Z.X.base z ps j Pre) (g : Gd Z k) (hj : j ≤ k) (ha : EA Z (e :: es) ρ o1 ss) (hp : Pre ss o1 post) (h1 : ∀ s o1', post (.ret s o1') → R s o1') (h2 : ∀ C o1', post (.exc C o1') → Z.ex C ρ o1')
    (hg : Gl Z.X z := by rfl) (hdb : (z == ("__debug__" : Str)) = false := by decide) (he : starEach (e :: es) Z.X.env = (false, eval e Z.X.env) :: starEach es Z.X.env := by rfl) (hpl : (backTo pos (starEach es Z.X.env)).any (·.1) = false := by rfl) :
    EG Z (.Call (.Name z p) (e :: es) [] pos) ρ o1 R := by
  have e0 : ∀ o : Own, [] ++ o ++ [] = o := fun o => by rw [List.nil_append, List.append_nil]
  have := eg_call (p := p) (R := R) (oa := []) (o1 := o1) (ob := []) F g hj (by rw [e0]; exact ha) hp (fun s o h => by rw [e0]; exact h1 s o h) (fun C o h => by rw [e0]; exact h2 C o h) hg hdb he hpl
  rw [e0] at this
  exact this
end
theorem eqv_self {n : Nat} {d : PyData} (h : Shp n d) : PyData.eqv d d = true := SeqAt.eqv_refl d h.1
end Sd


/-! still more rules -/
namespace Sd
open PySem PySem.Spec PyProof.Rows L2
section
variable {Z : Ctx} {D : DE} {e a b c tg : Expr} {es : List Expr} {ρ : List Slot} {own oa ob : Own} {pos tpos p : Pos} {i j : Int} {s t : Slot} {k : Nat} {ds : List PyData} {x y : PyData} {q : Addr} {R : Slot → Own → Prop}
theorem c_isND : CmpB Z .Is own (.d x) (.d .none) (isNone (.d x)) := c_isN (fun z => nomatch z)
theorem c_isNR {v : V} : CmpB Z .Is own (.raw v) (.d .none) (isNone (.raw v)) := c_isN (fun z => nomatch z)
/-- a test that fails: nothing happens -/
theorem sd_ifF {A : List Stmt} (hc : ET Z c ρ own false) (h : D.nx ρ own) : SD Z (.If c A [] pos) D ρ own := sd_if hc (fun e => nomatch e) fun _ => sds_nil h
end
theorem cutD_from (xs : List PyData) (k : Nat) (h : k ≤ xs.length) : cutD xs (some (k : Int)) none = xs.drop k := by
  unfold cutD
  rw [HT.sIx_nat, HT.sIx_none, Nat.min_eq_left h]
  exact List.take_of_length_le (by rw [List.length_drop]; omega)
theorem cutD_to (xs : List PyData) (k : Nat) (h : k ≤ xs.length) : cutD xs none (some (k : Int)) = xs.take k := by
  unfold cutD
  rw [HT.sIx_nat, HT.sIx_none, Nat.min_eq_left h]
  simp
theorem sh_bool (a : Bool) : SeqAt.shaped (.bool a) = true := (shp_bool a).shaped (by decide)
end Sd


/-! an exception that is caught and kept in a name -/
namespace Sd
open PySem PySem.Spec PyProof.Rows L2
/-- an exception of the class cls stands at a -/
def ExK (cls : Value) (a : Addr) : HO := .ext fun h => ∃ (oe : Obj) (vs : Array Value), h.get? a = some oe ∧ Zc cls none oe ∧ oe.data = .fields vs
section
variable {X : Cx} {pins : List (Addr × Obj)} {σ : L2.St} {H : Hp} {s : Shared}
/-- an object of ours that is not tracked yet, and was not there at the entry, is tracked from here on -/
theorem inv_track {a : Addr} {φ : Heap → Prop} (I : Inv X pins σ H s) (na : H a = none) (n0 : X.s_0.heap.get? a = none) (nL : a ≠ X.env.locals) (nC : ∀ x c, X.env.cells.lookup x = some c → c ≠ a) (nP : ∀ p ∈ X.pn ++ pins, p.1 ≠ a) (ok : ObjOk X.prog X.w (upd H a (.ext φ)) s.heap a (.ext φ)) : Inv X pins σ (upd H a (.ext φ)) s := by
  have ne0 : ∀ b o, X.s_0.heap.get? b = some o → b ≠ a := fun b o q z => by rw [z, n0] at q; cases q
  have B := I.base
  refine { ok := I.ok, os := I.os, bare := I.bare, loc := I.loc, cell := I.cell, len := I.len, base := { keep := B.keep, slot := B.slot, there := B.there, free := ?_, tups := ?_, frzs := ?_, tbls := ?_ }, free := ?_, freeC := ?_, pin := ?_, hok := ?_ }
  · intro b o q n x
    rw [upd_ne (ne0 b o q)]
    exact B.free b o q n x
  · intro b xs q
    have q' := B.tups b xs q
    rw [upd_ne (ne_of_none q' na)]
    exact q'
  · intro b o u q
    have q' := B.frzs b o u q
    rw [upd_ne (ne_of_none q' na)]
    exact q'
  · intro b ps q
    obtain ⟨m, q'⟩ := B.tbls b ps q
    exact ⟨m, by rw [upd_ne (ne_of_none q' na)]; exact q'⟩
  · rw [upd_ne nL.symm]
    exact I.free
  · intro x c q
    rw [upd_ne (nC x c q)]
    exact I.freeC x c q
  · intro p hp
    obtain ⟨p1, p2, p3⟩ := I.pin p hp
    exact ⟨p1, by rw [upd_ne (nP p hp)]; exact p2, p3⟩
  · intro b o q
    by_cases hb : b = a
    · subst hb
      rw [upd_same] at q
      cases q
      exact ok
    · rw [upd_ne hb] at q
      exact (I.hok b o q).stay (fun c u _ r => r) (fun c r => by rw [upd_ne (ne_of_none r na)]; exact r) fun c xs r => by rw [upd_ne (ne_of_none r na)]; exact r
end
/-- the body of a try -/
abbrev trZ (Z : Ctx) (pn : List (Addr × Obj)) (xe : Value → Shared → Prop) (B' : Bs) (ex' : Addr → List Slot → Own → Prop) : Ctx := ⟨Z.X.tr pn xe, B', ex'⟩
section
variable {Z : Ctx} {D : DE} {ρ : List Slot} {own : Own} {k : Nat} {x n z : Str} {c : Value} {body : List Stmt} {np pos pos' p1 p2 p3 : Pos}
/-- try: body; except x as n: z = n. An exception that the body lets out is of a class that x names, and it is z's from then on -/
theorem sd_try_keep (ie ic : Nat) (g : Gd Z k) (hc : Names Z.X x c)
    (hb : ∀ pn xe B', Gd (trZ Z pn xe B' fun C ρ' o' => PySem.W.exmOne Z.X.K (.ref C) c = some true ∧ ∀ a, D.nx (((ρ'.set ie (.raw (.ref a))).set ic (.raw (.ref a))).set ie .un) ((a, .raw (ExK (.ref C) a)) :: o')) k →
      SDs (trZ Z pn xe B' fun C ρ' o' => PySem.W.exmOne Z.X.K (.ref C) c = some true ∧ ∀ a, D.nx (((ρ'.set ie (.raw (.ref a))).set ic (.raw (.ref a))).set ie .un) ((a, .raw (ExK (.ref C) a)) :: o')) body D ρ own)
    (hs : Z.X.stack = Z.X.env :: Z.X.outer := by rfl) (hf : Z.X.env.frame = some Z.X.env.locals := by rfl) (hie : Z.X.N[ie]? = some n := by rfl) (hle : Z.X.env.kindOf n = some .local := by rfl) (hic : Z.X.N[ic]? = some z := by rfl) (hlc : Loc Z.X.env.scope z := by first | exact Or.inl rfl | exact Or.inr rfl)
    (hne : ie ≠ ic := by decide) (hvn : Vis Z.X.env.scope n := by first | exact Or.inl rfl | exact Or.inr (Or.inl rfl) | exact Or.inr (Or.inr rfl)) (hd : (n == ("__debug__" : Str)) = false := by decide) (hcd : (n == ("__classdict__" : Str)) = false := by decide) (hsw : swapsWith (.Name n p2) (some (.Name z p1)) p3.line Z.X.env = pure false := by rfl) (hxx : Z.X.ex = [] := by rfl)
    (hfz : Z.X.fn z = true ∨ Z.X.env.scope.names.lookup z = some .local := by first | exact .inl rfl | exact .inr rfl | assumption) :
    SD Z (.Try body [.ExceptHandler (some (.Name x np)) (some n) [.Assign [.Name z p1] (.Name n p2) p3] pos'] [] [] pos) D ρ own := by
  intro H0 Hf σ H m0 S E
  refine ⟨fun pins s I => ?_⟩
  have ok := I.ok
  have hfr : Z.X.A.frames = some (Z.X.env :: Z.X.outer) := ok.frames.trans (by rw [hs])
  have S0 : Sat Z.B Hf H ([] ++ own ++ []) := by rw [List.nil_append, List.append_nil]; exact S
  have bk : ∀ {Hf' H' : Hp} {o' : Own}, Sat ⟨Hf, less H (own.map (·.1))⟩ Hf' H' o' → Sat Z.B Hf' H' o' := fun {Hf' H' o'} S' => by
    have := S0.back S'
    rw [List.nil_append, List.append_nil] at this
    exact this
  obtain ⟨xe, hxe⟩ : ∃ xe : Value → Shared → Prop, xe = fun e t₁ => wpAny (model Z.X.prog Z.X.w) Z.X.A (noteFrame e Z.X.env) (fun _ t₂ => wpAny (model Z.X.prog Z.X.w) Z.X.A (setFlight e none) (fun _ t₃ => wpAny (model Z.X.prog Z.X.w) Z.X.A (handleBy e Z.X.env [.ExceptHandler (some (.Name x np)) (some n) [.Assign [.Name z p1] (.Name n p2) p3] pos']) (SP Z.X pins (lift Z.B H0 D)) Z.X.xe t₃) Z.X.xe t₂) Z.X.xe t₁ := ⟨_, rfl⟩
  refine wpAny_Try_except ?_
  have gB : Gd (trZ Z (Z.X.pn ++ pins) xe ⟨Hf, less H (own.map (·.1))⟩ fun C ρ' o' => PySem.W.exmOne Z.X.K (.ref C) c = some true ∧ ∀ a, D.nx (((ρ'.set ie (.raw (.ref a))).set ic (.raw (.ref a))).set ie .un) ((a, .raw (ExK (.ref C) a)) :: o')) k := by
    refine ⟨?_, by rw [hxe]; exact PassesOwn.looking, g.calm, g.nd, g.hr⟩
    intro u s' xx
    obtain ⟨a, B, sI, pins', σ', H', cls, d, rfl, J', nb, up, sky, na, os, ag, C, Hf', ρ', o', rfl, rfl, S', E', hex, hnx⟩ := xx
    rw [hxe]
    have J : Inv Z.X pins σ' H' sI := J'.ofTry ok
    have sky2 : Sky B (Z.X.env :: Z.X.outer) a (Zc (.ref C) none) Z.X.env.locals s'.heap := by rw [← hs]; exact sky
    refine Sky.land Zc.steady hfr hf sky2 fun h3 fl3 up3 => ?_
    have J3 : Inv Z.X pins σ' H' { s' with heap := h3 } := J.landed nb fl3.1 (up.trans up3) os ag
    obtain ⟨oe3, vs3, he3, hz3, hd3⟩ := fl3.there
    have aB : B.get? a = none := fl3.2.1
    have nfr : a ∉ frs (Z.X.env :: Z.X.outer) := fun hm => by
      obtain ⟨_, o2, q2, hnf⟩ := fl3.2.2.1.mem hm
      rw [he3] at q2
      cases q2
      exact hnf _ hd3
    have nL : a ≠ Z.X.env.locals := fun q => nfr (List.mem_filterMap.mpr ⟨Z.X.env, List.mem_cons_self, by rw [hf, q]⟩)
    have nF : a ∉ Z.X.fs := fun hm => by
      obtain ⟨e, he, q⟩ := List.mem_filterMap.mp hm
      exact nfr (List.mem_filterMap.mpr ⟨e, List.mem_cons_of_mem _ he, q⟩)
    have notI : ∀ o, sI.heap.get? a ≠ some o := fun o q => by
      rw [nb a o q (by rw [hs]; exact nfr)] at aB
      cases aB
    have n0 : Z.X.s_0.heap.get? a = none := by
      cases q : Z.X.s_0.heap.get? a with
      | none => rfl
      | some o =>
        obtain ⟨o2, q2⟩ := J.base.there a o q (by rw [hxx]; exact fun z => nomatch z)
        exact absurd q2 (notI o2)
    have nC : ∀ x c, Z.X.env.cells.lookup x = some c → c ≠ a := fun x c q e => by
      obtain ⟨v, o, q2, _⟩ := J.cell x c q
      rw [e] at q2
      exact notI o q2
    have nP : ∀ p ∈ Z.X.pn ++ pins, p.1 ≠ a := fun p hp e => by
      have q := (J.pin p hp).1
      rw [e] at q
      exact notI _ q
    have S3 := J3.suite he3 hd3 na nL nF
    refine wpAny_handleBy_cons (codeAny_handlers_test ?_) (by intro q; cases q)
    have LT : PySem.W.Looks (model Z.X.prog Z.X.w) h3 (typeOf (.ref a)) (.ref C) := fun A Q E s k q => wpAny_typeOf_ref (k _ _ he3) (by rw [hz3.1]; exact q)
    have LM := PySem.W.exm_one (M := model Z.X.prog Z.X.w) J3.kIn LT hex
    have test : ∀ {Q : Value → Shared → Prop} {E : Value → Shared → Prop}, Q c { s' with heap := h3 } → wpAny (model Z.X.prog Z.X.w) (Z.X.A.mark (some (.ref a))) (eval (.Name x np) Z.X.env) Q E { s' with heap := h3 } := by
      intro Q E q
      obtain ⟨hg, hdbg, hm | ⟨hm, hv, hnn⟩⟩ := hc
      · exact ld_glob (X := Z.X.suite a ((a, oe3) :: (Z.X.pn ++ pins))) S3 hg hm q hdbg
      · exact ld_blt (X := Z.X.suite a ((a, oe3) :: (Z.X.pn ++ pins))) S3 hg hm hv q hnn hdbg
    refine test (LM.here ?_)
    refine codeAny_handlers_suite_as (HandSPX.lands_againZ fl3 fun h4 fl4 up4 => ?_)
    have J4 : Inv Z.X pins σ' H' { s' with heap := h4 } := J.landed nb fl4.1 ((up.trans up3).trans up4) os ag
    obtain ⟨oe4, vs4, he4, hz4, hd4⟩ := fl4.there
    have S4 := J4.suite he4 hd4 na nL nF
    have hln : σ'.length = Z.X.N.length := J.len
    have hiel : ie < σ'.length := by rw [hln]; exact (List.getElem?_eq_some_iff.mp hie).1
    refine store_ok (X := Z.X.suite a ((a, oe4) :: (Z.X.pn ++ pins))) (v := .ref a) S4 g.nd hie (.inl hle) rfl (fun s5 S5 => ?_) (.inr hle)
    have suite : PSs (Z.X.suite a ((a, oe4) :: (Z.X.pn ++ pins))) [.Assign [.Name z p1] (.Name n p2) p3] _ := pss_one (ps_set g.nd hic hlc (pe_var hie hvn hd hcd) hsw hfz)
    refine wpAny_mono (suite.run [] s5 _ H' { nx := fun σ6 H6 => σ6 = (σ'.set ie (some (.ref a))).set ic (some (.ref a)) ∧ H6 = H', rt := fun _ _ => False, bk := fun _ _ => False, ct := fun _ _ => False } S5 ⟨.ref a, List.getElem?_set_self hiel, rfl, rfl⟩) (fun f s6 hsp => ?_) (fun _ _ z => False.elim z)
    cases f with
    | brk => obtain ⟨_, _, _, q⟩ := hsp; exact q.elim
    | cont => obtain ⟨_, _, _, q⟩ := hsp; exact q.elim
    | ret u => obtain ⟨_, _, _, _, _, q⟩ := hsp; exact q.elim
    | next =>
      obtain ⟨σ6, H6, S6, rfl, rfl⟩ := hsp
      have U6 := S6.unsuite ok
      have J6 : Inv Z.X ((a, oe4) :: pins) ((σ'.set ie (some (.ref a))).set ic (some (.ref a))) H6 s6 := { U6 with pin := fun p hp => S6.pin p (by
        rw [List.append_nil]
        rcases List.mem_append.mp hp with h | h
        · exact List.mem_cons_of_mem _ (List.mem_append_left _ h)
        · rcases List.mem_cons.mp h with h | h
          · rw [h]; exact List.mem_cons_self
          · exact List.mem_cons_of_mem _ (List.mem_append_right _ h)) }
      refine gone_ok J6 g.nd hie hle fun s7 J7 => ?_
      obtain ⟨ha7, _⟩ := J7.pin (a, oe4) (by simp)
      have J7' : Inv Z.X pins (((σ'.set ie (some (.ref a))).set ic (some (.ref a))).set ie none) H6 s7 := { J7 with pin := fun p hp => J7.pin p (by
        rcases List.mem_append.mp hp with h | h
        · exact List.mem_append_left _ h
        · exact List.mem_append_right _ (List.mem_cons_of_mem _ h)) }
      have J8 := inv_track (a := a) J7' (φ := fun h => ∃ (oe : Obj) (vs : Array Value), h.get? a = some oe ∧ Zc (.ref C) none oe ∧ oe.data = .fields vs) na n0 nL nC nP ⟨⟨oe4, vs4, ha7, hz4, hd4⟩, ⟨oe4, ha7⟩, fun h1 h2 ⟨oe, vs, q1, q2, q3⟩ hh => ⟨oe, vs, hh oe q1, q2, q3⟩⟩
      refine ⟨_, _, J8, Hf', _, (a, .raw (ExK (.ref C) a)) :: o', m0.trans S'.e0, (bk S').newOwn na upd_same, ?_, hnx a⟩
      exact ((E'.set (v := .ref a) (s := .raw (.ref a)) rfl ie).set (v := .ref a) (s := .raw (.ref a)) rfl ic).unset ie none
  refine wpAny_mono ((hb _ xe _ gB Hf Hf σ H (Same.refl _) S0.into E).run [] s (I.toTry _)) (fun f s1 hsp => ?_) (fun e s1 he => by rw [hxe] at he; exact he)
  cases f with
  | next =>
    obtain ⟨σ', H', J', Hf', ρ', o', m', S', E', q⟩ := hsp
    exact wpAny_execs_nil ⟨σ', H', J'.ofTry ok, Hf', ρ', o', m0.trans m', bk S', E', q⟩
  | brk =>
    obtain ⟨σ', H', J', Hf', ρ', o', m', S', E', q⟩ := hsp
    exact ⟨σ', H', J'.ofTry ok, Hf', ρ', o', m0.trans m', bk S', E', q⟩
  | cont =>
    obtain ⟨σ', H', J', Hf', ρ', o', m', S', E', q⟩ := hsp
    exact ⟨σ', H', J'.ofTry ok, Hf', ρ', o', m0.trans m', bk S', E', q⟩
  | ret u =>
    obtain ⟨v, σ', H', J', r, Hf', t, o', m', S', r', hu, q⟩ := hsp
    exact ⟨v, σ', H', J'.ofTry ok, r, Hf', t, o', m0.trans m', bk S', r', hu, q⟩
end
/-! ### isinstance of a kept exception -/
theorem call_isX {X : Cx} {a D : Addr} (C : ExcC X.K D) : CallR X (.builtin "isinstance") (fun xs H Q => ∃ (c : V) (cv : Value) (l : Bool), xs = [.ref a, c] ∧ H a = some (ExK (.ref D) a) ∧ (∀ u, RelV c u → u = cv) ∧ PySem.W.kitOne X.K (.ref D) cv = some l ∧ Q (.bl l) H) := by
  intro pins s σ H xs us Q I r h
  obtain ⟨c, cv, l, rfl, ha, hcv, hk, q⟩ := h
  obtain ⟨u1, u2, rfl, r1, r2⟩ := vals2 r
  cases (show u1 = Value.ref a from r1)
  cases hcv u2 r2
  obtain ⟨⟨oe, vs, g1, g2, g3⟩, _⟩ := I.hok a _ ha
  have J : PySem.W.InstAt s.heap a oe D none := by
    obtain ⟨oc, od, oda, osl⟩ := oe
    obtain ⟨z1, z2⟩ := g2
    cases z1
    cases z2
    cases g3
    exact ⟨g1, rfl, rfl, trivial⟩
  exact PySem.W.kia_one (PySem.W.handS_kitx_exc C.hg C.hk C.hs C.hd C.ha C.hn C.ht C.hm) I.kIn J hk (fun z => nomatch z) fun tk => ⟨.bl l, H, I.tok tk, rfl, q⟩
section
variable {Z : Ctx} {a b o e : Expr} {ρ : List Slot} {own : Own} {pos p cpos apos : Pos} {k : Nat} {q D : Addr} {s t : Slot} {ds : List PyData} {x : PyData}
theorem ed_isX {l : Bool} {cv : Value} {cV : V} (C : ExcC Z.X.K D) (hm : Z.X.mg "isinstance" = none) (hq : (q, OO.raw (ExK (.ref D) q)) ∈ own) (h : EV Z a ρ own (.ref q)) (hc : EV Z b ρ own cV) (hcv : ∀ u, RelV cV u → u = cv) (hk : PySem.W.kitOne Z.X.K (.ref D) cv = some l) (hg : Gl Z.X "isinstance" := by rfl) (hs : starEach [a, b] Z.X.env = (false, eval a Z.X.env) :: starEach [b] Z.X.env := by rfl) (hs2 : starEach [b] Z.X.env = (false, eval b Z.X.env) :: starEach [] Z.X.env := by rfl) (hpl : (backTo pos (starEach [b] Z.X.env)).any (·.1) = false := by rfl) :
    ED Z (.Call (.Name "isinstance" p) [a, b] [] pos) ρ own (.bool l) :=
  es_callB (call_isX (a := q) C) hg hm (by decide +kernel) (ea_cons h (ea_cons hc ea_nil hs2) hs) (fun vs Hf H S r0 Q k => by
    obtain ⟨v, w, rfl, r1, r2⟩ := r0.two
    cases (show v = .ref q from r1)
    cases (show w = cV from r2)
    obtain ⟨_, _, g⟩ := S.at hq
    exact ⟨cV, cv, l, rfl, g, hcv, hk, k _ Hf H (Same.refl _) S (.bl l)⟩) (by decide) (by decide) hs hpl
/-! ### xs.count(x), xs.index(x) of data -/
theorem mt_countD {X : Cx} (hu : X.A.units + 65 < cLine) : MtR X "list.count" (fun x xs H Q => ∃ (a : Addr) (y : V) (d : PyData) (ds : List PyData), x = V.ref a ∧ xs = [y] ∧ Dp X.K H (V.ref a) (.list ds) ∧ Dp X.K H y d ∧ PyData.plainAll ds = true ∧ d.plain = true ∧ d.depth ≤ 64 ∧ Q (.int (ds.countP (fun z => PyData.eqv z d) : Nat)) H) := by
  intro pins s σ H x xs v us Q I rx rxs h
  obtain ⟨a, y, d, ds, rfl, rfl, hl, hy, h1, h2, h3, q⟩ := h
  cases rx
  obtain ⟨uy, rfl, ry⟩ := rxs.one
  obtain ⟨bs, r1⟩ := Dp.reads I d y uy hy ry
  cases hl with
  | lst hs ha =>
    obtain ⟨its, rv, ⟨⟨cls, dd, data, sls⟩, n, ho, hc, hdn, hdt⟩, hlen⟩ := I.list hs
    obtain ⟨as, h4⟩ := Dp.readsAll I ds _ its ha rv
    exact SeqAt.count_list_data (vs := its.toArray) ⟨_, ho, hc, n, hdt⟩ h4 r1 h1 h2 (by omega) ⟨.int _, H, I.tok _, ⟨s.toks, rfl⟩, q⟩
theorem ed_count (g : Gd Z (k + 1)) (ho : ES Z o ρ own s) (L : Lst own s ds) (he : ED Z e ρ own x) (h1 : PyData.plainAll ds = true) (h2 : x.plain = true) (h3 : x.depth ≤ 64)
    (hbase : attributeBase o "count" Z.X.env (eval o Z.X.env) = eval o Z.X.env := by rfl)
    (hfew : ((backTo cpos (starEach [e] Z.X.env)).all (fun x => !x.1) && (backToKw cpos (keywordEach [] Z.X.env)).all (fun x => x.1.isSome)
      && decide ([e].length + ([] : List Keyword).length + (if ([] : List Keyword).isEmpty then 0 else 1) < 30)) = true := by rfl)
    (hline : (apos.endLine == cpos.line) = true := by rfl) (hs : starEach [e] Z.X.env = (false, eval e Z.X.env) :: starEach [] Z.X.env := by rfl) (hplain : (backTo cpos (starEach [] Z.X.env)).any (·.1) = false := by rfl) :
    ED Z (.Call (.Attribute o "count" apos) [e] [] cpos) ρ own (.int (ds.countP (fun z => PyData.eqv z x) : Nat)) := fun Hf σ H S E Q q => wE.of (pe_bm PySem.F.plainAttrs_list PySem.F.slot_list_count PySem.F.type_list_count (mt_countD (by have := g.hr.un; omega)) peW (pa_cons peW pa_nil hs) hbase hfew hline hs hplain)
  (ho Hf σ H S E _ fun v Hf1 H1 m1 S1 r1 => by
    obtain ⟨p, vs, rfl, g1, _⟩ := L.at S1 r1
    refine ⟨.inl ⟨rfl, _, SqL.of g1⟩, he Hf1 σ H1 S1 (E.mono m1) _ fun w Hf2 H2 m2 S2 r2 => ?_⟩
    obtain ⟨p', vs', e', g1, g2⟩ := L.at S2 (r1.mono m2)
    cases e'
    exact ⟨p, w, x, ds, rfl, rfl, (Rep.lst g1 (g2.mono S2.e1)).dp, (Rep.mono S2.e1 r2).dp, h1, h2, h3, q _ Hf2 H2 (m1.trans m2) S2 (.int _)⟩)
theorem ed_index {j : Nat} {z : PyData} (g : Gd Z (k + 1)) (ho : ES Z o ρ own s) (L : Lst own s ds) (he : ED Z e ρ own x) (h1 : SeqAt.shaped (.list ds) = true) (h2 : SeqAt.shaped x = true) (hj : ds[j]? = some z) (hz : PyData.eqv z x = true) (hno : ∀ (m : Nat) (z' : PyData), m < j → ds[m]? = some z' → PyData.eqv z' x = false)
    (hbase : attributeBase o "index" Z.X.env (eval o Z.X.env) = eval o Z.X.env := by rfl)
    (hfew : ((backTo cpos (starEach [e] Z.X.env)).all (fun x => !x.1) && (backToKw cpos (keywordEach [] Z.X.env)).all (fun x => x.1.isSome)
      && decide ([e].length + ([] : List Keyword).length + (if ([] : List Keyword).isEmpty then 0 else 1) < 30)) = true := by rfl)
    (hline : (apos.endLine == cpos.line) = true := by rfl) (hs : starEach [e] Z.X.env = (false, eval e Z.X.env) :: starEach [] Z.X.env := by rfl) (hplain : (backTo cpos (starEach [] Z.X.env)).any (·.1) = false := by rfl) :
    ED Z (.Call (.Attribute o "index" apos) [e] [] cpos) ρ own (.int (j : Nat)) := fun Hf σ H S E Q q => wE.of (pe_bm PySem.F.plainAttrs_list PySem.F.slot_list_index PySem.F.type_list_index (mt_indexD (by have := g.hr.un; omega)) peW (pa_cons peW pa_nil hs) hbase hfew hline hs hplain)
  (ho Hf σ H S E _ fun v Hf1 H1 m1 S1 r1 => by
    obtain ⟨p, vs, rfl, g1, _⟩ := L.at S1 r1
    refine ⟨.inl ⟨rfl, _, SqL.of g1⟩, he Hf1 σ H1 S1 (E.mono m1) _ fun w Hf2 H2 m2 S2 r2 => ?_⟩
    obtain ⟨p', vs', e', g1, g2⟩ := L.at S2 (r1.mono m2)
    cases e'
    exact ⟨p, w, x, ds, j, z, rfl, rfl, (Rep.lst g1 (g2.mono S2.e1)).dp, (Rep.mono S2.e1 r2).dp, h1, h2, hj, hz, hno, q _ Hf2 H2 (m1.trans m2) S2 (.int _)⟩)
end
/-- what is known of a class of errors beside the others -/
structure ErrK (K : PySem.W.Frag) (C y d n s t o D : Addr) (by_ bd bn bs bt bo : Bool) : Prop where
  xc : ExcC K C
  y : PySem.W.kitOne K (.ref C) (.ref y) = some by_
  d : PySem.W.kitOne K (.ref C) (.ref d) = some bd
  n : PySem.W.kitOne K (.ref C) (.ref n) = some bn
  s : PySem.W.kitOne K (.ref C) (.ref s) = some bs
  t : PySem.W.kitOne K (.ref C) (.ref t) = some bt
  o : PySem.W.kitOne K (.ref C) (.ref o) = some bo
  de : PySem.W.kitOne K (.ref C) (.ref D) = some true
  ve : PySem.W.kitOne K (.ref C) (.type "ValueError") = some true
  ex : PySem.W.exmOne K (.ref C) (.ref D) = some true
end Sd


/-! sets of ints -/
namespace Sd
open PySem PySem.Spec PyProof.Rows L2
theorem ixN_of {n j : Nat} (hj : j < n) : ixN n (j : Int) = some j := by
  unfold ixN
  rw [if_pos (by omega), if_pos (by omega)]
  rfl
/-- how many different ones -/
def dst (ns : List Int) : Nat := (firstMet (fun i => ns.getD i 0) ns.length).length
section
variable {X : Cx}
def tLenS (K : PySem.W.Frag) (ta : TE) : TE := fun σ H Q => ta σ H fun x H1 => ∃ (l : Addr) (ns : List Int), x = .ref l ∧ SqL K H1 l (ns.map V.int) ∧ ns.length ≤ 1000 ∧ Q (.int (dst ns : Nat)) H1
theorem pe_lenS {a : Expr} {ta : TE} {p p2 q pos : Pos} (hc : X.calm = true) (hg : Gl X "len") (hm : X.mg "len" = none) (hg2 : Gl X "set") (hm2 : X.mg "set" = none) (ha : PE X a ta)
    (na : starEach [a] X.env = (false, eval a X.env) :: starEach [] X.env := by rfl) : PE X (.Call (.Name "len" p) [.Call (.Name "set" p2) [a] [] q] [] pos) (tLenS X.K ta) := by
  refine ⟨fun pins s σ H Q I h => Call_ (ld_blt I hg hm boot_len (PyProof.Rows.callWith_builtin1 (PyProof.Rows.args_cons (Call_ (ld_blt I hg2 hm2 boot_set (PyProof.Rows.callWith_type1 (PyProof.Rows.args_cons (thn (ha.run pins s σ H _ I h) fun v t hq => PyProof.Rows.args_nil ?_) na) na rfl))) rfl) rfl rfl))⟩
  obtain ⟨x, H1, J, r, l, ns, rfl, hl, hn, hQ⟩ := hq
  cases r
  obtain ⟨its, rv, pl, _⟩ := J.list hl
  have hi := ints_of_vals rv
  have hz : its.length = ns.length := IntsAre.length hi
  refine call_set_list (J.ok.hd hc) pl.isList (by simpa using hi) (by rw [List.size_toArray, hz]; show ns.length + 1 < 4096; omega) fun h' tk hS hk => ?_
  have hz2 : its.toArray.size = ns.length := by rw [List.size_toArray, hz]
  rw [hz2] at hS
  obtain ⟨o, es, ep, t', ho, hex, hd, _, _, _, hf, hn'⟩ := hS
  have hle := firstMet_length_le (fun i => ns.getD i 0) ns.length
  have J2 : Inv X pins σ H1 { t with heap := h', toks := tk } := J.kept fun b o e => hk b o (Heap.lt_size e) e
  exact PyProof.Rows.args_nil (call_len_set ho hex hd hf (by rw [hn']; omega) ⟨.int (dst ns : Nat), H1, J2.tok _, ⟨_, by rw [hn']; rfl⟩, hQ⟩)
end
section
variable {Z : Ctx} {e : Expr} {ρ : List Slot} {own : Own} {pos p p2 q : Pos} {k : Nat} {s : Slot}
theorem ed_lenset {ns : List Int} (g : Gd Z k) (hm : Z.X.mg "len" = none) (hm2 : Z.X.mg "set" = none) (h : ES Z e ρ own s) (L : Lst own s (ns.map PyData.int)) (hn : ns.length ≤ 1000) (hg : Gl Z.X "len" := by rfl) (hg2 : Gl Z.X "set" := by rfl) (hs : starEach [e] Z.X.env = (false, eval e Z.X.env) :: starEach [] Z.X.env := by rfl) :
    ED Z (.Call (.Name "len" p) [.Call (.Name "set" p2) [e] [] q] [] pos) ρ own (.int (dst ns : Nat)) := fun Hf σ H S E Q k => wE.of (pe_lenS g.calm hg hm hg2 hm2 peW hs) (h Hf σ H S E _ fun v Hf1 H1 m1 S1 r1 => by
  obtain ⟨p, vs, rfl, e1, e2⟩ := L.at S1 r1
  cases e2.of_ints
  exact ⟨p, ns, rfl, SqL.of e1, hn, k _ Hf1 H1 m1 S1 (.int _)⟩)
end
theorem Sat.nil {B : Bs} {Hf H : Hp} {own : Own} (S : Sat B Hf H own) : Sat B Hf H [] := ⟨S.e0, S.e1, S.eb, S.fr, (fun q hq => nomatch hq), by simp, S.tp⟩
section
variable {Z : Ctx} {D : DE} {ρ : List Slot} {own : Own} {sts : List Stmt} {a b c : Expr} {pos : Pos} {R : Slot → Own → Prop}
theorem sds_rtdrop (h : SDs Z sts { D with rt := fun s _ => D.rt s [] } ρ own) : SDs Z sts D ρ own := fun H0 Hf σ H m0 S E => wSs.imp (h H0 Hf σ H m0 S E) (fun _ _ q => q) (fun v H' ⟨Hf', s, o, m, S', r, hs, q⟩ => ⟨Hf', s, [], m, S'.nil, r, hs, q⟩) (fun _ _ q => q) (fun _ _ q => q)
theorem eg_if {k : Bool} (h : ET Z c ρ own k) (h1 : k = true → EG Z a ρ own R) (h2 : k = false → EG Z b ρ own R) : EG Z (.IfExp c a b pos) ρ own R := fun Hf σ H S E Q q => wE.of (pe_ifExp ptW peW peW) (h Hf σ H S E _ fun Hf1 H1 m1 S1 => by
  cases k with
  | true => exact iteT (h1 rfl Hf1 σ H1 S1 (E.mono m1) Q fun v Hf2 H2 s o m2 S2 r2 hs z => q v Hf2 H2 s o (m1.trans m2) S2 r2 hs z)
  | false => exact iteF (h2 rfl Hf1 σ H1 S1 (E.mono m1) Q fun v Hf2 H2 s o m2 S2 r2 hs z => q v Hf2 H2 s o (m1.trans m2) S2 r2 hs z))
end
/-! ### one class of errors beside another -/
theorem kit_ref {K : PySem.W.Frag} {C D : Addr} {l : Bool} (hd : PySem.W.hasDictIn K D = true) (ht : PySem.W.typeIn K (.ref D) = some (.type "type")) (hs : PySem.W.subIn K (.ref C) (.ref D) = some l) (h0 : PySem.W.subIn K (.ref C) (.ref C) = some true) : PySem.W.kitOne K (.ref C) (.ref D) = some l := by
  unfold PySem.W.kitOne
  split
  · rename_i h
    have e : C = D := Value.ref.inj (beq_iff_eq.mp h)
    subst e
    rw [h0] at hs
    exact hs
  · obtain ⟨cd, hc, _⟩ := PySem.W.any_some hd
    show (if ((PySem.W.clsIn K D).isSome && PySem.W.typeIn K (.ref D) == some (.type "type")) = true then PySem.W.subIn K (.ref C) (.ref D) else none) = some l
    rw [if_pos (by rw [hc, ht]; rfl)]
    exact hs
theorem kit_ve {K : PySem.W.Frag} {C : Addr} (hs : PySem.W.subIn K (.ref C) (.type "ValueError") = some true) : PySem.W.kitOne K (.ref C) (.type "ValueError") = some true := by
  unfold PySem.W.kitOne
  split
  · rfl
  · show (if PySem.W.kitMeta "ValueError" = true then PySem.W.subIn K (.ref C) (.type "ValueError") else none) = some true
    rw [if_pos (by decide +kernel)]
    exact hs
end Sd


/-! sorted of pairs of ints -/
namespace Sd
open PySem PySem.Spec PyProof.Rows L2
def lexB (p q : Int × Int) : Bool := decide (p.1 < q.1) || (decide (p.1 = q.1) && decide (p.2 ≤ q.2))
def insP (x : Int × Int) : List (Int × Int) → List (Int × Int)
  | [] => [x]
  | y :: ys => if lexB x y then x :: y :: ys else y :: insP x ys
def srtP : List (Int × Int) → List (Int × Int)
  | [] => []
  | x :: xs => insP x (srtP xs)
theorem lexB_total {p q : Int × Int} (h : lexB p q = false) : lexB q p = true := by
  unfold lexB at *
  simp only [Bool.or_eq_false_iff, Bool.and_eq_false_iff, decide_eq_false_iff_not, Bool.or_eq_true, Bool.and_eq_true, decide_eq_true_eq] at *
  omega
theorem lexB_trans {p q r : Int × Int} (h : lexB p q = true) (h' : lexB q r = true) : lexB p r = true := by
  unfold lexB at *
  simp only [Bool.or_eq_true, Bool.and_eq_true, decide_eq_true_eq] at *
  omega
theorem lexB_anti {p q : Int × Int} (h : lexB p q = true) (h' : lexB q p = true) : p = q := by
  unfold lexB at *
  simp only [Bool.or_eq_true, Bool.and_eq_true, decide_eq_true_eq] at *
  exact Prod.ext (by omega) (by omega)
theorem insP_perm (x : Int × Int) : ∀ l, (insP x l).Perm (x :: l)
  | [] => .refl _
  | y :: l => by
    unfold insP
    split
    · exact .refl _
    · exact (List.Perm.cons y (insP_perm x l)).trans (.swap x y l)
theorem srtP_perm : ∀ l, (srtP l).Perm l
  | [] => .refl _
  | x :: l => (insP_perm x (srtP l)).trans (.cons x (srtP_perm l))
theorem insP_sorted (x : Int × Int) : ∀ l, l.Pairwise (fun p q => lexB p q = true) → (insP x l).Pairwise (fun p q => lexB p q = true)
  | [], _ => by simp [insP]
  | y :: l, h => by
    have h1 := List.pairwise_cons.mp h
    unfold insP
    split
    · rename_i hxy
      refine List.pairwise_cons.mpr ⟨fun z hz => ?_, h⟩
      rcases List.mem_cons.mp hz with e | hz
      · rw [e]; exact hxy
      · exact lexB_trans hxy (h1.1 z hz)
    · rename_i hxy
      refine List.pairwise_cons.mpr ⟨fun z hz => ?_, insP_sorted x l h1.2⟩
      rcases List.mem_cons.mp ((insP_perm x l).mem_iff.mp hz) with e | hz
      · rw [e]; exact lexB_total (by simpa using hxy)
      · exact h1.1 z hz
theorem srtP_sorted : ∀ l, (srtP l).Pairwise (fun p q => lexB p q = true)
  | [] => .nil
  | x :: l => insP_sorted x _ (srtP_sorted l)
theorem perm_srtP {a b : List (Int × Int)} (h : a.Perm b) (ha : a.Pairwise (fun p q => lexB p q = true)) : a = srtP b :=
  List.Perm.eq_of_pairwise (fun x y _ _ h1 h2 => lexB_anti h1 h2) ha (srtP_sorted b) (h.trans (srtP_perm b).symm)
abbrev pr (p : Int × Int) : PyData := .tuple [.int p.1, .int p.2]
def kOf (H : Hp) (x : V) : Int × Int := match x with
  | .ref t => match H t with
    | some (.tup [.int i, .int j]) => (i, j)
    | _ => (0, 0)
  | _ => (0, 0)
theorem Rep.pair {H : Hp} {v : V} {p : Int × Int} (h : Rep H v (pr p)) : ∃ t, v = .ref t ∧ H t = some (.tup [.int p.1, .int p.2]) ∧ kOf H v = p := by
  cases h with
  | tup h1 h2 =>
    cases h2 with
    | cons a b =>
      cases b with
      | cons b c =>
        cases c
        cases a
        cases b
        exact ⟨_, rfl, h1, by unfold kOf; simp only [h1]⟩
theorem Reps.pairs {H : Hp} : ∀ {vs : List V} {ps : List (Int × Int)}, Reps H vs (ps.map pr) → vs.map (kOf H) = ps
  | [], [], .nil => rfl
  | v :: vs, p :: ps, .cons a b => by
    obtain ⟨_, _, _, e⟩ := a.pair
    rw [List.map_cons, e, Reps.pairs b]
theorem Reps.mem {H : Hp} : ∀ {vs : List V} {ds : List PyData}, Reps H vs ds → ∀ v ∈ vs, ∃ d ∈ ds, Rep H v d
  | _, _, .nil, _, h => nomatch h
  | _, _, .cons a b, v, h => by
    rcases List.mem_cons.mp h with e | h
    · rw [e]; exact ⟨_, by simp, a⟩
    · obtain ⟨d, hd, r⟩ := Reps.mem b v h
      exact ⟨d, by simp [hd], r⟩
theorem Reps.of_all {H : Hp} {f : V → PyData} : ∀ {vs : List V}, (∀ v ∈ vs, Rep H v (f v)) → Reps H vs (vs.map f)
  | [], _ => .nil
  | v :: vs, h => .cons (h v (by simp)) (Reps.of_all fun w hw => h w (by simp [hw]))
section
variable {Z : Ctx} {e : Expr} {ρ : List Slot} {own : Own} {pos p : Pos} {s : Slot}
theorem el_sortedP {ps : List (Int × Int)} (hm : Z.X.mg "sorted" = none) (h : ES Z e ρ own s) (L : Lst own s (ps.map pr)) (hg : Gl Z.X "sorted" := by rfl) (hs : starEach [e] Z.X.env = (false, eval e Z.X.env) :: starEach [] Z.X.env := by rfl) : EL Z (.Call (.Name "sorted" p) [e] [] pos) ρ own ((srtP ps).map pr) :=
  el_callB cr_sortedPO hg hm (by decide +kernel) (ea_cons h ea_nil hs) fun vs Hf H S r0 Q k => by
    obtain ⟨v, rfl, r⟩ := r0.one
    obtain ⟨q, vs, rfl, e1, e2⟩ := L.at S r
    have hpr : ∀ x ∈ vs, ∃ p, Rep Hf x (pr p) ∧ kOf Hf x = p := fun x hx => by
      obtain ⟨d, hd, r⟩ := e2.mem x hx
      obtain ⟨p, _, rfl⟩ := List.mem_map.mp hd
      obtain ⟨t, _, _, e⟩ := r.pair
      exact ⟨p, r, e⟩
    refine ⟨q, vs, kOf Hf, rfl, SqL.of e1, fun x hx => ?_, fun ys l h1 h2 hn => ?_⟩
    · obtain ⟨p, r, e⟩ := hpr x hx
      obtain ⟨t, rfl, ht, _⟩ := r.pair
      rw [e]
      exact ⟨t, rfl, S.e1 _ _ ht⟩
    · have hy : ∀ v ∈ ys, Rep Hf v (pr (kOf Hf v)) := fun v hv => by
        obtain ⟨p, r, e⟩ := hpr v (h2.perm.mem_iff.mp hv)
        rw [e]
        exact r
      have ey : ys.map (kOf Hf) = srtP ps := by
        refine perm_srtP ?_ ?_
        · have := h2.perm.map (kOf Hf)
          rw [e2.pairs] at this
          exact this
        · rw [List.pairwise_map]
          refine List.Pairwise.imp (fun {a b} hab => ?_) h1
          have hab := SrtO.lexB_no.mp hab
          unfold lexB
          simp only [Bool.or_eq_true, Bool.and_eq_true, decide_eq_true_eq]
          omega
      have ry := Reps.of_all hy
      have e3 : ys.map (fun v => pr (kOf Hf v)) = (srtP ps).map pr := by rw [← ey, List.map_map]; rfl
      rw [e3] at ry
      exact k l Hf _ (Same.refl _) (S.newOwn (oo := .lst ((srtP ps).map pr)) hn ⟨_, upd_same, ry⟩)
end
end Sd


/-! texts -/
namespace Sd
open PySem PySem.Spec PyProof.Rows L2
abbrev lstr (zs : List Str) : List PyData := zs.map PyData.str
section
variable {Z : Ctx} {e o a b tg : Expr} {ρ : List Slot} {own : Own} {pos p apos cpos : Pos} {s : Slot} {i n : Int} {z y : Str} {k : Nat}
theorem ed_strI (hm : Z.X.mg "str" = none) (h : ED Z e ρ own (.int i)) (hi : i.natAbs.log2 < 1920) (hg : Gl Z.X "str" := by rfl) (hs : starEach [e] Z.X.env = (false, eval e Z.X.env) :: starEach [] Z.X.env := by rfl) : ED Z (.Call (.Name "str" p) [e] [] pos) ρ own (.str (toString i)) :=
  es_callTy call_str_int hg hm (by decide +kernel) (ea_cons h ea_nil hs) fun vs Hf H S r0 Q q => by
    obtain ⟨v, rfl, r⟩ := r0.one
    cases r
    exact ⟨i, rfl, hi, q _ Hf H (Same.refl _) S (.str _)⟩
theorem ed_join {zs : List Str} (ho : ED Z o ρ own (.str z)) (he : ES Z e ρ own s) (L : Lst own s (lstr zs)) (hl : (zs.map (·.length)).sum + zs.length * z.length ≤ 16777216)
    (hbase : attributeBase o "join" Z.X.env (eval o Z.X.env) = eval o Z.X.env := by rfl)
    (hfew : ((backTo cpos (starEach [e] Z.X.env)).all (fun x => !x.1) && (backToKw cpos (keywordEach [] Z.X.env)).all (fun x => x.1.isSome)
      && decide ([e].length + ([] : List Keyword).length + (if ([] : List Keyword).isEmpty then 0 else 1) < 30)) = true := by rfl)
    (hline : (apos.endLine == cpos.line) = true := by rfl) (hs : starEach [e] Z.X.env = (false, eval e Z.X.env) :: starEach [] Z.X.env := by rfl) (hplain : (backTo cpos (starEach [] Z.X.env)).any (·.1) = false := by rfl) :
    ED Z (.Call (.Attribute o "join" apos) [e] [] cpos) ρ own (.str (Txt.join z zs)) := fun Hf σ H S E Q q => wE.of (pe_bm PySem.F.plainAttrs_str PySem.F.slot_str_join PySem.F.type_str_join mt_join peW (pa_cons peW pa_nil hs) hbase hfew hline hs hplain)
  (ho Hf σ H S E _ fun v Hf1 H1 m1 S1 r1 => by
    cases r1
    refine ⟨rfl, he Hf1 σ H1 S1 (E.mono m1) _ fun w Hf2 H2 m2 S2 r2 => ?_⟩
    obtain ⟨p', vs', e', g1, g2⟩ := L.at S2 r2
    subst e'
    cases g2.of_strs
    exact ⟨z, p', zs, rfl, rfl, .inl (SqL.of g1), hl, q _ Hf2 H2 (m1.trans m2) S2 (.str _)⟩)
end
end Sd


namespace Sd
open PySem PySem.Spec PyProof.Rows L2
/-! sums over ints, lists given by functions -/
def sumN (f : Nat → Int) : Nat → Int
  | 0 => 0
  | n + 1 => sumN f n + f n
theorem sumN_congr {f g : Nat → Int} : ∀ {n : Nat}, (∀ i, i < n → f i = g i) → sumN f n = sumN g n
  | 0, _ => rfl
  | n + 1, h => by rw [sumN, sumN, sumN_congr fun i hi => h i (by omega), h n (by omega)]
theorem sumN_zero : ∀ n : Nat, sumN (fun _ => 0) n = 0
  | 0 => rfl
  | n + 1 => by rw [sumN, sumN_zero n]; rfl
theorem sumN_sz {b : Nat} {f : Nat → Int} : ∀ {n : Nat}, (∀ i, i < n → Sz b (f i)) → Sz (b + n) (sumN f n)
  | 0, _ => by unfold Sz; simp only [sumN]; exact Nat.two_pow_pos _
  | n + 1, h => by
    have h1 := sumN_sz (f := f) (n := n) fun i hi => h i (by omega)
    have h2 := h n (by omega)
    exact (h1.add h2).mono (by omega)
theorem rng_nat {i : Int} {n : Nat} (h : i = (n : Int)) : rng 0 i.toNat = (List.range n).map fun (k : Nat) => PyData.int (k : Int) := by
  subst h
  simp [rng]
/-- f 0, f 1, .. as data -/
def tabZ (f : Nat → Int) (n : Nat) : List PyData := (List.range n).map fun (k : Nat) => PyData.int (f k)
theorem tabZ_len (f : Nat → Int) (n : Nat) : (tabZ f n).length = n := by simp [tabZ]
theorem tabZ_get {f : Nat → Int} {n i : Nat} (h : i < n) : (tabZ f n)[i]? = some (.int (f i)) := by
  unfold tabZ
  rw [List.getElem?_map, List.getElem?_range h]
  rfl
theorem tabZ_congr {f g : Nat → Int} {n : Nat} (h : ∀ k, k < n → f k = g k) : tabZ f n = tabZ g n := by
  unfold tabZ
  refine List.map_congr_left fun k hk => ?_
  rw [h k (List.mem_range.mp hk)]
theorem tabZ_set (f : Nat → Int) (n i : Nat) (z : Int) : (tabZ f n).set i (.int z) = tabZ (fun k => if k = i then z else f k) n := by
  refine List.ext_getElem? fun j => ?_
  by_cases hj : j < n
  · rw [tabZ_get hj]
    by_cases e : i = j
    · subst e
      rw [List.getElem?_set_self (by rw [tabZ_len]; exact hj), if_pos rfl]
    · rw [List.getElem?_set_ne e, tabZ_get hj, if_neg (fun z => e z.symm)]
  · rw [List.getElem?_eq_none (by rw [List.length_set, tabZ_len]; omega), List.getElem?_eq_none (by rw [tabZ_len]; omega)]
theorem tabZ_const (z : Int) (n : Nat) : (List.replicate n [PyData.int z]).flatten = tabZ (fun _ => z) n := by
  induction n with
  | zero => rfl
  | succ n ih =>
    rw [List.replicate_succ', List.flatten_append, ih]
    unfold tabZ
    rw [List.range_succ, List.map_append]
    rfl
theorem tabZ_unit (n : Nat) : [PyData.int 1] ++ (List.replicate n [PyData.int 0]).flatten = tabZ (fun k => if k = 0 then 1 else 0) (n + 1) := by
  rw [tabZ_const]
  unfold tabZ
  rw [List.range_succ_eq_map, List.map_cons, List.map_map]
  rfl
theorem tabZ_at {f : Nat → Int} {n i : Nat} (h : i < n) : atI (tabZ f n) (i : Int) = some (.int (f i)) := atI_nat (tabZ_get h)
theorem sz_pw {w : Int} (h : 1 ≤ w ∧ w ≤ 20) {o : Nat} (ho : o ≤ 12) : Sz 61 (w ^ o) := by
  have : Sz 5 w := by unfold Sz; omega
  exact (this.pow o).mono (by omega)
theorem sz_bin {n o : Nat} (hn : n ≤ 12) : Sz 13 (bin n o : Nat) := (bin_sz n o).mono (by omega)

/-! lists of lists under change -/
theorem Sat.perm {B : Bs} {Hf H : Hp} {o o' : Own} (h : o.Perm o') (S : Sat B Hf H o) : Sat B Hf H o' := ⟨S.e0, S.e1, S.eb, S.fr, fun q hq => S.ow q (h.mem_iff.mpr hq), (h.map Prod.fst).nodup_iff.mp S.nd, S.tp⟩
def rowsO : List Addr → (Nat → List PyData) → Own
  | [], _ => []
  | a :: as, tb => (a, .lst (tb 0)) :: rowsO as (fun i => tb (i + 1))
theorem rowsO_congr : ∀ {as : List Addr} {f g : Nat → List PyData}, (∀ k, k < as.length → f k = g k) → rowsO as f = rowsO as g
  | [], _, _, _ => rfl
  | a :: as, f, g, h => by
    show (a, OO.lst (f 0)) :: rowsO as _ = (a, OO.lst (g 0)) :: rowsO as _
    rw [h 0 (by simp), rowsO_congr fun k hk => h (k + 1) (by rw [List.length_cons]; omega)]
theorem rowsO_snoc (a : Addr) : ∀ (as : List Addr) (tb : Nat → List PyData), rowsO (as ++ [a]) tb = rowsO as tb ++ [(a, .lst (tb as.length))]
  | [], _ => rfl
  | b :: as, tb => by
    show (b, OO.lst (tb 0)) :: rowsO (as ++ [a]) _ = (b, OO.lst (tb 0)) :: (rowsO as _ ++ _)
    rw [rowsO_snoc a as]
    rfl
theorem rowsO_split : ∀ {as : List Addr} {tb : Nat → List PyData} {i : Nat}, i < as.length → ∃ oa ob a, as[i]? = some a ∧ rowsO as tb = oa ++ (a, .lst (tb i)) :: ob ∧ ∀ r, rowsO as (fun k => if k = i then r else tb k) = oa ++ (a, .lst r) :: ob
  | [], _, _, h => absurd h (by simp)
  | a :: as, tb, 0, _ => ⟨[], rowsO as (fun i => tb (i + 1)), a, rfl, rfl, fun r => by
      show (a, OO.lst (if 0 = 0 then r else tb 0)) :: rowsO as (fun i => if i + 1 = 0 then r else tb (i + 1)) = _
      rw [if_pos rfl, rowsO_congr (g := fun i => tb (i + 1)) fun k _ => if_neg (by omega)]
      rfl⟩
  | a :: as, tb, i + 1, h => by
    obtain ⟨oa, ob, b, h1, h2, h3⟩ := rowsO_split (as := as) (tb := fun i => tb (i + 1)) (i := i) (by rw [List.length_cons] at h; omega)
    refine ⟨(a, .lst (tb 0)) :: oa, ob, b, by simpa using h1, ?_, fun r => ?_⟩
    · show (a, OO.lst (tb 0)) :: rowsO as _ = _
      rw [h2]
      rfl
    · show (a, OO.lst (if 0 = i + 1 then r else tb 0)) :: rowsO as (fun k => if k + 1 = i + 1 then r else tb (k + 1)) = _
      rw [if_neg (by omega), rowsO_congr (g := fun k => if k = i then r else tb (k + 1)) fun k _ => ?_, h3 r]
      · rfl
      · by_cases e : k = i
        · rw [if_pos e, if_pos (by omega)]
        · rw [if_neg e, if_neg (by omega)]
section
variable {Z : Ctx} {elt tg iter : Expr} {scope : Scope} {ρ : List Slot} {own : Own} {k : Nat} {Po : Own → Prop} {ys : List PyData} {pos : Pos} {D : DE}
/-- a comprehension that makes new lists, all one's own -/
def CPR (Z : Ctx) (elt tg iter : Expr) (scope : Scope) (ρ : List Slot) (own : Own) (tb : Nat → List PyData) (n : Nat) : Prop :=
  ∃ (wi : TI) (g : TG) (tt : TT) (te : TE) (on : List (Str × Nat)), PI Z.X tg iter wi ∧ BlkOk Z.X.N Z.X.env.scope scope on ∧ (∀ (s : Shared) (H : Hp) (C : Addr) (cl : List (Str × Addr)) (fp : List Addr), PG (Z.X.blk s H scope (compEnvC scope cl C Z.X.env) fp) tg g) ∧
    (∀ (s : Shared) (H : Hp) (C : Addr) (cl : List (Str × Addr)) (fp : List Addr), PTs (Z.X.blk s H scope (compEnvC scope cl C Z.X.env) fp) [] tt) ∧ (∀ (s : Shared) (H : Hp) (C : Addr) (cl : List (Str × Addr)) (fp : List Addr), PE (Z.X.blk s H scope (compEnvC scope cl C Z.X.env) fp) elt te) ∧
    ∀ Hf σ H, Sat Z.B Hf H own → EnvR Hf σ ρ → ∀ Q : VK, (∀ p Hf' H' as, Same Hf Hf' → Sat Z.B Hf' H' ((p, .raw (.lst (as.map V.ref))) :: (rowsO as tb ++ own)) → as.length = n → Q (.ref p) H') → tLc wi g tt te (on.map (·.2)) σ H Q
theorem compR (g : Gd Z k) (it : IT Z tg iter ρ own Po ys) (on : List (Str × Nat)) (ok : BlkOk Z.X.N Z.X.env.scope scope on) (tb : Nat → List PyData) (hpo : ∀ D as, Po ((D, .raw (.lst (as.map V.ref))) :: (rowsO as tb ++ own))) (hlen : ys.length < 100000)
    (step : ∀ i y as D, ys[i]? = some y → ∃ ρ2 is, (∀ i ∈ is, i ∈ on.map (·.2)) ∧ (∀ s H C cl fp, GT (blkZ Z scope s H C cl fp) tg y (wipeR ρ (on.map (·.2))) ρ2 is) ∧
      (∀ s H C cl fp, EL (blkZ Z scope s H C cl fp) elt ρ2 ((D, .raw (.lst (as.map V.ref))) :: (rowsO as tb ++ own)) (tb i))) :
    CPR Z elt tg iter scope ρ own tb ys.length := by
  obtain ⟨wi, hi, hw⟩ := it
  refine ⟨wi, fun v σ H Q => ∀ s' H' C cl fp, wG (Z.X.blk s' H' scope (compEnvC scope cl C Z.X.env) fp) tg v σ H Q, fun σ H Q => ∀ s' H' C cl fp, wTs (Z.X.blk s' H' scope (compEnvC scope cl C Z.X.env) fp) [] σ H Q, fun σ H Q => ∀ s' H' C cl fp, wE (Z.X.blk s' H' scope (compEnvC scope cl C Z.X.env) fp) elt σ H Q, on, hi, ok,
    fun s' H' C cl fp => ⟨fun pins s σ H v u Q I r h => (h s' H' C cl fp).run pins s u I r⟩, fun s' H' C cl fp => ⟨fun pins s σ H Q I h => (h s' H' C cl fp).run pins s I⟩, fun s' H' C cl fp => ⟨fun pins s σ H Q I h => (h s' H' C cl fp).run pins s I⟩, fun Hf σ H S E Q q => ?_⟩
  refine hw Hf σ H S E _ fun J Hf1 H1 m1 S1 W D hD => ?_
  refine ⟨fun i m H' => m = ys.length - i ∧ i ≤ ys.length ∧ ∃ Hf' as, Same Hf1 Hf' ∧ Sat Z.B Hf' H' ((D, .raw (.lst (as.map V.ref))) :: (rowsO as tb ++ own)) ∧ as.length = i, ⟨ys.length, by omega, by omega, Hf1, [], Same.refl _, S1.newOwn (oo := .raw (.lst [])) hD upd_same, rfl⟩, ?_⟩
  rintro i m H' ⟨rfl, hil, Hf', as, m', S', q'⟩
  by_cases hlt : i < ys.length
  · refine .inr ⟨W.go i Hf' H' _ m' S' (hpo D as) hlt, fun H2 => ∃ Hf2 as2, Same Hf1 Hf2 ∧ Sat Z.B Hf2 H2 ((D, .raw (.lst (as2.map V.ref))) :: (rowsO as2 tb ++ own)) ∧ as2.length = i + 1, fun H2 ⟨Hf2, as2, m2, S2, q2⟩ => ⟨ys.length - (i + 1), by omega, rfl, hlt, Hf2, as2, m2, S2, q2⟩, fun x H2 hx => ?_⟩
    obtain ⟨Hf2, m2, S2, r2⟩ := W.yld i _ Hf' H' _ x H2 m' S' (hpo D as) (List.getElem?_eq_getElem hlt) hx
    obtain ⟨ρ2, is, hin, gt, h1⟩ := step i _ as D (List.getElem?_eq_getElem hlt)
    have E2 : EnvR Hf2 (wipe σ (on.map (·.2))) (wipeR ρ (on.map (·.2))) := (E.mono ((m1.trans m').trans m2)).wipe _
    intro s' H'' C cl fp
    refine gt s' H'' C cl fp _ Hf2 _ H2 x S2 E2 r2 _ fun σ3 E3 b3 => ⟨wipe_but b3 hin, ?_⟩
    intro s' H'' C cl fp
    refine ets_nil (Z := blkZ Z scope s' H'' C cl fp) Hf2 σ3 H2 S2 E3 _ fun Hf3 H3 m3 S3 => ?_
    refine iteT ?_
    intro s' H'' C cl fp
    refine h1 s' H'' C cl fp Hf3 σ3 H3 S3 (E3.mono m3) _ fun a Hf4 H4 m4 S4 => ?_
    obtain ⟨_, _, g1⟩ := S4.at (p := D) (oo := .raw (.lst (as.map V.ref))) (by simp)
    refine ⟨as.map V.ref, g1, by rw [List.length_map]; exact Nat.lt_of_lt_of_le (by omega : _ < 100000) (by decide), Hf4, as ++ [a], ((m'.trans m2).trans m3).trans m4, ?_, by simp [q']⟩
    have S5 := S4.write (oa := [(a, .lst (tb i))]) (p := D) (o := .lst (as.map V.ref ++ [V.ref a])) (oo' := .raw (.lst (as.map V.ref ++ [V.ref a]))) upd_same
    refine S5.perm ?_
    rw [rowsO_snoc, List.map_append, q']
    simp only [List.cons_append, List.nil_append, List.append_assoc, List.map_cons, List.map_nil]
    refine (List.Perm.swap _ _ _).trans (List.Perm.cons _ ?_)
    exact (List.perm_middle (l₁ := rowsO as tb)).symm
  · have e : i = ys.length := by omega
    subst e
    exact .inl ⟨W.stop _ Hf' H' _ m' S' (hpo D as) (Nat.le_refl _), q D Hf' H' as (m1.trans m') S' q'⟩
theorem sd_setCR (n : Nat) {y : Str} {py spos : Pos} {tb : Nat → List PyData} {N : Nat} (g : Gd Z k) (h : CPR Z elt tg iter scope ρ own tb N) (hn : ∀ p as, as.length = N → D.nx (ρ.set n (.raw (.ref p))) ((p, .raw (.lst (as.map V.ref))) :: (rowsO as tb ++ own)))
    (hsw : swapsWith (.ListComp elt [⟨tg, iter, [], 0⟩] scope pos) (some (.Name y py)) spos.line Z.X.env = pure true) (hy : Z.X.N[n]? = some y := by rfl) (hyl : Z.X.env.scope.names.lookup y = some .local := by rfl) (hs : ∀ x, foldedSetIterable iter Z.X.env x = pure x := by intro _; rfl) :
    SD Z (.Assign [.Name y py] (.ListComp elt [⟨tg, iter, [], 0⟩] scope pos) spos) D ρ own := by
  obtain ⟨wi, gg, tt, te, on, hi, ok, hg, ht, he, hq⟩ := h
  exact fun H0 Hf σ H m0 S E => wS.of (ps_setLc g.calm g.nd hy hyl hsw hi ok hg ht he hs) (hq Hf σ H S E _ fun p Hf' H' as m S' hf => ⟨Hf', _, _, m0.trans m, S', (E.mono m).set (s := .raw (.ref p)) rfl n, hn p as hf⟩)
end
/-- the rows will not change any more -/
theorem Sat.freezeRows {B : Bs} {H : Hp} : ∀ {as : List Addr} {tb : Nat → List PyData} {own : Own} {Hf : Hp}, Sat B Hf H (rowsO as tb ++ own) → ∃ Hf', Same Hf Hf' ∧ Sat B Hf' H own ∧ Reps Hf' (as.map V.ref) ((List.range as.length).map fun k => PyData.list (tb k))
  | [], _, _, Hf, S => ⟨Hf, Same.refl _, S, .nil⟩
  | a :: as, tb, own, Hf, S => by
    obtain ⟨Hf1, m1, S1, r1⟩ := Sat.freeze (oa := []) (p := a) (ob := rowsO as (fun i => tb (i + 1)) ++ own) S
    obtain ⟨Hf2, m2, S2, r2⟩ := Sat.freezeRows (as := as) S1
    refine ⟨Hf2, m1.trans m2, S2, ?_⟩
    rw [List.length_cons, List.range_succ_eq_map, List.map_cons, List.map_cons, List.map_map]
    exact .cons (r1.mono m2) r2
theorem sds_freezeRows {Z : Ctx} {D : DE} {ρ : List Slot} {own : Own} {sts : List Stmt} (i : Nat) {q : Addr} {as : List Addr} {tb : Nat → List PyData} (hi : ρ[i]? = some (.raw (.ref q))) (h : SDs Z sts D (ρ.set i (.d (.list ((List.range as.length).map fun k => PyData.list (tb k))))) own) : SDs Z sts D ρ ((q, .raw (.lst (as.map V.ref))) :: (rowsO as tb ++ own)) := fun H0 Hf σ H m0 S E => by
  have S0 : Sat Z.B Hf H (rowsO as tb ++ (q, .raw (.lst (as.map V.ref))) :: own) := S.perm (List.perm_middle (l₁ := rowsO as tb)).symm
  obtain ⟨Hf1, m1, S1, r1⟩ := Sat.freezeRows S0
  obtain ⟨a1, b1, c1⟩ := S1.at (p := q) (oo := .raw (.lst (as.map V.ref))) (by simp)
  have S2 : Sat Z.B Hf1 H ([] ++ (q, .lst ((List.range as.length).map fun k => PyData.list (tb k))) :: own) := by
    refine ⟨S1.e0, S1.e1, S1.eb, S1.fr, fun z hz => ?_, S1.nd, S1.tp⟩
    rcases List.mem_cons.mp hz with rfl | hz
    · exact ⟨a1, b1, _, c1, r1⟩
    · exact S1.ow z (List.mem_cons_of_mem _ hz)
  obtain ⟨Hf2, m2, S3, r3⟩ := S2.freeze
  have ei : σ[i]? = some (some (.ref q)) := E.raw hi
  have E2 := (E.mono (m1.trans m2)).set (v := .ref q) (s := .d (.list ((List.range as.length).map fun k => PyData.list (tb k)))) r3 i
  have hσ : σ.set i (some (.ref q)) = σ := by
    refine List.ext_getElem? fun j => ?_
    by_cases e : i = j
    · subst e
      rw [List.getElem?_set_self (List.getElem?_eq_some_iff.mp ei).1, ei]
    · rw [List.getElem?_set_ne e]
  rw [hσ] at E2
  exact h H0 Hf2 σ H ((m0.trans m1).trans m2) S3 E2
/-- xs[a][b] += z -/
theorem sd_aug2 {Z : Ctx} {D : DE} {ρ : List Slot} {own : Own} {fr ia ib e : Expr} {q : Addr} {as : List Addr} {F : Nat → Nat → Int} {M a b : Nat} {z : Int} {p1 p2 pos : Pos} (hf : ∀ o, EV Z fr ρ o (.ref q)) (ha : ∀ o, ED Z ia ρ o (.int (a : Int))) (hb : ∀ o, ED Z ib ρ o (.int (b : Int))) (he : ∀ o, ED Z e ρ o (.int z)) (h1 : a < as.length) (h2 : b < M)
    (h : D.nx ρ ((q, .raw (.lst (as.map V.ref))) :: (rowsO as (fun k => tabZ (fun n => if k = a ∧ n = b then F k n + z else F k n) M) ++ own)))
    (hs : PlainIx ia := by exact fun _ _ => rfl) (hq : ∀ ov iv new, augStore ib ov iv new = (do holding [new, ov, iv] (setItem ov iv new); release [new, ov, iv] []; pure .next) := by intros; rfl) :
    SD Z (.AugAssign (.Subscript (.Subscript fr ia p1) ib p2) .Add e pos) D ρ ((q, .raw (.lst (as.map V.ref))) :: (rowsO as (fun k => tabZ (F k) M) ++ own)) := by
  obtain ⟨oa, ob, p, hp, e1, e2⟩ := rowsO_split (tb := fun k => tabZ (F k) M) h1
  have e3 := e2 (tabZ (fun n => if n = b then F a b + z else F a n) M)
  rw [rowsO_congr (f := fun k => if k = a then tabZ (fun n => if n = b then F a b + z else F a n) M else tabZ (F k) M) (g := fun k => tabZ (fun n => if k = a ∧ n = b then F k n + z else F k n) M) fun k _ => by
    by_cases ek : k = a
    · subst ek
      rw [if_pos rfl]
      refine tabZ_congr fun n _ => ?_
      by_cases en : n = b
      · subst en
        rw [if_pos rfl, if_pos ⟨rfl, rfl⟩]
      · rw [if_neg en, if_neg fun z => en z.2]
    · rw [if_neg ek]
      exact tabZ_congr fun n _ => (if_neg fun z => ek z.1).symm] at e3
  rw [e3] at h
  rw [e1]
  have key := sd_augitem (Z := Z) (D := D) (ρ := ρ) (oa := (q, .raw (.lst (as.map V.ref))) :: oa) (ob := ob ++ own) (p := p) (ds := tabZ (F a) M) (n := b) (y := F a b) (z := z) (a := .Subscript fr ia p1) (b := ib) (e := e) (tpos := p2) (pos := pos) iop_addC (es_ixR (s := .raw (.ref p)) (q := q) (vs := as.map V.ref) (v := .ref p) (by simp) (hf _) (ha _) (atI_nat (by rw [List.getElem?_map, hp]; rfl)) (fun _ => rfl) hs) (hb _) (he _) (ixN_of (by rw [tabZ_len]; exact h2)) (tabZ_get h2) trivial (by
    rw [tabZ_set]
    simpa using h) hq
  simpa using key
end Sd


/-! list(range(..)), tuple(range(..)), sorted of a tuple of ints -/
namespace Sd
open PySem PySem.Spec PyProof.Rows L2
section
variable {Z : Ctx} {a b e : Expr} {ρ : List Slot} {own : Own} {pos p p2 q : Pos} {k : Nat} {i j : Int}
end
end Sd


/-! dicts with tuples of ints as keys -/
namespace Sd
open PySem PySem.Spec PyProof.Rows L2
/-! ### walking d.items() -/
section
variable {X : Cx} {pins : List (Addr × Obj)} {σ : L2.St} {H : Hp} {s : Shared}
theorem frzT2 {d : Addr} {o : Obj} {kvs : List (List Key × V)} (I : Inv X pins σ H s) (h : H d = some (.frz o (.dT kvs))) :
    (d == sysModules) = false ∧ s.heap.get? d = some o ∧ o.ExactDict ∧ ∃ (es : Array DictEntry) (ep : Nat), o.data = .dict es ep ∧ es.size = kvs.length ∧ es.size ≤ sizeLine ∧
      ∀ (i : Nat) (k : List Key) (v : V), kvs[i]? = some (k, v) → ∃ (en : DictEntry) (q : Addr), es[i]? = some en ∧ en.key = .ref q ∧ H q = some (.tup (k.map kV)) ∧ RelV v en.val := by
  obtain ⟨hd, z, hs, xs, pr, o', es, ep, ho, hx, hdt, he, _⟩ := I.hok d _ h
  rw [hd] at ho
  cases ho
  have l1 : es.size = xs.length := size_of_entries he
  have l2 : kvs.length = xs.length := Paired.length pr
  refine ⟨hs, hd, hx, es, ep, hdt, by omega, by omega, fun i k v e => ?_⟩
  obtain ⟨b, hb, e1, e2, e3⟩ := paired_get pr e
  have q := entry_at he i
  rw [hb] at q
  exact ⟨_, b.2.1, q, rfl, e2, e3⟩
/-- the pairs of a dict with tuple keys, each a new tuple -/
def Itit (d : Addr) (o : Obj) (kvs : List (List Key × V)) : It :=
  ⟨fun i H => H d = some (.frz o (.dT kvs)) ∧ i < kvs.length, fun i H x H' => ∃ T k v q, kvs[i]? = some (k, v) ∧ x = .ref T ∧ H T = none ∧ H q = some (.tup (k.map kV)) ∧ H' = upd H T (.tup [.ref q, v]), fun i H => H d = some (.frz o (.dT kvs)) ∧ kvs.length ≤ i⟩
theorem turn_itemsT {P : Program} {w : World} {K : PySem.W.Frag} {d : Addr} {o : Obj} {es : Array DictEntry} {ep : Nat} {kvs : List (List Key × V)} {elts : List Expr} {kk : Nat} {tpos : Pos} (it : Addr) (hod : o.data = .dict es ep) :
    Turn P w K (.Tuple elts kk tpos) (Itit d o kvs) [it] it (fun i h => ∃ ok ov, IsItemIter h it d i es.size ep ok ov) where
  mem := by simp
  obj := fun i h st b hb => by
    have e : b = it := by simpa using hb
    subst e
    obtain ⟨ok, ov, e⟩ := st
    exact ⟨_, e, fun v z => nomatch z⟩
  keep := fun i h h' st k => let ⟨ok, ov, e⟩ := st; ⟨ok, ov, k it (by simp) _ e⟩
  item := by
    intro X hP hw hK hc i pins s σ H E I hf st hg
    subst hP hw hK
    obtain ⟨hd, hi⟩ := hg
    obtain ⟨hs, hgd, hx, es', ep', hdt, hsz, _, ent⟩ := frzT2 I hd
    obtain ⟨rfl, rfl⟩ := dict_ep hod hdt
    obtain ⟨⟨k, v⟩, hkv⟩ : ∃ p, kvs[i]? = some p := ⟨kvs[i], List.getElem?_eq_getElem hi⟩
    obtain ⟨en, q, hen, hkey, hq, hv⟩ := ent i k v hkv
    obtain ⟨ok, ov, he⟩ := st
    have hlt : it < s.heap.objs.size := Heap.lt_size he
    have hie : i < es'.size := by omega
    have hee : es'[i] = en := by
      rw [Array.getElem?_eq_getElem hie] at hen
      exact Option.some.inj hen
    refine DT.nextI he ⟨o, hgd, hx, hdt⟩ hie fun h' ho hT hz hk => ?_
    refine ⟨_, rfl, wpAny_letOwnedTupleGo_items (s := { s with heap := h' }) ho fun h'' he' sb => ?_⟩
    rw [hee, hkey] at hT
    have hT2 : h''.get? s.heap.objs.size = some { cls := .type "tuple", data := .seq #[.ref q, en.val] } := (sb.2 _ (Nat.ne_of_gt hlt)).trans hT
    have new : ObjOk X.prog X.w (upd H s.heap.objs.size (.tup [.ref q, v])) h'' s.heap.objs.size (.tup [.ref q, v]) :=
      ⟨by show 2 ≤ sizeLine; decide, [.ref q, en.val], .cons rfl (.cons hv .nil), ⟨_, hT2, rfl, _, rfl⟩⟩
    have I1 : Inv X pins σ (upd H s.heap.objs.size (.tup [.ref q, v])) { s with heap := h'' } :=
      I.turnedNew (t' := s.toks) (ch := [it]) (fun b ob hb e => (sb.2 b (by simpa using hb)).trans (hk b ob (by simpa using hb) e)) hf (Nat.le_refl _) new
    refine ⟨.ref s.heap.objs.size, _, I1, rfl, ⟨_, k, v, q, hkv, rfl, I.hok.fresh (Nat.le_refl _), hq, rfl⟩, ⟨_, _, he'⟩, fun b hb => ?_⟩
    have e : b = it := by simpa using hb
    rw [e, upd_ne (Nat.ne_of_lt hlt)]
    exact (hf it (by simp)).1
  done := by
    intro X hP hw hK hc i pins s σ H E I hf st hg
    subst hP hw hK
    obtain ⟨hd, hi⟩ := hg
    obtain ⟨f0, f1, f2, f3, f4, f5⟩ := hf it (by simp)
    obtain ⟨hs, hgd, hx, es', ep', hdt, hsz, _, ent⟩ := frzT2 I hd
    obtain ⟨rfl, rfl⟩ := dict_ep hod hdt
    obtain ⟨ok, ov, he⟩ := st
    exact DT.endI (I.ok.hd hc) he ⟨o, hgd, hx, hdt⟩ (by omega) fun h' eb => ⟨rfl, I.turned (t' := s.toks) (fun b ob hb e => eb b ob hb e) f0 f1 f3 f4 f5⟩
  self := fun A i s Q E st h => let ⟨_, _, e⟩ := st; PySem.W.kcp_self e h
theorem pi_itemsT {e : Expr} {td : TE} {apos cpos tpos : Pos} {elts : List Expr} {kk : Nat} (he : PE X e td) (hbase : attributeBase e "items" X.env (eval e X.env) = eval e X.env := by rfl) (hline : (apos.endLine == cpos.line) = true := by rfl) :
    PI X (.Tuple elts kk tpos) (.Call (.Attribute e "items" apos) [] [] cpos) (fun σ H R => td σ H fun x H1 => ∃ d o kvs, x = .ref d ∧ H1 d = some (.frz o (.dT kvs)) ∧ R (Itit d o kvs) H1) := by
  refine ⟨fun pins s σ H R I h => ?_⟩
  refine wpAny_Call_method (T := "dict") (id := "dict.items") hbase rfl hline F.plainAttrs_dict F.slot_dict_items F.type_dict_items (thn (he.run pins s σ H _ I h) fun u s1 ⟨x, H1, I1, rx, d, o, kvs, ex, hd, q⟩ => ?_)
  subst ex
  obtain rfl : u = Value.ref d := rx
  obtain ⟨hs, hgd, hx, es, ep, hdt, hsz, _, ent⟩ := frzT2 I1 hd
  obtain ⟨t1, t2, _⟩ := isD_at I1 (.inr ⟨kvs, .inr ⟨o, hd⟩⟩)
  refine ⟨t1, t2, ?_⟩
  have raw : DT.Raw s1.heap d es ep := ⟨o, hgd, hx, hdt⟩
  have I2 : Inv X pins σ H1 { s1 with heap := s1.heap.push { cls := .type "dict_items", data := .fields #[.ref d] } } := I1.kept (t' := s1.toks) fun b ob q => Heap.get?_push_of_some _ q
  have fin : wpAny (model X.prog X.w) X.A (pyIter (.ref s1.heap.objs.size)) (PIE X pins σ (.Tuple elts kk tpos) R) X.xe { s1 with heap := s1.heap.push { cls := .type "dict_items", data := .fields #[.ref d] } } := by
    refine DT.iterI (d := d) ⟨_, Heap.get?_push_size _ rfl, rfl, rfl⟩ (raw.push _) (pi_one (tk := s1.toks) I2 _ (turn_itemsT _ hdt) ⟨.none, .none, ?_⟩ q)
    exact Heap.get?_push_size _ rfl
  show wpAny _ _ (callWith cpos (.builtin "dict.items") [.ref d] [] []) _ X.xe s1
  exact method_meetsIn F.slot_dict_items F.entry_dict_items rfl (PySem.evalArgs_none ⟨rfl, t1, F.args_dict_items_1 _, _, DT.meetsItems (es := es) (ep := ep) hs, ⟨raw, fin⟩⟩)
end

/-! ### a display of one pair -/
theorem pe_disp1T {X : Cx} {pos : Pos} {k v : Expr} {tk tv : TE} (hu : X.A.units < cLine) (hk : PE X k tk) (hv : PE X v tv) : PE X (.Dict [some k] [v] pos) (fun σ H Q => ∀ p, H p = none → tk σ (upd H p (.dT [])) fun x H1 => tv σ H1 fun y H2 => ∃ b ks, x = .ref b ∧ H2 p = some (.dT []) ∧ H2 b = some (.tup (ks.map kV)) ∧ Q (.ref p) (upd H2 p (.dT [(ks, y)]))) := by
  refine ⟨fun pins s σ H Q I q => ?_⟩
  have hn := I.hok.fresh (Nat.le_refl s.heap.objs.size)
  have I1 := I.laid (a := s.heap.objs.size) (o := .dT []) (h' := s.heap.push { cls := .type "dict", data := .dict #[] }) (t' := s.toks) (fun _ _ q => Heap.get?_push_of_some _ q) (Nat.le_refl _) (dt_empty s.heap I.big)
  have hs := zip_pairTrees [some k] [v] X.env pos rfl rfl
  have hl : (pairTrees [some k] [v] X.env pos).length = 1 := pairTrees_length [some k] [v] X.env pos rfl rfl
  rw [arm_eval_Dict, hs, dictDisplay_pairs (pairTrees [some k] [v] X.env pos) (by intro z; rw [z] at hl; cases hl) (by rw [hl]; decide)]
  refine wpAny_bind (wpAny_standAt (wpAny_bind (wpAny_subDictH (knd := tupleKind (mixKind X.prog X.w)) (Q := fun d s' => wpAny (model X.prog X.w) X.A (pure (Value.ref d)) (EP X pins σ Q) X.xe s') (show X.A.units < cLine from hu) (by rw [hl]; decide) ?_)))
  refine thn ((pps_cons hk hv pps_nil).run pins _ σ _ (fun ps H2 => match ps with
    | [(x, y)] => ∃ b ks, x = .ref b ∧ H2 s.heap.objs.size = some (.dT []) ∧ H2 b = some (.tup (ks.map kV)) ∧ Q (.ref s.heap.objs.size) (upd H2 s.heap.objs.size (.dT [(ks, y)]))
    | _ => False) I1 (q _ hn)) fun ws s2 ⟨ps, H2, I2, rel, hh⟩ => ?_
  cases ps with
  | nil => exact hh.elim
  | cons pq ps =>
    cases ps with
    | cons _ _ => exact hh.elim
    | nil =>
      obtain ⟨x, y⟩ := pq
      obtain ⟨b, ks, ex, e, eb, q2⟩ := hh
      have ex : x = .ref b := ex
      subst ex
      obtain ⟨u1, u2, rfl, ru, rv⟩ : ∃ u1 u2, ws = [(u1, u2)] ∧ RelV (.ref b) u1 ∧ RelV y u2 := by
        cases rel with
        | cons r1 r2 =>
          cases r2
          exact ⟨_, _, rfl, r1.1, r1.2⟩
      cases (show u1 = Value.ref b from ru)
      obtain ⟨z, hd, xs, r0, dd⟩ := dt_of I2.hok e
      cases r0
      refine ⟨[(ks, b, u2)], ⟨rfl, rfl, key_of I2.hok eb, trivial⟩, dd, fun h' tk' dd' sb => wpAny_pure ⟨.ref s.heap.objs.size, _, ?_, rfl, q2⟩⟩
      obtain ⟨o', es, ep', hq, h2, h3, h4, _, h5⟩ := dd'
      refine d_write I2 (by rw [e]; exact True.intro) sb ⟨o', hq⟩ ⟨by show 1 ≤ sizeLine; decide, hd, [(ks, b, u2)], .cons ⟨rfl, ?_, rv⟩ .nil, o', es, ep', hq, h2, h3, h4, h5⟩
      rw [upd_ne (ne_of eb e (fun z => nomatch z))]
      exact eb
/-! ### as data -/
def getT {κ α : Type} [DecidableEq κ] (tb : List (κ × α)) (k : κ) : Option α := (tb.find? fun e => decide (e.1 = k)).map (·.2)
def putT {κ α : Type} [DecidableEq κ] (tb : List (κ × α)) (k : κ) (v : α) : List (κ × α) :=
  if (tb.any fun e => decide (e.1 = k)) = true then tb.map (fun e => if e.1 = k then (e.1, v) else e) else tb ++ [(k, v)]
theorem inl_inj : ∀ {a b : List Int}, (a.map Sum.inl : List Key) = b.map Sum.inl → a = b
  | [], [], _ => rfl
  | [], _ :: _, h => nomatch h
  | _ :: _, [], h => nomatch h
  | x :: a, y :: b, h => by
    rw [List.map_cons, List.map_cons] at h
    injection h with h1 h2
    injection h1 with h1
    rw [h1, inl_inj h2]
theorem DtOk.nil {Hf : Hp} : DtOk Hf [] [] := ⟨rfl, .nil⟩
theorem DtOk.inv {Hf : Hp} {kvs : List (List Key × V)} {e : List Int × PyData} {tb : List (List Int × PyData)} (h : DtOk Hf kvs (e :: tb)) : ∃ v r, kvs = (e.1.map Sum.inl, v) :: r ∧ Rep Hf v e.2 ∧ DtOk Hf r tb := by
  obtain ⟨h1, h2⟩ := h
  match kvs, h1, h2 with
  | [], h1, _ => exact nomatch h1
  | (k, v) :: r, h1, h2 =>
    rw [List.map_cons, List.map_cons] at h1
    injection h1 with h3 h4
    cases h2 with
    | cons a b => exact ⟨v, r, by rw [← h3], a, h4, b⟩
theorem DtOk.inv0 {Hf : Hp} {kvs : List (List Key × V)} (h : DtOk Hf kvs []) : kvs = [] := by
  have := h.ks
  simpa using this
theorem DtOk.cons {Hf : Hp} {r : List (List Key × V)} {e : List Int × PyData} {tb : List (List Int × PyData)} {v : V} (a : Rep Hf v e.2) (h : DtOk Hf r tb) : DtOk Hf ((e.1.map Sum.inl, v) :: r) (e :: tb) :=
  ⟨by rw [List.map_cons, List.map_cons, h.ks], .cons a h.vs⟩
theorem DtOk.length {Hf : Hp} {kvs : List (List Key × V)} {tb : List (List Int × PyData)} (h : DtOk Hf kvs tb) : kvs.length = tb.length := by
  have := congrArg List.length h.ks
  simpa using this
theorem DtOk.any {Hf : Hp} (k : List Int) : ∀ {tb : List (List Int × PyData)} {kvs : List (List Key × V)}, DtOk Hf kvs tb → (kvs.any fun kv => decide (kv.1 = k.map Sum.inl)) = tb.any fun e => decide (e.1 = k)
  | [], kvs, h => by rw [h.inv0]; rfl
  | e :: tb, kvs, h => by
    obtain ⟨v, r, rfl, _, h2⟩ := h.inv
    rw [List.any_cons, List.any_cons, DtOk.any k h2]
    congr 1
    refine decide_eq_decide.mpr ⟨fun z => inl_inj z, fun z => by rw [z]⟩
theorem DtOk.get {Hf : Hp} (k : List Int) : ∀ {tb : List (List Int × PyData)} {kvs : List (List Key × V)}, DtOk Hf kvs tb → (getT tb k = none → valV kvs (k.map Sum.inl) = none) ∧ ∀ d, getT tb k = some d → ∃ v, valV kvs (k.map Sum.inl) = some v ∧ Rep Hf v d
  | [], kvs, h => by rw [h.inv0]; exact ⟨fun _ => rfl, fun d z => nomatch z⟩
  | e :: tb, kvs, h => by
    obtain ⟨v, r, rfl, hv, h2⟩ := h.inv
    have ih := DtOk.get k h2
    by_cases hk : e.1 = k
    · have g : getT (e :: tb) k = some e.2 := by simp [getT, List.find?_cons, hk]
      rw [g]
      refine ⟨(fun z => nomatch z), fun d z => ?_⟩
      cases z
      exact ⟨v, valV_pos (by rw [hk]), hv⟩
    · have g : getT (e :: tb) k = getT tb k := by simp [getT, List.find?_cons, hk]
      rw [g, valV_neg (fun z => hk (inl_inj z))]
      exact ih
theorem DtOk.repl {Hf : Hp} (k : List Int) {x : V} {d : PyData} (hx : Rep Hf x d) : ∀ {tb : List (List Int × PyData)} {kvs : List (List Key × V)}, DtOk Hf kvs tb → DtOk Hf (kvs.map fun kv => if kv.1 = k.map Sum.inl then (kv.1, x) else kv) (tb.map fun e => if e.1 = k then (e.1, d) else e)
  | [], kvs, h => by rw [h.inv0]; exact .nil
  | e :: tb, kvs, h => by
    obtain ⟨v, r, rfl, hv, h2⟩ := h.inv
    have ih := DtOk.repl k hx h2
    rw [List.map_cons, List.map_cons]
    by_cases hk : e.1 = k
    · rw [if_pos (by rw [hk]), if_pos hk]
      exact .cons (e := (e.1, d)) hx ih
    · rw [if_neg (fun z => hk (inl_inj z)), if_neg hk]
      exact .cons hv ih
theorem DtOk.put {Hf : Hp} (k : List Int) {x : V} {d : PyData} (hx : Rep Hf x d) {tb : List (List Int × PyData)} {kvs : List (List Key × V)} (h : DtOk Hf kvs tb) : DtOk Hf (putK kvs (k.map Sum.inl) x) (putT tb k d) := by
  unfold putK putT
  rw [h.any k]
  by_cases q : (tb.any fun e => decide (e.1 = k)) = true
  · rw [if_pos q, if_pos q]
    exact h.repl k hx
  · rw [if_neg q, if_neg q]
    exact ⟨by rw [List.map_append, List.map_append, h.ks]; rfl, by rw [List.map_append, List.map_append]; exact h.vs.append (.cons hx .nil)⟩
theorem DtOk.at {Hf : Hp} : ∀ {tb : List (List Int × PyData)} {kvs : List (List Key × V)} {i : Nat} {k : List Key} {v : V}, DtOk Hf kvs tb → kvs[i]? = some (k, v) → ∃ e, tb[i]? = some e ∧ k = e.1.map Sum.inl ∧ Rep Hf v e.2
  | [], kvs, i, k, v, h, q => by rw [h.inv0] at q; simp at q
  | e :: tb, kvs, 0, k, v, h, q => by
    obtain ⟨v', r, rfl, hv, h2⟩ := h.inv
    simp at q
    obtain ⟨rfl, rfl⟩ := q
    exact ⟨e, rfl, rfl, hv⟩
  | e :: tb, kvs, i + 1, k, v, h, q => by
    obtain ⟨v', r, rfl, hv, h2⟩ := h.inv
    exact DtOk.at (i := i) h2 (by simpa using q)
theorem kv_ints (k : List Int) : (k.map Sum.inl : List Key).map kV = k.map V.int := by
  rw [List.map_map]
  rfl
section
variable {Z : Ctx} {D : DE} {e f o a : Expr} {ρ : List Slot} {own oa ob : Own} {pos p tpos apos cpos : Pos} {q : Addr} {tb : List (List Int × PyData)} {k : List Int} {d d0 x : PyData} {n : Nat} {R : Slot → Own → Prop}
/-- {} -/
theorem eg_dnew (h : ∀ p, R (.raw (.ref p)) ((p, .dt []) :: own)) : EG Z (.Dict [] [] pos) ρ own R := fun Hf σ H S E Q q =>
  wE.of pe_dnewT fun p hp => q (.ref p) Hf _ (.raw (.ref p)) _ (Same.refl _) (S.newOwn (oo := .dt []) hp ⟨[], upd_same, .nil⟩) rfl (fun z => nomatch z) (h p)
theorem keyAt {Hf : Hp} {v : V} (r : Rep Hf v (.tuple (k.map PyData.int))) : ∃ b, v = .ref b ∧ Hf b = some (.tup ((k.map Sum.inl : List Key).map kV)) := by
  cases r with
  | tup h1 h2 =>
    cases h2.of_ints
    exact ⟨_, rfl, by rw [kv_ints]; exact h1⟩
/-- {k: v} -/
theorem eg_disp1 (g : Gd Z n) (hk : ∀ o, ED Z e ρ o (.tuple (k.map PyData.int))) (hv : ∀ o, ED Z f ρ o x) (h : ∀ p, R (.raw (.ref p)) ((p, .dt [(k, x)]) :: own)) : EG Z (.Dict [some e] [f] pos) ρ own R := fun Hf σ H S E Q q =>
  wE.of (pe_disp1T g.hr.units0 peW peW) fun p hp => hk ((p, .dt []) :: own) Hf σ _ (S.newOwn (oo := .dt []) hp ⟨[], upd_same, .nil⟩) E _ fun v1 Hf1 H1 m1 S1 r1 => hv _ Hf1 σ H1 S1 (E.mono m1) _ fun v2 Hf2 H2 m2 S2 r2 => by
    obtain ⟨b, rfl, hb⟩ := keyAt (r1.mono m2)
    obtain ⟨_, _, kvs, g1, g2⟩ := S2.at (p := p) (oo := .dt []) (by simp)
    cases g2.inv0
    exact ⟨b, _, rfl, g1, S2.e1 _ _ hb, q (.ref p) Hf2 _ (.raw (.ref p)) _ (m1.trans m2) (S2.write (oa := []) (oo' := .dt [(k, x)]) ⟨_, upd_same, .cons (e := (k, x)) r2 .nil⟩) rfl (fun z => nomatch z) (h p)⟩
/-- d.get(k, x) -/
theorem ed_dget2 (g : Gd Z n) (hq : (q, OO.dt tb) ∈ own) (ho : EV Z o ρ own (.ref q)) (hk : ED Z e ρ own (.tuple (k.map PyData.int))) (hd : ED Z f ρ own d0)
    (hbase : attributeBase o "get" Z.X.env (eval o Z.X.env) = eval o Z.X.env := by rfl)
    (hfew : ((backTo cpos (starEach [e, f] Z.X.env)).all (fun x => !x.1) && (backToKw cpos (keywordEach [] Z.X.env)).all (fun x => x.1.isSome)
      && decide (([e, f] : List Expr).length + ([] : List Keyword).length + (if ([] : List Keyword).isEmpty then 0 else 1) < 30)) = true := by rfl)
    (hline : (apos.endLine == cpos.line) = true := by rfl) (ht : backTo cpos (starEach [e, f] Z.X.env) = [(false, eval e Z.X.env), (false, eval f Z.X.env)] := by rfl) :
    ED Z (.Call (.Attribute o "get" apos) [e, f] [] cpos) ρ own ((getT tb k).getD d0) := fun Hf σ H S E Q kq =>
  wE.of (pe_dget2 (by have := g.hr.units; omega) peW peW peW ⟨hbase, hfew, hline, ht⟩) (ho Hf σ H S E _ fun w Hf1 H1 m1 S1 r1 => by
    cases (show w = .ref q from r1)
    obtain ⟨_, _, kvs, g1, g2⟩ := S1.at hq
    refine ⟨q, rfl, .inr ⟨kvs, .inl g1⟩, hk Hf1 σ H1 S1 (E.mono m1) _ fun v2 Hf2 H2 m2 S2 r2 => hd Hf2 σ H2 S2 (E.mono (m1.trans m2)) _ fun v3 Hf3 H3 m3 S3 r3 => ?_⟩
    obtain ⟨b, rfl, hb⟩ := keyAt (r2.mono m3)
    obtain ⟨_, _, kvs3, g3, g4⟩ := S3.at hq
    obtain ⟨n1, n2⟩ := g4.get k
    refine ⟨_, .t g3 (S3.e1 _ _ hb), kq _ Hf3 H3 ((m1.trans m2).trans m3) S3 ?_⟩
    cases eg : getT tb k with
    | none => rw [n1 eg]; exact r3
    | some d =>
      obtain ⟨v, h1, h2⟩ := n2 d eg
      rw [h1]
      exact h2)
/-- d[k] = x -/
theorem sd_dput (g : Gd Z n) (he : ED Z f ρ (oa ++ (q, .dt tb) :: ob) x) (ho : EV Z o ρ (oa ++ (q, .dt tb) :: ob) (.ref q)) (hk : ED Z e ρ (oa ++ (q, .dt tb) :: ob) (.tuple (k.map PyData.int))) (hl : tb.length < 100000) (h : D.nx ρ (oa ++ (q, .dt (putT tb k x)) :: ob))
    (hs : swapsWith f (some (.Subscript o e tpos)) pos.line Z.X.env = pure false := by rfl) : SD Z (.Assign [.Subscript o e tpos] f pos) D ρ (oa ++ (q, .dt tb) :: ob) := fun H0 Hf σ H m0 S E =>
  wS.of (ps_dput (by have := g.hr.units; omega) peW peW peW hs) (he Hf σ H S E _ fun v1 Hf1 H1 m1 S1 r1 => ho Hf1 σ H1 S1 (E.mono m1) _ fun w Hf2 H2 m2 S2 r2 => hk Hf2 σ H2 S2 (E.mono (m1.trans m2)) _ fun v3 Hf3 H3 m3 S3 r3 => by
    cases (show w = .ref q from r2)
    obtain ⟨b, rfl, hb⟩ := keyAt r3
    obtain ⟨_, _, kvs3, g3, g4⟩ := S3.at (p := q) (oo := .dt tb) (by simp)
    refine ⟨q, _, rfl, .t g3 (S3.e1 _ _ hb) (by rw [g4.length, sizeLine_eq]; omega), Hf3, ρ, _, ((m0.trans m1).trans m2).trans m3, S3.write (oo' := .dt (putT tb k x)) ⟨_, upd_same, g4.put k (r1.mono (m2.trans m3))⟩, E.mono ((m1.trans m2).trans m3), h⟩)
/-! ### a dict that is walked is locked -/
theorem Sat.lock {B : Bs} {Hf H : Hp} {od : Obj} {kvs : List (List Key × V)} (S : Sat B Hf H (oa ++ (q, .dt tb) :: ob)) (ok : DtOk Hf kvs tb) : Sat B Hf (upd H q (.frz od (.dT kvs))) (oa ++ (q, .dl od kvs tb) :: ob) := S.write (oo' := .dl od kvs tb) ⟨upd_same, ok⟩
theorem Sat.unlock {B : Bs} {Hf H : Hp} {od : Obj} {kvs : List (List Key × V)} (S : Sat B Hf H (oa ++ (q, .dl od kvs tb) :: ob)) : H q = some (.frz od (.dT kvs)) ∧ Sat B Hf (upd H q (.dT kvs)) (oa ++ (q, .dt tb) :: ob) := by
  obtain ⟨_, _, g3, g4⟩ := S.at (p := q) (oo := .dl od kvs tb) (by simp)
  exact ⟨g3, S.write (p := q) (o := .dT kvs) (oo' := .dt tb) ⟨kvs, upd_same, g4⟩⟩
/-- what is owned but for a lock -/
def Unl (q : Addr) (od : Obj) (kvs : List (List Key × V)) (tb : List (List Int × PyData)) (Q : Own → Prop) (o' : Own) : Prop := ∃ oa' ob', o' = oa' ++ (q, .dl od kvs tb) :: ob' ∧ Q (oa' ++ (q, .dt tb) :: ob')
theorem sd_lock {st : Stmt} (h : ∀ od kvs, SD Z st ⟨fun ρ' => Unl q od kvs tb (D.nx ρ'), fun s' => Unl q od kvs tb (D.rt s'), fun ρ' => Unl q od kvs tb (D.bk ρ'), fun ρ' => Unl q od kvs tb (D.ct ρ')⟩ ρ (oa ++ (q, .dl od kvs tb) :: ob)) : SD Z st D ρ (oa ++ (q, .dt tb) :: ob) := fun H0 Hf σ H m0 S E => by
  obtain ⟨_, _, kvs, g1, g2⟩ := S.at (p := q) (oo := .dt tb) (by simp)
  refine wS.of (ps_lock psW) ⟨q, .dT kvs, g1, True.intro, fun od => wS.imp (h od kvs H0 Hf σ _ m0 (S.lock g2) E) ?_ ?_ ?_ ?_⟩
  · rintro σ' H' ⟨Hf', ρ', o', m', S', E', oa', ob', rfl, hq⟩
    exact ⟨S'.unlock.1, Hf', ρ', _, m', S'.unlock.2, E', hq⟩
  · rintro v H' ⟨Hf', s', o', m', S', r', hs, oa', ob', rfl, hq⟩
    exact ⟨S'.unlock.1, Hf', s', _, m', S'.unlock.2, r', hs, hq⟩
  · rintro σ' H' ⟨Hf', ρ', o', m', S', E', oa', ob', rfl, hq⟩
    exact ⟨S'.unlock.1, Hf', ρ', _, m', S'.unlock.2, E', hq⟩
  · rintro σ' H' ⟨Hf', ρ', o', m', S', E', oa', ob', rfl, hq⟩
    exact ⟨S'.unlock.1, Hf', ρ', _, m', S'.unlock.2, E', hq⟩
/-- an expression that walks a dict and makes a new list -/
theorem el_lock {ds : List PyData} (h : ∀ od kvs, EL Z e ρ (oa ++ (q, .dl od kvs tb) :: ob) ds) : EL Z e ρ (oa ++ (q, .dt tb) :: ob) ds := fun Hf σ H S E Q k => by
  obtain ⟨_, _, kvs, g1, g2⟩ := S.at (p := q) (oo := .dt tb) (by simp)
  refine wE.of (pe_lock peW) ⟨q, .dT kvs, g1, True.intro, fun od => h od kvs Hf σ _ (S.lock g2) E _ fun p Hf' H' m S' => ?_⟩
  have S2 : Sat Z.B Hf' H' (((p, .lst ds) :: oa) ++ (q, .dl od kvs tb) :: ob) := S'
  exact ⟨S2.unlock.1, k p Hf' _ m S2.unlock.2⟩
def itemD (t : List Int × PyData) : PyData := .tuple [.tuple (t.1.map PyData.int), t.2]
/-- d.items(), d locked -/
theorem it_items {elts : List Expr} {kk : Nat} {od : Obj} {kvs : List (List Key × V)} (hq : (q, OO.dl od kvs tb) ∈ own) (h : EV Z e ρ own (.ref q)) (hbase : attributeBase e "items" Z.X.env (eval e Z.X.env) = eval e Z.X.env := by rfl) (hline : (apos.endLine == cpos.line) = true := by rfl) :
    IT Z (.Tuple elts kk tpos) (.Call (.Attribute e "items" apos) [] [] cpos) ρ own (fun o => (q, OO.dl od kvs tb) ∈ o) (tb.map itemD) :=
  ⟨_, pi_itemsT peW hbase hline, fun Hf σ H S E R k => h Hf σ H S E _ fun w Hf1 H1 m1 S1 r1 => by
    cases (show w = .ref q from r1)
    obtain ⟨_, _, g3, g4⟩ := S1.at hq
    have hlen := g4.length
    refine ⟨q, od, kvs, rfl, g3, k _ Hf1 H1 m1 S1 ⟨fun i Hf' H' o' m' S' hp hi => ?_, fun i y Hf' H' o' x H2 m' S' hp hy hx => ?_, fun i Hf' H' o' m' S' hp hi => ?_⟩⟩
    · obtain ⟨_, _, g5, _⟩ := S'.at hp
      rw [List.length_map] at hi
      exact ⟨g5, by omega⟩
    · obtain ⟨T, k, v, b, hkv, rfl, hT, hb, rfl⟩ := hx
      obtain ⟨_, _, g5, g6⟩ := S'.at hp
      obtain ⟨t, ht, ek, hv⟩ := g6.at hkv
      rw [List.getElem?_map, ht] at hy
      cases hy
      have hb' := S'.tp _ _ hb
      rw [ek, kv_ints] at hb'
      have sm := S'.new_same hT (.tup [.ref b, v])
      exact ⟨upd Hf' T (.tup [.ref b, v]), sm, S'.new hT _, .tup upd_same (.cons (.tup (sm _ _ hb') (Reps.ints t.1)) (.cons (hv.mono sm) .nil))⟩
    · obtain ⟨_, _, g5, _⟩ := S'.at hp
      rw [List.length_map] at hi
      exact ⟨g5, by omega⟩⟩
end
/-! ### what is not needed any more -/
theorem Sat.sub {B : Bs} {Hf H : Hp} {o o' : Own} (h : o'.Sublist o) (S : Sat B Hf H o) : Sat B Hf H o' := ⟨S.e0, S.e1, S.eb, S.fr, fun q hq => S.ow q (h.subset hq), (h.map Prod.fst).nodup S.nd, S.tp⟩
theorem sds_rtsub {Z : Ctx} {D : DE} {sts : List Stmt} {ρ : List Slot} {own : Own} (h : SDs Z sts { D with rt := fun s o => ∃ o', o'.Sublist o ∧ D.rt s o' } ρ own) : SDs Z sts D ρ own := fun H0 Hf σ H m0 S E => wSs.imp (h H0 Hf σ H m0 S E) (fun _ _ q => q) (fun v H' ⟨Hf', s, o, m, S', r, hs, o', hsub, q⟩ => ⟨Hf', s, o', m, S'.sub hsub, r, hs, q⟩) (fun _ _ q => q) (fun _ _ q => q)
end Sd


/-! a list of one's own, lent: data while an expression runs -/
namespace Sd
open PySem PySem.Spec PyProof.Rows L2
/-- no list within -/
inductive Fre : PyData → Prop
  | non : Fre .none
  | bl (b : Bool) : Fre (.bool b)
  | int (i : Int) : Fre (.int i)
  | str (z : Str) : Fre (.str z)
  | tup {ds : List PyData} : (∀ d ∈ ds, Fre d) → Fre (.tuple ds)
/-- Hf without p -/
def wout (Hf : Hp) (p : Addr) : Hp := fun a => if a = p then none else Hf a
theorem wout_ne {Hf : Hp} {p a : Addr} (h : a ≠ p) : wout Hf p a = Hf a := if_neg h
theorem wout_same {Hf : Hp} {p : Addr} : wout Hf p p = none := if_pos rfl
theorem Rep.out {Hf : Hp} {p : Addr} {xs : List V} (hp : Hf p = some (.lst xs)) {v : V} {d : PyData} (h : Rep Hf v d) : Fre d → Rep (wout Hf p) v d :=
  Rep.rec (motive_1 := fun v d _ => Fre d → Rep (wout Hf p) v d) (motive_2 := fun vs ds _ => (∀ d ∈ ds, Fre d) → Reps (wout Hf p) vs ds) (fun _ => .non) (fun b _ => .bl b) (fun i _ => .int i) (fun x _ => .str x)
    (fun _ _ _ f => nomatch f) (fun {a xs' ds} h _ ih f => by
      cases f with
      | tup f =>
        refine .tup ?_ (ih f)
        rw [wout_ne]
        · exact h
        · intro e
          rw [e, hp] at h
          cases h) (fun _ => .nil) (fun _ _ a b f => .cons (a (f _ (by simp))) (b fun d hd => f d (by simp [hd]))) h
theorem Reps.out {Hf : Hp} {p : Addr} {xs : List V} (hp : Hf p = some (.lst xs)) : ∀ {vs : List V} {ds : List PyData}, Reps Hf vs ds → (∀ d ∈ ds, Fre d) → Reps (wout Hf p) vs ds
  | _, _, .nil, _ => .nil
  | _, _, .cons a b, f => .cons (a.out hp (f _ (by simp))) (b.out hp fun d hd => f d (by simp [hd]))
def FreS : Slot → Prop
  | .d x => Fre x
  | _ => True
def FreO : OO → Prop
  | .lst ds => ∀ d ∈ ds, Fre d
  | .raw _ => True
  | .dt tb => ∀ t ∈ tb, Fre t.2
  | .dl _ _ tb => ∀ t ∈ tb, Fre t.2
  | .dk tb => ∀ t ∈ tb, Fre t.2
theorem OwnOk.out {Hf H : Hp} {p q : Addr} {xs : List V} {oo : OO} (hp : Hf p = some (.lst xs)) (h : OwnOk Hf H q oo) (f : FreO oo) : OwnOk (wout Hf p) H q oo := by
  cases oo with
  | lst ds => obtain ⟨vs, h1, h2⟩ := h; exact ⟨vs, h1, h2.out hp f⟩
  | raw o => exact h
  | dt tb => obtain ⟨kvs, h1, h2⟩ := h; exact ⟨kvs, h1, h2.ks, h2.vs.out hp fun d hd => by obtain ⟨t, ht, rfl⟩ := List.mem_map.mp hd; exact f t ht⟩
  | dl od kvs tb => obtain ⟨h1, h2⟩ := h; exact ⟨h1, h2.ks, h2.vs.out hp fun d hd => by obtain ⟨t, ht, rfl⟩ := List.mem_map.mp hd; exact f t ht⟩
  | dk tb => obtain ⟨kvs, h1, h2⟩ := h; exact ⟨kvs, h1, h2.ks, h2.vs.out hp fun d hd => by obtain ⟨t, ht, rfl⟩ := List.mem_map.mp hd; exact f t ht⟩
section
variable {Z : Ctx} {D : DE} {e : Expr} {ρ : List Slot} {own : Own} {p : Addr} {ds : List PyData} {R R' : Slot → Own → Prop}
/-- lent for one expression -/
theorem eg_lend (i : Nat) (hi : ρ[i]? = some (.raw (.ref p))) (hf : ∀ d ∈ ds, Fre d) (h : EG Z e (ρ.set i (.d (.list ds))) own R') (hR : ∀ s o, R' s o → FreS s ∧ (∀ q ∈ o, FreO q.2) ∧ R s ((p, .lst ds) :: o)) : EG Z e ρ ((p, .lst ds) :: own) R := fun Hf σ H S E Q k => by
  obtain ⟨n1, n2, vs, hv, hr⟩ := S.at (p := p) (oo := .lst ds) (by simp)
  obtain ⟨Hf1, m1, S1, r1⟩ := Sat.freeze (oa := []) S
  have ei : σ[i]? = some (some (.ref p)) := E.raw hi
  have E1 := (E.mono m1).set (v := .ref p) (s := .d (.list ds)) r1 i
  have hσ : σ.set i (some (.ref p)) = σ := by
    refine List.ext_getElem? fun j => ?_
    by_cases e : i = j
    · subst e
      rw [List.getElem?_set_self (List.getElem?_eq_some_iff.mp ei).1, ei]
    · rw [List.getElem?_set_ne e]
  rw [hσ] at E1
  refine h Hf1 σ H S1 E1 Q fun v Hf2 H2 s o m2 S2 r2 hs hq => ?_
  obtain ⟨f1, f2, hR⟩ := hR s o hq
  have hp1 : Hf1 p = some (.lst vs) := by
    cases r1 with
    | lst h1 h2 =>
      have := S1.e1 _ _ h1
      rw [hv] at this
      rw [h1]
      exact this.symm ▸ rfl
  have hp2 := m2 _ _ hp1
  have hH2 := S2.e1 _ _ hp2
  have sm : Same Hf (wout Hf2 p) := fun a u ha => by
    have : a ≠ p := fun z => by rw [z, n1] at ha; cases ha
    rw [wout_ne this]
    exact (m1.trans m2) a u ha
  have hne : ∀ q ∈ o, q.1 ≠ p := fun q hq z => by
    have := (S2.ow q hq).1
    rw [z, hp2] at this
    cases this
  have S3 : Sat Z.B (wout Hf2 p) H2 ((p, .lst ds) :: o) := by
    refine ⟨S.e0.trans sm, fun a u ha => ?_, S2.eb, fun a u ha hb => ?_, fun q hq => ?_, ?_, fun a xs ha => ?_⟩
    · by_cases e : a = p
      · rw [e, wout_same] at ha; cases ha
      · rw [wout_ne e] at ha; exact S2.e1 a u ha
    · by_cases e : a = p
      · rw [e]; exact n2
      · rw [wout_ne e] at ha; exact S2.fr a u ha hb
    · rcases List.mem_cons.mp hq with rfl | hq
      · refine ⟨wout_same, n2, vs, hH2, ?_⟩
        exact (hr.mono (m1.trans m2)).out hp2 hf
      · obtain ⟨a1, a2, a3⟩ := S2.ow q hq
        exact ⟨by rw [wout_ne (hne q hq)]; exact a1, a2, a3.out hp2 (f2 q hq)⟩
    · rw [List.map_cons, List.nodup_cons]
      refine ⟨fun hm => ?_, S2.nd⟩
      obtain ⟨q, hq, e⟩ := List.mem_map.mp hm
      exact hne q hq e
    · rw [wout_ne]
      · exact S2.tp a xs ha
      · intro e
        rw [e, hH2] at ha
        cases ha
  refine k v (wout Hf2 p) H2 s _ sm S3 ?_ hs hR
  cases s with
  | un => trivial
  | d x => exact Rep.out hp2 r2 f1
  | raw w => exact r2
end
/-! ### a def without parameters -/
end Sd


/-! sorted(d), d a dict with tuples of ints as keys -/
namespace Sd
open PySem PySem.Spec PyProof.Rows L2
section
variable {X : Cx}
end
end Sd
namespace Sd
open PySem PySem.Spec PyProof.Rows L2
section
variable {Z : Ctx} {e : Expr} {ρ : List Slot} {own : Own} {pos p : Pos} {s : Slot} {k : Nat}
end
end Sd
namespace Sd
open PySem PySem.Spec PyProof.Rows L2
/-! a comprehension whose elements read what is owned -/
section
variable {Z : Ctx} {elt tg iter : Expr} {ifs : List Expr} {scope : Scope} {ρ : List Slot} {own : Own} {Fin : List PyData → Own → Prop} {k : Nat} {Po : Own → Prop} {ys : List PyData} {pos : Pos} {D : DE}
theorem compO {α : Type} (g : Gd Z k) (it : IT Z tg iter ρ own Po ys) (on : List (Str × Nat)) (ok : BlkOk Z.X.N Z.X.env.scope scope on) (xs : List α) (enc : α → PyData) (hy : ys = xs.map enc) (F : α → Option PyData) (ρ2 : α → List Slot) (is : List Nat)
    (his : ∀ i ∈ is, i ∈ on.map (·.2)) (hl : xs.length < 100000) (hpo : ∀ acc D, Po ((D, .lst acc) :: own)) (gt : ∀ a ∈ xs, ∀ s H C cl fp, Gd (blkZ Z scope s H C cl fp) k → GT (blkZ Z scope s H C cl fp) tg (enc a) (wipeR ρ (on.map (·.2))) (ρ2 a) is)
    (et : ∀ a ∈ xs, ∀ s H C cl fp D acc, Gd (blkZ Z scope s H C cl fp) k → ETs (blkZ Z scope s H C cl fp) ifs (ρ2 a) ((D, .lst acc) :: own) (F a).isSome) (ed : ∀ a ∈ xs, ∀ d, F a = some d → ∀ s H C cl fp D acc, Gd (blkZ Z scope s H C cl fp) k → ED (blkZ Z scope s H C cl fp) elt (ρ2 a) ((D, .lst acc) :: own) d) :
    CP Z elt tg iter ifs scope ρ own (fun ds o => ds = xs.filterMap F ∧ o = own) := by
  subst hy
  have := comp (Po := Po) (ys := xs.map enc) (elt := elt) (ifs := ifs) (scope := scope) g it on ok (fun i acc o => acc = (xs.take i).filterMap F ∧ o = own ∧ i ≤ xs.length) ⟨rfl, rfl, Nat.zero_le _⟩ (fun i acc o D h => by rw [h.2.1]; exact hpo acc D) (fun i acc o h => by
    rw [h.1]
    have h1 := List.length_filterMap_le F (xs.take i)
    rw [List.length_take] at h1
    omega) (fun i y acc o D hy h => by
      obtain ⟨rfl, rfl, hi⟩ := h
      rw [List.getElem?_map] at hy
      cases ea : xs[i]? with
      | none => rw [ea] at hy; cases hy
      | some a =>
        rw [ea] at hy
        cases hy
        have hm : a ∈ xs := List.mem_of_getElem? ea
        have hlt : i < xs.length := (List.getElem?_eq_some_iff.mp ea).1
        have tk : (xs.take (i + 1)).filterMap F = (xs.take i).filterMap F ++ (F a).toList := by
          rw [List.take_add_one, ea, List.filterMap_append]
          cases hF : F a <;> simp [hF]
        refine ⟨ρ2 a, is, (F a).isSome, his, fun s H C cl fp => gt a hm s H C cl fp (g.blk ..), fun s H C cl fp => et a hm s H C cl fp _ _ (g.blk ..), fun hs s H C cl fp => ?_, fun hs => ?_⟩
        · obtain ⟨d, hd⟩ := Option.isSome_iff_exists.mp hs
          exact ES.toEG (ed a hm d hd s H C cl fp _ _ (g.blk ..)) (fun z => nomatch z) ⟨d, o, rfl, rfl, by rw [tk, hd]; rfl, rfl, hlt⟩
        · refine ⟨?_, rfl, hlt⟩
          rw [tk]
          cases hF : F a with
          | none => simp
          | some d => rw [hF] at hs; cases hs)
  obtain ⟨a1, a2, a3, a4, a5, b1, b2, b3, b4, b5, b6⟩ := this
  refine ⟨a1, a2, a3, a4, a5, b1, b2, b3, b4, b5, fun Hf σ H S E Q q => b6 Hf σ H S E Q fun p Hf' H' ds own' m S' hf => q p Hf' H' ds own' m S' ⟨?_, hf.2.1⟩⟩
  rw [hf.1, List.length_map, List.take_length]
end

/-! x in a tuple of ints -/
section
variable {Z : Ctx} {own : Own}
end
end Sd


/-! dicts with int keys -/
namespace Sd
open PySem PySem.Spec PyProof.Rows L2
theorem DkOk.nil {Hf : Hp} : DkOk Hf [] [] := ⟨rfl, .nil⟩
theorem DkOk.inv {Hf : Hp} {kvs : List (Key × V)} {e : Int × PyData} {tb : List (Int × PyData)} (h : DkOk Hf kvs (e :: tb)) : ∃ v r, kvs = ((Sum.inl e.1 : Key), v) :: r ∧ Rep Hf v e.2 ∧ DkOk Hf r tb := by
  obtain ⟨h1, h2⟩ := h
  match kvs, h1, h2 with
  | [], h1, _ => exact nomatch h1
  | (k, v) :: r, h1, h2 =>
    rw [List.map_cons, List.map_cons] at h1
    injection h1 with h3 h4
    cases h2 with
    | cons a b => exact ⟨v, r, by rw [← h3], a, h4, b⟩
theorem DkOk.inv0 {Hf : Hp} {kvs : List (Key × V)} (h : DkOk Hf kvs []) : kvs = [] := by
  have := h.ks
  simpa using this
theorem DkOk.cons {Hf : Hp} {r : List (Key × V)} {e : Int × PyData} {tb : List (Int × PyData)} {v : V} (a : Rep Hf v e.2) (h : DkOk Hf r tb) : DkOk Hf (((Sum.inl e.1 : Key), v) :: r) (e :: tb) :=
  ⟨by rw [List.map_cons, List.map_cons, h.ks], .cons a h.vs⟩
theorem DkOk.length {Hf : Hp} {kvs : List (Key × V)} {tb : List (Int × PyData)} (h : DkOk Hf kvs tb) : kvs.length = tb.length := by
  have := congrArg List.length h.ks
  simpa using this
theorem DkOk.any {Hf : Hp} (k : Int) : ∀ {tb : List (Int × PyData)} {kvs : List (Key × V)}, DkOk Hf kvs tb → (kvs.any fun kv => decide (kv.1 = Sum.inl k)) = tb.any fun e => decide (e.1 = k)
  | [], kvs, h => by rw [h.inv0]; rfl
  | e :: tb, kvs, h => by
    obtain ⟨v, r, rfl, _, h2⟩ := h.inv
    rw [List.any_cons, List.any_cons, DkOk.any k h2]
    congr 1
    refine decide_eq_decide.mpr ⟨fun z => Sum.inl.inj z, fun z => by rw [z]⟩
theorem DkOk.get {Hf : Hp} (k : Int) : ∀ {tb : List (Int × PyData)} {kvs : List (Key × V)}, DkOk Hf kvs tb → (getT tb k = none → valV kvs (Sum.inl k) = none) ∧ ∀ d, getT tb k = some d → ∃ v, valV kvs (Sum.inl k) = some v ∧ Rep Hf v d
  | [], kvs, h => by rw [h.inv0]; exact ⟨fun _ => rfl, fun d z => nomatch z⟩
  | e :: tb, kvs, h => by
    obtain ⟨v, r, rfl, hv, h2⟩ := h.inv
    have ih := DkOk.get k h2
    by_cases hk : e.1 = k
    · have g : getT (e :: tb) k = some e.2 := by simp [getT, List.find?_cons, hk]
      rw [g]
      refine ⟨(fun z => nomatch z), fun d z => ?_⟩
      cases z
      exact ⟨v, valV_pos (by rw [hk]), hv⟩
    · have g : getT (e :: tb) k = getT tb k := by simp [getT, List.find?_cons, hk]
      rw [g, valV_neg (fun z => hk (Sum.inl.inj z))]
      exact ih
theorem DkOk.repl {Hf : Hp} (k : Int) {x : V} {d : PyData} (hx : Rep Hf x d) : ∀ {tb : List (Int × PyData)} {kvs : List (Key × V)}, DkOk Hf kvs tb → DkOk Hf (kvs.map fun kv => if kv.1 = Sum.inl k then (kv.1, x) else kv) (tb.map fun e => if e.1 = k then (e.1, d) else e)
  | [], kvs, h => by rw [h.inv0]; exact .nil
  | e :: tb, kvs, h => by
    obtain ⟨v, r, rfl, hv, h2⟩ := h.inv
    have ih := DkOk.repl k hx h2
    rw [List.map_cons, List.map_cons]
    by_cases hk : e.1 = k
    · rw [if_pos (by rw [hk]), if_pos hk]
      exact .cons (e := (e.1, d)) hx ih
    · rw [if_neg (fun z => hk (Sum.inl.inj z)), if_neg hk]
      exact .cons hv ih
theorem DkOk.put {Hf : Hp} (k : Int) {x : V} {d : PyData} (hx : Rep Hf x d) {tb : List (Int × PyData)} {kvs : List (Key × V)} (h : DkOk Hf kvs tb) : DkOk Hf (putK kvs (Sum.inl k) x) (putT tb k d) := by
  unfold putK putT
  rw [h.any k]
  by_cases q : (tb.any fun e => decide (e.1 = k)) = true
  · rw [if_pos q, if_pos q]
    exact h.repl k hx
  · rw [if_neg q, if_neg q]
    exact ⟨by rw [List.map_append, List.map_append, h.ks]; rfl, by rw [List.map_append, List.map_append]; exact h.vs.append (.cons hx .nil)⟩
section
variable {Z : Ctx} {D : DE} {e f o a : Expr} {ρ : List Slot} {own oa ob : Own} {pos p tpos apos cpos : Pos} {q : Addr} {tb : List (Int × PyData)} {k : Int} {d d0 x : PyData} {n : Nat} {R : Slot → Own → Prop}
end
end Sd


namespace Sd
open PySem PySem.Spec PyProof.Rows L2
/-! displays of constants: the step over a constant is proved once, for any constant (quick) -/
section
variable {Z : Sd.Ctx} {ρ : List Slot} {own : Own} {es : List Expr} {s : Slot} {ss : List Slot} {p pos : Pos} {x1 : Nat}
theorem eb_k {x : Const} {j : Nat} (h : ES Z (.Constant x j p) ρ own s) (hr : EA Z es ρ own ss) : EA Z (.Constant x j p :: es) ρ own (s :: ss) := ea_cons h hr
theorem eb_b {a b : Expr} {op : Operator} (h : ES Z (.BinOp a op b p) ρ own s) (hr : EA Z es ρ own ss) : EA Z (.BinOp a op b p :: es) ρ own (s :: ss) := ea_cons h hr
theorem eb_c {f : Expr} {as : List Expr} {ks : List Keyword} (h : ES Z (.Call f as ks p) ρ own s) (hr : EA Z es ρ own ss) : EA Z (.Call f as ks p :: es) ρ own (s :: ss) := ea_cons h hr
theorem ed_lstB {ds : List PyData} (h : EA Z es ρ own ss) (e : ss = ds.map Slot.d) (hl : ds.length ≤ 1000) : ED Z (.List es pos) ρ own (.list ds) := ed_lst (ds := ds) (e ▸ h) hl
theorem ed_lb1 {x : PyData} (h : EA Z es ρ own [.d x]) : ED Z (.List es pos) ρ own (.list [x]) := ed_lst (ds := [x]) h
theorem ed_tb2 {x y : PyData} (h : EA Z es ρ own [.d x, .d y]) : ED Z (.Tuple es x1 pos) ρ own (.tuple [x, y]) := ed_tup (ds := [x, y]) h
theorem ed_s1 {z : Str} {j : Nat} : ED Z (.List [.Constant (.str z) j p] pos) ρ own (.list [.str z]) := by with_reducible exact ed_lb1 (eb_k ed_str ea_nil)
theorem ed_k2 {i i' : Int} {j j' : Nat} {p' : Pos} : ED Z (.Tuple [.Constant (.int i) j p, .Constant (.int i') j' p'] x1 pos) ρ own (.tuple [.int i, .int i']) := by with_reducible exact ed_tb2 (eb_k ed_int (eb_k ed_int ea_nil))
theorem eb_t {xs : List Expr} {j : Nat} (h : ES Z (.Tuple xs j p) ρ own s) (hr : EA Z es ρ own ss) : EA Z (.Tuple xs j p :: es) ρ own (s :: ss) := ea_cons h hr
theorem ed_k1 {i : Int} {j : Nat} : ED Z (.List [.Constant (.int i) j p] pos) ρ own (.list [.int i]) := by with_reducible exact ed_lb1 (eb_k ed_int ea_nil)
end
end Sd


/-! objects of a class of the program -/
namespace Sd
open PySem PySem.Spec PyProof.Rows L2
section
variable {X : Cx} {CX : CXT} {k : Nat} {f C : Addr} {fd : FuncData} {ps : List Str} {sp : Sp} {E : L2.St → XK} {x m : Str} {p pos apos : Pos} {e o : Expr} {es : List Expr} {ta : TE} {t : TA}
end
/-- a method of the program's class, by its promise -/
structure Mth (K : PySem.W.Frag) (mg : Str → Option Value) (P : Program) (w : World) (base : Heap) (C : Addr) (m : Str) (ps : List Str) (k : Nat) (Pre : Pr) : Prop where
  ex : ∃ f fd, FnOk P w K mg base (L2.CX P w) k f fd ps (spG Pre) ∧ Meth K C m f ∧ Binds K fd ps []
section
variable {Z : Ctx} {D : DE} {e o : Expr} {es : List Expr} {ρ : List Slot} {own oa o1 ob : Own} {pos p apos tpos : Pos} {s : Slot} {k j : Nat} {ss : List Slot} {m f : Str} {ps : List Str} {Pre : Pr} {post : Out → Prop} {R : Slot → Own → Prop} {C x dx : Addr} {fs : List (Str × V)} {v : V} {ds : List PyData} {d : PyData}
/-- self.f = a new list -/
theorem sd_fldL (cl : Cls Z.X.K C) (nA : NoAttr Z.X.K C f) (he : EL Z e ρ (oa ++ (x, .raw (.ins C dx fs)) :: ob) ds) (ho : ∀ p', EV Z o ρ ((p', .lst ds) :: (oa ++ (x, .raw (.ins C dx fs)) :: ob)) (.ref x)) (hfew : fs.length < 1000) (h : ∀ p', D.nx ρ ((p', .lst ds) :: (oa ++ (x, .raw (.ins C dx (putF f (.ref p') fs))) :: ob)))
    (hs : swapsWith e (some (.Attribute o f tpos)) pos.line Z.X.env = pure false := by rfl) : SD Z (.Assign [.Attribute o f tpos] e pos) D ρ (oa ++ (x, .raw (.ins C dx fs)) :: ob) := fun H0 Hf σ H m0 S E => wS.of (ps_fld peW peW hs) (he Hf σ H S E _ fun p' Hf1 H1 m1 S1 => ho p' Hf1 σ H1 S1 (E.mono m1) _ fun w Hf2 H2 m2 S2 r2 => by
    cases (show w = .ref x from r2)
    obtain ⟨_, _, g⟩ := S2.at (p := x) (oo := .raw (.ins C dx fs)) (by simp)
    exact ⟨x, C, dx, fs, rfl, g, cl, nA, hfew, Hf2, ρ, _, (m0.trans m1).trans m2, S2.write (oa := (p', .lst ds) :: oa) (oo' := .raw (.ins C dx (putF f (.ref p') fs))) upd_same, E.mono (m1.trans m2), h p'⟩)
end
end Sd


/-! sorted(set(xs)) of a list of ints; pop; making an object; its length -/
namespace Sd
open PySem PySem.Spec PyProof.Rows L2
section
variable {P : Program} {w : World} {A : Around} {E : Value → Shared → Prop} {s : Shared}
end
section
variable {X : Cx}
end
end Sd


/-! making an object; its length; pop; sorted(set(..)) -/
namespace Sd
open PySem PySem.Spec PyProof.Rows L2
section
variable {X : Cx} {CX : CXT} {k : Nat} {f C : Addr} {fd : FuncData} {ps : List Str} {sp : Sp} {E : L2.St → XK} {x : Str} {p pos : Pos} {e : Expr} {es : List Expr} {t : TA}
theorem run_makeE {pins : List (Addr × Obj)} {σ : L2.St} {H : Hp} {s : Shared} {Q : VK} {us : List Value} {vs : List V} (M : Mk X.K C f) (F : FnOk X.prog X.w X.K X.mg X.base CX k f fd ps sp) (hr : Room (k + 1) X.A) (hb : Binds X.K fd ps [])
    (hx : ∀ σ, PassesAt CX X σ (E σ)) (I : Inv X pins σ H s) (r : Vals vs us)
    (h : ∀ x dx, H x = none → H dx = none → dx ≠ x → sp (.ref x :: vs) (upd (upd H dx (.own x)) x (.ins C dx [])) (fun v H2 => v = .non ∧ Q (.ref x) H2) (E σ)) :
    wpAny (model X.prog X.w) X.A (call (.ref C) us) (EP X pins σ Q) X.xe s := by
  have hq := h (s.heap.objs.size + 1) s.heap.objs.size (I.hok.fresh (Nat.le_succ _)) (I.hok.fresh (Nat.le_refl _)) (Nat.ne_of_lt (Nat.lt_succ_self _))
  have I2 := Inv.made (C := C) I
  have r2 : Vals (V.ref (s.heap.objs.size + 1) :: vs) (Value.ref (s.heap.objs.size + 1) :: us) := .cons rfl r
  have hl : (Value.ref (s.heap.objs.size + 1) :: us).length = ps.length := by
    have e := r2.length
    rw [F.len _ _ _ _ hq] at e
    exact e.symm
  have hbb := hb _ (Value.ref (s.heap.objs.size + 1) :: us) I2.kIn (by rw [List.append_nil]; exact hl)
  rw [List.append_nil] at hbb
  refine wpAny_call (make_map (f := f) I.kIn M.makes M.init (beq_iff_eq.mp M.fn) (codeAny_mono (F.run _ X.stack _ _ ⟨Value.ref (s.heap.objs.size + 1) :: us, []⟩ (Value.ref (s.heap.objs.size + 1) :: us) _ _ (E σ) (hr.make C us [])
    (I2.env0.make C us []) hbb r2 hq) fun r s' hq' => ?_))
  cases r with
  | error e => exact hx σ pins _ _ e s' I2 hq'
  | ok fl =>
    cases fl with
    | ret u =>
      obtain ⟨v, H', I3, rv, ev, q3⟩ := I2.after hq'
      subst ev
      exact ⟨rv, ⟨V.ref (s.heap.objs.size + 1), H', I3, rfl, q3⟩⟩
    | next => exact False.elim hq'
    | brk => exact False.elim hq'
    | cont => exact False.elim hq'
theorem pe_makeE (M : Mk X.K C f) (F : FnOk X.prog X.w X.K X.mg X.base CX k f fd ps sp) (hr : Room (k + 1) X.A) (hg : Gl X x) (hm : X.mg x = some (.ref C)) (hb : Binds X.K fd ps []) (hx : ∀ σ, PassesAt CX X σ (E σ))
    (ha : PA X (e :: es) t) (hdb : (x == ("__debug__" : Str)) = false := by decide) (he : starEach (e :: es) X.env = (false, eval e X.env) :: starEach es X.env := by rfl) (hpl : (backTo pos (starEach es X.env)).any (·.1) = false := by rfl) :
    PE X (.Call (.Name x p) (e :: es) [] pos) (fun σ H Q => t σ H fun vs H1 => ∀ x dx, H1 x = none → H1 dx = none → dx ≠ x → sp (.ref x :: vs) (upd (upd H1 dx (.own x)) x (.ins C dx [])) (fun v H2 => v = .non ∧ Q (.ref x) H2) (E σ)) := by
  refine ⟨fun pins s σ H Q I h => ?_⟩
  refine wpAny_Call_Name_kw (ld_glob I hg hm ?_ hdb)
  refine PySem.W.callWith_K (h₀ := X.base) I.ok.mod.kin M.kp (thn (ha.run pos pins s σ H _ I h) fun us s1 hq => ?_) he hpl
  obtain ⟨vs, H1, I1, r, q⟩ := hq
  exact ⟨I1.kIn, run_makeE M F hr hb hx I1 r q⟩
end
/-- a class of the program that can be made -/
structure MkT (K : PySem.W.Frag) (mg : Str → Option Value) (P : Program) (w : World) (base : Heap) (z : Str) (C : Addr) (ps : List Str) (k : Nat) (Pre : Pr) : Prop where
  ex : ∃ f fd, FnOk P w K mg base (L2.CX P w) k f fd ps (spG Pre) ∧ Mk K C f ∧ mg z = some (.ref C) ∧ Binds K fd ps []
section
variable {Z : Ctx} {D : DE} {e o : Expr} {es : List Expr} {ρ : List Slot} {own oa ob : Own} {pos p p2 q apos cpos : Pos} {s : Slot} {k j : Nat} {ss : List Slot} {z : Str} {ps : List Str} {Pre : Pr} {R : Slot → Own → Prop} {C x dx : Addr} {fs : List (Str × V)} {ds : List PyData} {d : PyData}
theorem eg_make {post : Addr → Addr → Out → Prop} (M : MkT Z.X.K Z.X.mg Z.X.prog Z.X.w Z.X.base z C ps j Pre) (g : Gd Z k) (hj : j + 1 ≤ k) (ha : EA Z (e :: es) ρ own ss) (hp : ∀ x dx, Pre (.raw (.ref x) :: ss) [(x, .raw (.ins C dx [])), (dx, .raw (.own x))] (post x dx)) (h1 : ∀ x dx s o1, post x dx (.ret s o1) → s = .d .none ∧ R (.raw (.ref x)) (o1 ++ own)) (h2 : ∀ x dx C o1, post x dx (.exc C o1) → Z.ex C ρ (o1 ++ own))
    (hg : Gl Z.X z := by rfl) (hdb : (z == ("__debug__" : Str)) = false := by decide) (he : starEach (e :: es) Z.X.env = (false, eval e Z.X.env) :: starEach es Z.X.env := by rfl) (hpl : (backTo pos (starEach es Z.X.env)).any (·.1) = false := by rfl) :
    EG Z (.Call (.Name z p) (e :: es) [] pos) ρ own R := by
  obtain ⟨f, fd, ok, mk, hm, hb⟩ := M.ex
  refine fun Hf σ H S E Q q => wE.of (pe_makeE (E := WE (Wish Z)) mk ok (g.hr.mono hj) hg hm hb (fun σ => passAt g.tk σ) paW hdb he hpl) (ha Hf σ H S E _ fun vs Hf1 H1 m1 S1 r1 => ?_)
  intro x dx nx nd ne
  have S2 : Sat Z.B Hf1 _ ((dx, .raw (.own x)) :: own) := S1.newOwn (o := .own x) nd upd_same
  have S3 : Sat Z.B Hf1 _ ([] ++ [(x, .raw (.ins C dx [])), (dx, .raw (.own x))] ++ own) := S2.newOwn (p := x) (o := .ins C dx []) (oo := .raw (.ins C dx [])) (by rw [upd_ne (Ne.symm ne)]; exact nx) upd_same
  refine ⟨Hf1, _, .raw (.ref x) :: ss, _, post x dx, S3.into, .cons rfl r1, hp x dx, fun s own' v Hf' H' hq S' r' hs => ?_, fun C own' Hf' H' hq S' => ?_⟩
  · obtain ⟨rfl, hR⟩ := h1 x dx s own' hq
    cases (show Rep Hf' v .none from r')
    have S4 := S3.back S'
    exact ⟨rfl, q (.ref x) Hf' H' (.raw (.ref x)) _ (m1.trans S'.e0) S4 rfl (fun z => nomatch z) hR⟩
  · exact ⟨C, Hf', ρ, _, rfl, rfl, S3.back S', E.mono (m1.trans S'.e0), h2 x dx C own' hq⟩
end
/-! sorted(set(xs)) -/
section
variable {Z : Ctx} {e : Expr} {ρ : List Slot} {own : Own} {pos p p2 q : Pos} {s : Slot} {k : Nat}
end
/-! ### a class of the text as the top has left it -/
structure ClsT (K : PySem.W.Frag) (mg : Str → Option Value) (z : Str) (C : Addr) : Prop where
  cl : Cls K C
  mks : PySem.W.makesIn K C = true
  kp : PySem.W.keepIn K (.ref C) = true
  at_ : mg z = some (.ref C)
structure DfM (K : PySem.W.Frag) (C : Addr) (z qual : Str) (st : Stmt) (ps : List Str) : Prop where
  ex : ∃ f fd, Fun K z qual st f fd ∧ PySem.W.findIn K (.ref C) z = some (some (.ref f)) ∧ PySem.W.isFn K (.ref f) = true ∧ ∀ us : List Value, us.length = ps.length → bindArgs fd ⟨us, []⟩ = pure (ps.zip us)
theorem DfM.mkt {K : PySem.W.Frag} {mg : Str → Option Value} {P : Program} {w : World} {base : Heap} {C : Addr} {y qual : Str} {st : Stmt} {ps : List Str} {k : Nat} {Pre : Pr} (D : DfM K C "__init__" qual st ps) (c : ClsT K mg y C) (h : ∀ f fd, Fun K "__init__" qual st f fd → FnOk P w K mg base (L2.CX P w) k f fd ps (spG Pre)) : MkT K mg P w base y C ps k Pre := by
  obtain ⟨f, fd, F, hm, hf, hb⟩ := D.ex
  exact ⟨f, fd, h f fd F, ⟨c.mks, hm, hf, c.kp⟩, c.at_, Binds.all hb⟩
theorem dfm_mk {K : PySem.W.Frag} {C : Addr} {z qual : Str} {st : Stmt} {ps : List Str} {f : Addr} {oc : Value} {od an : Option Addr} {sl : Array (Option Value)} {kV dc pm cd ct : Value}
    (hb : ∀ (kV doc pm : Value) (an : Option Addr) (cdv ct : Value) (us : List Value), us.length = ps.length → bindArgs (PySem.W.fnOf z qual (defArgs st) (defBody st) (defScope st) .none kV doc pm an cdv ct) ⟨us, []⟩ = pure (ps.zip us))
    (a : PySem.W.findIn K (.ref C) z = some (some (.ref f))) (i : PySem.W.isFn K (.ref f) = true) (l : K.lookup f = some ⟨oc, od, .func (PySem.W.fnOf z qual (defArgs st) (defBody st) (defScope st) .none kV dc pm an cd ct), sl⟩) (c : PySem.W.codeIn K cd qual = true) (k : PySem.W.keepIn K (.ref f) = true) : DfM K C z qual st ps :=
  have F := fun_mk (st := st) l c k
  ⟨f, _, F, a, i, fun us hl => hb _ _ _ _ _ _ us hl⟩
theorem cls_mk {K : PySem.W.Frag} {mg : Str → Option Value} {h : Heap} {z : Str} {C : Addr} (X : K.In h) (G : h.Ns mainGlobals mg) (a : PySem.W.nsIn K mainGlobals z = some (some (.ref C))) (pg : PySem.W.plainGet K C Str.empty = true) (hd : PySem.W.hasDictIn K C = true) (po : PySem.W.plainOver K C = true)
    (sa : PySem.W.findIn K (.ref C) "__setattr__" = some (some (.builtin "object.__setattr__"))) (mk : PySem.W.makesIn K C = true) (kc : PySem.W.keepIn K (.ref C) = true) : ClsT K mg z C := ⟨⟨pg, hd, po, sa⟩, mk, kc, PySem.W.mg_of X G a⟩
end Sd


/-! plain defs (no defaults): what the binder makes, once for all -/
namespace Sd
open PySem PySem.Spec PyProof.Rows L2
def plainA (a : Arguments) (ps : List Str) : Bool := a.posonlyargs.isEmpty && (a.args.map (·.arg) == ps && (a.vararg.isNone && (a.kwonlyargs.isEmpty && (a.kwarg.isNone && decide ps.Nodup))))
theorem lookz_bind : ∀ {ps : List Str} {us : List Value}, us.length = ps.length → ∀ n ∈ ps, (List.lookup n (ps.zip us)).isSome = true
  | [], _, _, n, h => nomatch h
  | p :: ps, [], hl, _, _ => nomatch hl
  | p :: ps, u :: us, hl, n, h => by
    rw [List.zip_cons_cons, List.lookup_cons]
    split
    · rfl
    · rename_i hne
      rcases List.mem_cons.mp h with rfl | h
      · simp at hne
      · exact lookz_bind (by simpa using hl) n h
theorem fmc_bind {α β : Type} {f g : α → Option β} : ∀ {l : List α}, (∀ x ∈ l, f x = g x) → l.filterMap f = l.filterMap g
  | [], _ => rfl
  | x :: l, h => by rw [List.filterMap_cons, List.filterMap_cons, h x (.head _), fmc_bind fun y hy => h y (.tail _ hy)]
theorem mapz_bind : ∀ {ps : List Str} {us : List Value}, us.length = ps.length → ps.Nodup → ps.filterMap (fun n => (List.lookup n (ps.zip us)).map (Prod.mk n)) = ps.zip us
  | [], _, _, _ => rfl
  | p :: ps, [], hl, _ => nomatch hl
  | p :: ps, u :: us, hl, nd => by
    rw [List.nodup_cons] at nd
    rw [List.zip_cons_cons, List.filterMap_cons, List.lookup_cons]
    simp only [beq_self_eq_true, Option.map_some]
    congr 1
    refine Eq.trans ?_ (mapz_bind (ps := ps) (us := us) (by simpa using hl) nd.2)
    refine fmc_bind fun n hn => ?_
    rw [List.lookup_cons, beq_eq_false_iff_ne.mpr (show n ≠ p from fun e => nd.1 (by rw [← e]; exact hn))]
theorem bind_plain {fd : FuncData} {ps : List Str} {us : List Value} (h : plainA fd.params ps = true) (hd : fd.defaults = .none) (hl : us.length = ps.length) : bindArgs fd ⟨us, []⟩ = pure (ps.zip us) := by
  simp only [plainA, Bool.and_eq_true, List.isEmpty_iff, beq_iff_eq, Option.isNone_iff_eq_none, decide_eq_true_eq] at h
  obtain ⟨h1, h2, h3, h4, h5, nd⟩ := h
  have hm : (ps.filter fun n => (List.lookup n (ps.zip us)).isNone) = [] := List.filter_eq_nil_iff.mpr fun n hn => by
    have := lookz_bind hl n hn
    cases h : List.lookup n (ps.zip us) <;> simp_all
  have hz := mapz_bind hl nd
  have hq : seqItems? Value.none = pure none := rfl
  have hg : decide (us.length > ps.length) = false := decide_eq_false (by omega)
  unfold bindArgs
  simp only [h1, h2, h3, h4, h5, hd, hq, hg, List.map_nil, List.nil_append, List.append_nil, List.forIn_nil, pure_bind, Option.getD_none, List.drop_nil, List.length_nil, Nat.sub_zero, List.take_length, List.drop_length, List.zip_nil_right, hm, List.isEmpty_nil, Bool.not_true, Bool.false_and, Bool.false_eq_true, if_false]
  exact congrArg pure hz
theorem df_mk2 {K : PySem.W.Frag} {mg : Str → Option Value} {h : Heap} {z : Str} {st : Stmt} {ps : List Str} {f : Addr} {oc : Value} {od an : Option Addr} {sl : Array (Option Value)} {kV dc pm cd ct : Value} (X : K.In h) (G : h.Ns mainGlobals mg) (hb : plainA (defArgs st) ps = true)
    (a : PySem.W.nsIn K mainGlobals z = some (some (.ref f))) (l : K.lookup f = some ⟨oc, od, .func (PySem.W.fnOf z z (defArgs st) (defBody st) (defScope st) .none kV dc pm an cd ct), sl⟩) (c : PySem.W.codeIn K cd z = true) (k : PySem.W.keepIn K (.ref f) = true) : Df K mg z st ps :=
  df_mk X G (fun _ _ _ _ _ _ _ hl => bind_plain hb rfl hl) a l c k
end Sd


/-! sums, binomial laws -/
namespace Sd
def sumTo (f : Nat → Rat) : Nat → Rat
  | 0 => 0
  | n + 1 => sumTo f n + f n
end Sd


namespace Pg
open PySem PySem.Spec PyProof.Rows L2 Sd
def topS (i : Nat) : Stmt := PySem.Challenge.pw_samedays_k11_errors.main.body.getD i (.Pass ⟨0, 0, 0, 0⟩)
abbrev s_wall : Stmt := topS 0
theorem pa_wall : plainA (defArgs s_wall) ["k"] = true := by decide +kernel
abbrev s_is_int : Stmt := topS 10
theorem sc_is_int : FnScope ["value", "low", "high"] ["value", "low", "high"] (defScope s_is_int) := ⟨rfl, rfl, rfl, by decide +kernel, rfl, by decide +kernel, by decide +kernel⟩
theorem pa_is_int : plainA (defArgs s_is_int) ["value", "low", "high"] = true := by decide +kernel
abbrev s_common : Stmt := topS 11
theorem sc_common : FnScope ["one", "other"] ["one", "other"] (defScope s_common) := ⟨rfl, rfl, rfl, by decide +kernel, rfl, by decide +kernel, by decide +kernel⟩
theorem pa_common : plainA (defArgs s_common) ["one", "other"] = true := by decide +kernel
abbrev s_is_year : Stmt := topS 12
theorem sc_is_year : FnScope ["value", "one"] ["value"] (defScope s_is_year) := ⟨rfl, rfl, rfl, by decide +kernel, rfl, by decide +kernel, by decide +kernel⟩
theorem pa_is_year : plainA (defArgs s_is_year) ["value"] = true := by decide +kernel
abbrev s_is_share : Stmt := topS 13
theorem sc_is_share : FnScope ["value", "part"] ["value"] (defScope s_is_share) := ⟨rfl, rfl, rfl, by decide +kernel, rfl, by decide +kernel, by decide +kernel⟩
theorem pa_is_share : plainA (defArgs s_is_share) ["value"] = true := by decide +kernel
abbrev s_check_year : Stmt := topS 14
theorem sc_check_year : FnScope ["value"] ["value"] (defScope s_check_year) := ⟨rfl, rfl, rfl, by decide +kernel, rfl, by decide +kernel, by decide +kernel⟩
theorem pa_check_year : plainA (defArgs s_check_year) ["value"] = true := by decide +kernel
abbrev s_check_day : Stmt := topS 15
theorem sc_check_day : FnScope ["year", "value"] ["year", "value"] (defScope s_check_day) := ⟨rfl, rfl, rfl, by decide +kernel, rfl, by decide +kernel, by decide +kernel⟩
theorem pa_check_day : plainA (defArgs s_check_day) ["year", "value"] = true := by decide +kernel
abbrev s_check_many : Stmt := topS 16
theorem sc_check_many : FnScope ["value"] ["value"] (defScope s_check_many) := ⟨rfl, rfl, rfl, by decide +kernel, rfl, by decide +kernel, by decide +kernel⟩
theorem pa_check_many : plainA (defArgs s_check_many) ["value"] = true := by decide +kernel
abbrev s_check_share : Stmt := topS 17
theorem sc_check_share : FnScope ["value"] ["value"] (defScope s_check_share) := ⟨rfl, rfl, rfl, by decide +kernel, rfl, by decide +kernel, by decide +kernel⟩
theorem pa_check_share : plainA (defArgs s_check_share) ["value"] = true := by decide +kernel
abbrev s_lowest : Stmt := topS 19
theorem sc_lowest : FnScope ["top", "below", "divisor"] ["top", "below"] (defScope s_lowest) := ⟨rfl, rfl, rfl, by decide +kernel, rfl, by decide +kernel, by decide +kernel⟩
theorem pa_lowest : plainA (defArgs s_lowest) ["top", "below"] = true := by decide +kernel
abbrev s_plus : Stmt := topS 20
theorem sc_plus : FnScope ["one", "other"] ["one", "other"] (defScope s_plus) := ⟨rfl, rfl, rfl, by decide +kernel, rfl, by decide +kernel, by decide +kernel⟩
theorem pa_plus : plainA (defArgs s_plus) ["one", "other"] = true := by decide +kernel
abbrev s_minus : Stmt := topS 21
theorem sc_minus : FnScope ["one", "other"] ["one", "other"] (defScope s_minus) := ⟨rfl, rfl, rfl, by decide +kernel, rfl, by decide +kernel, by decide +kernel⟩
theorem pa_minus : plainA (defArgs s_minus) ["one", "other"] = true := by decide +kernel
abbrev s_at_most : Stmt := topS 22
theorem sc_at_most : FnScope ["one", "other"] ["one", "other"] (defScope s_at_most) := ⟨rfl, rfl, rfl, by decide +kernel, rfl, by decide +kernel, by decide +kernel⟩
theorem pa_at_most : plainA (defArgs s_at_most) ["one", "other"] = true := by decide +kernel
abbrev s_power : Stmt := topS 23
theorem sc_power : FnScope ["base", "exponent", "found", "turn"] ["base", "exponent"] (defScope s_power) := ⟨rfl, rfl, rfl, by decide +kernel, rfl, by decide +kernel, by decide +kernel⟩
theorem pa_power : plainA (defArgs s_power) ["base", "exponent"] = true := by decide +kernel
abbrev s_choose : Stmt := topS 24
theorem sc_choose : FnScope ["whole", "part", "found", "k"] ["whole", "part"] (defScope s_choose) := ⟨rfl, rfl, rfl, by decide +kernel, rfl, by decide +kernel, by decide +kernel⟩
theorem pa_choose : plainA (defArgs s_choose) ["whole", "part"] = true := by decide +kernel
abbrev s_ordered : Stmt := topS 25
theorem sc_ordered : FnScope ["many", "found", "k"] ["many"] (defScope s_ordered) := ⟨rfl, rfl, rfl, by decide +kernel, rfl, by decide +kernel, by decide +kernel⟩
theorem pa_ordered : plainA (defArgs s_ordered) ["many"] = true := by decide +kernel
abbrev s_product_sums : Stmt := topS 26
theorem sc_product_sums : FnScope ["year", "found", "weight", "longer", "k"] ["year"] (defScope s_product_sums) := ⟨rfl, rfl, rfl, by decide +kernel, rfl, by decide +kernel, by decide +kernel⟩
theorem pa_product_sums : plainA (defArgs s_product_sums) ["year"] = true := by decide +kernel
abbrev s_unlike_of : Stmt := topS 28
theorem sc_unlike_of : FnScope ["year", "many", "sums"] ["year", "many"] (defScope s_unlike_of) := ⟨rfl, rfl, rfl, by decide +kernel, rfl, by decide +kernel, by decide +kernel⟩
theorem pa_unlike_of : plainA (defArgs s_unlike_of) ["year", "many"] = true := by decide +kernel
abbrev s_all_unlike : Stmt := topS 29
theorem sc_all_unlike : FnScope ["year", "many"] ["year", "many"] (defScope s_all_unlike) := ⟨rfl, rfl, rfl, by decide +kernel, rfl, by decide +kernel, by decide +kernel⟩
theorem pa_all_unlike : plainA (defArgs s_all_unlike) ["year", "many"] = true := by decide +kernel
abbrev s_some_same : Stmt := topS 30
theorem sc_some_same : FnScope ["year", "many"] ["year", "many"] (defScope s_some_same) := ⟨rfl, rfl, rfl, by decide +kernel, rfl, by decide +kernel, by decide +kernel⟩
theorem pa_some_same : plainA (defArgs s_some_same) ["year", "many"] = true := by decide +kernel
abbrev s_first_same_at : Stmt := topS 31
theorem sc_first_same_at : FnScope ["year", "many"] ["year", "many"] (defScope s_first_same_at) := ⟨rfl, rfl, rfl, by decide +kernel, rfl, by decide +kernel, by decide +kernel⟩
theorem pa_first_same_at : plainA (defArgs s_first_same_at) ["year", "many"] = true := by decide +kernel
abbrev s_mean_until_same : Stmt := topS 32
theorem sc_mean_until_same : FnScope ["year", "found", "many"] ["year"] (defScope s_mean_until_same) := ⟨rfl, rfl, rfl, by decide +kernel, rfl, by decide +kernel, by decide +kernel⟩
theorem pa_mean_until_same : plainA (defArgs s_mean_until_same) ["year"] = true := by decide +kernel
abbrev s_needed : Stmt := topS 33
theorem sc_needed : FnScope ["year", "share", "many"] ["year", "share"] (defScope s_needed) := ⟨rfl, rfl, rfl, by decide +kernel, rfl, by decide +kernel, by decide +kernel⟩
theorem pa_needed : plainA (defArgs s_needed) ["year", "share"] = true := by decide +kernel
abbrev s_same_table : Stmt := topS 34
theorem sc_same_table : FnScope ["year", "many"] ["year"] (defScope s_same_table) := ⟨rfl, rfl, rfl, by decide +kernel, rfl, by decide +kernel, by decide +kernel⟩
theorem pa_same_table : plainA (defArgs s_same_table) ["year"] = true := by decide +kernel
abbrev s_crowd_of : Stmt := topS 36
theorem sc_crowd_of : FnScope ["year", "many", "crowd", "ways", "weight", "fresh", "whole", "own"] ["year", "many", "crowd"] (defScope s_crowd_of) := ⟨rfl, rfl, rfl, by decide +kernel, rfl, by decide +kernel, by decide +kernel⟩
theorem pa_crowd_of : plainA (defArgs s_crowd_of) ["year", "many", "crowd"] = true := by decide +kernel
abbrev s_crowd_at_most : Stmt := topS 37
theorem sc_crowd_at_most : FnScope ["year", "many", "crowd"] ["year", "many", "crowd"] (defScope s_crowd_at_most) := ⟨rfl, rfl, rfl, by decide +kernel, rfl, by decide +kernel, by decide +kernel⟩
theorem pa_crowd_at_most : plainA (defArgs s_crowd_at_most) ["year", "many", "crowd"] = true := by decide +kernel
abbrev s_crowds : Stmt := topS 38
theorem sc_crowds : FnScope ["year", "many", "lows", "found", "before", "now", "crowd"] ["year", "many"] (defScope s_crowds) := ⟨rfl, rfl, rfl, by decide +kernel, rfl, by decide +kernel, by decide +kernel⟩
theorem pa_crowds : plainA (defArgs s_crowds) ["year", "many"] = true := by decide +kernel
abbrev s_pair_ways : Stmt := topS 39
theorem sc_pair_ways : FnScope ["year", "many", "known", "weight", "fresh", "whole", "pairs", "ways", "own", "key"] ["year", "many"] (defScope s_pair_ways) := ⟨rfl, rfl, rfl, by decide +kernel, rfl, by decide +kernel, by decide +kernel⟩
theorem pa_pair_ways : plainA (defArgs s_pair_ways) ["year", "many"] = true := by decide +kernel
abbrev s_pair_chances : Stmt := topS 40
theorem sc_pair_chances : FnScope ["year", "many", "whole", "pairs", "ways"] ["year", "many"] (defScope s_pair_chances) := ⟨rfl, rfl, rfl, by decide +kernel, rfl, by decide +kernel, by decide +kernel⟩
theorem pa_pair_chances : plainA (defArgs s_pair_chances) ["year", "many"] = true := by decide +kernel
abbrev s_mean_pairs : Stmt := topS 41
theorem sc_mean_pairs : FnScope ["year", "many", "squares", "weight"] ["year", "many"] (defScope s_mean_pairs) := ⟨rfl, rfl, rfl, by decide +kernel, rfl, by decide +kernel, by decide +kernel⟩
theorem pa_mean_pairs : plainA (defArgs s_mean_pairs) ["year", "many"] = true := by decide +kernel
abbrev s_likeliest_pairs : Stmt := topS 42
theorem sc_likeliest_pairs : FnScope ["year", "many", "rows", "best", "pairs", "ways"] ["year", "many"] (defScope s_likeliest_pairs) := ⟨rfl, rfl, rfl, by decide +kernel, rfl, by decide +kernel, by decide +kernel⟩
theorem pa_likeliest_pairs : plainA (defArgs s_likeliest_pairs) ["year", "many"] = true := by decide +kernel
abbrev s_used_ways : Stmt := topS 44
theorem sc_used_ways : FnScope ["year", "many", "table", "weight", "fresh", "days", "row", "whole", "ways", "own", "k"] ["year", "many"] (defScope s_used_ways) := ⟨rfl, rfl, rfl, by decide +kernel, rfl, by decide +kernel, by decide +kernel⟩
theorem pa_used_ways : plainA (defArgs s_used_ways) ["year", "many"] = true := by decide +kernel
abbrev s_used_chances : Stmt := topS 45
theorem sc_used_chances : FnScope ["year", "many", "ways"] ["year", "many"] (defScope s_used_chances) := ⟨rfl, rfl, rfl, by decide +kernel, rfl, by decide +kernel, by decide +kernel⟩
theorem pa_used_chances : plainA (defArgs s_used_chances) ["year", "many"] = true := by decide +kernel
abbrev s_mean_used : Stmt := topS 46
theorem sc_mean_used : FnScope ["year", "many", "found", "whole", "weight"] ["year", "many"] (defScope s_mean_used) := ⟨rfl, rfl, rfl, by decide +kernel, rfl, by decide +kernel, by decide +kernel⟩
theorem pa_mean_used : plainA (defArgs s_mean_used) ["year", "many"] = true := by decide +kernel
abbrev s_all_used_of : Stmt := topS 47
theorem sc_all_used_of : FnScope ["year", "many"] ["year", "many"] (defScope s_all_used_of) := ⟨rfl, rfl, rfl, by decide +kernel, rfl, by decide +kernel, by decide +kernel⟩
theorem pa_all_used_of : plainA (defArgs s_all_used_of) ["year", "many"] = true := by decide +kernel
abbrev s_all_used : Stmt := topS 48
theorem sc_all_used : FnScope ["year", "many"] ["year", "many"] (defScope s_all_used) := ⟨rfl, rfl, rfl, by decide +kernel, rfl, by decide +kernel, by decide +kernel⟩
theorem pa_all_used : plainA (defArgs s_all_used) ["year", "many"] = true := by decide +kernel
abbrev s_all_used_at : Stmt := topS 49
theorem sc_all_used_at : FnScope ["year", "many"] ["year", "many"] (defScope s_all_used_at) := ⟨rfl, rfl, rfl, by decide +kernel, rfl, by decide +kernel, by decide +kernel⟩
theorem pa_all_used_at : plainA (defArgs s_all_used_at) ["year", "many"] = true := by decide +kernel
abbrev s_mean_until_all : Stmt := topS 50
theorem sc_mean_until_all : FnScope ["year", "found", "whole", "sets", "weight", "one", "sign"] ["year"] (defScope s_mean_until_all) := ⟨rfl, rfl, rfl, by decide +kernel, rfl, by decide +kernel, by decide +kernel⟩
theorem pa_mean_until_all : plainA (defArgs s_mean_until_all) ["year"] = true := by decide +kernel
abbrev s_needed_for_all : Stmt := topS 51
theorem sc_needed_for_all : FnScope ["year", "share", "many"] ["year", "share"] (defScope s_needed_for_all) := ⟨rfl, rfl, rfl, by decide +kernel, rfl, by decide +kernel, by decide +kernel⟩
theorem pa_needed_for_all : plainA (defArgs s_needed_for_all) ["year", "share"] = true := by decide +kernel
abbrev s_new_day_at : Stmt := topS 52
theorem sc_new_day_at : FnScope ["year", "many", "found", "whole", "weight"] ["year", "many"] (defScope s_new_day_at) := ⟨rfl, rfl, rfl, by decide +kernel, rfl, by decide +kernel, by decide +kernel⟩
theorem pa_new_day_at : plainA (defArgs s_new_day_at) ["year", "many"] = true := by decide +kernel
abbrev s_share_of : Stmt := topS 54
theorem sc_share_of : FnScope ["year", "day"] ["year", "day"] (defScope s_share_of) := ⟨rfl, rfl, rfl, by decide +kernel, rfl, by decide +kernel, by decide +kernel⟩
theorem pa_share_of : plainA (defArgs s_share_of) ["year", "day"] = true := by decide +kernel
abbrev s_on_day : Stmt := topS 55
theorem sc_on_day : FnScope ["year", "day", "many"] ["year", "day", "many"] (defScope s_on_day) := ⟨rfl, rfl, rfl, by decide +kernel, rfl, by decide +kernel, by decide +kernel⟩
theorem pa_on_day : plainA (defArgs s_on_day) ["year", "day", "many"] = true := by decide +kernel
abbrev s_just_on_day : Stmt := topS 56
theorem sc_just_on_day : FnScope ["year", "day", "many", "own", "ways"] ["year", "day", "many", "own"] (defScope s_just_on_day) := ⟨rfl, rfl, rfl, by decide +kernel, rfl, by decide +kernel, by decide +kernel⟩
theorem pa_just_on_day : plainA (defArgs s_just_on_day) ["year", "day", "many", "own"] = true := by decide +kernel
abbrev s_likeliest_days : Stmt := topS 57
theorem sc_likeliest_days : FnScope ["year", "day", "weight"] ["year"] (defScope s_likeliest_days) := ⟨rfl, rfl, rfl, by decide +kernel, rfl, by decide +kernel, by decide +kernel⟩
theorem pa_likeliest_days : plainA (defArgs s_likeliest_days) ["year"] = true := by decide +kernel
abbrev s_shares_of : Stmt := topS 59
theorem sc_shares_of : FnScope ["year", "weight"] ["year"] (defScope s_shares_of) := ⟨rfl, rfl, rfl, by decide +kernel, rfl, by decide +kernel, by decide +kernel⟩
theorem pa_shares_of : plainA (defArgs s_shares_of) ["year"] = true := by decide +kernel
abbrev s_look_alike : Stmt := topS 60
theorem sc_look_alike : FnScope ["one", "other"] ["one", "other"] (defScope s_look_alike) := ⟨rfl, rfl, rfl, by decide +kernel, rfl, by decide +kernel, by decide +kernel⟩
theorem pa_look_alike : plainA (defArgs s_look_alike) ["one", "other"] = true := by decide +kernel
abbrev s_first_unlike : Stmt := topS 61
theorem sc_first_unlike : FnScope ["one", "other", "many"] ["one", "other"] (defScope s_first_unlike) := ⟨rfl, rfl, rfl, by decide +kernel, rfl, by decide +kernel, by decide +kernel⟩
theorem pa_first_unlike : plainA (defArgs s_first_unlike) ["one", "other"] = true := by decide +kernel
abbrev s_more_same : Stmt := topS 62
theorem sc_more_same : FnScope ["one", "other", "many", "first", "last"] ["one", "other", "many"] (defScope s_more_same) := ⟨rfl, rfl, rfl, by decide +kernel, rfl, by decide +kernel, by decide +kernel⟩
theorem pa_more_same : plainA (defArgs s_more_same) ["one", "other", "many"] = true := by decide +kernel
abbrev s_evened : Stmt := topS 63
theorem sc_evened : FnScope ["year", "one", "other", "found", "high", "low"] ["year", "one", "other"] (defScope s_evened) := ⟨rfl, rfl, rfl, by decide +kernel, rfl, by decide +kernel, by decide +kernel⟩
theorem pa_evened : plainA (defArgs s_evened) ["year", "one", "other"] = true := by decide +kernel
abbrev s_evenest : Stmt := topS 64
theorem sc_evenest : FnScope ["year", "low", "more"] ["year"] (defScope s_evenest) := ⟨rfl, rfl, rfl, by decide +kernel, rfl, by decide +kernel, by decide +kernel⟩
theorem pa_evenest : plainA (defArgs s_evenest) ["year"] = true := by decide +kernel
abbrev s_is_even : Stmt := topS 65
theorem sc_is_even : FnScope ["year"] ["year"] (defScope s_is_even) := ⟨rfl, rfl, rfl, by decide +kernel, rfl, by decide +kernel, by decide +kernel⟩
theorem pa_is_even : plainA (defArgs s_is_even) ["year"] = true := by decide +kernel
abbrev s_root_of : Stmt := topS 67
theorem pa_root_of : plainA (defArgs s_root_of) ["number"] = true := by decide +kernel
abbrev s_two_days : Stmt := topS 68
theorem sc_two_days : FnScope ["chance", "top", "below", "whole", "first", "last", "high", "low", "pair"] ["chance"] (defScope s_two_days) := ⟨rfl, rfl, rfl, by decide +kernel, rfl, by decide +kernel, by decide +kernel⟩
theorem pa_two_days : plainA (defArgs s_two_days) ["chance"] = true := by decide +kernel
abbrev s_equal_days : Stmt := topS 69
theorem sc_equal_days : FnScope ["chance"] ["chance"] (defScope s_equal_days) := ⟨rfl, rfl, rfl, by decide +kernel, rfl, by decide +kernel, by decide +kernel⟩
theorem pa_equal_days : plainA (defArgs s_equal_days) ["chance"] = true := by decide +kernel
abbrev s_checked : Stmt := topS 71
theorem sc_checked : FnScope ["year"] ["year"] (defScope s_checked) := ⟨rfl, rfl, rfl, by decide +kernel, rfl, by decide +kernel, by decide +kernel⟩
theorem pa_checked : plainA (defArgs s_checked) ["year"] = true := by decide +kernel
abbrev s_put_together : Stmt := topS 72
theorem sc_put_together : FnScope ["year", "one", "other", "found"] ["year", "one", "other"] (defScope s_put_together) := ⟨rfl, rfl, rfl, by decide +kernel, rfl, by decide +kernel, by decide +kernel⟩
theorem pa_put_together : plainA (defArgs s_put_together) ["year", "one", "other"] = true := by decide +kernel
abbrev s_without_day : Stmt := topS 73
theorem sc_without_day : FnScope ["year", "day"] ["year", "day"] (defScope s_without_day) := ⟨rfl, rfl, rfl, by decide +kernel, rfl, by decide +kernel, by decide +kernel⟩
theorem pa_without_day : plainA (defArgs s_without_day) ["year", "day"] = true := by decide +kernel
abbrev s_plain : Stmt := topS 74
theorem sc_plain : FnScope ["year", "divisor", "weight"] ["year"] (defScope s_plain) := ⟨rfl, rfl, rfl, by decide +kernel, rfl, by decide +kernel, by decide +kernel⟩
theorem pa_plain : plainA (defArgs s_plain) ["year"] = true := by decide +kernel
abbrev s_Calendar_init : Stmt := inClass (topS 76) 0
theorem sc_Calendar_init : FnScope ["self", "year"] ["self", "year"] (defScope s_Calendar_init) := ⟨rfl, rfl, rfl, by decide +kernel, rfl, by decide +kernel, by decide +kernel⟩
abbrev s_Calendar_put : Stmt := inClass (topS 76) 1
abbrev s_Calendar_counts : Stmt := inClass (topS 76) 2
abbrev s_Calendar_pairs : Stmt := inClass (topS 76) 3
abbrev s_Calendar_next_same : Stmt := inClass (topS 76) 4
abbrev s_Calendar_days : Stmt := inClass (topS 76) 5
abbrev s_Calendar_undo : Stmt := inClass (topS 76) 6
abbrev s_Calendar_len : Stmt := inClass (topS 76) 7
abbrev s_format_year : Stmt := topS 78
theorem sc_format_year : FnScope ["year", "weight"] ["year"] (defScope s_format_year) := ⟨rfl, rfl, rfl, by decide +kernel, rfl, by decide +kernel, by decide +kernel⟩
theorem pa_format_year : plainA (defArgs s_format_year) ["year"] = true := by decide +kernel
abbrev s_law_start : Stmt := topS 80
theorem sc_law_start : FnScope ["script"] ["script"] (defScope s_law_start) := ⟨rfl, rfl, rfl, by decide +kernel, rfl, by decide +kernel, by decide +kernel⟩
theorem pa_law_start : plainA (defArgs s_law_start) ["script"] = true := by decide +kernel
abbrev s_law_draw : Stmt := topS 81
theorem sc_law_draw : FnScope ["draws", "limit", "numbers", "at", "cell", "mixed"] ["draws", "limit"] (defScope s_law_draw) := ⟨rfl, rfl, rfl, by decide +kernel, rfl, by decide +kernel, by decide +kernel⟩
theorem pa_law_draw : plainA (defArgs s_law_draw) ["draws", "limit"] = true := by decide +kernel
abbrev s_law_pick : Stmt := topS 82
theorem sc_law_pick : FnScope ["draws", "choices"] ["draws", "choices"] (defScope s_law_pick) := ⟨rfl, rfl, rfl, by decide +kernel, rfl, by decide +kernel, by decide +kernel⟩
theorem pa_law_pick : plainA (defArgs s_law_pick) ["draws", "choices"] = true := by decide +kernel
abbrev s_law_error : Stmt := topS 83
theorem sc_law_error : FnScope ["caught", "kinds"] ["caught"] (defScope s_law_error) := ⟨rfl, rfl, rfl, by decide +kernel, rfl, by decide +kernel, by decide +kernel⟩
theorem pa_law_error : plainA (defArgs s_law_error) ["caught"] = true := by decide +kernel
abbrev s_law_year : Stmt := topS 84
theorem sc_law_year : FnScope ["draws", "most", "wide", "k"] ["draws", "most"] (defScope s_law_year) := ⟨rfl, rfl, rfl, by decide +kernel, rfl, by decide +kernel, by decide +kernel⟩
theorem pa_law_year : plainA (defArgs s_law_year) ["draws", "most"] = true := by decide +kernel
abbrev s_law_one : Stmt := topS 85
theorem sc_law_one : FnScope ["which", "year"] ["which", "year"] (defScope s_law_one) := ⟨rfl, rfl, rfl, by decide +kernel, rfl, by decide +kernel, by decide +kernel⟩
theorem pa_law_one : plainA (defArgs s_law_one) ["which", "year"] = true := by decide +kernel
abbrev s_law_numbered : Stmt := topS 86
theorem sc_law_numbered : FnScope ["which", "year", "many"] ["which", "year", "many"] (defScope s_law_numbered) := ⟨rfl, rfl, rfl, by decide +kernel, rfl, by decide +kernel, by decide +kernel⟩
theorem pa_law_numbered : plainA (defArgs s_law_numbered) ["which", "year", "many"] = true := by decide +kernel
abbrev s_law_dayed : Stmt := topS 87
theorem sc_law_dayed : FnScope ["which", "year", "day"] ["which", "year", "day"] (defScope s_law_dayed) := ⟨rfl, rfl, rfl, by decide +kernel, rfl, by decide +kernel, by decide +kernel⟩
theorem pa_law_dayed : plainA (defArgs s_law_dayed) ["which", "year", "day"] = true := by decide +kernel
abbrev s_law_asked : Stmt := topS 88
theorem sc_law_asked : FnScope ["group", "which", "year", "thing", "caught", "e"] ["group", "which", "year", "thing"] (defScope s_law_asked) := ⟨rfl, rfl, rfl, by decide +kernel, rfl, by decide +kernel, by decide +kernel⟩
theorem pa_law_asked : plainA (defArgs s_law_asked) ["group", "which", "year", "thing"] = true := by decide +kernel
abbrev s_law_shares : Stmt := topS 89
theorem sc_law_shares : FnScope ["year", "bad", "told", "which", "caught", "e"] ["year"] (defScope s_law_shares) := ⟨rfl, rfl, rfl, by decide +kernel, rfl, by decide +kernel, by decide +kernel⟩
theorem pa_law_shares : plainA (defArgs s_law_shares) ["year"] = true := by decide +kernel
abbrev s_law : Stmt := topS 90
theorem sc_law : FnScope ["script", "draws", "bad", "year", "k"] ["script"] (defScope s_law) := ⟨rfl, rfl, rfl, by decide +kernel, rfl, by decide +kernel, by decide +kernel⟩
theorem pa_law : plainA (defArgs s_law) ["script"] = true := by decide +kernel
structure Tx (K : PySem.W.Frag) (mg : Str → Option Value) (c : Cl) : Prop where
  d_wall : Df K mg "_wall" s_wall ["k"]
  e_DayError : ErrC K mg "DayError" c.DayError
  e_BadYear : ErrC K mg "BadYear" c.BadYear
  e_BadDay : ErrC K mg "BadDay" c.BadDay
  e_BadNumber : ErrC K mg "BadNumber" c.BadNumber
  e_BadShare : ErrC K mg "BadShare" c.BadShare
  e_BadText : ErrC K mg "BadText" c.BadText
  e_NotFound : ErrC K mg "NotFound" c.NotFound
  k_MOST_THINGS : ∃ t, mg "MOST_THINGS" = some (.int 12 t)
  d_is_int : Df K mg "is_int" s_is_int ["value", "low", "high"]
  d_common : Df K mg "common" s_common ["one", "other"]
  d_is_year : Df K mg "is_year" s_is_year ["value"]
  d_is_share : Df K mg "is_share" s_is_share ["value"]
  d_check_year : Df K mg "check_year" s_check_year ["value"]
  d_check_day : Df K mg "check_day" s_check_day ["year", "value"]
  d_check_many : Df K mg "check_many" s_check_many ["value"]
  d_check_share : Df K mg "check_share" s_check_share ["value"]
  d_lowest : Df K mg "lowest" s_lowest ["top", "below"]
  d_plus : Df K mg "plus" s_plus ["one", "other"]
  d_minus : Df K mg "minus" s_minus ["one", "other"]
  d_at_most : Df K mg "at_most" s_at_most ["one", "other"]
  d_power : Df K mg "power" s_power ["base", "exponent"]
  d_choose : Df K mg "choose" s_choose ["whole", "part"]
  d_ordered : Df K mg "ordered" s_ordered ["many"]
  d_product_sums : Df K mg "product_sums" s_product_sums ["year"]
  d_unlike_of : Df K mg "unlike_of" s_unlike_of ["year", "many"]
  d_all_unlike : Df K mg "all_unlike" s_all_unlike ["year", "many"]
  d_some_same : Df K mg "some_same" s_some_same ["year", "many"]
  d_first_same_at : Df K mg "first_same_at" s_first_same_at ["year", "many"]
  d_mean_until_same : Df K mg "mean_until_same" s_mean_until_same ["year"]
  d_needed : Df K mg "needed" s_needed ["year", "share"]
  d_same_table : Df K mg "same_table" s_same_table ["year"]
  d_crowd_of : Df K mg "crowd_of" s_crowd_of ["year", "many", "crowd"]
  d_crowd_at_most : Df K mg "crowd_at_most" s_crowd_at_most ["year", "many", "crowd"]
  d_crowds : Df K mg "crowds" s_crowds ["year", "many"]
  d_pair_ways : Df K mg "pair_ways" s_pair_ways ["year", "many"]
  d_pair_chances : Df K mg "pair_chances" s_pair_chances ["year", "many"]
  d_mean_pairs : Df K mg "mean_pairs" s_mean_pairs ["year", "many"]
  d_likeliest_pairs : Df K mg "likeliest_pairs" s_likeliest_pairs ["year", "many"]
  d_used_ways : Df K mg "used_ways" s_used_ways ["year", "many"]
  d_used_chances : Df K mg "used_chances" s_used_chances ["year", "many"]
  d_mean_used : Df K mg "mean_used" s_mean_used ["year", "many"]
  d_all_used_of : Df K mg "all_used_of" s_all_used_of ["year", "many"]
  d_all_used : Df K mg "all_used" s_all_used ["year", "many"]
  d_all_used_at : Df K mg "all_used_at" s_all_used_at ["year", "many"]
  d_mean_until_all : Df K mg "mean_until_all" s_mean_until_all ["year"]
  d_needed_for_all : Df K mg "needed_for_all" s_needed_for_all ["year", "share"]
  d_new_day_at : Df K mg "new_day_at" s_new_day_at ["year", "many"]
  d_share_of : Df K mg "share_of" s_share_of ["year", "day"]
  d_on_day : Df K mg "on_day" s_on_day ["year", "day", "many"]
  d_just_on_day : Df K mg "just_on_day" s_just_on_day ["year", "day", "many", "own"]
  d_likeliest_days : Df K mg "likeliest_days" s_likeliest_days ["year"]
  d_shares_of : Df K mg "shares_of" s_shares_of ["year"]
  d_look_alike : Df K mg "look_alike" s_look_alike ["one", "other"]
  d_first_unlike : Df K mg "first_unlike" s_first_unlike ["one", "other"]
  d_more_same : Df K mg "more_same" s_more_same ["one", "other", "many"]
  d_evened : Df K mg "evened" s_evened ["year", "one", "other"]
  d_evenest : Df K mg "evenest" s_evenest ["year"]
  d_is_even : Df K mg "is_even" s_is_even ["year"]
  d_root_of : Df K mg "root_of" s_root_of ["number"]
  d_two_days : Df K mg "two_days" s_two_days ["chance"]
  d_equal_days : Df K mg "equal_days" s_equal_days ["chance"]
  d_checked : Df K mg "checked" s_checked ["year"]
  d_put_together : Df K mg "put_together" s_put_together ["year", "one", "other"]
  d_without_day : Df K mg "without_day" s_without_day ["year", "day"]
  d_plain : Df K mg "plain" s_plain ["year"]
  o_Calendar : ClsT K mg "Calendar" c.Calendar
  o_year : NoAttr K c.Calendar "year"
  o_line : NoAttr K c.Calendar "line"
  m_init : DfM K c.Calendar "__init__" "Calendar.__init__" s_Calendar_init ["self", "year"]
  m_put : DfM K c.Calendar "put" "Calendar.put" s_Calendar_put ["self", "day"]
  m_counts : DfM K c.Calendar "counts" "Calendar.counts" s_Calendar_counts ["self"]
  m_pairs : DfM K c.Calendar "pairs" "Calendar.pairs" s_Calendar_pairs ["self"]
  m_next_same : DfM K c.Calendar "next_same" "Calendar.next_same" s_Calendar_next_same ["self"]
  m_days : DfM K c.Calendar "days" "Calendar.days" s_Calendar_days ["self"]
  m_undo : DfM K c.Calendar "undo" "Calendar.undo" s_Calendar_undo ["self"]
  m_len : DfM K c.Calendar "__len__" "Calendar.__len__" s_Calendar_len ["self"]
  d_format_year : Df K mg "format_year" s_format_year ["year"]
  d_law_start : Df K mg "_law_start" s_law_start ["script"]
  d_law_draw : Df K mg "_law_draw" s_law_draw ["draws", "limit"]
  d_law_pick : Df K mg "_law_pick" s_law_pick ["draws", "choices"]
  d_law_error : Df K mg "_law_error" s_law_error ["caught"]
  d_law_year : Df K mg "_law_year" s_law_year ["draws", "most"]
  d_law_one : Df K mg "_law_one" s_law_one ["which", "year"]
  d_law_numbered : Df K mg "_law_numbered" s_law_numbered ["which", "year", "many"]
  d_law_dayed : Df K mg "_law_dayed" s_law_dayed ["which", "year", "day"]
  d_law_asked : Df K mg "_law_asked" s_law_asked ["group", "which", "year", "thing"]
  d_law_shares : Df K mg "_law_shares" s_law_shares ["year"]
  d_law : Df K mg "law" s_law ["script"]
  q_BadYear : ErrK K c.BadYear c.BadYear c.BadDay c.BadNumber c.BadShare c.BadText c.NotFound c.DayError true false false false false false
  q_BadDay : ErrK K c.BadDay c.BadYear c.BadDay c.BadNumber c.BadShare c.BadText c.NotFound c.DayError false true false false false false
  q_BadNumber : ErrK K c.BadNumber c.BadYear c.BadDay c.BadNumber c.BadShare c.BadText c.NotFound c.DayError false false true false false false
  q_BadShare : ErrK K c.BadShare c.BadYear c.BadDay c.BadNumber c.BadShare c.BadText c.NotFound c.DayError false false false true false false
  q_BadText : ErrK K c.BadText c.BadYear c.BadDay c.BadNumber c.BadShare c.BadText c.NotFound c.DayError false false false false true false
  q_NotFound : ErrK K c.NotFound c.BadYear c.BadDay c.BadNumber c.BadShare c.BadText c.NotFound c.DayError false false false false false true
  n_isinstance : mg "isinstance" = none
  n_int : mg "int" = none
  n_bool : mg "bool" = none
  n_all : mg "all" = none
  n_list : mg "list" = none
  n_len : mg "len" = none
  n_tuple : mg "tuple" = none
  n_abs : mg "abs" = none
  n_range : mg "range" = none
  n_sum : mg "sum" = none
  n_min : mg "min" = none
  n_zip : mg "zip" = none
  n_sorted : mg "sorted" = none
  n_max : mg "max" = none
  n_enumerate : mg "enumerate" = none
  n_set : mg "set" = none
  n_str : mg "str" = none
  n_ValueError : mg "ValueError" = none
end Pg

namespace Pg
open PySem PySem.Spec PyProof.Rows L2 Sd
section
variable {P : Program} {w : World} {K : PySem.W.Frag} {mg : Str → Option Value} {base : Heap} {c : Cl}
def pre_is_int : Pr := fun ss own post => ∃ x lo hi, ss = [.d x, .d (.int lo), .d (.int hi)] ∧ own = [] ∧ post = fun o => o = .ret (.d (.bool (isInt x lo hi))) []
theorem fn_is_int (T : Tx K mg c) : Fn K mg P w base "is_int" ["value", "low", "high"] 1 pre_is_int := T.d_is_int.fn fun f fd F => okG (k := 0) F sc_is_int (by rintro ss own post ⟨x, lo, hi, rfl, _⟩; rfl) (by
  rintro ss own post ⟨x, lo, hi, rfl, rfl, rfl⟩ cdv A outer s H E B g
  refine sds_nd 0 rfl fun hx => ?_
  have hx := hx.1
  refine sds_one (sd_retD (x := .bool (isInt x lo hi)) (ES.is (ed_and (l := isInt x lo hi) (ed_isi (x := x) (l := (kitB (tyD x) "int").getD false) T.n_isinstance (ed_v 0) .d (ev_ty (T := "int") rfl T.n_int (by decide +kernel)) ?_) fun hk => ?_) ?_) rfl)
  · cases x <;> first | rfl | exact absurd rfl (hx _)
  · refine ES.is (ed_and (l := isInt x lo hi) (ed_not (ed_isi (x := x) (l := (kitB (tyD x) "bool").getD false) T.n_isinstance (ed_v 0) .d (ev_ty (T := "bool") rfl T.n_bool (by decide +kernel)) ?_)) fun hk2 => ed_one ?_) ?_
    · cases x <;> first | rfl | exact absurd rfl (hx _)
    · cases x with
      | int i => exact ed_chain c_le c_le (ed_v 1) (ed_v 0) (ed_v 2)
      | bool b => exact nomatch (show false = true from hk2)
      | none => exact nomatch (show false = true from hk)
      | str z => exact nomatch (show false = true from hk)
      | list z => exact nomatch (show false = true from hk)
      | tuple z => exact nomatch (show false = true from hk)
      | dict z => exact absurd rfl (hx z)
    · cases x <;> first | rfl | exact nomatch (show false = true from hk) | exact absurd rfl (hx _)
  · cases x <;> first | rfl | exact absurd rfl (hx _))
end
end Pg

namespace Pg
open PySem PySem.Spec PyProof.Rows L2 Sd
section
variable {P : Program} {w : World} {K : PySem.W.Frag} {mg : Str → Option Value} {base : Heap} {c : Cl}
def pre_is_year : Pr := fun ss own post => ∃ x, ss = [.d x] ∧ own = [] ∧ post = fun o => o = .ret (.d (.bool (isYear x))) []
theorem fn_is_year (T : Tx K mg c) : Fn K mg P w base "is_year" ["value"] 2 pre_is_year := T.d_is_year.fn fun f fd F => okG (k := 1) F sc_is_year (by rintro ss own post ⟨x, rfl, _⟩; rfl) (by
  rintro ss own post ⟨x, rfl, rfl, rfl⟩ cdv A outer s H E B g
  refine sds_nd 0 rfl fun hx => ?_
  have hx := hx.1
  by_cases hl : ∃ ds, x = .list ds
  · obtain ⟨ds, rfl⟩ := hl
    refine sds_cons (sd_if (l := !(decide (1 ≤ (ds.length : Int)) && decide ((ds.length : Int) ≤ 8))) (ET.is (EW.et (ew_or (et_not (et_val (ed_isi (x := .list ds) (l := true) T.n_isinstance (ed_v 0) .d (ev_ty (T := "list") rfl T.n_list (by decide +kernel)) rfl))) fun _ => ew_or1 (et_not (et_chain c_le c_le ed_int (ed_len T.n_len (ed_v 0) .d) ed_int)))) (by simp)) (fun h => ?_) fun h => ?_)
    · refine sds_one (sd_retD ed_bl ?_)
      have : isYear (.list ds) = false := by
        unfold isYear
        simp only [Bool.not_eq_true', Bool.and_eq_false_iff] at h ⊢
        exact .inl h
      rw [this]
    · have h : (decide (1 ≤ (ds.length : Int)) && decide ((ds.length : Int) ≤ 8)) = true := by simpa using h
      have hlen : ds.length ≤ 8 := by simp at h; omega
      refine sds_nil (sds_one (sd_retD (ed_all (ns := ds.map fun d => isInt d 1 20) g T.n_all (EL.ed (ds := (ds.map fun d => isInt d 1 20).map PyData.bool) (EL.is (el_comp g (compP g (it_list (ed_v 0)) [("one", 1)] (blkOk_by (N := ["value", "one"]) (sc := defScope s_is_year) (by decide +kernel)) ds id (by simp) (fun d => some (.bool (isInt d 1 20))) (fun d => [.d (.list ds), .d d]) [1] (by simp) (by omega) (fun _ _ => trivial)
        (fun d _ s H C cl fp g' => gt_name 1 g'.nd) (fun d _ s H C cl fp o g' => ets_nil) (fun d _ x hx s H C cl fp o g' => ?_))) ?_)) .d) ?_))
      · cases hx
        exact es_call (fn_is_int T) g' (by decide) (ea_cons (ed_v 1) (ea_cons ed_int (ea_cons ed_int ea_nil))) ⟨d, 1, 20, rfl, rfl, rfl⟩
      · rw [List.map_map]
        exact List.filterMap_eq_map' .. |>.symm ▸ rfl
      · show Out.ret (.d (.bool ((ds.map fun d => isInt d 1 20).all id))) [] = Out.ret (.d (.bool (isYear (.list ds)))) []
        have e : isYear (.list ds) = (decide (1 ≤ (ds.length : Int)) && decide ((ds.length : Int) ≤ 8) && (ds.map fun d => isInt d 1 20).all id) := rfl
        rw [e, h, Bool.true_and]
  · have hk : kitB (tyD x) "list" = some false := by
      cases x <;> first | rfl | exact absurd ⟨_, rfl⟩ hl | exact absurd rfl (hx _)
    refine sds_cons (sd_if (l := true) (EW.et (ew_or (k := true) (l := true) (et_not (k := false) (et_val (ed_isi (x := x) (l := false) T.n_isinstance (ed_v 0) .d (ev_ty (T := "list") rfl T.n_list (by decide +kernel)) hk))) fun h => nomatch h)) (fun h => ?_) fun h => nomatch h)
    refine sds_one (sd_retD ed_bl ?_)
    cases x <;> first | rfl | exact absurd ⟨_, rfl⟩ hl)
end
end Pg

namespace Pg
open PySem PySem.Spec PyProof.Rows L2 Sd
section
variable {P : Program} {w : World} {K : PySem.W.Frag} {mg : Str → Option Value} {base : Heap} {c : Cl}
def pre_check_day (c : Cl) : Pr := fun ss own post => ∃ (ds : List PyData) (x : PyData), ss = [.d (.list ds), .d x] ∧ own = [] ∧ post = fun o => o = if isInt x 0 ((ds.length : Int) - 1) = true then .ret (.d .none) [] else .exc c.BadDay []
theorem fn_check_day (T : Tx K mg c) : Fn K mg P w base "check_day" ["year", "value"] 2 (pre_check_day c) := T.d_check_day.fn fun f fd F => okG (k := 1) F sc_check_day (by rintro ss own post ⟨ds, x, rfl, _⟩; rfl) (by
  rintro ss own post ⟨ds, x, rfl, rfl, rfl⟩ cdv A outer s H E B g
  refine sds_one (sd_if (et_not (et_val (es_call (fn_is_int T) g (by decide) (ea_cons (ed_v 1) (ea_cons ed_int (ea_cons (ed_sub (ed_len T.n_len (ed_v 0) .d) ed_int) ea_nil))) ⟨x, _, _, rfl, rfl, rfl⟩))) (fun h => ?_) fun h => ?_)
  · refine sds_one (sd_raise g T.e_BadDay ?_)
    show Out.exc c.BadDay [] = _
    rw [if_neg (by simpa using h)]
  · refine sds_nil ?_
    show Out.ret (.d .none) [] = _
    rw [if_pos (by simpa using h)])
theorem ok_day {c : Cl} {ys : List Int} {d : Int} (h : 0 ≤ d ∧ d < (ys.length : Int)) : pre_check_day c [.d (li ys), .d (.int d)] [] (fun o => o = .ret (.d .none) []) := ⟨_, .int d, rfl, rfl, by
  rw [if_pos]
  have : d ≤ (ys.length : Int) - 1 := by omega
  simp [Sd.isInt, h.1, this]⟩
end
end Pg

namespace Pg
open PySem PySem.Spec PyProof.Rows L2 Sd
section
variable {P : Program} {w : World} {K : PySem.W.Frag} {mg : Str → Option Value} {base : Heap} {c : Cl}
def pre_check_year (c : Cl) : Pr := fun ss own post => ∃ x, ss = [.d x] ∧ own = [] ∧ post = fun o => o = if isYear x = true then .ret (.d .none) [] else .exc c.BadYear []
theorem fn_check_year (T : Tx K mg c) : Fn K mg P w base "check_year" ["value"] 3 (pre_check_year c) := T.d_check_year.fn fun f fd F => okG (k := 2) F sc_check_year (by rintro ss own post ⟨x, rfl, _⟩; rfl) (by
  rintro ss own post ⟨x, rfl, rfl, rfl⟩ cdv A outer s H E B g
  refine sds_one (sd_if (et_not (et_val (es_call (fn_is_year T) g (by decide) (ea_cons (ed_v 0) ea_nil) ⟨x, rfl, rfl, rfl⟩))) (fun h => ?_) fun h => ?_)
  · refine sds_one (sd_raise g T.e_BadYear ?_)
    show Out.exc c.BadYear [] = _
    rw [if_neg (by simpa using h)]
  · refine sds_nil ?_
    show Out.ret (.d .none) [] = _
    rw [if_pos (by simpa using h)])
/-- a year is checked -/
theorem ok_year {c : Cl} {ys : List Int} (h : Yr ys) : pre_check_year c [.d (li ys)] [] (fun o => o = .ret (.d .none) []) := ⟨li ys, rfl, rfl, by rw [if_pos h.is]⟩
end
end Pg

namespace Pg
open PySem PySem.Spec PyProof.Rows L2 Sd
section
variable {P : Program} {w : World} {K : PySem.W.Frag} {mg : Str → Option Value} {base : Heap} {c : Cl}
/-- 1 goes over -/
def evd (ys : List Int) (i j : Nat) : List Int := if ys.getD j 0 < ys.getD i 0 then (ys.set i (ys.getD i 0 - 1)).set j (ys.getD j 0 + 1) else (ys.set j (ys.getD j 0 - 1)).set i (ys.getD i 0 + 1)
def pre_evened (c : Cl) : Pr := fun ss own post => ∃ (ys : List Int) (i j : Nat), ss = [.d (li ys), .d (.int (i : Int)), .d (.int (j : Int))] ∧ own = [] ∧ Yr ys ∧ i < ys.length ∧ j < ys.length ∧ post = fun o => if (ys.getD i 0 - ys.getD j 0).natAbs < 2 then o = .exc c.NotFound [] else ∃ p, o = .ret (.raw (.ref p)) [(p, .lst ((evd ys i j).map PyData.int))]
theorem fn_evened (T : Tx K mg c) : Fn K mg P w base "evened" ["year", "one", "other"] 4 (pre_evened c) := T.d_evened.fn fun f fd F => okG (k := 3) F sc_evened (by rintro ss own post ⟨ys, i, j, rfl, _⟩; rfl) (by
  rintro ss own post ⟨ys, i, j, rfl, rfl, hY, hi, hj, rfl⟩
  have gi : ys[i]? = some (ys.getD i 0) := by rw [List.getD_eq_getElem?_getD, List.getElem?_eq_getElem hi]; rfl
  have gj : ys[j]? = some (ys.getD j 0) := by rw [List.getD_eq_getElem?_getD, List.getElem?_eq_getElem hj]; rfl
  obtain ⟨a, ha⟩ : ∃ a, a = ys.getD i 0 := ⟨_, rfl⟩
  obtain ⟨b, hb⟩ : ∃ b, b = ys.getD j 0 := ⟨_, rfl⟩
  rw [← ha] at gi
  rw [← hb] at gj
  unfold evd
  rw [← ha, ← hb]
  intro cdv A outer s H E B g
  refine sds_cons (sd_expr (es_call (fn_check_year T) g (by decide) (ea_cons (ed_v 0) ea_nil) (ok_year hY)) ?_)
  refine sds_cons (sd_expr (es_call (fn_check_day T) g (by decide) (ea_cons (ed_v 0) (ea_cons (ed_v 1) ea_nil)) (ok_day ⟨by omega, by omega⟩)) ?_)
  refine sds_cons (sd_expr (es_call (fn_check_day T) g (by decide) (ea_cons (ed_v 0) (ea_cons (ed_v 2) ea_nil)) (ok_day ⟨by omega, by omega⟩)) ?_)
  refine sds_cons (sd_if (et_cmp c_lt (ed_abs T.n_abs (ed_sub (ed_ixL (ed_v 0) (ed_v 1) .d (getI gi)) (ed_ixL (ed_v 0) (ed_v 2) .d (getI gj)))) ed_int) (fun h => ?_) fun h => sds_nil ?_)
  · have h : (a - b).natAbs < 2 := by
      have := of_decide_eq_true h
      split at this <;> omega
    refine sds_one (sd_raise g T.e_NotFound ?_)
    show if _ then _ else _
    rw [if_pos h]
  · have h : ¬ (a - b).natAbs < 2 := by
      have := of_decide_eq_false h
      split at this <;> omega
    refine sds_cons (sd_setL 3 g.nd (el_list T.n_list (ed_v 0) .d) fun p => ?_)
    have hij : i ≠ j := by
      rintro rfl
      rw [gi] at gj
      cases gj
      omega
    have fin : ∀ (hN lN : Nat) (hv lv : Int), hN < ys.length → lN < ys.length → ys[hN]? = some hv → ys[lN]? = some lv → hN ≠ lN → SDs (ctxOf P w K mg base ["year", "one", "other", "found", "high", "low"] "evened" s_evened f cdv A outer s H E B (fun C _ own => if (a - b).natAbs < 2 then Out.exc C own = .exc c.NotFound [] else ∃ p, Out.exc C own = .ret (.raw (.ref p)) [(p, .lst ((if b < a then (ys.set i (a - 1)).set j (b + 1) else (ys.set j (b - 1)).set i (a + 1)).map PyData.int))])) ((defBody s_evened).drop 6) { nx := fun _ _ => False, rt := fun s own => s = .raw (.ref p) ∧ own = [(p, .lst (((ys.set hN (hv - 1)).set lN (lv + 1)).map PyData.int))] } [.d (li ys), .d (.int (i : Int)), .d (.int (j : Int)), .raw (.ref p), .d (.int (hN : Int)), .d (.int (lN : Int))] [(p, .lst (ys.map PyData.int))] := by
      intro hN lN hv lv h1 h2 e1 e2 hne
      refine sds_cons (sd_augitem (oa := []) (ob := []) (n := hN) (y := hv) (z := 1) iop_subC (ev_v 3) (ed_v 4) ed_int (ixN_of (by rw [List.length_map]; exact h1)) (by rw [List.getElem?_map, e1]; rfl) trivial ?_)
      refine sds_cons (sd_augitem (oa := []) (ob := []) (n := lN) (y := lv) (z := 1) iop_addC (ev_v 3) (ed_v 5) ed_int (ixN_of (by rw [List.length_set, List.length_map]; exact h2)) (by rw [List.getElem?_set_ne hne, List.getElem?_map, e2]; rfl) trivial ?_)
      refine sds_one (sd_ret (ev_v 3) (fun z => nomatch z) ⟨rfl, ?_⟩)
      rw [List.map_set, List.map_set]
      rfl
    by_cases hab : b < a
    · refine sds_cons (sd_asg (x := .tuple [.int (i : Int), .int (j : Int)]) (es_if (k := true) (ET.is (et_cmp c_gt (ed_ixL (ed_v 0) (ed_v 1) .d (getI gi)) (ed_ixL (ed_v 0) (ed_v 2) .d (getI gj))) (by simpa using hab)) (fun _ => ed_tup (ds := [_, _]) (ea_cons (ed_v 1) (ea_cons (ed_v 2) ea_nil))) fun h => nomatch h) (gt_tup g.calm (gts_cons (gt_name 4 g.nd) (gts_cons (gt_name 5 g.nd) gts_nil)) rfl) ?_)
      refine SDs.imp (fin i j a b hi hj gi gj hij) (fun _ _ h => h.elim) (fun s own h2 => ?_) (fun _ _ h => h) (fun _ _ h => h)
      obtain ⟨rfl, rfl⟩ := h2
      show if _ then _ else _
      rw [if_neg h, if_pos hab]
      exact ⟨p, rfl⟩
    · refine sds_cons (sd_asg (x := .tuple [.int (j : Int), .int (i : Int)]) (es_if (k := false) (ET.is (et_cmp c_gt (ed_ixL (ed_v 0) (ed_v 1) .d (getI gi)) (ed_ixL (ed_v 0) (ed_v 2) .d (getI gj))) (by simpa using hab)) (fun h => nomatch h) fun _ => ed_tup (ds := [_, _]) (ea_cons (ed_v 2) (ea_cons (ed_v 1) ea_nil))) (gt_tup g.calm (gts_cons (gt_name 4 g.nd) (gts_cons (gt_name 5 g.nd) gts_nil)) rfl) ?_)
      refine SDs.imp (fin j i b a hj hi gj gi hij.symm) (fun _ _ h => h.elim) (fun s own h2 => ?_) (fun _ _ h => h) (fun _ _ h => h)
      obtain ⟨rfl, rfl⟩ := h2
      show if _ then _ else _
      rw [if_neg h, if_neg hab]
      exact ⟨p, rfl⟩)
end
end Pg

namespace Pg
open PySem PySem.Spec PyProof.Rows L2 Sd
section
variable {P : Program} {w : World} {K : PySem.W.Frag} {mg : Str → Option Value} {base : Heap} {c : Cl}
def pre_check_many (c : Cl) : Pr := fun ss own post => ∃ x : PyData, ss = [.d x] ∧ own = [] ∧ post = fun o => o = if isInt x 0 12 = true then .ret (.d .none) [] else .exc c.BadNumber []
theorem fn_check_many (T : Tx K mg c) : Fn K mg P w base "check_many" ["value"] 2 (pre_check_many c) := T.d_check_many.fn fun f fd F => okG (k := 1) F sc_check_many (by rintro ss own post ⟨x, rfl, _⟩; rfl) (by
  rintro ss own post ⟨x, rfl, rfl, rfl⟩ cdv A outer s H E B g
  obtain ⟨t, hm⟩ := T.k_MOST_THINGS
  refine sds_one (sd_if (et_not (et_val (es_call (fn_is_int T) g (by decide) (ea_cons (ed_v 0) (ea_cons ed_int (ea_cons (ed_glob rfl hm) ea_nil))) ⟨x, _, _, rfl, rfl, rfl⟩))) (fun h => ?_) fun h => ?_)
  · refine sds_one (sd_raise g T.e_BadNumber ?_)
    show Out.exc c.BadNumber [] = _
    rw [if_neg (by simpa using h)]
  · refine sds_nil ?_
    show Out.ret (.d .none) [] = _
    rw [if_pos (by simpa using h)])
theorem ok_many {c : Cl} {n : Int} (h : 0 ≤ n ∧ n ≤ 12) : pre_check_many c [.d (.int n)] [] (fun o => o = .ret (.d .none) []) := ⟨.int n, rfl, rfl, by
  rw [if_pos]
  simp [Sd.isInt, h.1, h.2]⟩
end
end Pg

namespace Pg
open PySem PySem.Spec PyProof.Rows L2 Sd
section
variable {P : Program} {w : World} {K : PySem.W.Frag} {mg : Str → Option Value} {base : Heap} {c : Cl}
def pre_choose : Pr := fun ss own post => ∃ n k : Nat, ss = [.d (.int (n : Int)), .d (.int (k : Int))] ∧ own = [] ∧ k ≤ n ∧ n ≤ 1000 ∧ post = fun o => o = .ret (.d (.int (bin n k : Nat))) []
theorem fn_choose (T : Tx K mg c) : Fn K mg P w base "choose" ["whole", "part"] 1 pre_choose := T.d_choose.fn fun f fd F => okG (k := 0) F sc_choose (by rintro ss own post ⟨n, k, rfl, _⟩; rfl) (by
  rintro ss own post ⟨n, k, rfl, rfl, hk, hn, rfl⟩ cdv A outer s H E B g
  refine sds_cons (sd_set 2 g.nd ed_int ?_)
  refine sds_cons (sd_for g (it_range1 T.n_range (ed_v 1) ⟨by omega, by omega⟩) (fun i ρ own => own = [] ∧ ∃ t, ρ = [.d (.int (n : Int)), .d (.int (k : Int)), .d (.int (bin n i : Nat)), t]) ⟨rfl, _, by rw [bin_zero]; rfl⟩ (fun _ _ _ _ => trivial) ?_ ?_)
  · rintro i y ρ1 own1 hy ⟨rfl, t, rfl⟩
    obtain ⟨hi, rfl⟩ := rng_get hy
    have hi : i < k := by omega
    refine ⟨_, _, gt_name 3 g.nd, sds_one (sd_set 2 g.nd (ed_fdivS (ed_mul (ed_v 2) (ed_sub (ed_v 0) (ed_v 3)) (cmul_of (a := n) (b := 64) ?_ ?_ (by omega))) (ed_add (ed_v 3) ed_int) ⟨by omega, by omega⟩) ?_)⟩
    · unfold Sz
      rw [Int.natAbs_natCast]
      exact bin_lt n i hi hk
    · unfold Sz
      omega
    · refine ⟨rfl, .d (.int (0 + (i : Int))), ?_⟩
      have e : ((bin n i : Nat) : Int) * ((n : Int) - (0 + (i : Int))) / (0 + (i : Int) + 1) = (bin n (i + 1) : Nat) := bin_step n i (by omega)
      rw [e]
      rfl
  · rintro ρ1 own1 ⟨rfl, t, rfl⟩
    rw [rng_length]
    refine sds_one (sd_retD (ed_v 2) ?_)
    show Out.ret (.d (.int (bin n (k : Int).toNat : Nat))) [] = _
    rw [Int.toNat_natCast])
end
end Pg

namespace Pg
open PySem PySem.Spec PyProof.Rows L2 Sd
section
variable {P : Program} {w : World} {K : PySem.W.Frag} {mg : Str → Option Value} {base : Heap} {c : Cl}
def pre_common : Pr := fun ss own post => ∃ a b : Int, ss = [.d (.int a), .d (.int b)] ∧ own = [] ∧ 0 ≤ a ∧ 0 ≤ b ∧ post = fun o => o = .ret (.d (.int (Int.gcd a b : Nat))) []
theorem fn_common (T : Tx K mg c) : Fn K mg P w base "common" ["one", "other"] 1 pre_common := T.d_common.fn fun f fd F => okG (k := 0) F sc_common (by rintro ss own post ⟨a, b, rfl, _⟩; rfl) (by
  rintro ss own post ⟨a, b, rfl, rfl, ha, hb, rfl⟩ cdv A outer s H E B g
  refine sds_cons (sd_while g (fun m ρ own => ∃ x y : Int, 0 ≤ x ∧ 0 ≤ y ∧ ρ = [.d (.int x), .d (.int y)] ∧ own = [] ∧ Int.gcd x y = Int.gcd a b ∧ m = y.toNat) b.toNat ⟨a, b, ha, hb, rfl, rfl, rfl, rfl⟩ ?_)
  rintro m ρ1 own1 ⟨x, y, hx, hy, rfl, rfl, e, rfl⟩
  refine ⟨_, et_cmp c_neI (ed_v 1) ed_int, fun h => ?_, fun h => ?_⟩
  · have h0 : 0 < y := by
      have : y ≠ 0 := fun z => by subst z; simp at h
      omega
    refine sds_one (sd_par 0 1 g (ea_cons (ed_v 1) (ea_cons (ed_mod (ed_v 0) (ed_v 1) h0) ea_nil)) ?_)
    have h1 := Int.emod_nonneg x (Int.ne_of_gt h0)
    have h2 := Int.emod_lt_of_pos x h0
    exact ⟨(x % y).toNat, by omega, y, x % y, hy, h1, rfl, rfl, (gcd_step x y hx h0).trans e, rfl⟩
  · have h0 : y = 0 := by simpa using h
    subst h0
    refine sds_one (sd_retD (ed_v 0) ?_)
    show Out.ret (.d (.int x)) [] = Out.ret (.d (.int (Int.gcd a b : Nat))) []
    rw [← e, Int.gcd_zero_right, Int.natAbs_of_nonneg hx])
end
end Pg

namespace Pg
open PySem PySem.Spec PyProof.Rows L2 Sd
section
variable {P : Program} {w : World} {K : PySem.W.Frag} {mg : Str → Option Value} {base : Heap} {c : Cl}
def pre_lowest : Pr := fun ss own post => ∃ a b : Int, ss = [.d (.int a), .d (.int b)] ∧ own = [] ∧ 0 < b ∧ Sz 8999 b ∧ post = fun o => o = .ret (.d (fr ((a : Rat) / b))) []
theorem fn_lowest (T : Tx K mg c) : Fn K mg P w base "lowest" ["top", "below"] 2 pre_lowest := T.d_lowest.fn fun f fd F => okG (k := 1) F sc_lowest (by rintro ss own post ⟨a, b, rfl, _⟩; rfl) (by
  rintro ss own post ⟨a, b, rfl, rfl, hb, hz, rfl⟩ cdv A outer s H E B g
  have eg : Int.gcd (if a < 0 then -a else a) b = Int.gcd a b := by
    split
    · rw [Int.gcd_comm, Int.gcd_neg, Int.gcd_comm]
    · rfl
  refine sds_cons (sd_set 2 g.nd (es_call (fn_common T) g (by decide) (ea_cons (ed_abs T.n_abs (ed_v 0)) (ea_cons (ed_v 1) ea_nil)) ⟨_, _, rfl, rfl, by split <;> omega, by omega, rfl⟩) ?_)
  rw [eg]
  have g0 : (0 : Int) < (Int.gcd a b : Nat) := by
    have := Int.gcd_pos_of_ne_zero_right a (show b ≠ 0 by omega)
    omega
  have gz : Sz 8999 (Int.gcd a b : Nat) := by
    have := Int.gcd_le_natAbs_right (a := a) (show b ≠ 0 by omega)
    unfold Sz at *
    rw [Int.natAbs_natCast]
    omega
  refine sds_one (sd_retD (ed_tup (ds := [_, _]) (ea_cons (ed_fdiv (ed_v 0) (ed_v 2) (cdiv_of g0 gz (by decide))) (ea_cons (ed_fdiv (ed_v 1) (ed_v 2) (cdiv_of g0 gz (by decide))) ea_nil))) ?_)
  show Out.ret (.d (.tuple [.int (a / (Int.gcd a b : Nat)), .int (b / (Int.gcd a b : Nat))])) [] = _
  rw [fr_low a b hb])
end
end Pg

namespace Pg
open PySem PySem.Spec PyProof.Rows L2 Sd
section
variable {P : Program} {w : World} {K : PySem.W.Frag} {mg : Str → Option Value} {base : Heap} {c : Cl}
def pre_power : Pr := fun ss own post => ∃ (b : Int) (n k : Nat), ss = [.d (.int b), .d (.int (n : Int))] ∧ own = [] ∧ Sz k b ∧ n ≤ 1000 ∧ k ≤ 100 ∧ post = fun o => o = .ret (.d (.int (b ^ n))) []
theorem fn_power (T : Tx K mg c) : Fn K mg P w base "power" ["base", "exponent"] 1 pre_power := T.d_power.fn fun f fd F => okG (k := 0) F sc_power (by rintro ss own post ⟨b, n, k, rfl, _⟩; rfl) (by
  rintro ss own post ⟨b, n, k, rfl, rfl, hb, hn, hk, rfl⟩ cdv A outer s H E B g
  refine sds_cons (sd_set 2 g.nd ed_int ?_)
  refine sds_cons (sd_for g (it_range1 T.n_range (ed_v 1) ⟨by omega, by omega⟩) (fun i ρ own => own = [] ∧ ∃ t, ρ = [.d (.int b), .d (.int (n : Int)), .d (.int (b ^ i)), t]) ⟨rfl, _, by rw [Int.pow_zero]; rfl⟩ (fun _ _ _ _ => trivial) ?_ ?_)
  · rintro i y ρ1 own1 hy ⟨rfl, t, rfl⟩
    obtain ⟨hi, rfl⟩ := rng_get hy
    have hi : i < n := by omega
    refine ⟨_, _, gt_name 3 g.nd, sds_one (sd_aug 2 iop_mulW g.nd rfl (ed_v 0) (cmul_of (hb.pow i) hb ?_) ?_)⟩
    · have : k * i ≤ 100 * 1000 := Nat.mul_le_mul hk (by omega)
      omega
    · exact ⟨rfl, _, by rw [Int.pow_succ]; rfl⟩
  · rintro ρ1 own1 ⟨rfl, t, rfl⟩
    rw [rng_length]
    refine sds_one (sd_retD (ed_v 2) ?_)
    show Out.ret (.d (.int (b ^ (n : Int).toNat))) [] = _
    rw [Int.toNat_natCast])
end
end Pg

namespace Pg
open PySem PySem.Spec PyProof.Rows L2 Sd
section
variable {P : Program} {w : World} {K : PySem.W.Frag} {mg : Str → Option Value} {base : Heap} {c : Cl}
def pre_just_on_day : Pr := fun ss own post => ∃ (ys : List Int) (j n k : Nat) (y : Int), ss = [.d (li ys), .d (.int (j : Int)), .d (.int (n : Int)), .d (.int (k : Int))] ∧ own = [] ∧ Yr ys ∧ ys[j]? = some y ∧ n ≤ 12 ∧ k ≤ 12 ∧ post = fun o => o = .ret (.d (fr ((((bin n k : Nat) * y ^ k * (ys.sum - y) ^ (n - k) : Int) : Rat) / ((ys.sum ^ n : Int) : Rat)))) []
theorem fn_just_on_day (T : Tx K mg c) : Fn K mg P w base "just_on_day" ["year", "day", "many", "own"] 4 pre_just_on_day := T.d_just_on_day.fn fun f fd F => okG (k := 3) F sc_just_on_day (by rintro ss own post ⟨ys, j, n, k, y, rfl, _⟩; rfl) (by
  rintro ss own post ⟨ys, j, n, k, y, rfl, rfl, hY, hj, hn, hk, rfl⟩ cdv A outer s H E B g
  have hl := (List.getElem?_eq_some_iff.mp hj).1
  have hm : y ∈ ys := List.mem_of_getElem? hj
  refine sds_cons (sd_expr (es_call (fn_check_year T) g (by decide) (ea_cons (ed_v 0) ea_nil) (ok_year hY)) ?_)
  refine sds_cons (sd_expr (es_call (fn_check_day T) g (by decide) (ea_cons (ed_v 0) (ea_cons (ed_v 1) ea_nil)) (ok_day ⟨by omega, by omega⟩)) ?_)
  refine sds_cons (sd_expr (es_call (fn_check_many T) g (by decide) (ea_cons (ed_v 2) ea_nil) (ok_many ⟨by omega, by omega⟩)) ?_)
  refine sds_cons (sd_if (l := false) (ET.is (et_not (et_val (es_call (fn_is_int T) g (by decide) (ea_cons (ed_v 3) (ea_cons ed_int (ea_cons ed_int ea_nil))) ⟨_, _, _, rfl, rfl, rfl⟩))) ?_) (fun h => nomatch h) fun _ => sds_nil ?_)
  · have : ((k : Int) ≤ 12) := by omega
    simp [Sd.isInt, this]
  refine sds_cons (sd_if (et_cmp c_gt (ed_v 3) (ed_v 2)) (fun h => ?_) fun h => sds_nil ?_)
  · have hkn : n < k := by simpa using h
    refine sds_one (sd_retD (ed_k2 (i := 0) (i' := 1)) ?_)
    rw [bin_out n k hkn]
    have e : (((((0 : Nat) : Int) * y ^ k * (ys.sum - y) ^ (n - k) : Int)) : Rat) / ((ys.sum ^ n : Int) : Rat) = 0 := by
      have : (((0 : Nat) : Int) * y ^ k * (ys.sum - y) ^ (n - k) : Int) = 0 := by simp
      rw [this]
      rw [Rat.div_def]
      simp [Rat.zero_mul]
    rw [e]
    rfl
  · have hkn : k ≤ n := by
      have : ¬ ((n : Int) < (k : Int)) := by simpa using h
      omega
    have h1 : Sz 97 (y ^ k) := ((hY.szy hm).pow k).mono (by omega)
    have h2 : Sz 97 ((ys.sum - y) ^ (n - k)) := ((hY.szD hm).pow (n - k)).mono (by omega)
    have h3 : Sz 97 (ys.sum ^ n) := (hY.szW.pow n).mono (by omega)
    have h4 : Sz 13 (bin n k : Nat) := (bin_sz n k).mono (by omega)
    have e1 : (n : Int) - (k : Int) = ((n - k : Nat) : Int) := by omega
    refine sds_cons (sd_set 4 g.nd (ed_mul (ed_mul (es_call (fn_choose T) g (by decide) (ea_cons (ed_v 2) (ea_cons (ed_v 3) ea_nil)) ⟨n, k, rfl, rfl, hkn, by omega, rfl⟩) (es_call (fn_power T) g (by decide) (ea_cons (ed_ixL (ed_v 0) (ed_v 1) .d (getI hj)) (ea_cons (ed_v 3) ea_nil)) ⟨y, k, 8, rfl, rfl, hY.szy hm, by omega, by decide, rfl⟩) (cmul_of h4 h1 (by decide)))
      (es_call (fn_power T) g (by decide) (ea_cons (ed_sub (ed_sum g T.n_sum (ed_v 0) .d) (ed_ixL (ed_v 0) (ed_v 1) .d (getI hj))) (ea_cons (ES.is (ed_sub (ed_v 2) (ed_v 3)) (by rw [e1])) ea_nil)) ⟨_, n - k, 8, rfl, rfl, hY.szD hm, by omega, by decide, rfl⟩) (cmul_of (h4.mul h1) h2 (by decide))) ?_)
    exact sds_one (sd_retD (es_call (fn_lowest T) g (by decide) (ea_cons (ed_v 4) (ea_cons (es_call (fn_power T) g (by decide) (ea_cons (ed_sum g T.n_sum (ed_v 0) .d) (ea_cons (ed_v 2) ea_nil)) ⟨_, n, 8, rfl, rfl, hY.szW, by omega, by decide, rfl⟩) ea_nil)) ⟨_, _, rfl, rfl, hY.posP n, h3.mono (by decide), rfl⟩) rfl))
end
end Pg

namespace Pg
open PySem PySem.Spec PyProof.Rows L2 Sd
section
variable {P : Program} {w : World} {K : PySem.W.Frag} {mg : Str → Option Value} {base : Heap} {c : Cl}
/-- a calendar as it lies in the heap -/
abbrev calX (c : Cl) (x dx py pl : Addr) : OO := .raw (.ins c.Calendar dx [("year", .ref py), ("line", .ref pl)])
abbrev cal (c : Cl) (x dx py pl : Addr) (ys ls : List Int) : Own := [(pl, .lst (ls.map PyData.int)), (py, .lst (ys.map PyData.int)), (x, calX c x dx py pl), (dx, .raw (.own x))]
end
end Pg

namespace Pg
open PySem PySem.Spec PyProof.Rows L2 Sd
section
variable {P : Program} {w : World} {K : PySem.W.Frag} {mg : Str → Option Value} {base : Heap} {c : Cl}
def pre_cal_init (c : Cl) : Pr := fun ss own post => ∃ (x dx : Addr) (ys : List Int), ss = [.raw (.ref x), .d (li ys)] ∧ own = [(x, .raw (.ins c.Calendar dx [])), (dx, .raw (.own x))] ∧ Yr ys ∧ post = fun o => ∃ py pl, o = .ret (.d .none) (cal c x dx py pl ys [])
theorem fn_cal_init (T : Tx K mg c) : MkT K mg P w base "Calendar" c.Calendar ["self", "year"] 4 (pre_cal_init c) := T.m_init.mkt T.o_Calendar fun f fd F => okG (k := 3) F sc_Calendar_init (by rintro ss own post ⟨x, dx, ys, rfl, _⟩; rfl) (by
  rintro ss own post ⟨x, dx, ys, rfl, rfl, hY, rfl⟩ cdv A outer s H E B g
  refine sds_cons (sd_expr (es_call (fn_check_year T) g (by decide) (ea_cons (ed_v 1) ea_nil) (ok_year hY)) ?_)
  refine sds_cons (sd_fldL (oa := []) T.o_Calendar.cl T.o_year (el_list (ds := ys.map PyData.int) T.n_list (ed_v 1) .d) (fun p' => ev_v 0) (by decide) fun py => ?_)
  refine sds_one (sd_fldL (oa := [_]) T.o_Calendar.cl T.o_line (el_lst (ds := []) ea_nil) (fun p' => ev_v 0) (Nat.lt_of_le_of_lt (Nat.le_refl 1) (by decide)) fun pl => ?_)
  exact ⟨py, pl, rfl⟩)
end
end Pg

namespace Pg
open PySem PySem.Spec PyProof.Rows L2 Sd
section
variable {P : Program} {w : World} {K : PySem.W.Frag} {mg : Str → Option Value} {base : Heap} {c : Cl}
def fac : Nat → Nat
  | 0 => 1
  | n + 1 => (n + 1) * fac n
theorem fac_sz : ∀ n : Nat, n ≤ 12 → Sz 30 (fac n : Nat) := by
  have h : ∀ n : Nat, n ≤ 12 → fac n < 2 ^ 30 := by decide
  intro n hn
  unfold Sz
  rw [Int.natAbs_natCast]
  exact h n hn
def pre_ordered : Pr := fun ss own post => ∃ n : Nat, ss = [.d (.int (n : Int))] ∧ own = [] ∧ n ≤ 12 ∧ post = fun o => o = .ret (.d (.int (fac n : Nat))) []
theorem fn_ordered (T : Tx K mg c) : Fn K mg P w base "ordered" ["many"] 1 pre_ordered := T.d_ordered.fn fun f fd F => okG (k := 0) F sc_ordered (by rintro ss own post ⟨n, rfl, _⟩; rfl) (by
  rintro ss own post ⟨n, rfl, rfl, hn, rfl⟩ cdv A outer s H E B g
  refine sds_cons (sd_set 1 g.nd ed_int ?_)
  refine sds_cons (sd_for g (it_range2 T.n_range ed_int (ed_add (ed_v 0) ed_int) ⟨by omega, by omega, by omega, by omega⟩) (fun i ρ own => own = [] ∧ ∃ t, ρ = [.d (.int (n : Int)), .d (.int (fac (i + 1) : Nat)), t]) ⟨rfl, _, rfl⟩ (fun _ _ _ _ => trivial) ?_ ?_)
  · rintro i y ρ1 own1 hy ⟨rfl, t, rfl⟩
    obtain ⟨hi, rfl⟩ := rng_get hy
    have hi : i + 1 < n := by omega
    refine ⟨_, _, gt_name 2 g.nd, sds_one (sd_aug 1 iop_mulW g.nd rfl (ed_v 2) (cmul_of (fac_sz (i + 1) (by omega)) (b := 4) (by unfold Sz; omega) (by decide)) ?_)⟩
    refine ⟨rfl, .d (.int (2 + (i : Int))), ?_⟩
    have e : ((fac (i + 1) : Nat) : Int) * (2 + (i : Int)) = (fac (i + 1 + 1) : Nat) := by
      show _ = (((i + 1 + 1) * fac (i + 1) : Nat) : Int)
      rw [Int.natCast_mul, Int.mul_comm]
      congr 1
      omega
    rw [e]
    rfl
  · rintro ρ1 own1 ⟨rfl, t, rfl⟩
    rw [rng_length]
    refine sds_one (sd_retD (ed_v 1) ?_)
    show Out.ret (.d (.int (fac (((n : Int) + 1 - 2).toNat + 1) : Nat))) [] = _
    have e : fac (((n : Int) + 1 - 2).toNat + 1) = fac n := by
      cases n with
      | zero => rfl
      | succ m =>
        rw [show (((m + 1 : Nat) : Int) + 1 - 2).toNat = m by omega]
    rw [e])
end
end Pg

namespace Pg
open PySem PySem.Spec PyProof.Rows L2 Sd
section
variable {P : Program} {w : World} {K : PySem.W.Frag} {mg : Str → Option Value} {base : Heap} {c : Cl}
def psK (f : List Int) (y : Int) : Nat → List Int
  | 0 => f ++ [0]
  | k + 1 => (psK f y k).set (k + 1) ((psK f y k).getD (k + 1) 0 + f.getD k 0 * y)
def psS (f : List Int) (y : Int) : List Int := psK f y f.length
def psums (ys : List Int) : List Int := ys.foldl psS [1]
theorem psK_len (f : List Int) (y : Int) : ∀ k, (psK f y k).length = f.length + 1
  | 0 => by simp [psK]
  | k + 1 => by rw [psK, List.length_set, psK_len f y k]
theorem fold_len : ∀ (ys f : List Int), (ys.foldl psS f).length = f.length + ys.length
  | [], f => rfl
  | y :: ys, f => by
    rw [List.foldl_cons, fold_len ys, psS, psK_len, List.length_cons]
    omega
theorem psums_len (ys : List Int) : (psums ys).length = ys.length + 1 := by
  rw [psums, fold_len]
  simp
  omega
theorem psums_take {ys : List Int} {i : Nat} {y : Int} (h : ys[i]? = some y) : psums (ys.take (i + 1)) = psS (psums (ys.take i)) y := by
  unfold psums
  rw [List.take_add_one, h, List.foldl_append]
  rfl
def pre_product_sums : Pr := fun ss own post => ∃ ys : List Int, ss = [.d (li ys)] ∧ own = [] ∧ Yr ys ∧ post = fun o => o = .ret (.d (li (psums ys))) []
theorem fn_product_sums (T : Tx K mg c) : Fn K mg P w base "product_sums" ["year"] 1 pre_product_sums := T.d_product_sums.fn fun f fd F => okG (k := 0) F sc_product_sums (by rintro ss own post ⟨n, rfl, _⟩; rfl) (by
  rintro ss own post ⟨ys, rfl, rfl, hY, rfl⟩ cdv A outer s H E B g
  have hl := hY.hi
  refine sds_cons (sd_setL 1 g.nd (el_lst (ds := [.int 1]) (ea_cons ed_int ea_nil)) fun p0 => ?_)
  refine sds_freeze 1 (oa := []) rfl ?_
  refine sds_cons (sd_for g (it_list (ed_v 0)) (fun i ρ own => own = [] ∧ ∃ t2 t3 t4, ρ = [.d (li ys), .d (li (psums (ys.take i))), t2, t3, t4]) ⟨rfl, _, _, _, rfl⟩ (fun _ _ _ _ => trivial) ?_ ?_)
  · rintro i y ρ1 own1 hy ⟨rfl, t2, t3, t4, rfl⟩
    rw [List.getElem?_map] at hy
    cases ea : ys[i]? with
    | none => rw [ea] at hy; cases hy
    | some y' =>
      rw [ea] at hy
      cases hy
      have hm : y' ∈ ys := List.mem_of_getElem? ea
      have hy := hY.it _ hm
      have hi := (List.getElem?_eq_some_iff.mp ea).1
      have hfl : (psums (ys.take i)).length ≤ 9 := by
        rw [psums_len, List.length_take]
        omega
      rw [psums_take ea]
      generalize psums (ys.take i) = f at hfl ⊢
      refine ⟨_, _, gt_name 2 g.nd, ?_⟩
      refine sds_cons (sd_setL 3 g.nd (el_cat (ed_v 1) (ed_k1 (i := 0)) .d .d (by simp; omega)) fun p => ?_)
      refine sds_cons (sd_for g (it_range1 T.n_range (ed_len T.n_len (ed_v 1) .d) ⟨by rw [List.length_map]; omega, by rw [List.length_map]; omega⟩) (fun j ρ own => own = [(p, .lst ((psK f y' j).map PyData.int))] ∧ ∃ t4, ρ = [.d (li ys), .d (li f), .d (.int y'), .raw (.ref p), t4]) ⟨by rw [psK, List.map_append]; rfl, _, rfl⟩ (fun _ _ _ _ => trivial) ?_ ?_)
      · rintro j yy ρ2 own2 hyy ⟨rfl, t4, rfl⟩
        obtain ⟨hj, rfl⟩ := rng_get hyy
        have hj : j < f.length := by
          rw [List.length_map] at hj
          omega
        have e1 : f[j]? = some (f.getD j 0) := by
          rw [List.getD_eq_getElem?_getD, List.getElem?_eq_getElem hj]
          rfl
        have hjk : j + 1 < (psK f y' j).length := by
          rw [psK_len]
          omega
        have e2 : (psK f y' j)[j + 1]? = some ((psK f y' j).getD (j + 1) 0) := by
          rw [List.getD_eq_getElem?_getD, List.getElem?_eq_getElem hjk]
          rfl
        have e0 : (0 : Int) + (j : Int) = (j : Int) := by omega
        rw [e0]
        refine ⟨_, _, gt_name 4 g.nd, sds_one (sd_augitem (oa := []) (ob := []) (n := j + 1) iop_addC (ev_v 3) (ed_add (ed_v 4) ed_int) (ed_mulS (ed_ixL (ed_v 1) (ed_v 4) .d (getI e1)) (ed_v 2) (.inr ⟨by omega, by omega⟩)) ?_ (by rw [List.getElem?_map, e2]; rfl) trivial ?_)⟩
        · unfold ixN
          rw [List.length_map, if_pos (by omega), if_pos (by omega)]
          congr 1
        · refine ⟨?_, _, rfl⟩
          rw [psK, List.map_set]
          rfl
      · rintro ρ2 own2 ⟨rfl, t4, rfl⟩
        rw [rng_length, Int.toNat_natCast, List.length_map]
        refine sds_cons (sd_set 1 g.nd (ev_v 3) ?_)
        refine sds_freeze 1 (oa := []) rfl ?_
        exact sds_nil ⟨rfl, _, _, _, rfl⟩
  · rintro ρ1 own1 ⟨rfl, t2, t3, t4, rfl⟩
    rw [List.length_map, List.take_length]
    exact sds_one (sd_retD (ed_v 1) rfl))
end
end Pg

namespace Pg
open PySem PySem.Spec PyProof.Rows L2 Sd
section
variable {P : Program} {w : World} {K : PySem.W.Frag} {mg : Str → Option Value} {base : Heap} {c : Cl}
def unl (ys : List Int) (n : Nat) : Rat := ((((fac n : Nat) * (psums ys).getD n 0 : Int) : Rat) / ((ys.sum ^ n : Int) : Rat))
def pre_unlike_of : Pr := fun ss own post => ∃ (ys : List Int) (n : Nat), ss = [.d (li ys), .d (.int (n : Int))] ∧ own = [] ∧ Yr ys ∧ n ≤ 12 ∧ post = fun o => o = .ret (.d (fr (unl ys n))) []
theorem fn_unlike_of (T : Tx K mg c) : Fn K mg P w base "unlike_of" ["year", "many"] 3 pre_unlike_of := T.d_unlike_of.fn fun f fd F => okG (k := 2) F sc_unlike_of (by rintro ss own post ⟨ys, n, rfl, _⟩; rfl) (by
  rintro ss own post ⟨ys, n, rfl, rfl, hY, hn, rfl⟩ cdv A outer s H E B g
  have hl := psums_len ys
  refine sds_cons (sd_set 2 g.nd (es_call (fn_product_sums T) g (by decide) (ea_cons (ed_v 0) ea_nil) ⟨ys, rfl, rfl, hY, rfl⟩) ?_)
  refine sds_cons (sd_if (l := decide (((psums ys).length : Int) ≤ (n : Int))) (et_cmp (c_ge (i := n) (j := (psums ys).length)) (ed_v 1) (ES.is (ed_len T.n_len (ed_v 2) .d) (by rw [List.length_map]))) (fun h => ?_) fun h => sds_nil ?_)
  · have h : (psums ys).length ≤ n := by simpa using h
    refine sds_one (sd_retD (ed_k2 (i := 0) (i' := 1)) ?_)
    have e : unl ys n = 0 := by
      unfold unl
      rw [List.getD_eq_getElem?_getD, List.getElem?_eq_none h]
      simp
      exact Rat.zero_mul _
    rw [e]
    rfl
  · have h : n < (psums ys).length := by simpa using h
    have e1 : (psums ys)[n]? = some ((psums ys).getD n 0) := by
      rw [List.getD_eq_getElem?_getD, List.getElem?_eq_getElem h]
      rfl
    have z := fac_sz n hn
    unfold Sz at z
    have h2 : Sz 97 (ys.sum ^ n) := (hY.szW.pow n).mono (by omega)
    exact sds_one (sd_retD (es_call (fn_lowest T) g (by decide) (ea_cons (ed_mulS (es_call (fn_ordered T) g (by decide) (ea_cons (ed_v 1) ea_nil) ⟨n, rfl, rfl, hn, rfl⟩) (ed_ixL (ed_v 2) (ed_v 1) .d (getI e1)) (.inl ⟨by omega, by omega⟩)) (ea_cons (es_call (fn_power T) g (by decide) (ea_cons (ed_sum g T.n_sum (ed_v 0) .d) (ea_cons (ed_v 1) ea_nil)) ⟨_, n, 8, rfl, rfl, hY.szW, by omega, by decide, rfl⟩) ea_nil)) ⟨_, _, rfl, rfl, hY.posP n, h2.mono (by decide), rfl⟩) rfl))
end
end Pg

namespace Pg
open PySem PySem.Spec PyProof.Rows L2 Sd
section
variable {P : Program} {w : World} {K : PySem.W.Frag} {mg : Str → Option Value} {base : Heap} {c : Cl}
def fuF (xs ys : List Int) : Nat → Nat → PyData
  | _, 0 => .none
  | s, m + 1 => if unl xs s = unl ys s then fuF xs ys (s + 1) m else .int (s : Nat)
def fu (xs ys : List Int) : PyData := fuF xs ys 2 (max xs.length ys.length - 1)
def pre_first_unlike : Pr := fun ss own post => ∃ xs ys : List Int, ss = [.d (li xs), .d (li ys)] ∧ own = [] ∧ Yr xs ∧ Yr ys ∧ post = fun o => o = .ret (.d (fu xs ys)) []
theorem fn_first_unlike (T : Tx K mg c) : Fn K mg P w base "first_unlike" ["one", "other"] 4 pre_first_unlike := T.d_first_unlike.fn fun f fd F => okG (k := 3) F sc_first_unlike (by rintro ss own post ⟨xs, ys, rfl, _⟩; rfl) (by
  rintro ss own post ⟨xs, ys, rfl, rfl, hX, hY, rfl⟩ cdv A outer s H E B g
  have h1 := hX.hi
  have h2 := hY.hi
  have h3 := hX.lo
  refine sds_cons (sd_expr (es_call (fn_check_year T) g (by decide) (ea_cons (ed_v 0) ea_nil) (ok_year hX)) ?_)
  refine sds_cons (sd_expr (es_call (fn_check_year T) g (by decide) (ea_cons (ed_v 1) ea_nil) (ok_year hY)) ?_)
  have em : (if (ys.length : Int) > (xs.length : Int) then (ys.length : Int) else (xs.length : Int)) = ((max xs.length ys.length : Nat) : Int) := by split <;> omega
  refine sds_cons (sd_for g (it_range2 T.n_range ed_int (ed_add (i := ((max xs.length ys.length : Nat) : Int)) (ES.is (ed_max2 g T.n_max (ES.is (ed_len T.n_len (ed_v 0) .d) (by rw [List.length_map])) (ES.is (ed_len T.n_len (ed_v 1) .d) (by rw [List.length_map]))) (by rw [em])) ed_int) ⟨by omega, by omega, by omega, by omega⟩) (fun i ρ own => own = [] ∧ fu xs ys = fuF xs ys (2 + i) (max xs.length ys.length - 1 - i) ∧ ∃ t, ρ = [.d (li xs), .d (li ys), t]) ⟨rfl, rfl, _, rfl⟩ (fun _ _ _ _ => trivial) ?_ ?_)
  · rintro i y ρ1 own1 hy ⟨rfl, hf, t, rfl⟩
    obtain ⟨hi, rfl⟩ := rng_get hy
    obtain ⟨m, hm⟩ : ∃ m, max xs.length ys.length - 1 - i = m + 1 := ⟨max xs.length ys.length - 1 - i - 1, by omega⟩
    rw [hm, fuF] at hf
    have e0 : (2 : Int) + (i : Int) = ((2 + i : Nat) : Int) := by omega
    rw [e0]
    refine ⟨_, _, gt_name 2 g.nd, sds_one (sd_if (l := !decide (unl xs (2 + i) = unl ys (2 + i))) (ET.is (et_cmp (c_ne g .d .d (sh_fr _) (sh_fr _)) (es_call (fn_unlike_of T) g (by decide) (ea_cons (ed_v 0) (ea_cons (ed_v 2) ea_nil)) ⟨xs, 2 + i, rfl, rfl, hX, by omega, rfl⟩) (es_call (fn_unlike_of T) g (by decide) (ea_cons (ed_v 1) (ea_cons (ed_v 2) ea_nil)) ⟨ys, 2 + i, rfl, rfl, hY, by omega, rfl⟩)) (by rw [eqv_fr])) (fun h => ?_) fun h => sds_nil ?_)⟩
    · have h : ¬ unl xs (2 + i) = unl ys (2 + i) := by simpa using h
      rw [if_neg h] at hf
      refine sds_one (sd_retD (ed_v 2) ?_)
      rw [hf]
    · have h : unl xs (2 + i) = unl ys (2 + i) := by simpa using h
      rw [if_pos h] at hf
      refine ⟨rfl, ?_, _, rfl⟩
      rw [hf, show max xs.length ys.length - 1 - (i + 1) = m by omega]
      rfl
  · rintro ρ1 own1 ⟨rfl, hf, t, rfl⟩
    rw [rng_length, show max xs.length ys.length - 1 - (((max xs.length ys.length : Nat) : Int) + 1 - 2).toNat = 0 by omega, fuF] at hf
    refine sds_one (sd_retD ed_non ?_)
    rw [hf])
end
end Pg

namespace Pg
open PySem PySem.Spec PyProof.Rows L2 Sd
section
variable {P : Program} {w : World} {K : PySem.W.Frag} {mg : Str → Option Value} {base : Heap} {c : Cl}
def insI (x : Int) : List Int → List Int
  | [] => [x]
  | y :: ys => if x ≤ y then x :: y :: ys else y :: insI x ys
def srt : List Int → List Int
  | [] => []
  | x :: xs => insI x (srt xs)
theorem insI_perm (x : Int) : ∀ l : List Int, (insI x l).Perm (x :: l)
  | [] => .refl _
  | y :: l => by
    unfold insI
    split
    · exact .refl _
    · exact (List.Perm.cons y (insI_perm x l)).trans (.swap x y l)
theorem srt_perm : ∀ l : List Int, (srt l).Perm l
  | [] => .refl _
  | x :: l => (insI_perm x (srt l)).trans (.cons x (srt_perm l))
theorem insI_sorted (x : Int) : ∀ l : List Int, l.Pairwise (· ≤ ·) → (insI x l).Pairwise (· ≤ ·)
  | [], _ => by simp [insI]
  | y :: l, h => by
    have h1 := List.pairwise_cons.mp h
    unfold insI
    split
    · rename_i hxy
      refine List.pairwise_cons.mpr ⟨fun z hz => ?_, h⟩
      rcases List.mem_cons.mp hz with rfl | hz
      · exact hxy
      · exact Int.le_trans hxy (h1.1 z hz)
    · rename_i hxy
      refine List.pairwise_cons.mpr ⟨fun z hz => ?_, insI_sorted x l h1.2⟩
      rcases List.mem_cons.mp ((insI_perm x l).mem_iff.mp hz) with rfl | hz
      · omega
      · exact h1.1 z hz
theorem srt_sorted : ∀ l : List Int, (srt l).Pairwise (· ≤ ·)
  | [] => .nil
  | x :: l => insI_sorted x _ (srt_sorted l)
theorem perm_srt {a b : List Int} (h : a.Perm b) (ha : a.Pairwise (· ≤ ·)) : a = srt b :=
  List.Perm.eq_of_pairwise (fun x y _ _ h1 h2 => Int.le_antisymm h1 h2) ha (srt_sorted b) (h.trans (srt_perm b).symm)
theorem srt_len (l : List Int) : (srt l).length = l.length := (srt_perm l).length_eq
def shr (ys : List Int) : List PyData := (srt ys).map fun (y : Int) => fr ((y : Rat) / ys.sum)
def pre_shares_of : Pr := fun ss own post => ∃ ys : List Int, ss = [.d (li ys)] ∧ own = [] ∧ Yr ys ∧ post = fun o => o = .ret (.d (.list (shr ys))) []
theorem fn_shares_of (T : Tx K mg c) : Fn K mg P w base "shares_of" ["year"] 3 pre_shares_of := T.d_shares_of.fn fun f fd F => okG (k := 2) F sc_shares_of (by rintro ss own post ⟨n, rfl, _⟩; rfl) (by
  rintro ss own post ⟨ys, rfl, rfl, hY, rfl⟩ cdv A outer s H E B g
  have hl := hY.hi
  have hW := hY.sum_lo
  refine sds_one (sd_retD (EL.ed (EL.is (el_comp g (compP g (it_list (EL.ed (el_sorted (ns := ys) (res := srt ys) T.n_sorted (ed_v 0) .d (by omega) fun ns' h1 h2 => perm_srt h1 h2))) [("weight", 1)] (blkOk_by (N := ["year", "weight"]) (sc := defScope s_shares_of) (by decide +kernel)) (srt ys) PyData.int rfl (fun y => some (fr ((y : Rat) / ys.sum))) (fun y => [.d (li ys), .d (.int y)]) [1] (by simp) (by rw [srt_len]; omega) (fun _ _ => trivial)
      (fun d _ s H C cl fp g' => gt_name 1 g'.nd) (fun d _ s H C cl fp o g' => ets_nil) (fun n hn x hx s H C cl fp o g' => ?_))) (congrFun List.filterMap_eq_map' _))) rfl)
  cases hx
  exact es_call (fn_lowest T) g' (by decide) (ea_cons (ed_v 1) (ea_cons (ed_sum g' T.n_sum (ed_v 0) .d) ea_nil)) ⟨_, _, rfl, rfl, by omega, hY.szW.mono (by decide), rfl⟩)
end
end Pg

namespace Pg
open PySem PySem.Spec PyProof.Rows L2 Sd
section
variable {P : Program} {w : World} {K : PySem.W.Frag} {mg : Str → Option Value} {base : Heap} {c : Cl}
def pre_look_alike : Pr := fun ss own post => ∃ xs ys : List Int, ss = [.d (li xs), .d (li ys)] ∧ own = [] ∧ Yr xs ∧ Yr ys ∧ post = fun o => o = .ret (.d (.bool (PyData.eqv (.list (shr xs)) (.list (shr ys))))) []
theorem sh_shr (ys : List Int) : Shp 2 (.list (shr ys)) := shp_list (n := 1) fun d hd => by
  obtain ⟨y, _, rfl⟩ := List.mem_map.mp hd
  exact shp_fr _
theorem fn_look_alike (T : Tx K mg c) : Fn K mg P w base "look_alike" ["one", "other"] 4 pre_look_alike := T.d_look_alike.fn fun f fd F => okG (k := 3) F sc_look_alike (by rintro ss own post ⟨xs, ys, rfl, _⟩; rfl) (by
  rintro ss own post ⟨xs, ys, rfl, rfl, hX, hY, rfl⟩ cdv A outer s H E B g
  refine sds_cons (sd_expr (es_call (fn_check_year T) g (by decide) (ea_cons (ed_v 0) ea_nil) (ok_year hX)) ?_)
  refine sds_cons (sd_expr (es_call (fn_check_year T) g (by decide) (ea_cons (ed_v 1) ea_nil) (ok_year hY)) ?_)
  exact sds_one (sd_retD (ed_cmp (c_eq g .d .d ((sh_shr xs).shaped (by decide)) ((sh_shr ys).shaped (by decide))) (es_call (fn_shares_of T) g (by decide) (ea_cons (ed_v 0) ea_nil) ⟨xs, rfl, rfl, hX, rfl⟩) (es_call (fn_shares_of T) g (by decide) (ea_cons (ed_v 1) ea_nil) ⟨ys, rfl, rfl, hY, rfl⟩)) rfl))
end
end Pg

namespace Pg
open PySem PySem.Spec PyProof.Rows L2 Sd
section
variable {P : Program} {w : World} {K : PySem.W.Frag} {mg : Str → Option Value} {base : Heap} {c : Cl}
def pre_at_most : Pr := fun ss own post => ∃ (p q : Rat) (m n : Nat), ss = [.d (fr p), .d (fr q)] ∧ own = [] ∧ Sq m p ∧ Sq n q ∧ m + n ≤ 8990 ∧ post = fun o => o = .ret (.d (.bool (decide (p ≤ q)))) []
theorem fn_at_most (T : Tx K mg c) : Fn K mg P w base "at_most" ["one", "other"] 1 pre_at_most := T.d_at_most.fn fun f fd F => okG (k := 0) F sc_at_most (by rintro ss own post ⟨p, q, m, n, rfl, _⟩; rfl) (by
  rintro ss own post ⟨p, q, m, n, rfl, rfl, hp, hq, hmn, rfl⟩ cdv A outer s H E B g
  refine sds_one (sd_retD (ed_cmp c_le (ed_mul (ed_ixT (ed_v 0) ed_int rfl) (ed_ixT (ed_v 1) ed_int rfl) (cmul_of hp.num hq.den (by omega))) (ed_mul (ed_ixT (ed_v 1) ed_int rfl) (ed_ixT (ed_v 0) ed_int rfl) (cmul_of hq.num hp.den (by omega)))) ?_)
  rw [decide_eq_decide.mpr (le_fr p q)])
end
end Pg

namespace Pg
open PySem PySem.Spec PyProof.Rows L2 Sd
section
variable {P : Program} {w : World} {K : PySem.W.Frag} {mg : Str → Option Value} {base : Heap} {c : Cl}
def mosm (xs ys : List Int) (n : Nat) : Int := if unl xs n = unl ys n then 0 else if unl ys n ≤ unl xs n then -1 else 1
def pre_more_same : Pr := fun ss own post => ∃ (xs ys : List Int) (n : Nat), ss = [.d (li xs), .d (li ys), .d (.int (n : Int))] ∧ own = [] ∧ Yr xs ∧ Yr ys ∧ n ≤ 12 ∧ Sq 200 (unl xs n) ∧ Sq 200 (unl ys n) ∧ post = fun o => o = .ret (.d (.int (mosm xs ys n))) []
theorem fn_more_same (T : Tx K mg c) : Fn K mg P w base "more_same" ["one", "other", "many"] 4 pre_more_same := T.d_more_same.fn fun f fd F => okG (k := 3) F sc_more_same (by rintro ss own post ⟨xs, ys, n, rfl, _⟩; rfl) (by
  rintro ss own post ⟨xs, ys, n, rfl, rfl, hX, hY, hn, q1, q2, rfl⟩ cdv A outer s H E B g
  refine sds_cons (sd_expr (es_call (fn_check_year T) g (by decide) (ea_cons (ed_v 0) ea_nil) (ok_year hX)) ?_)
  refine sds_cons (sd_expr (es_call (fn_check_year T) g (by decide) (ea_cons (ed_v 1) ea_nil) (ok_year hY)) ?_)
  refine sds_cons (sd_expr (es_call (fn_check_many T) g (by decide) (ea_cons (ed_v 2) ea_nil) (ok_many ⟨by omega, by omega⟩)) ?_)
  refine sds_cons (sd_par 3 4 g (ea_cons (es_call (fn_unlike_of T) g (by decide) (ea_cons (ed_v 0) (ea_cons (ed_v 2) ea_nil)) ⟨xs, n, rfl, rfl, hX, hn, rfl⟩) (ea_cons (es_call (fn_unlike_of T) g (by decide) (ea_cons (ed_v 1) (ea_cons (ed_v 2) ea_nil)) ⟨ys, n, rfl, rfl, hY, hn, rfl⟩) ea_nil)) ?_)
  refine sds_one (sd_retD (x := .int (mosm xs ys n)) (es_if (k := decide (unl xs n = unl ys n)) (ET.is (et_cmp (c_eq g .d .d (sh_fr _) (sh_fr _)) (ed_v 3) (ed_v 4)) (by rw [eqv_fr])) (fun h => ?_) fun h => ?_) rfl)
  · have h : unl xs n = unl ys n := by simpa using h
    exact ES.is ed_int (by rw [mosm, if_pos h])
  · have h : ¬ unl xs n = unl ys n := by simpa using h
    refine es_if (k := decide (unl ys n ≤ unl xs n)) (et_val (es_call (fn_at_most T) g (by decide) (ea_cons (ed_v 4) (ea_cons (ed_v 3) ea_nil)) ⟨_, _, 200, 200, rfl, rfl, q2, q1, by decide, rfl⟩)) (fun h2 => ?_) fun h2 => ?_
    · have h2 : unl ys n ≤ unl xs n := by simpa using h2
      exact ES.is (ed_neg ed_int) (by rw [mosm, if_neg h, if_pos h2])
    · have h2 : ¬ unl ys n ≤ unl xs n := by simpa using h2
      exact ES.is ed_int (by rw [mosm, if_neg h, if_neg h2]))
end
end Pg

namespace Pg
open PySem PySem.Spec PyProof.Rows L2 Sd
section
variable {P : Program} {w : World} {K : PySem.W.Frag} {mg : Str → Option Value} {base : Heap} {c : Cl}
/-! elementary symmetric sums -/
def esI : List Int → Nat → Int
  | _, 0 => 1
  | [], _ + 1 => 0
  | a :: l, n + 1 => esI l (n + 1) + a * esI l n
theorem esI_zero (l : List Int) : esI l 0 = 1 := by cases l <;> rfl
theorem esI_cons (a : Int) (l : List Int) (n : Nat) : esI (a :: l) (n + 1) = esI l (n + 1) + a * esI l n := rfl
theorem esI_perm {l l' : List Int} (h : l.Perm l') : ∀ n, esI l n = esI l' n := by
  induction h with
  | nil => intro n; rfl
  | cons x _ ih =>
    intro n
    cases n with
    | zero => rfl
    | succ n => rw [esI_cons, esI_cons, ih, ih]
  | swap x y l =>
    intro n
    cases n with
    | zero => rfl
    | succ n =>
      cases n with
      | zero => simp only [esI_cons, esI_zero]; grind
      | succ n => simp only [esI_cons]; grind
  | trans _ _ h1 h2 => intro n; rw [h1, h2]
theorem psK_get (f : List Int) (y : Int) : ∀ k, k ≤ f.length → ∀ n, (psK f y k).getD n 0 = f.getD n 0 + (if 1 ≤ n ∧ n ≤ k then f.getD (n - 1) 0 * y else 0)
  | 0, _, n => by
    rw [psK, if_neg (by omega)]
    simp only [List.getD_eq_getElem?_getD]
    by_cases h : n < f.length
    · rw [List.getElem?_append_left h]; omega
    · rw [List.getElem?_append_right (by omega), List.getElem?_eq_none (l := f) (by omega)]
      by_cases e : n = f.length
      · subst e; simp
      · rw [List.getElem?_eq_none (by simp; omega)]; rfl
  | k + 1, hk, n => by
    have ih := psK_get f y k (by omega)
    rw [psK]
    by_cases e : n = k + 1
    · subst e
      rw [List.getD_eq_getElem?_getD, List.getElem?_set_self (by rw [psK_len]; omega), Option.getD_some, ih, if_neg (by omega), if_pos (by omega)]
      simp
    · rw [List.getD_eq_getElem?_getD, List.getElem?_set_ne (by omega), ← List.getD_eq_getElem?_getD, ih]
      by_cases h : 1 ≤ n ∧ n ≤ k
      · rw [if_pos h, if_pos (by omega)]
      · rw [if_neg h, if_neg (by omega)]
theorem psS_zero (f : List Int) (y : Int) : (psS f y).getD 0 0 = f.getD 0 0 := by
  rw [psS, psK_get f y _ (Nat.le_refl _), if_neg (by omega)]; omega
theorem psS_succ (f : List Int) (y : Int) (n : Nat) : (psS f y).getD (n + 1) 0 = f.getD (n + 1) 0 + f.getD n 0 * y := by
  rw [psS, psK_get f y _ (Nat.le_refl _)]
  by_cases h : n + 1 ≤ f.length
  · rw [if_pos (by omega)]; rfl
  · rw [if_neg (by omega), show f.getD n 0 = 0 by rw [List.getD_eq_getElem?_getD, List.getElem?_eq_none (by omega)]; rfl]
    simp
theorem foldr_es : ∀ (zs : List Int) (n : Nat), (zs.foldr (fun y f => psS f y) [1]).getD n 0 = esI zs n
  | [], 0 => rfl
  | [], n + 1 => by simp [esI]
  | z :: zs, 0 => by rw [List.foldr_cons, psS_zero, foldr_es zs 0, esI_zero, esI_zero]
  | z :: zs, n + 1 => by rw [List.foldr_cons, psS_succ, foldr_es zs, foldr_es zs, esI_cons, Int.mul_comm]
theorem psums_es (ys : List Int) (n : Nat) : (psums ys).getD n 0 = esI ys n := by
  have e : psums ys = ys.reverse.foldr (fun y f => psS f y) [1] := by rw [psums, List.foldr_reverse]
  rw [e, foldr_es, esI_perm (List.reverse_perm ys)]
theorem esI_nonneg : ∀ (l : List Int) (n : Nat), (∀ x ∈ l, 0 ≤ x) → 0 ≤ esI l n
  | l, 0, _ => by rw [esI_zero]; decide
  | [], n + 1, _ => by simp [esI]
  | a :: l, n + 1, h => by
    have h1 := esI_nonneg l (n + 1) fun x hx => h x (by simp [hx])
    have h2 := esI_nonneg l n fun x hx => h x (by simp [hx])
    have h3 := Int.mul_nonneg (h a (by simp)) h2
    rw [esI_cons]; omega
theorem fac_pos : ∀ n, 0 < fac n
  | 0 => by decide
  | n + 1 => by have := fac_pos n; rw [fac]; exact Nat.mul_pos (by omega) this
theorem unl_es (ys : List Int) (n : Nat) : unl ys n = (((fac n : Nat) * esI ys n : Int) : Rat) / ((ys.sum ^ n : Int) : Rat) := by rw [unl, psums_es]
/-- over the rationals -/
def es : List Rat → Nat → Rat
  | _, 0 => 1
  | [], _ + 1 => 0
  | a :: l, n + 1 => es l (n + 1) + a * es l n
theorem esI_le : ∀ (l : List Int) (n : Nat), (∀ x ∈ l, 0 ≤ x) → esI l n ≤ l.sum ^ n
  | l, 0, _ => by rw [esI_zero]; simp
  | [], n + 1, _ => by rw [List.sum_nil, Int.zero_pow (by omega)]; exact Int.le_refl _
  | a :: l, n + 1, h => by
    have hl : ∀ x ∈ l, 0 ≤ x := fun x hx => h x (by simp [hx])
    have h1 := esI_le l (n + 1) hl
    have h2 := esI_le l n hl
    have ha := h a (by simp)
    have hs : 0 ≤ l.sum := by
      have := sum_ge_mul (b := 0) (ys := l) hl
      simpa using this
    rw [esI_cons, List.sum_cons, Int.pow_succ]
    rw [Int.pow_succ] at h1
    have h3 := Int.mul_le_mul_of_nonneg_left h2 ha
    have h4 : l.sum ^ n ≤ (a + l.sum) ^ n := by
      have : ∀ m : Nat, l.sum ^ m ≤ (a + l.sum) ^ m := fun m => by
        induction m with
        | zero => simp
        | succ m ih =>
          rw [Int.pow_succ, Int.pow_succ]
          exact Int.mul_le_mul ih (by omega) hs (Int.pow_nonneg (by omega))
      exact this n
    have h5 := Int.mul_le_mul_of_nonneg_right h4 (show 0 ≤ a + l.sum by omega)
    have e : l.sum ^ n * l.sum + a * l.sum ^ n = l.sum ^ n * (a + l.sum) := by grind
    omega
theorem unl_sq {ys : List Int} (h : Yr ys) {n : Nat} (hn : n ≤ 12) : Sq 200 (unl ys n) := by
  rw [unl_es]
  have h1 : Sz 97 (ys.sum ^ n) := (h.szW.pow n).mono (by omega)
  have h0 : ∀ x ∈ ys, 0 ≤ x := fun x hx => by have := h.it x hx; omega
  have h2 := esI_le ys n h0
  have h3 := esI_nonneg ys n h0
  have h4 : Sz 97 (esI ys n) := by unfold Sz at *; omega
  exact Sq.of_div (h.posP n) (((fac_sz n hn).mul h4).mono (by decide)) (h1.mono (by decide))
end
end Pg

namespace Pg
open PySem PySem.Spec PyProof.Rows L2 Sd
section
variable {P : Program} {w : World} {K : PySem.W.Frag} {mg : Str → Option Value} {base : Heap} {c : Cl}
/-- a share as data -/
structure Shr (q : Rat) : Prop where
  lo : 0 ≤ q
  hi : q ≤ 1
theorem shr_num {q : Rat} (h : Shr q) : 0 ≤ q.num ∧ q.num ≤ (q.den : Int) := by
  have h1 := h.lo
  have h2 := h.hi
  refine ⟨Rat.num_nonneg.mpr h1, ?_⟩
  have := (le_fr q 1).mpr h2
  simpa using this
def pre_is_share : Pr := fun ss own post => ∃ (q : Rat), ss = [.d (fr q)] ∧ own = [] ∧ Shr q ∧ post = fun o => o = .ret (.d (.bool true)) []
theorem fn_is_share (T : Tx K mg c) : Fn K mg P w base "is_share" ["value"] 2 pre_is_share := T.d_is_share.fn fun f fd F => okG (k := 1) F sc_is_share (by rintro ss own post ⟨q, rfl, _⟩; rfl) (by
  rintro ss own post ⟨q, rfl, rfl, hq, rfl⟩ cdv A outer s H E B g
  obtain ⟨h1, h2⟩ := shr_num hq
  have h3 := den_pos q
  refine sds_cons (sd_ifF (ET.is (EW.et (ew_or (et_not (et_val (ed_isi (x := fr q) (l := true) T.n_isinstance (ed_v 0) .d (ev_ty (T := "tuple") rfl T.n_tuple (by decide +kernel)) rfl))) fun _ => ew_or1 (et_cmp c_neI (ed_lenT T.n_len (ed_v 0)) ed_int))) (by simp)) ?_)
  refine sds_cons (sd_ifF (ET.is (et_not (et_val (ed_all (ns := [true, true]) g T.n_all (EL.ed (EL.is (ys := [.bool true, .bool true]) (el_comp g (compP g (it_tup (ed_v 0)) [("part", 1)] (blkOk_by (N := ["value", "part"]) (sc := defScope s_is_share) (by decide +kernel)) [q.num, (q.den : Int)] PyData.int rfl (fun _ => some (.bool true)) (fun i => [.d (fr q), .d (.int i)]) [1] (by simp) (by simp) (fun _ _ => trivial)
      (fun d _ s H C cl fp g' => gt_name 1 g'.nd) (fun d _ s H C cl fp o g' => ets_nil) (fun i _ x hx s H C cl fp o g' => ?_))) rfl)) .d))) rfl) ?_)
  · cases hx
    exact ES.is (ed_and (ed_isi (x := .int i) (l := true) T.n_isinstance (ed_v 1) .d (ev_ty (T := "int") rfl T.n_int (by decide +kernel)) rfl) fun _ => ed_one (ed_not (ed_isi (x := .int i) (l := false) T.n_isinstance (ed_v 1) .d (ev_ty (T := "bool") rfl T.n_bool (by decide +kernel)) rfl))) rfl
  refine sds_one (sd_retD (ES.is (y := .bool true) (ed_and (ed_cmp c_gt (ed_ixT (ed_v 0) ed_int rfl) ed_int) fun _ => ed_and (ed_chain c_le c_le ed_int (ed_ixT (ed_v 0) ed_int rfl) (ed_ixT (ed_v 0) ed_int rfl)) fun _ => ed_one (ed_cmp c_eqI (es_call (fn_common T) g (by decide) (ea_cons (ed_ixT (ed_v 0) ed_int rfl) (ea_cons (ed_ixT (ed_v 0) ed_int rfl) ea_nil)) ⟨_, _, rfl, rfl, h1, by omega, rfl⟩) ed_int)) ?_) rfl)
  have hg : Int.gcd q.num (q.den : Int) = 1 := q.reduced
  rw [hg, decide_eq_true h3, decide_eq_true h1, decide_eq_true h2]
  rfl)
end
end Pg

namespace Pg
open PySem PySem.Spec PyProof.Rows L2 Sd
section
variable {P : Program} {w : World} {K : PySem.W.Frag} {mg : Str → Option Value} {base : Heap} {c : Cl}
/-- is it a share, whatever it is -/
def isI : PyData → Bool
  | .int _ => true
  | _ => false
def isShr : PyData → Bool
  | .tuple [.int a, .int b] => decide (0 < b) && ((decide (0 ≤ a) && decide (a ≤ b)) && decide (Int.gcd a b = 1))
  | _ => false
def pre_is_share_t : Pr := fun ss own post => ∃ x, ss = [.d x] ∧ own = [] ∧ post = fun o => o = .ret (.d (.bool (isShr x))) []
theorem fn_is_share_t (T : Tx K mg c) : Fn K mg P w base "is_share" ["value"] 2 pre_is_share_t := T.d_is_share.fn fun f fd F => okG (k := 1) F sc_is_share (by rintro ss own post ⟨x, rfl, _⟩; rfl) (by
  rintro ss own post ⟨x, rfl, rfl, rfl⟩ cdv A outer s H E B g
  refine sds_nd 0 rfl fun hx => ?_
  by_cases ht : ∃ ds, x = .tuple ds
  · obtain ⟨ds, rfl⟩ := ht
    have hnd := hx.2 ds (.inr rfl)
    refine sds_cons (sd_if (l := !decide ((ds.length : Int) = 2)) (ET.is (EW.et (ew_or (et_not (et_val (ed_isi (x := .tuple ds) (l := true) T.n_isinstance (ed_v 0) .d (ev_ty (T := "tuple") rfl T.n_tuple (by decide +kernel)) rfl))) fun _ => ew_or1 (et_cmp c_neI (ed_lenT T.n_len (ed_v 0)) ed_int))) (by simp)) (fun h => ?_) fun h => sds_nil ?_)
    · refine sds_one (sd_retD ed_bl ?_)
      have h : ds.length ≠ 2 := by simp at h; omega
      have : isShr (.tuple ds) = false := by
        unfold isShr
        split
        · rename_i e
          cases e
          exact absurd rfl h
        · rfl
      rw [this]
    · have h : ds.length = 2 := by simp at h; omega
      match ds, h with
      | [a, b], _ =>
        refine sds_cons (sd_if (l := !(isI a && (isI b && true))) (ET.is (et_not (et_val (ed_all (ns := [a, b].map isI) g T.n_all (EL.ed (EL.is (el_comp g (compP g (it_tup (ed_v 0)) [("part", 1)] (blkOk_by (N := ["value", "part"]) (sc := defScope s_is_share) (by decide +kernel)) [a, b] id rfl (fun d => some (.bool (isI d))) (fun d => [.d (.tuple [a, b]), .d d]) [1] (by simp) (by simp) (fun _ _ => trivial)
            (fun d _ s H C cl fp g' => gt_name 1 g'.nd) (fun d _ s H C cl fp o g' => ets_nil) (fun d hd x hx s H C cl fp o g' => ?_))) rfl)) .d))) rfl) (fun h => ?_) fun h => sds_nil ?_)
        · cases hx
          have nd := hnd d hd
          refine ES.is (ed_and (l := isI d) (ed_isi (x := d) (l := (kitB (tyD d) "int").getD false) T.n_isinstance (ed_v 1) .d (ev_ty (T := "int") rfl T.n_int (by decide +kernel)) ?_) fun hk => ed_one (ES.is (ed_not (ed_isi (x := d) (l := (kitB (tyD d) "bool").getD false) T.n_isinstance (ed_v 1) .d (ev_ty (T := "bool") rfl T.n_bool (by decide +kernel)) ?_)) ?_)) ?_
          · cases d <;> first | rfl | exact absurd rfl (nd _)
          · cases d <;> first | rfl | exact absurd rfl (nd _)
          · cases d <;> first | rfl | exact nomatch (show false = true from hk) | exact absurd rfl (nd _)
          · cases d <;> first | rfl | exact absurd rfl (nd _)
        · refine sds_one (sd_retD ed_bl ?_)
          have : isShr (.tuple [a, b]) = false := by
            cases a <;> first | rfl | (cases b <;> first | rfl | exact nomatch (show false = true from h))
          rw [this]
        · obtain ⟨i, rfl⟩ : ∃ i, a = .int i := by
            cases a <;> first | exact ⟨_, rfl⟩ | exact nomatch (show true = false from h)
          obtain ⟨j, rfl⟩ : ∃ j, b = .int j := by
            cases b <;> first | exact ⟨_, rfl⟩ | exact nomatch (show true = false from h)
          refine sds_one (sd_retD (x := .bool (isShr (.tuple [.int i, .int j]))) (ed_and (k := decide (0 < j)) (ed_cmp c_gt (ed_ixT (ed_v 0) ed_int rfl) ed_int) fun h1 => ed_and (ed_chain c_le c_le ed_int (ed_ixT (ed_v 0) ed_int rfl) (ed_ixT (ed_v 0) ed_int rfl)) fun h2 => ed_one (ES.is (ed_cmp c_eqI (es_call (fn_common T) g (by decide) (ea_cons (ed_ixT (ed_v 0) ed_int rfl) (ea_cons (ed_ixT (ed_v 0) ed_int rfl) ea_nil)) ⟨i, j, rfl, rfl, ?_, ?_, rfl⟩) ed_int) ?_)) rfl)
          · simp only [Bool.and_eq_true, decide_eq_true_eq] at h2
            exact h2.1
          · have := of_decide_eq_true h1
            omega
          · congr 1
            refine decide_eq_decide.mpr ?_
            omega
  · have hk : kitB (tyD x) "tuple" = some false := by
      cases x <;> first | rfl | exact absurd ⟨_, rfl⟩ ht | exact absurd rfl (hx.1 _)
    refine sds_cons (sd_if (l := true) (EW.et (ew_or (k := true) (l := true) (et_not (k := false) (et_val (ed_isi (x := x) (l := false) T.n_isinstance (ed_v 0) .d (ev_ty (T := "tuple") rfl T.n_tuple (by decide +kernel)) hk))) fun h => nomatch h)) (fun h => ?_) fun h => nomatch h)
    refine sds_one (sd_retD ed_bl ?_)
    cases x <;> first | rfl | exact absurd ⟨_, rfl⟩ ht)
end
end Pg

namespace Pg
open PySem PySem.Spec PyProof.Rows L2 Sd
section
variable {P : Program} {w : World} {K : PySem.W.Frag} {mg : Str → Option Value} {base : Heap} {c : Cl}
def pre_check_share_t (c : Cl) : Pr := fun ss own post => ∃ x, ss = [.d x] ∧ own = [] ∧ post = fun o => o = if isShr x = true then .ret (.d .none) [] else .exc c.BadShare []
theorem fn_check_share_t (T : Tx K mg c) : Fn K mg P w base "check_share" ["value"] 3 (pre_check_share_t c) := T.d_check_share.fn fun f fd F => okG (k := 2) F sc_check_share (by rintro ss own post ⟨x, rfl, _⟩; rfl) (by
  rintro ss own post ⟨x, rfl, rfl, rfl⟩ cdv A outer s H E B g
  refine sds_one (sd_if (et_not (et_val (es_call (fn_is_share_t T) g (by decide) (ea_cons (ed_v 0) ea_nil) ⟨x, rfl, rfl, rfl⟩))) (fun h => ?_) fun h => ?_)
  · refine sds_one (sd_raise g T.e_BadShare ?_)
    show Out.exc c.BadShare [] = _
    rw [if_neg (by simpa using h)]
  · refine sds_nil ?_
    show Out.ret (.d .none) [] = _
    rw [if_pos (by simpa using h)])
theorem ok_shareT {c : Cl} {x : PyData} (h : isShr x = true) : pre_check_share_t c [.d x] [] (fun o => o = .ret (.d .none) []) := ⟨x, rfl, rfl, by rw [if_pos h]⟩
theorem no_shareT {c : Cl} {x : PyData} (h : isShr x = false) : pre_check_share_t c [.d x] [] (fun o => o = .exc c.BadShare []) := ⟨x, rfl, rfl, by rw [if_neg (by rw [h]; decide)]⟩
end
end Pg

namespace Pg
open PySem PySem.Spec PyProof.Rows L2 Sd
section
variable {P : Program} {w : World} {K : PySem.W.Frag} {mg : Str → Option Value} {base : Heap} {c : Cl}
theorem EX.toEG {Z : Sd.Ctx} {e : Expr} {ρ : List Slot} {own : Own} {R : Slot → Own → Prop} (h : EX Z e ρ own) : EG Z e ρ own R := fun Hf σ H S E Q _ => h Hf σ H S E Q
theorem bad_year {c : Cl} {x : PyData} (h : isYear x = false) : pre_check_year c [.d x] [] (fun o => o = .exc c.BadYear []) := ⟨x, rfl, rfl, by rw [if_neg (by rw [h]; decide)]⟩
theorem bad_many {c : Cl} {x : PyData} (h : Sd.isInt x 0 12 = false) : pre_check_many c [.d x] [] (fun o => o = .exc c.BadNumber []) := ⟨x, rfl, rfl, by rw [if_neg (by rw [h]; decide)]⟩
theorem bad_day {c : Cl} {ys : List Int} {x : PyData} (h : Sd.isInt x 0 ((ys.length : Int) - 1) = false) : pre_check_day c [.d (li ys), .d x] [] (fun o => o = .exc c.BadDay []) := ⟨ys.map PyData.int, x, rfl, rfl, by rw [List.length_map, if_neg (by rw [h]; decide)]⟩
theorem bad_share {c : Cl} {x : PyData} (h : isShr x = false) : pre_check_share_t c [.d x] [] (fun o => o = .exc c.BadShare []) := ⟨x, rfl, rfl, by rw [if_neg (by rw [h]; decide)]⟩
def pre_y (c : Cl) (n : Nat) : Pr := fun ss own post => ∃ (x : PyData) (rest : List Slot), ss = .d x :: rest ∧ rest.length = n ∧ own = [] ∧ isYear x = false ∧ post = fun o => o = .exc c.BadYear []
def pre_z (c : Cl) (n : Nat) : Pr := fun ss own post => ∃ (ys : List Int) (x : PyData) (rest : List Slot), ss = .d (li ys) :: .d x :: rest ∧ rest.length = n ∧ own = [] ∧ Yr ys ∧ isYear x = false ∧ post = fun o => o = .exc c.BadYear []
def pre_n (c : Cl) (n : Nat) : Pr := fun ss own post => ∃ (ys : List Int) (y : PyData) (rest : List Slot), ss = .d (li ys) :: .d y :: rest ∧ rest.length = n ∧ own = [] ∧ Yr ys ∧ Sd.isInt y 0 12 = false ∧ post = fun o => o = .exc c.BadNumber []
def pre_m (c : Cl) (n : Nat) : Pr := fun ss own post => ∃ (ys : List Int) (j : Nat) (y : PyData) (rest : List Slot), ss = .d (li ys) :: .d (.int (j : Int)) :: .d y :: rest ∧ rest.length = n ∧ own = [] ∧ Yr ys ∧ j < ys.length ∧ Sd.isInt y 0 12 = false ∧ post = fun o => o = .exc c.BadNumber []
def pre_2n (c : Cl) : Pr := fun ss own post => ∃ (xs ys : List Int) (y : PyData), ss = [.d (li xs), .d (li ys), .d y] ∧ own = [] ∧ Yr xs ∧ Yr ys ∧ Sd.isInt y 0 12 = false ∧ post = fun o => o = .exc c.BadNumber []
def pre_dx (c : Cl) (n : Nat) : Pr := fun ss own post => ∃ (ys : List Int) (y : PyData) (rest : List Slot), ss = .d (li ys) :: .d y :: rest ∧ rest.length = n ∧ own = [] ∧ Yr ys ∧ Sd.isInt y 0 ((ys.length : Int) - 1) = false ∧ post = fun o => o = .exc c.BadDay []
def pre_ex (c : Cl) : Pr := fun ss own post => ∃ (ys : List Int) (j : Nat) (y : PyData), ss = [.d (li ys), .d (.int (j : Int)), .d y] ∧ own = [] ∧ Yr ys ∧ j < ys.length ∧ Sd.isInt y 0 ((ys.length : Int) - 1) = false ∧ post = fun o => o = .exc c.BadDay []
theorem fy_same_table (T : Tx K mg c) : Fn K mg P w base "same_table" ["year"] 4 (pre_y c 0) := T.d_same_table.fn fun f fd F => okG (k := 3) F sc_same_table (by rintro ss own post ⟨x, rest, rfl, h, _⟩; simp [h]) (by
  rintro ss own post ⟨x, rest, rfl, hl, rfl, h, rfl⟩ cdv A outer s H E B g
  exact sds_cons (sd_exprX (ex_call (fn_check_year T) g (by decide) (ea_cons (ed_v 0) ea_nil) (bad_year h) rfl)))
theorem fy_mean_until_same (T : Tx K mg c) : Fn K mg P w base "mean_until_same" ["year"] 4 (pre_y c 0) := T.d_mean_until_same.fn fun f fd F => okG (k := 3) F sc_mean_until_same (by rintro ss own post ⟨x, rest, rfl, h, _⟩; simp [h]) (by
  rintro ss own post ⟨x, rest, rfl, hl, rfl, h, rfl⟩ cdv A outer s H E B g
  exact sds_cons (sd_exprX (ex_call (fn_check_year T) g (by decide) (ea_cons (ed_v 0) ea_nil) (bad_year h) rfl)))
theorem fy_mean_until_all (T : Tx K mg c) : Fn K mg P w base "mean_until_all" ["year"] 4 (pre_y c 0) := T.d_mean_until_all.fn fun f fd F => okG (k := 3) F sc_mean_until_all (by rintro ss own post ⟨x, rest, rfl, h, _⟩; simp [h]) (by
  rintro ss own post ⟨x, rest, rfl, hl, rfl, h, rfl⟩ cdv A outer s H E B g
  exact sds_cons (sd_exprX (ex_call (fn_check_year T) g (by decide) (ea_cons (ed_v 0) ea_nil) (bad_year h) rfl)))
theorem fy_likeliest_days (T : Tx K mg c) : Fn K mg P w base "likeliest_days" ["year"] 4 (pre_y c 0) := T.d_likeliest_days.fn fun f fd F => okG (k := 3) F sc_likeliest_days (by rintro ss own post ⟨x, rest, rfl, h, _⟩; simp [h]) (by
  rintro ss own post ⟨x, rest, rfl, hl, rfl, h, rfl⟩ cdv A outer s H E B g
  exact sds_cons (sd_exprX (ex_call (fn_check_year T) g (by decide) (ea_cons (ed_v 0) ea_nil) (bad_year h) rfl)))
theorem fy_evenest (T : Tx K mg c) : Fn K mg P w base "evenest" ["year"] 4 (pre_y c 0) := T.d_evenest.fn fun f fd F => okG (k := 3) F sc_evenest (by rintro ss own post ⟨x, rest, rfl, h, _⟩; simp [h]) (by
  rintro ss own post ⟨x, rest, rfl, hl, rfl, h, rfl⟩ cdv A outer s H E B g
  exact sds_cons (sd_exprX (ex_call (fn_check_year T) g (by decide) (ea_cons (ed_v 0) ea_nil) (bad_year h) rfl)))
theorem fy_is_even (T : Tx K mg c) : Fn K mg P w base "is_even" ["year"] 4 (pre_y c 0) := T.d_is_even.fn fun f fd F => okG (k := 3) F sc_is_even (by rintro ss own post ⟨x, rest, rfl, h, _⟩; simp [h]) (by
  rintro ss own post ⟨x, rest, rfl, hl, rfl, h, rfl⟩ cdv A outer s H E B g
  exact sds_cons (sd_exprX (ex_call (fn_check_year T) g (by decide) (ea_cons (ed_v 0) ea_nil) (bad_year h) rfl)))
theorem fy_plain (T : Tx K mg c) : Fn K mg P w base "plain" ["year"] 4 (pre_y c 0) := T.d_plain.fn fun f fd F => okG (k := 3) F sc_plain (by rintro ss own post ⟨x, rest, rfl, h, _⟩; simp [h]) (by
  rintro ss own post ⟨x, rest, rfl, hl, rfl, h, rfl⟩ cdv A outer s H E B g
  exact sds_cons (sd_exprX (ex_call (fn_check_year T) g (by decide) (ea_cons (ed_v 0) ea_nil) (bad_year h) rfl)))
theorem fy_format_year (T : Tx K mg c) : Fn K mg P w base "format_year" ["year"] 4 (pre_y c 0) := T.d_format_year.fn fun f fd F => okG (k := 3) F sc_format_year (by rintro ss own post ⟨x, rest, rfl, h, _⟩; simp [h]) (by
  rintro ss own post ⟨x, rest, rfl, hl, rfl, h, rfl⟩ cdv A outer s H E B g
  exact sds_cons (sd_exprX (ex_call (fn_check_year T) g (by decide) (ea_cons (ed_v 0) ea_nil) (bad_year h) rfl)))
theorem fy_look_alike (T : Tx K mg c) : Fn K mg P w base "look_alike" ["one", "other"] 4 (pre_y c 1) := T.d_look_alike.fn fun f fd F => okG (k := 3) F sc_look_alike (by rintro ss own post ⟨x, rest, rfl, h, _⟩; simp [h]) (by
  rintro ss own post ⟨x, rest, rfl, hl, rfl, h, rfl⟩ cdv A outer s H E B g
  exact sds_cons (sd_exprX (ex_call (fn_check_year T) g (by decide) (ea_cons (ed_v 0) ea_nil) (bad_year h) rfl)))
theorem fy_first_unlike (T : Tx K mg c) : Fn K mg P w base "first_unlike" ["one", "other"] 4 (pre_y c 1) := T.d_first_unlike.fn fun f fd F => okG (k := 3) F sc_first_unlike (by rintro ss own post ⟨x, rest, rfl, h, _⟩; simp [h]) (by
  rintro ss own post ⟨x, rest, rfl, hl, rfl, h, rfl⟩ cdv A outer s H E B g
  exact sds_cons (sd_exprX (ex_call (fn_check_year T) g (by decide) (ea_cons (ed_v 0) ea_nil) (bad_year h) rfl)))
theorem fy_crowd_at_most (T : Tx K mg c) : Fn K mg P w base "crowd_at_most" ["year", "many", "crowd"] 4 (pre_y c 2) := T.d_crowd_at_most.fn fun f fd F => okG (k := 3) F sc_crowd_at_most (by rintro ss own post ⟨x, rest, rfl, h, _⟩; simp [h]) (by
  rintro ss own post ⟨x, rest, rfl, hl, rfl, h, rfl⟩ cdv A outer s H E B g
  exact sds_cons (sd_exprX (ex_call (fn_check_year T) g (by decide) (ea_cons (ed_v 0) ea_nil) (bad_year h) rfl)))
theorem fy_on_day (T : Tx K mg c) : Fn K mg P w base "on_day" ["year", "day", "many"] 4 (pre_y c 2) := T.d_on_day.fn fun f fd F => okG (k := 3) F sc_on_day (by rintro ss own post ⟨x, rest, rfl, h, _⟩; simp [h]) (by
  rintro ss own post ⟨x, rest, rfl, hl, rfl, h, rfl⟩ cdv A outer s H E B g
  exact sds_cons (sd_exprX (ex_call (fn_check_year T) g (by decide) (ea_cons (ed_v 0) ea_nil) (bad_year h) rfl)))
theorem fy_just_on_day (T : Tx K mg c) : Fn K mg P w base "just_on_day" ["year", "day", "many", "own"] 4 (pre_y c 3) := T.d_just_on_day.fn fun f fd F => okG (k := 3) F sc_just_on_day (by rintro ss own post ⟨x, rest, rfl, h, _⟩; simp [h]) (by
  rintro ss own post ⟨x, rest, rfl, hl, rfl, h, rfl⟩ cdv A outer s H E B g
  exact sds_cons (sd_exprX (ex_call (fn_check_year T) g (by decide) (ea_cons (ed_v 0) ea_nil) (bad_year h) rfl)))
theorem fy_more_same (T : Tx K mg c) : Fn K mg P w base "more_same" ["one", "other", "many"] 4 (pre_y c 2) := T.d_more_same.fn fun f fd F => okG (k := 3) F sc_more_same (by rintro ss own post ⟨x, rest, rfl, h, _⟩; simp [h]) (by
  rintro ss own post ⟨x, rest, rfl, hl, rfl, h, rfl⟩ cdv A outer s H E B g
  exact sds_cons (sd_exprX (ex_call (fn_check_year T) g (by decide) (ea_cons (ed_v 0) ea_nil) (bad_year h) rfl)))
theorem fy_share_of (T : Tx K mg c) : Fn K mg P w base "share_of" ["year", "day"] 4 (pre_y c 1) := T.d_share_of.fn fun f fd F => okG (k := 3) F sc_share_of (by rintro ss own post ⟨x, rest, rfl, h, _⟩; simp [h]) (by
  rintro ss own post ⟨x, rest, rfl, hl, rfl, h, rfl⟩ cdv A outer s H E B g
  exact sds_cons (sd_exprX (ex_call (fn_check_year T) g (by decide) (ea_cons (ed_v 0) ea_nil) (bad_year h) rfl)))
theorem fy_evened (T : Tx K mg c) : Fn K mg P w base "evened" ["year", "one", "other"] 4 (pre_y c 2) := T.d_evened.fn fun f fd F => okG (k := 3) F sc_evened (by rintro ss own post ⟨x, rest, rfl, h, _⟩; simp [h]) (by
  rintro ss own post ⟨x, rest, rfl, hl, rfl, h, rfl⟩ cdv A outer s H E B g
  exact sds_cons (sd_exprX (ex_call (fn_check_year T) g (by decide) (ea_cons (ed_v 0) ea_nil) (bad_year h) rfl)))
theorem fy_put_together (T : Tx K mg c) : Fn K mg P w base "put_together" ["year", "one", "other"] 4 (pre_y c 2) := T.d_put_together.fn fun f fd F => okG (k := 3) F sc_put_together (by rintro ss own post ⟨x, rest, rfl, h, _⟩; simp [h]) (by
  rintro ss own post ⟨x, rest, rfl, hl, rfl, h, rfl⟩ cdv A outer s H E B g
  exact sds_cons (sd_exprX (ex_call (fn_check_year T) g (by decide) (ea_cons (ed_v 0) ea_nil) (bad_year h) rfl)))
theorem fy_without_day (T : Tx K mg c) : Fn K mg P w base "without_day" ["year", "day"] 4 (pre_y c 1) := T.d_without_day.fn fun f fd F => okG (k := 3) F sc_without_day (by rintro ss own post ⟨x, rest, rfl, h, _⟩; simp [h]) (by
  rintro ss own post ⟨x, rest, rfl, hl, rfl, h, rfl⟩ cdv A outer s H E B g
  exact sds_cons (sd_exprX (ex_call (fn_check_year T) g (by decide) (ea_cons (ed_v 0) ea_nil) (bad_year h) rfl)))
theorem fy_all_unlike (T : Tx K mg c) : Fn K mg P w base "all_unlike" ["year", "many"] 4 (pre_y c 1) := T.d_all_unlike.fn fun f fd F => okG (k := 3) F sc_all_unlike (by rintro ss own post ⟨x, rest, rfl, h, _⟩; simp [h]) (by
  rintro ss own post ⟨x, rest, rfl, hl, rfl, h, rfl⟩ cdv A outer s H E B g
  exact sds_cons (sd_exprX (ex_call (fn_check_year T) g (by decide) (ea_cons (ed_v 0) ea_nil) (bad_year h) rfl)))
theorem fy_some_same (T : Tx K mg c) : Fn K mg P w base "some_same" ["year", "many"] 4 (pre_y c 1) := T.d_some_same.fn fun f fd F => okG (k := 3) F sc_some_same (by rintro ss own post ⟨x, rest, rfl, h, _⟩; simp [h]) (by
  rintro ss own post ⟨x, rest, rfl, hl, rfl, h, rfl⟩ cdv A outer s H E B g
  exact sds_cons (sd_exprX (ex_call (fn_check_year T) g (by decide) (ea_cons (ed_v 0) ea_nil) (bad_year h) rfl)))
theorem fy_first_same_at (T : Tx K mg c) : Fn K mg P w base "first_same_at" ["year", "many"] 4 (pre_y c 1) := T.d_first_same_at.fn fun f fd F => okG (k := 3) F sc_first_same_at (by rintro ss own post ⟨x, rest, rfl, h, _⟩; simp [h]) (by
  rintro ss own post ⟨x, rest, rfl, hl, rfl, h, rfl⟩ cdv A outer s H E B g
  exact sds_cons (sd_exprX (ex_call (fn_check_year T) g (by decide) (ea_cons (ed_v 0) ea_nil) (bad_year h) rfl)))
theorem fy_crowds (T : Tx K mg c) : Fn K mg P w base "crowds" ["year", "many"] 4 (pre_y c 1) := T.d_crowds.fn fun f fd F => okG (k := 3) F sc_crowds (by rintro ss own post ⟨x, rest, rfl, h, _⟩; simp [h]) (by
  rintro ss own post ⟨x, rest, rfl, hl, rfl, h, rfl⟩ cdv A outer s H E B g
  exact sds_cons (sd_exprX (ex_call (fn_check_year T) g (by decide) (ea_cons (ed_v 0) ea_nil) (bad_year h) rfl)))
theorem fy_pair_chances (T : Tx K mg c) : Fn K mg P w base "pair_chances" ["year", "many"] 4 (pre_y c 1) := T.d_pair_chances.fn fun f fd F => okG (k := 3) F sc_pair_chances (by rintro ss own post ⟨x, rest, rfl, h, _⟩; simp [h]) (by
  rintro ss own post ⟨x, rest, rfl, hl, rfl, h, rfl⟩ cdv A outer s H E B g
  exact sds_cons (sd_exprX (ex_call (fn_check_year T) g (by decide) (ea_cons (ed_v 0) ea_nil) (bad_year h) rfl)))
theorem fy_mean_pairs (T : Tx K mg c) : Fn K mg P w base "mean_pairs" ["year", "many"] 4 (pre_y c 1) := T.d_mean_pairs.fn fun f fd F => okG (k := 3) F sc_mean_pairs (by rintro ss own post ⟨x, rest, rfl, h, _⟩; simp [h]) (by
  rintro ss own post ⟨x, rest, rfl, hl, rfl, h, rfl⟩ cdv A outer s H E B g
  exact sds_cons (sd_exprX (ex_call (fn_check_year T) g (by decide) (ea_cons (ed_v 0) ea_nil) (bad_year h) rfl)))
theorem fy_likeliest_pairs (T : Tx K mg c) : Fn K mg P w base "likeliest_pairs" ["year", "many"] 4 (pre_y c 1) := T.d_likeliest_pairs.fn fun f fd F => okG (k := 3) F sc_likeliest_pairs (by rintro ss own post ⟨x, rest, rfl, h, _⟩; simp [h]) (by
  rintro ss own post ⟨x, rest, rfl, hl, rfl, h, rfl⟩ cdv A outer s H E B g
  exact sds_cons (sd_exprX (ex_call (fn_check_year T) g (by decide) (ea_cons (ed_v 0) ea_nil) (bad_year h) rfl)))
theorem fy_used_chances (T : Tx K mg c) : Fn K mg P w base "used_chances" ["year", "many"] 4 (pre_y c 1) := T.d_used_chances.fn fun f fd F => okG (k := 3) F sc_used_chances (by rintro ss own post ⟨x, rest, rfl, h, _⟩; simp [h]) (by
  rintro ss own post ⟨x, rest, rfl, hl, rfl, h, rfl⟩ cdv A outer s H E B g
  exact sds_cons (sd_exprX (ex_call (fn_check_year T) g (by decide) (ea_cons (ed_v 0) ea_nil) (bad_year h) rfl)))
theorem fy_mean_used (T : Tx K mg c) : Fn K mg P w base "mean_used" ["year", "many"] 4 (pre_y c 1) := T.d_mean_used.fn fun f fd F => okG (k := 3) F sc_mean_used (by rintro ss own post ⟨x, rest, rfl, h, _⟩; simp [h]) (by
  rintro ss own post ⟨x, rest, rfl, hl, rfl, h, rfl⟩ cdv A outer s H E B g
  exact sds_cons (sd_exprX (ex_call (fn_check_year T) g (by decide) (ea_cons (ed_v 0) ea_nil) (bad_year h) rfl)))
theorem fy_all_used (T : Tx K mg c) : Fn K mg P w base "all_used" ["year", "many"] 4 (pre_y c 1) := T.d_all_used.fn fun f fd F => okG (k := 3) F sc_all_used (by rintro ss own post ⟨x, rest, rfl, h, _⟩; simp [h]) (by
  rintro ss own post ⟨x, rest, rfl, hl, rfl, h, rfl⟩ cdv A outer s H E B g
  exact sds_cons (sd_exprX (ex_call (fn_check_year T) g (by decide) (ea_cons (ed_v 0) ea_nil) (bad_year h) rfl)))
theorem fy_all_used_at (T : Tx K mg c) : Fn K mg P w base "all_used_at" ["year", "many"] 4 (pre_y c 1) := T.d_all_used_at.fn fun f fd F => okG (k := 3) F sc_all_used_at (by rintro ss own post ⟨x, rest, rfl, h, _⟩; simp [h]) (by
  rintro ss own post ⟨x, rest, rfl, hl, rfl, h, rfl⟩ cdv A outer s H E B g
  exact sds_cons (sd_exprX (ex_call (fn_check_year T) g (by decide) (ea_cons (ed_v 0) ea_nil) (bad_year h) rfl)))
theorem fy_new_day_at (T : Tx K mg c) : Fn K mg P w base "new_day_at" ["year", "many"] 4 (pre_y c 1) := T.d_new_day_at.fn fun f fd F => okG (k := 3) F sc_new_day_at (by rintro ss own post ⟨x, rest, rfl, h, _⟩; simp [h]) (by
  rintro ss own post ⟨x, rest, rfl, hl, rfl, h, rfl⟩ cdv A outer s H E B g
  exact sds_cons (sd_exprX (ex_call (fn_check_year T) g (by decide) (ea_cons (ed_v 0) ea_nil) (bad_year h) rfl)))
theorem fz_look_alike (T : Tx K mg c) : Fn K mg P w base "look_alike" ["one", "other"] 4 (pre_z c 0) := T.d_look_alike.fn fun f fd F => okG (k := 3) F sc_look_alike (by rintro ss own post ⟨ys, x, rest, rfl, h, _⟩; simp [h]) (by
  rintro ss own post ⟨ys, x, rest, rfl, hl, rfl, hY, h, rfl⟩ cdv A outer s H E B g
  refine sds_cons (sd_expr (es_call (fn_check_year T) g (by decide) (ea_cons (ed_v 0) ea_nil) (ok_year hY)) ?_)
  exact sds_cons (sd_exprX (ex_call (fn_check_year T) g (by decide) (ea_cons (ed_v 1) ea_nil) (bad_year h) rfl)))
theorem fz_first_unlike (T : Tx K mg c) : Fn K mg P w base "first_unlike" ["one", "other"] 4 (pre_z c 0) := T.d_first_unlike.fn fun f fd F => okG (k := 3) F sc_first_unlike (by rintro ss own post ⟨ys, x, rest, rfl, h, _⟩; simp [h]) (by
  rintro ss own post ⟨ys, x, rest, rfl, hl, rfl, hY, h, rfl⟩ cdv A outer s H E B g
  refine sds_cons (sd_expr (es_call (fn_check_year T) g (by decide) (ea_cons (ed_v 0) ea_nil) (ok_year hY)) ?_)
  exact sds_cons (sd_exprX (ex_call (fn_check_year T) g (by decide) (ea_cons (ed_v 1) ea_nil) (bad_year h) rfl)))
theorem fz_more_same (T : Tx K mg c) : Fn K mg P w base "more_same" ["one", "other", "many"] 4 (pre_z c 1) := T.d_more_same.fn fun f fd F => okG (k := 3) F sc_more_same (by rintro ss own post ⟨ys, x, rest, rfl, h, _⟩; simp [h]) (by
  rintro ss own post ⟨ys, x, rest, rfl, hl, rfl, hY, h, rfl⟩ cdv A outer s H E B g
  refine sds_cons (sd_expr (es_call (fn_check_year T) g (by decide) (ea_cons (ed_v 0) ea_nil) (ok_year hY)) ?_)
  exact sds_cons (sd_exprX (ex_call (fn_check_year T) g (by decide) (ea_cons (ed_v 1) ea_nil) (bad_year h) rfl)))
theorem fm_all_unlike (T : Tx K mg c) : Fn K mg P w base "all_unlike" ["year", "many"] 4 (pre_n c 0) := T.d_all_unlike.fn fun f fd F => okG (k := 3) F sc_all_unlike (by rintro ss own post ⟨ys, y, rest, rfl, h, _⟩; simp [h]) (by
  rintro ss own post ⟨ys, y, rest, rfl, hl, rfl, hY, h, rfl⟩ cdv A outer s H E B g
  refine sds_cons (sd_expr (es_call (fn_check_year T) g (by decide) (ea_cons (ed_v 0) ea_nil) (ok_year hY)) ?_)
  exact sds_cons (sd_exprX (ex_call (fn_check_many T) g (by decide) (ea_cons (ed_v 1) ea_nil) (bad_many h) rfl)))
theorem fm_some_same (T : Tx K mg c) : Fn K mg P w base "some_same" ["year", "many"] 4 (pre_n c 0) := T.d_some_same.fn fun f fd F => okG (k := 3) F sc_some_same (by rintro ss own post ⟨ys, y, rest, rfl, h, _⟩; simp [h]) (by
  rintro ss own post ⟨ys, y, rest, rfl, hl, rfl, hY, h, rfl⟩ cdv A outer s H E B g
  refine sds_cons (sd_expr (es_call (fn_check_year T) g (by decide) (ea_cons (ed_v 0) ea_nil) (ok_year hY)) ?_)
  exact sds_cons (sd_exprX (ex_call (fn_check_many T) g (by decide) (ea_cons (ed_v 1) ea_nil) (bad_many h) rfl)))
theorem fm_first_same_at (T : Tx K mg c) : Fn K mg P w base "first_same_at" ["year", "many"] 4 (pre_n c 0) := T.d_first_same_at.fn fun f fd F => okG (k := 3) F sc_first_same_at (by rintro ss own post ⟨ys, y, rest, rfl, h, _⟩; simp [h]) (by
  rintro ss own post ⟨ys, y, rest, rfl, hl, rfl, hY, h, rfl⟩ cdv A outer s H E B g
  refine sds_cons (sd_expr (es_call (fn_check_year T) g (by decide) (ea_cons (ed_v 0) ea_nil) (ok_year hY)) ?_)
  exact sds_cons (sd_exprX (ex_call (fn_check_many T) g (by decide) (ea_cons (ed_v 1) ea_nil) (bad_many h) rfl)))
theorem fm_crowds (T : Tx K mg c) : Fn K mg P w base "crowds" ["year", "many"] 4 (pre_n c 0) := T.d_crowds.fn fun f fd F => okG (k := 3) F sc_crowds (by rintro ss own post ⟨ys, y, rest, rfl, h, _⟩; simp [h]) (by
  rintro ss own post ⟨ys, y, rest, rfl, hl, rfl, hY, h, rfl⟩ cdv A outer s H E B g
  refine sds_cons (sd_expr (es_call (fn_check_year T) g (by decide) (ea_cons (ed_v 0) ea_nil) (ok_year hY)) ?_)
  exact sds_cons (sd_exprX (ex_call (fn_check_many T) g (by decide) (ea_cons (ed_v 1) ea_nil) (bad_many h) rfl)))
theorem fm_pair_chances (T : Tx K mg c) : Fn K mg P w base "pair_chances" ["year", "many"] 4 (pre_n c 0) := T.d_pair_chances.fn fun f fd F => okG (k := 3) F sc_pair_chances (by rintro ss own post ⟨ys, y, rest, rfl, h, _⟩; simp [h]) (by
  rintro ss own post ⟨ys, y, rest, rfl, hl, rfl, hY, h, rfl⟩ cdv A outer s H E B g
  refine sds_cons (sd_expr (es_call (fn_check_year T) g (by decide) (ea_cons (ed_v 0) ea_nil) (ok_year hY)) ?_)
  exact sds_cons (sd_exprX (ex_call (fn_check_many T) g (by decide) (ea_cons (ed_v 1) ea_nil) (bad_many h) rfl)))
theorem fm_mean_pairs (T : Tx K mg c) : Fn K mg P w base "mean_pairs" ["year", "many"] 4 (pre_n c 0) := T.d_mean_pairs.fn fun f fd F => okG (k := 3) F sc_mean_pairs (by rintro ss own post ⟨ys, y, rest, rfl, h, _⟩; simp [h]) (by
  rintro ss own post ⟨ys, y, rest, rfl, hl, rfl, hY, h, rfl⟩ cdv A outer s H E B g
  refine sds_cons (sd_expr (es_call (fn_check_year T) g (by decide) (ea_cons (ed_v 0) ea_nil) (ok_year hY)) ?_)
  exact sds_cons (sd_exprX (ex_call (fn_check_many T) g (by decide) (ea_cons (ed_v 1) ea_nil) (bad_many h) rfl)))
theorem fm_likeliest_pairs (T : Tx K mg c) : Fn K mg P w base "likeliest_pairs" ["year", "many"] 4 (pre_n c 0) := T.d_likeliest_pairs.fn fun f fd F => okG (k := 3) F sc_likeliest_pairs (by rintro ss own post ⟨ys, y, rest, rfl, h, _⟩; simp [h]) (by
  rintro ss own post ⟨ys, y, rest, rfl, hl, rfl, hY, h, rfl⟩ cdv A outer s H E B g
  refine sds_cons (sd_expr (es_call (fn_check_year T) g (by decide) (ea_cons (ed_v 0) ea_nil) (ok_year hY)) ?_)
  exact sds_cons (sd_exprX (ex_call (fn_check_many T) g (by decide) (ea_cons (ed_v 1) ea_nil) (bad_many h) rfl)))
theorem fm_used_chances (T : Tx K mg c) : Fn K mg P w base "used_chances" ["year", "many"] 4 (pre_n c 0) := T.d_used_chances.fn fun f fd F => okG (k := 3) F sc_used_chances (by rintro ss own post ⟨ys, y, rest, rfl, h, _⟩; simp [h]) (by
  rintro ss own post ⟨ys, y, rest, rfl, hl, rfl, hY, h, rfl⟩ cdv A outer s H E B g
  refine sds_cons (sd_expr (es_call (fn_check_year T) g (by decide) (ea_cons (ed_v 0) ea_nil) (ok_year hY)) ?_)
  exact sds_cons (sd_exprX (ex_call (fn_check_many T) g (by decide) (ea_cons (ed_v 1) ea_nil) (bad_many h) rfl)))
theorem fm_mean_used (T : Tx K mg c) : Fn K mg P w base "mean_used" ["year", "many"] 4 (pre_n c 0) := T.d_mean_used.fn fun f fd F => okG (k := 3) F sc_mean_used (by rintro ss own post ⟨ys, y, rest, rfl, h, _⟩; simp [h]) (by
  rintro ss own post ⟨ys, y, rest, rfl, hl, rfl, hY, h, rfl⟩ cdv A outer s H E B g
  refine sds_cons (sd_expr (es_call (fn_check_year T) g (by decide) (ea_cons (ed_v 0) ea_nil) (ok_year hY)) ?_)
  exact sds_cons (sd_exprX (ex_call (fn_check_many T) g (by decide) (ea_cons (ed_v 1) ea_nil) (bad_many h) rfl)))
theorem fm_all_used (T : Tx K mg c) : Fn K mg P w base "all_used" ["year", "many"] 4 (pre_n c 0) := T.d_all_used.fn fun f fd F => okG (k := 3) F sc_all_used (by rintro ss own post ⟨ys, y, rest, rfl, h, _⟩; simp [h]) (by
  rintro ss own post ⟨ys, y, rest, rfl, hl, rfl, hY, h, rfl⟩ cdv A outer s H E B g
  refine sds_cons (sd_expr (es_call (fn_check_year T) g (by decide) (ea_cons (ed_v 0) ea_nil) (ok_year hY)) ?_)
  exact sds_cons (sd_exprX (ex_call (fn_check_many T) g (by decide) (ea_cons (ed_v 1) ea_nil) (bad_many h) rfl)))
theorem fm_all_used_at (T : Tx K mg c) : Fn K mg P w base "all_used_at" ["year", "many"] 4 (pre_n c 0) := T.d_all_used_at.fn fun f fd F => okG (k := 3) F sc_all_used_at (by rintro ss own post ⟨ys, y, rest, rfl, h, _⟩; simp [h]) (by
  rintro ss own post ⟨ys, y, rest, rfl, hl, rfl, hY, h, rfl⟩ cdv A outer s H E B g
  refine sds_cons (sd_expr (es_call (fn_check_year T) g (by decide) (ea_cons (ed_v 0) ea_nil) (ok_year hY)) ?_)
  exact sds_cons (sd_exprX (ex_call (fn_check_many T) g (by decide) (ea_cons (ed_v 1) ea_nil) (bad_many h) rfl)))
theorem fm_new_day_at (T : Tx K mg c) : Fn K mg P w base "new_day_at" ["year", "many"] 4 (pre_n c 0) := T.d_new_day_at.fn fun f fd F => okG (k := 3) F sc_new_day_at (by rintro ss own post ⟨ys, y, rest, rfl, h, _⟩; simp [h]) (by
  rintro ss own post ⟨ys, y, rest, rfl, hl, rfl, hY, h, rfl⟩ cdv A outer s H E B g
  refine sds_cons (sd_expr (es_call (fn_check_year T) g (by decide) (ea_cons (ed_v 0) ea_nil) (ok_year hY)) ?_)
  exact sds_cons (sd_exprX (ex_call (fn_check_many T) g (by decide) (ea_cons (ed_v 1) ea_nil) (bad_many h) rfl)))
theorem fm_crowd_at_most (T : Tx K mg c) : Fn K mg P w base "crowd_at_most" ["year", "many", "crowd"] 4 (pre_n c 1) := T.d_crowd_at_most.fn fun f fd F => okG (k := 3) F sc_crowd_at_most (by rintro ss own post ⟨ys, y, rest, rfl, h, _⟩; simp [h]) (by
  rintro ss own post ⟨ys, y, rest, rfl, hl, rfl, hY, h, rfl⟩ cdv A outer s H E B g
  refine sds_cons (sd_expr (es_call (fn_check_year T) g (by decide) (ea_cons (ed_v 0) ea_nil) (ok_year hY)) ?_)
  exact sds_cons (sd_exprX (ex_call (fn_check_many T) g (by decide) (ea_cons (ed_v 1) ea_nil) (bad_many h) rfl)))
theorem fm_on_day (T : Tx K mg c) : Fn K mg P w base "on_day" ["year", "day", "many"] 4 (pre_m c 0) := T.d_on_day.fn fun f fd F => okG (k := 3) F sc_on_day (by rintro ss own post ⟨ys, j, y, rest, rfl, h, _⟩; simp [h]) (by
  rintro ss own post ⟨ys, j, y, rest, rfl, hl, rfl, hY, hj, h, rfl⟩ cdv A outer s H E B g
  refine sds_cons (sd_expr (es_call (fn_check_year T) g (by decide) (ea_cons (ed_v 0) ea_nil) (ok_year hY)) ?_)
  refine sds_cons (sd_expr (es_call (fn_check_day T) g (by decide) (ea_cons (ed_v 0) (ea_cons (ed_v 1) ea_nil)) (ok_day ⟨by omega, by omega⟩)) ?_)
  exact sds_cons (sd_exprX (ex_call (fn_check_many T) g (by decide) (ea_cons (ed_v 2) ea_nil) (bad_many h) rfl)))
theorem fm_just_on_day (T : Tx K mg c) : Fn K mg P w base "just_on_day" ["year", "day", "many", "own"] 4 (pre_m c 1) := T.d_just_on_day.fn fun f fd F => okG (k := 3) F sc_just_on_day (by rintro ss own post ⟨ys, j, y, rest, rfl, h, _⟩; simp [h]) (by
  rintro ss own post ⟨ys, j, y, rest, rfl, hl, rfl, hY, hj, h, rfl⟩ cdv A outer s H E B g
  refine sds_cons (sd_expr (es_call (fn_check_year T) g (by decide) (ea_cons (ed_v 0) ea_nil) (ok_year hY)) ?_)
  refine sds_cons (sd_expr (es_call (fn_check_day T) g (by decide) (ea_cons (ed_v 0) (ea_cons (ed_v 1) ea_nil)) (ok_day ⟨by omega, by omega⟩)) ?_)
  exact sds_cons (sd_exprX (ex_call (fn_check_many T) g (by decide) (ea_cons (ed_v 2) ea_nil) (bad_many h) rfl)))
theorem fm_more_same (T : Tx K mg c) : Fn K mg P w base "more_same" ["one", "other", "many"] 4 (pre_2n c) := T.d_more_same.fn fun f fd F => okG (k := 3) F sc_more_same (by rintro ss own post ⟨xs, ys, y, rfl, _⟩; rfl) (by
  rintro ss own post ⟨xs, ys, y, rfl, rfl, hX, hY, h, rfl⟩ cdv A outer s H E B g
  refine sds_cons (sd_expr (es_call (fn_check_year T) g (by decide) (ea_cons (ed_v 0) ea_nil) (ok_year hX)) ?_)
  refine sds_cons (sd_expr (es_call (fn_check_year T) g (by decide) (ea_cons (ed_v 1) ea_nil) (ok_year hY)) ?_)
  exact sds_cons (sd_exprX (ex_call (fn_check_many T) g (by decide) (ea_cons (ed_v 2) ea_nil) (bad_many h) rfl)))
theorem fd_share_of (T : Tx K mg c) : Fn K mg P w base "share_of" ["year", "day"] 4 (pre_dx c 0) := T.d_share_of.fn fun f fd F => okG (k := 3) F sc_share_of (by rintro ss own post ⟨ys, y, rest, rfl, h, _⟩; simp [h]) (by
  rintro ss own post ⟨ys, y, rest, rfl, hl, rfl, hY, h, rfl⟩ cdv A outer s H E B g
  refine sds_cons (sd_expr (es_call (fn_check_year T) g (by decide) (ea_cons (ed_v 0) ea_nil) (ok_year hY)) ?_)
  exact sds_cons (sd_exprX (ex_call (fn_check_day T) g (by decide) (ea_cons (ed_v 0) (ea_cons (ed_v 1) ea_nil)) (bad_day h) rfl)))
theorem fd_on_day (T : Tx K mg c) : Fn K mg P w base "on_day" ["year", "day", "many"] 4 (pre_dx c 1) := T.d_on_day.fn fun f fd F => okG (k := 3) F sc_on_day (by rintro ss own post ⟨ys, y, rest, rfl, h, _⟩; simp [h]) (by
  rintro ss own post ⟨ys, y, rest, rfl, hl, rfl, hY, h, rfl⟩ cdv A outer s H E B g
  refine sds_cons (sd_expr (es_call (fn_check_year T) g (by decide) (ea_cons (ed_v 0) ea_nil) (ok_year hY)) ?_)
  exact sds_cons (sd_exprX (ex_call (fn_check_day T) g (by decide) (ea_cons (ed_v 0) (ea_cons (ed_v 1) ea_nil)) (bad_day h) rfl)))
theorem fd_just_on_day (T : Tx K mg c) : Fn K mg P w base "just_on_day" ["year", "day", "many", "own"] 4 (pre_dx c 2) := T.d_just_on_day.fn fun f fd F => okG (k := 3) F sc_just_on_day (by rintro ss own post ⟨ys, y, rest, rfl, h, _⟩; simp [h]) (by
  rintro ss own post ⟨ys, y, rest, rfl, hl, rfl, hY, h, rfl⟩ cdv A outer s H E B g
  refine sds_cons (sd_expr (es_call (fn_check_year T) g (by decide) (ea_cons (ed_v 0) ea_nil) (ok_year hY)) ?_)
  exact sds_cons (sd_exprX (ex_call (fn_check_day T) g (by decide) (ea_cons (ed_v 0) (ea_cons (ed_v 1) ea_nil)) (bad_day h) rfl)))
theorem fd_evened (T : Tx K mg c) : Fn K mg P w base "evened" ["year", "one", "other"] 4 (pre_dx c 1) := T.d_evened.fn fun f fd F => okG (k := 3) F sc_evened (by rintro ss own post ⟨ys, y, rest, rfl, h, _⟩; simp [h]) (by
  rintro ss own post ⟨ys, y, rest, rfl, hl, rfl, hY, h, rfl⟩ cdv A outer s H E B g
  refine sds_cons (sd_expr (es_call (fn_check_year T) g (by decide) (ea_cons (ed_v 0) ea_nil) (ok_year hY)) ?_)
  exact sds_cons (sd_exprX (ex_call (fn_check_day T) g (by decide) (ea_cons (ed_v 0) (ea_cons (ed_v 1) ea_nil)) (bad_day h) rfl)))
theorem fe_evened (T : Tx K mg c) : Fn K mg P w base "evened" ["year", "one", "other"] 4 (pre_ex c) := T.d_evened.fn fun f fd F => okG (k := 3) F sc_evened (by rintro ss own post ⟨ys, j, y, rfl, _⟩; rfl) (by
  rintro ss own post ⟨ys, j, y, rfl, rfl, hY, hj, h, rfl⟩ cdv A outer s H E B g
  refine sds_cons (sd_expr (es_call (fn_check_year T) g (by decide) (ea_cons (ed_v 0) ea_nil) (ok_year hY)) ?_)
  refine sds_cons (sd_expr (es_call (fn_check_day T) g (by decide) (ea_cons (ed_v 0) (ea_cons (ed_v 1) ea_nil)) (ok_day ⟨by omega, by omega⟩)) ?_)
  exact sds_cons (sd_exprX (ex_call (fn_check_day T) g (by decide) (ea_cons (ed_v 0) (ea_cons (ed_v 2) ea_nil)) (bad_day h) rfl)))
end
end Pg

namespace Pg
open PySem PySem.Spec PyProof.Rows L2 Sd
section
variable {P : Program} {w : World} {K : PySem.W.Frag} {mg : Str → Option Value} {base : Heap} {c : Cl}
def pre_cal_init_x (c : Cl) : Pr := fun ss own post => ∃ (x dx : Addr) (z : PyData), ss = [.raw (.ref x), .d z] ∧ own = [(x, .raw (.ins c.Calendar dx [])), (dx, .raw (.own x))] ∧ isYear z = false ∧ post = fun o => o = .exc c.BadYear [(x, .raw (.ins c.Calendar dx [])), (dx, .raw (.own x))]
theorem fx_cal_init (T : Tx K mg c) : MkT K mg P w base "Calendar" c.Calendar ["self", "year"] 4 (pre_cal_init_x c) := T.m_init.mkt T.o_Calendar fun f fd F => okG (k := 3) F sc_Calendar_init (by rintro ss own post ⟨x, dx, z, rfl, _⟩; rfl) (by
  rintro ss own post ⟨x, dx, z, rfl, rfl, h, rfl⟩ cdv A outer s H E B g
  exact sds_cons (sd_exprX (ex_call (fn_check_year T) g (by decide) (ea_cons (ed_v 1) ea_nil) (bad_year h) rfl)))
end
end Pg

namespace Pg
open PySem PySem.Spec PyProof.Rows L2 Sd
section
variable {P : Program} {w : World} {K : PySem.W.Frag} {mg : Str → Option Value} {base : Heap} {c : Cl}
theorem flat_one {α : Type} (x : α) : ∀ n : Nat, (List.replicate n [x]).flatten = List.replicate n x
  | 0 => rfl
  | n + 1 => by rw [List.replicate_succ, List.flatten_cons, flat_one x n, List.replicate_succ]; rfl
def evn (ys : List Int) : List Int := List.replicate (ys.sum % ys.length).toNat (ys.sum / ys.length + 1) ++ List.replicate ((ys.length : Int) - ys.sum % ys.length).toNat (ys.sum / ys.length)
def pre_evenest : Pr := fun ss own post => ∃ ys : List Int, ss = [.d (li ys)] ∧ own = [] ∧ Yr ys ∧ post = fun o => ∃ p, o = .ret (.raw (.ref p)) [(p, .lst ((evn ys).map PyData.int))]
theorem fn_evenest (T : Tx K mg c) : Fn K mg P w base "evenest" ["year"] 4 pre_evenest := T.d_evenest.fn fun f fd F => okG (k := 3) F sc_evenest (by rintro ss own post ⟨n, rfl, _⟩; rfl) (by
  rintro ss own post ⟨ys, rfl, rfl, hY, rfl⟩ cdv A outer s H E B g
  have hl := hY.hi
  have hlo := hY.lo
  have hW := hY.sum_lo
  have hlen : ((ys.map PyData.int).length : Int) = (ys.length : Int) := by rw [List.length_map]
  refine sds_cons (sd_expr (es_call (fn_check_year T) g (by decide) (ea_cons (ed_v 0) ea_nil) (ok_year hY)) ?_)
  have hmod := Int.emod_nonneg ys.sum (show (ys.length : Int) ≠ 0 by omega)
  have hmod2 := Int.emod_lt_of_pos ys.sum (show (0 : Int) < (ys.length : Int) by omega)
  refine sds_cons (sd_par 1 2 g (ea_cons (ed_fdivS (ed_sum g T.n_sum (ed_v 0) .d) (ES.is (ed_len T.n_len (ed_v 0) .d) (by rw [hlen])) ⟨by omega, by omega⟩) (ea_cons (ed_mod (ed_sum g T.n_sum (ed_v 0) .d) (ES.is (ed_len T.n_len (ed_v 0) .d) (by rw [hlen])) (by omega)) ea_nil)) ?_)
  refine sds_one (sd_retL (EL.is (el_cat (EL.ed (el_rep (ed_lst (ds := [.int (ys.sum / ys.length + 1)]) (ea_cons (ed_add (ed_v 1) ed_int) ea_nil)) (ed_v 2) .d ⟨by omega, by omega⟩ (Nat.le_of_ble_eq_true rfl))) (EL.ed (el_rep (ed_lst (ds := [.int (ys.sum / ys.length)]) (ea_cons (ed_v 1) ea_nil)) (ed_sub (ES.is (ed_len T.n_len (ed_v 0) .d) (by rw [hlen])) (ed_v 2)) .d ⟨by omega, by omega⟩ (Nat.le_of_ble_eq_true rfl))) .d .d ?_) ?_) fun p => ⟨p, rfl⟩)
  · rw [flat_one, flat_one, List.length_replicate, List.length_replicate]
    omega
  · rw [flat_one, flat_one, evn, List.map_append, List.map_replicate, List.map_replicate])
end
end Pg

namespace Pg
open PySem PySem.Spec PyProof.Rows L2 Sd
section
variable {P : Program} {w : World} {K : PySem.W.Frag} {mg : Str → Option Value} {base : Heap} {c : Cl}
def toS (i : Int) : Str := Str.ofString (toString i)
def numOk (n : Nat) : Bool := decide (1 ≤ ((toS ((n : Int) + 1)).length : Int)) && decide (((toS ((n : Int) + 1)).length : Int) ≤ 2) && ((toS ((n : Int) + 1)).cps.toList.map fun c => decide (c ∈ (Str.ofString "0123456789").cps.toList)).all id && decide (PySem.intText? (toS ((n : Int) + 1)) = some ((n : Int) + 1))
theorem numOk_all : ∀ n : Nat, n < 20 → numOk n = true := by decide +kernel
theorem num_ok {w : Int} (h : 1 ≤ w ∧ w ≤ 20) : (1 ≤ ((toS w).length : Int) ∧ ((toS w).length : Int) ≤ 2) ∧ ((toS w).cps.toList.map fun c => decide (c ∈ (Str.ofString "0123456789").cps.toList)).all id = true ∧ PySem.intText? (toS w) = some w := by
  have h1 := numOk_all (w - 1).toNat (by omega)
  unfold numOk at h1
  rw [show (((w - 1).toNat : Nat) : Int) + 1 = w by omega] at h1
  simp only [Bool.and_eq_true, decide_eq_true_eq] at h1
  exact ⟨⟨h1.1.1.1, h1.1.1.2⟩, h1.1.2, h1.2⟩
end
end Pg

namespace Pg
open PySem PySem.Spec PyProof.Rows L2 Sd
section
variable {P : Program} {w : World} {K : PySem.W.Frag} {mg : Str → Option Value} {base : Heap} {c : Cl}
def fmt (ys : List Int) : Str := Txt.join " " (ys.map toS)
theorem lens_le : ∀ {ys : List Int}, (∀ y ∈ ys, 1 ≤ y ∧ y ≤ 20) → ((ys.map toS).map (·.length)).sum ≤ 2 * ys.length
  | [], _ => by simp
  | y :: ys, h => by
    have ih := lens_le (ys := ys) fun z hz => h z (by simp [hz])
    have h1 := (num_ok (h y (by simp))).1
    simp only [List.map_cons, List.sum_cons, List.length_cons]
    omega
def pre_format_year : Pr := fun ss own post => ∃ ys : List Int, ss = [.d (li ys)] ∧ own = [] ∧ Yr ys ∧ post = fun o => o = .ret (.d (.str (fmt ys))) []
theorem fn_format_year (T : Tx K mg c) : Fn K mg P w base "format_year" ["year"] 4 pre_format_year := T.d_format_year.fn fun f fd F => okG (k := 3) F sc_format_year (by rintro ss own post ⟨ys, rfl, _⟩; rfl) (by
  rintro ss own post ⟨ys, rfl, rfl, hY, rfl⟩ cdv A outer s H E B g
  have hl := hY.hi
  have hlens := lens_le hY.it
  refine sds_cons (sd_expr (es_call (fn_check_year T) g (by decide) (ea_cons (ed_v 0) ea_nil) (ok_year hY)) ?_)
  refine sds_one (sd_retD (ed_join (zs := ys.map toS) ed_str (EL.ed (EL.is (ys := (ys.map toS).map PyData.str) (el_comp g (compP g (it_list (ed_v 0)) [("weight", 1)] (blkOk_by (N := ["year", "weight"]) (sc := defScope s_format_year) (by decide +kernel)) ys PyData.int rfl (fun y => some (.str (toS y))) (fun y => [.d (li ys), .d (.int y)]) [1] (by simp) (by omega) (fun _ _ => trivial)
      (fun d _ s H C cl fp g' => gt_name 1 g'.nd) (fun d _ s H C cl fp o g' => ets_nil) (fun y hy x hx s H C cl fp o g' => ?_))) (by rw [List.map_map]; exact congrFun List.filterMap_eq_map' _))) .d ?_) rfl)
  · cases hx
    have := hY.it y hy
    exact ed_strI T.n_str (ed_v 1) (Nat.lt_of_le_of_lt (Nat.log2_le_self _) (by omega))
  · rw [List.length_map]
    have e1 : (Str.ofString " ").length = 1 := by decide
    have : (ys.length * (Str.ofString " ").length) ≤ 8 := by rw [e1]; omega
    omega)
end
end Pg

namespace Pg
open PySem PySem.Spec PyProof.Rows L2 Sd
section
variable {P : Program} {w : World} {K : PySem.W.Frag} {mg : Str → Option Value} {base : Heap} {c : Cl}
def pre_is_even : Pr := fun ss own post => ∃ (ys : List Int), ss = [.d (li ys)] ∧ own = [] ∧ Yr ys ∧ post = fun o => o = .ret (.d (.bool (decide (dst ys = 1)))) []
theorem fn_is_even (T : Tx K mg c) : Fn K mg P w base "is_even" ["year"] 4 pre_is_even := T.d_is_even.fn fun f fd F => okG (k := 3) F sc_is_even (by rintro ss own post ⟨ys, rfl, _⟩; rfl) (by
  rintro ss own post ⟨ys, rfl, rfl, hY, rfl⟩ cdv A outer s H E B g
  have hl := hY.hi
  refine sds_cons (sd_expr (es_call (fn_check_year T) g (by decide) (ea_cons (ed_v 0) ea_nil) (ok_year hY)) ?_)
  refine sds_one (sd_retD (ES.is (ed_cmp c_eqI (ed_lenset (ns := ys) g T.n_len T.n_set (ed_v 0) .d (by omega)) ed_int) (y := .bool (decide (dst ys = 1))) ?_) rfl)
  congr 1
  rw [Bool.eq_iff_iff]
  simp only [decide_eq_true_eq]
  omega)
end
end Pg

namespace Pg
open PySem PySem.Spec PyProof.Rows L2 Sd
section
variable {P : Program} {w : World} {K : PySem.W.Frag} {mg : Str → Option Value} {base : Heap} {c : Cl}
/-- the six kinds of errors -/
def erC (c : Cl) : Nat → Addr
  | 0 => c.BadYear
  | 1 => c.BadDay
  | 2 => c.BadNumber
  | 3 => c.BadShare
  | 4 => c.BadText
  | _ => c.NotFound
def erN : Nat → Str
  | 0 => "year"
  | 1 => "day"
  | 2 => "number"
  | 3 => "share"
  | 4 => "text"
  | _ => "none"
def pre_law_error (c : Cl) : Pr := fun ss own post => ∃ (a : Addr) (i : Nat), ss = [.raw (.ref a)] ∧ i < 6 ∧ own = [(a, .raw (ExK (.ref (erC c i)) a))] ∧ post = fun o => o = .ret (.d (.str (erN i))) [(a, .raw (ExK (.ref (erC c i)) a))]
theorem law_error_at (T : Tx K mg c) {f : Addr} {cdv : Value} {A : Around} {outer : List Env} {s : Shared} {H : Hp} {E : XK} {B : Bs} {ex : Addr → List Slot → Own → Prop} (g : Gd (ctxOf P w K mg base ["caught", "kinds"] "_law_error" s_law_error f cdv A outer s H E B ex) 2) {C a : Addr} {b0 b1 b2 b3 b4 b5 : Bool} {nm : Str} (Q : ErrK K C c.BadYear c.BadDay c.BadNumber c.BadShare c.BadText c.NotFound c.DayError b0 b1 b2 b3 b4 b5)
    (hc : ([PyData.bool b0, .bool b1, .bool b2, .bool b3, .bool b4, .bool b5].countP fun z => PyData.eqv z (.bool true)) = 1) {j : Nat} {z : PyData} (hj : [PyData.bool b0, .bool b1, .bool b2, .bool b3, .bool b4, .bool b5][j]? = some z) (hz : PyData.eqv z (.bool true) = true)
    (hno : ∀ (m : Nat) (z' : PyData), m < j → [PyData.bool b0, .bool b1, .bool b2, .bool b3, .bool b4, .bool b5][m]? = some z' → PyData.eqv z' (.bool true) = false) (hn : atI [PyData.str "year", .str "day", .str "number", .str "share", .str "text", .str "none"] (j : Int) = some (.str nm)) :
    SDs (ctxOf P w K mg base ["caught", "kinds"] "_law_error" s_law_error f cdv A outer s H E B ex) (defBody s_law_error) { nx := fun _ _ => False, rt := fun s own => s = .d (.str nm) ∧ own = [(a, .raw (ExK (.ref C) a))] } [.raw (.ref a), .un] [(a, .raw (ExK (.ref C) a))] := by
  have hm : (a, OO.raw (ExK (.ref C) a)) ∈ [(a, OO.raw (ExK (.ref C) a))] := by simp
  have cr : ∀ (D : Addr) u, RelV (.ref D) u → u = Value.ref D := fun D u r => r
  refine sds_cons (sd_set 1 g.nd (ed_lst (ds := [.bool b0, .bool b1, .bool b2]) (ea_cons (ed_isX Q.xc T.n_isinstance hm (ev_v 0) (ev_glob rfl T.e_BadYear.g) (cr _) Q.y) (ea_cons (ed_isX Q.xc T.n_isinstance hm (ev_v 0) (ev_glob rfl T.e_BadDay.g) (cr _) Q.d) (ea_cons (ed_isX Q.xc T.n_isinstance hm (ev_v 0) (ev_glob rfl T.e_BadNumber.g) (cr _) Q.n) ea_nil)))) ?_)
  refine sds_cons (sd_set 1 g.nd (EL.ed (el_cat (ed_v 1) (ed_lst (ds := [.bool b3, .bool b4, .bool b5]) (ea_cons (ed_isX Q.xc T.n_isinstance hm (ev_v 0) (ev_glob rfl T.e_BadShare.g) (cr _) Q.s) (ea_cons (ed_isX Q.xc T.n_isinstance hm (ev_v 0) (ev_glob rfl T.e_BadText.g) (cr _) Q.t) (ea_cons (ed_isX Q.xc T.n_isinstance hm (ev_v 0) (ev_glob rfl T.e_NotFound.g) (cr _) Q.o) ea_nil)))) .d .d (by simp))) ?_)
  refine sds_cons (sd_ifF (ET.is (EW.et (ew_or (et_cmp c_neI (ed_count (k := 1) g (ed_v 1) .d ed_bl (by rfl) (by rfl) (by decide)) ed_int) fun _ => ew_or (et_not (et_val (ed_isX Q.xc T.n_isinstance hm (ev_v 0) (ev_glob rfl T.e_DayError.g) (cr _) Q.de))) fun _ => ew_or1 (et_not (et_val (ed_isX (cV := .ty "ValueError") (cv := .type "ValueError") Q.xc T.n_isinstance hm (ev_v 0) (ev_ty (T := "ValueError") rfl T.n_ValueError (by decide +kernel)) (fun u r => r) Q.ve))))) ?_) ?_)
  · have e : (([PyData.bool b0, .bool b1, .bool b2] ++ [PyData.bool b3, .bool b4, .bool b5]).countP fun z => PyData.eqv z (.bool true)) = 1 := hc
    rw [e]
    rfl
  show SDs _ (_ :: _) _ _ _
  with_reducible refine sds_one ?_
  with_reducible refine sd_retD (x := .str nm) ?R ?q
  case q => exact ⟨rfl, rfl⟩
  with_reducible refine ed_ixL (i := (j : Int)) (s := .d (.list [.str "year", .str "day", .str "number", .str "share", .str "text", .str "none"])) ?L ?I ?l hn ?hs
  case hs => exact fun _ _ => rfl
  case l => exact .d
  case I => exact ed_index (k := 1) g (ed_v 1) .d ed_bl ((shp_list (n := 0) fun d hd => by
    simp only [List.cons_append, List.nil_append, List.mem_cons, List.not_mem_nil, or_false] at hd
    rcases hd with rfl | rfl | rfl | rfl | rfl | rfl <;> exact shp_bool _).shaped (by decide)) (sh_bool true) hj hz hno
  case L =>
    with_reducible refine ed_lstB (eb_k ed_str (eb_k ed_str (eb_k ed_str (eb_k ed_str (eb_k ed_str (eb_k ed_str ea_nil)))))) ?j2 ?j3
    case j2 => rfl
    case j3 => decide
theorem fn_law_error (T : Tx K mg c) : Fn K mg P w base "_law_error" ["caught"] 3 (pre_law_error c) := T.d_law_error.fn fun f fd F => okG (k := 2) F sc_law_error (by rintro ss own post ⟨a, i, rfl, _⟩; rfl) (by
  rintro ss own post ⟨a, i, rfl, hi, rfl, rfl⟩ cdv A outer s H E B g
  have fin : ∀ (sl : Slot) (o : Own), sl = .d (.str (erN i)) ∧ o = [(a, .raw (ExK (.ref (erC c i)) a))] → Out.ret sl o = .ret (.d (.str (erN i))) [(a, .raw (ExK (.ref (erC c i)) a))] := by
    rintro _ _ ⟨rfl, rfl⟩
    rfl
  have hno : ∀ (l : List PyData) (m : Nat), (∀ z ∈ l.take m, PyData.eqv z (.bool true) = false) → ∀ (n : Nat) (z' : PyData), n < m → l[n]? = some z' → PyData.eqv z' (.bool true) = false := fun l m h n z' hn hz => h z' (by
    have : (l.take m)[n]? = some z' := by rw [List.getElem?_take_of_lt hn]; exact hz
    exact List.mem_of_getElem? this)
  match i, hi with
  | 0, _ => exact SDs.imp (law_error_at (a := a) T g T.q_BadYear (j := 0) (by rfl) rfl rfl (hno _ _ (by simp [PyData.eqv])) rfl) (fun _ _ h => h.elim) fin (fun _ _ h => h) (fun _ _ h => h)
  | 1, _ => exact SDs.imp (law_error_at (a := a) T g T.q_BadDay (j := 1) (by rfl) rfl rfl (hno _ _ (by simp [PyData.eqv])) rfl) (fun _ _ h => h.elim) fin (fun _ _ h => h) (fun _ _ h => h)
  | 2, _ => exact SDs.imp (law_error_at (a := a) T g T.q_BadNumber (j := 2) (by rfl) rfl rfl (hno _ _ (by simp [PyData.eqv])) rfl) (fun _ _ h => h.elim) fin (fun _ _ h => h) (fun _ _ h => h)
  | 3, _ => exact SDs.imp (law_error_at (a := a) T g T.q_BadShare (j := 3) (by rfl) rfl rfl (hno _ _ (by simp [PyData.eqv])) rfl) (fun _ _ h => h.elim) fin (fun _ _ h => h) (fun _ _ h => h)
  | 4, _ => exact SDs.imp (law_error_at (a := a) T g T.q_BadText (j := 4) (by rfl) rfl rfl (hno _ _ (by simp [PyData.eqv])) rfl) (fun _ _ h => h.elim) fin (fun _ _ h => h) (fun _ _ h => h)
  | 5, _ => exact SDs.imp (law_error_at (a := a) T g T.q_NotFound (j := 5) (by rfl) rfl rfl (hno _ _ (by simp [PyData.eqv])) rfl) (fun _ _ h => h.elim) fin (fun _ _ h => h) (fun _ _ h => h))
theorem es_error {Z : Sd.Ctx} {k i : Nat} {ρ : List Slot} {oa ob : Own} {e : Expr} {p pos : Pos} {a : Addr} (F : Fn Z.X.K Z.X.mg Z.X.prog Z.X.w Z.X.base "_law_error" ["caught"] 3 (pre_law_error c)) (g : Gd Z k) (hk : 3 ≤ k) (hi : i < 6) (he : EV Z e ρ (oa ++ [(a, .raw (ExK (.ref (erC c i)) a))] ++ ob) (.ref a)) (hg : Gl Z.X "_law_error" := by rfl) (hs : starEach [e] Z.X.env = (false, eval e Z.X.env) :: starEach [] Z.X.env := by rfl) :
    ED Z (.Call (.Name "_law_error" p) [e] [] pos) ρ (oa ++ [(a, .raw (ExK (.ref (erC c i)) a))] ++ ob) (.str (erN i)) :=
  EG.toES (eg_call F g hk (ea_cons he ea_nil hs) ⟨a, i, rfl, hi, rfl, rfl⟩ (fun s o h => by cases h; exact ⟨rfl, rfl⟩) (fun C o h => nomatch h) hg (by decide) hs rfl)
end
end Pg

namespace Pg
open PySem PySem.Spec PyProof.Rows L2 Sd
section
variable {P : Program} {w : World} {K : PySem.W.Frag} {mg : Str → Option Value} {base : Heap} {c : Cl}
def lkd (ys : List Int) : List Nat := (List.range ys.length).filter fun i => decide (ys.getD i 0 = maxL ys)
def pre_likeliest_days : Pr := fun ss own post => ∃ (ys : List Int), ss = [.d (li ys)] ∧ own = [] ∧ Yr ys ∧ post = fun o => ∃ p, o = .ret (.raw (.ref p)) [(p, .lst ((nI (lkd ys)).map PyData.int))]
theorem fn_likeliest_days (T : Tx K mg c) : Fn K mg P w base "likeliest_days" ["year"] 4 pre_likeliest_days := T.d_likeliest_days.fn fun f fd F => okG (k := 3) F sc_likeliest_days (by rintro ss own post ⟨ys, rfl, _⟩; rfl) (by
  rintro ss own post ⟨ys, rfl, rfl, hY, rfl⟩ cdv A outer s H E B g
  refine sds_cons (sd_expr (es_call (fn_check_year T) g (by decide) (ea_cons (ed_v 0) ea_nil) (ok_year hY)) ?_)
  have hl := hY.hi
  refine sds_one (sd_retL (ds := (nI (lkd ys)).map PyData.int) (EL.is (el_comp g (compP g (it_enum T.n_enumerate (ed_v 0)) [("day", 1), ("weight", 2)] (blkOk_by (N := ["year", "day", "weight"]) (sc := defScope s_likeliest_days) (by decide +kernel)) (List.range ys.length) (fun (k : Nat) => PyData.tuple [.int (k : Int), .int (ys.getD k 0)]) (enumD_ints ys) (fun k => if ys.getD k 0 = maxL ys then some (.int (k : Int)) else none) (fun k => [.d (li ys), .d (.int (k : Int)), .d (.int (ys.getD k 0))]) [1, 2] (by simp) (by rw [List.length_range]; omega) (fun _ _ => trivial)
        (fun k _ s H C cl fp g' => gt_tup g'.calm (gts_cons (gt_name 1 g'.nd) (gts_cons (gt_name 2 g'.nd) gts_nil)) rfl) (fun k hk s H C cl fp o g' => ets_one (ET.is (et_cmp c_eqI (ed_v 2) (ed_max (ns := ys) (m := maxL ys) g' T.n_max (ed_v 0) .d hY.max_mem hY.max_le)) ?_)) (fun k hk x hx s H C cl fp o g' => ?_))) ?_) fun p => ⟨p, rfl⟩)
  · by_cases h : ys.getD k 0 = maxL ys
    · rw [if_pos h, decide_eq_true h]; rfl
    · rw [if_neg h, decide_eq_false h]; rfl
  · by_cases h : ys.getD k 0 = maxL ys
    · rw [if_pos h] at hx
      cases hx
      exact ed_v 1
    · rw [if_neg h] at hx
      cases hx
  · unfold lkd nI
    rw [List.map_map]
    rw [← List.filterMap_eq_filter, List.map_filterMap]
    refine fm_congr fun k _ => ?_
    by_cases h : ys.getD k 0 = maxL ys <;> simp [Option.guard, h])
end
end Pg

namespace Pg
open PySem PySem.Spec PyProof.Rows L2 Sd
section
variable {P : Program} {w : World} {K : PySem.W.Frag} {mg : Str → Option Value} {base : Heap} {c : Cl}
/-- an `if which == ..` that is not taken -/
def isIf (z : Str) (wh : Int) : Stmt → Bool
  | .If (.Compare (.Name x _) [.Eq] [.Constant (.int k) _ _] _) _ [] _ => x == z && decide (wh ≠ k)
  | _ => false
def skipB (z : Str) (wh : Int) : Nat → List Stmt → Bool
  | 0, _ => true
  | _ + 1, [] => false
  | n + 1, s :: l => isIf z wh s && skipB z wh n l
theorem sd_skip {Z : Sd.Ctx} {ρ : List Slot} {own : Own} {D : DE} {z : Str} {wh : Int} (hv : ∀ p, ED Z (.Name z p) ρ own (.int wh)) (st : Stmt) (h : isIf z wh st = true) (hn : D.nx ρ own) : SD Z st D ρ own := by
  unfold isIf at h
  split at h
  · rename_i x p1 k j p2 p3 A p4
    simp only [Bool.and_eq_true, decide_eq_true_eq, beq_iff_eq] at h
    obtain ⟨rfl, hne⟩ := h
    exact sd_ifF (ET.is (et_cmp c_eqI (hv p1) ed_int) (decide_eq_false hne)) hn
  · cases h
theorem sds_skip {Z : Sd.Ctx} {ρ : List Slot} {own : Own} {D : DE} {z : Str} {wh : Int} (hv : ∀ p, ED Z (.Name z p) ρ own (.int wh)) : ∀ (n : Nat) (l : List Stmt), skipB z wh n l = true → SDs Z (l.drop n) D ρ own → SDs Z l D ρ own
  | 0, _, _, h => h
  | _ + 1, [], h, _ => nomatch h
  | n + 1, s :: l, h, q => by
    have h : (isIf z wh s && skipB z wh n l) = true := h
    rw [Bool.and_eq_true] at h
    exact sds_cons (sd_skip hv s h.1 (sds_skip hv n l h.2 q))
end
end Pg

namespace Pg
open PySem PySem.Spec PyProof.Rows L2 Sd
section
variable {P : Program} {w : World} {K : PySem.W.Frag} {mg : Str → Option Value} {base : Heap} {c : Cl}
/-! evening -/
end
end Pg

namespace Pg
open PySem PySem.Spec PyProof.Rows L2 Sd
section
variable {P : Program} {w : World} {K : PySem.W.Frag} {mg : Str → Option Value} {base : Heap} {c : Cl}
/-! sets of days, with signs -/
/-- the sum over all sets S of l of (-1)^|S| h(w_S) -/
def Vs : List Int → (Int → Rat) → Rat
  | [], h => h 0
  | w :: l, h => Vs l h - Vs l (fun s => h (s + w))
theorem Vs_congr {h h' : Int → Rat} (e : ∀ s, h s = h' s) (l : List Int) : Vs l h = Vs l h' := by
  have : h = h' := funext e
  rw [this]
theorem Vs_mul (c : Rat) : ∀ (l : List Int) (h : Int → Rat), Vs l (fun s => c * h s) = c * Vs l h
  | [], h => rfl
  | w :: l, h => by
    rw [Vs, Vs, Vs_mul c l, Vs_mul c l (fun s => h (s + w))]
    grind
def Us (l : List Int) : Rat := - Vs l (fun s => 1 / ((s : Int) : Rat))
end
end Pg

namespace Pg
open PySem PySem.Spec PyProof.Rows L2 Sd
section
variable {P : Program} {w : World} {K : PySem.W.Frag} {mg : Str → Option Value} {base : Heap} {c : Cl}
def pre_plus : Pr := fun ss own post => ∃ (p q : Rat) (m n : Nat), ss = [.d (fr p), .d (fr q)] ∧ own = [] ∧ Sq m p ∧ Sq n q ∧ m + n ≤ 8990 ∧ post = fun o => o = .ret (.d (fr (p + q))) []
theorem fn_plus (T : Tx K mg c) : Fn K mg P w base "plus" ["one", "other"] 3 pre_plus := T.d_plus.fn fun f fd F => okG (k := 2) F sc_plus (by rintro ss own post ⟨p, q, m, n, rfl, _⟩; rfl) (by
  rintro ss own post ⟨p, q, m, n, rfl, rfl, hp, hq, hmn, rfl⟩ cdv A outer s H E B g
  refine sds_one (sd_retD (es_call (fn_lowest T) g (by decide) (ea_cons (ed_add (ed_mul (ed_ixT (ed_v 0) ed_int rfl) (ed_ixT (ed_v 1) ed_int rfl) (cmul_of hp.num hq.den (by omega))) (ed_mul (ed_ixT (ed_v 1) ed_int rfl) (ed_ixT (ed_v 0) ed_int rfl) (cmul_of hq.num hp.den (by omega))))
    (ea_cons (ed_mul (ed_ixT (ed_v 0) ed_int rfl) (ed_ixT (ed_v 1) ed_int rfl) (cmul_of hp.den hq.den (by omega))) ea_nil)) ⟨_, _, rfl, rfl, Int.mul_pos (den_pos p) (den_pos q), (hp.den.mul hq.den).mono (by omega), rfl⟩) ?_)
  rw [plus_eq])
end
end Pg

namespace Pg
open PySem PySem.Spec PyProof.Rows L2 Sd
section
variable {P : Program} {w : World} {K : PySem.W.Frag} {mg : Str → Option Value} {base : Heap} {c : Cl}
def setsS (s : List (Int × Int)) (w : Int) : List (Int × Int) := s ++ s.map fun p => (p.1 + w, -p.2)
def setsL (l : List Int) : List (Int × Int) := l.foldl setsS [(0, -1)]
def Sg (s : List (Int × Int)) (h : Int → Rat) : Rat := (s.map fun p => (p.2 : Rat) * h p.1).sum
theorem Sg_fold : ∀ (l : List Int) (s : List (Int × Int)) (h : Int → Rat), Sg (l.foldl setsS s) h = (s.map fun p => (p.2 : Rat) * Vs l (fun x => h (p.1 + x))).sum
  | [], s, h => by
    unfold Sg
    rw [List.foldl_nil]
    congr 1
    refine List.map_congr_left fun p _ => ?_
    rw [Vs, Int.add_zero]
  | w :: l, s, h => by
    rw [List.foldl_cons, Sg_fold l, setsS, List.map_append, List.sum_append, List.map_map]
    induction s with
    | nil => show (0 : Rat) + 0 = 0; grind
    | cons p s ih =>
      rw [List.map_cons, List.map_cons, List.map_cons, List.sum_cons, List.sum_cons, List.sum_cons, ← ih, Vs]
      have e : Vs l (fun x => h (p.1 + w + x)) = Vs l (fun x => h (p.1 + (x + w))) := Vs_congr (fun x => by congr 1; omega) l
      show _ + (((-p.2 : Int) : Rat) * Vs l (fun x => h (p.1 + w + x)) + _) = _
      rw [e]
      push_cast
      grind
theorem Sg_sets (l : List Int) (h : Int → Rat) : Sg (setsL l) h = - Vs l h := by
  rw [setsL, Sg_fold]
  have e : Vs l (fun x => h (0 + x)) = Vs l h := Vs_congr (fun x => by rw [Int.zero_add]) l
  show ((-1 : Int) : Rat) * Vs l (fun x => h (0 + x)) + 0 = _
  rw [e]
  push_cast
  grind
theorem setsS_len (s : List (Int × Int)) (w : Int) : (setsS s w).length = 2 * s.length := by unfold setsS; rw [List.length_append, List.length_map]; omega
theorem setsL_take {ys : List Int} {i : Nat} {y : Int} (h : ys[i]? = some y) : setsL (ys.take (i + 1)) = setsS (setsL (ys.take i)) y := by
  unfold setsL
  rw [List.take_add_one, h, List.foldl_append]
  rfl
theorem setsL_spec : ∀ (l : List Int) (s : List (Int × Int)) (m : Int), (∀ y ∈ l, 0 < y) → 0 ≤ m → (∀ p ∈ s, 0 < p.1 ∧ p.1 ≤ m ∧ (p.2 = 1 ∨ p.2 = -1)) → ∃ t, l.foldl setsS ((0, -1) :: s) = (0, -1) :: t ∧ ∀ p ∈ t, 0 < p.1 ∧ p.1 ≤ m + l.sum ∧ (p.2 = 1 ∨ p.2 = -1)
  | [], s, m, _, _, h => ⟨s, rfl, fun p hp => by have := h p hp; simp only [List.sum_nil]; omega⟩
  | y :: l, s, m, hl, hm, h => by
    have hy := hl y (by simp)
    obtain ⟨t, e, ht⟩ := setsL_spec l (s ++ ((0, -1) :: s).map fun p => (p.1 + y, -p.2)) (m + y) (fun z hz => hl z (by simp [hz])) (by omega) (fun p hp => by
      rcases List.mem_append.mp hp with hp | hp
      · have := h p hp
        omega
      · obtain ⟨q, hq, rfl⟩ := List.mem_map.mp hp
        rcases List.mem_cons.mp hq with rfl | hq
        · exact ⟨by show 0 < 0 + y; omega, by show 0 + y ≤ m + y; omega, .inl rfl⟩
        · have := h q hq
          refine ⟨by show 0 < q.1 + y; omega, by show q.1 + y ≤ m + y; omega, ?_⟩
          show -q.2 = 1 ∨ -q.2 = -1
          omega)
    refine ⟨t, ?_, fun p hp => ?_⟩
    · rw [List.foldl_cons, setsS, List.cons_append]
      exact e
    · have := ht p hp
      rw [List.sum_cons]
      omega
def mua (ys : List Int) : Rat := (ys.sum : Rat) * Us ys
def muaP (W : Int) (t : List (Int × Int)) : Rat := (t.map fun p => (((p.2 * W : Int) : Rat) / (p.1 : Rat))).sum
theorem mua_eq {ys : List Int} {t : List (Int × Int)} (h : setsL ys = (0, -1) :: t) : muaP ys.sum t = mua ys := by
  have h1 := Sg_sets ys (fun s => (ys.sum : Rat) * (1 / (s : Rat)))
  rw [Vs_mul, h] at h1
  have h2 : Sg ((0, -1) :: t) (fun s => (ys.sum : Rat) * (1 / (s : Rat))) = muaP ys.sum t := by
    unfold Sg muaP
    rw [List.map_cons, List.sum_cons]
    have e : (((-1 : Int) : Rat) * ((ys.sum : Rat) * (1 / ((0 : Int) : Rat)))) = 0 := by
      have : (1 : Rat) / ((0 : Int) : Rat) = 0 := by rw [Rat.div_def]; simp
      rw [this]
      grind
    rw [e, Rat.zero_add]
    congr 1
    refine List.map_congr_left fun p _ => ?_
    push_cast
    rw [Rat.div_def, Rat.div_def]
    grind
  rw [← h2, h1, mua, Us]
  grind
theorem muaP_take {W : Int} {t : List (Int × Int)} {i : Nat} {p : Int × Int} (h : t[i]? = some p) : muaP W (t.take (i + 1)) = muaP W (t.take i) + ((p.2 * W : Int) : Rat) / (p.1 : Rat) := by
  unfold muaP
  rw [List.take_add_one, h, List.map_append, List.sum_append]
  simp only [Option.toList_some, List.map_cons, List.map_nil, List.sum_cons, List.sum_nil, Rat.add_zero]
theorem muaP_sq {W : Int} (hW : Sz 8 W) {t : List (Int × Int)} (ht : ∀ p ∈ t, 0 < p.1 ∧ p.1 ≤ 160 ∧ (p.2 = 1 ∨ p.2 = -1)) : ∀ i, i ≤ t.length → Sq (9 * i + 1) (muaP W (t.take i))
  | 0, _ => .zero
  | i + 1, hi => by
    have e : t[i]? = some t[i] := List.getElem?_eq_getElem (by omega)
    have hp := ht _ (List.getElem_mem (show i < t.length by omega))
    rw [muaP_take e]
    refine ((muaP_sq hW ht i (by omega)).add (n := 8) (Sq.of_div hp.1 ?_ ?_)).mono (by omega)
    · unfold Sz at *
      rcases hp.2.2 with h | h <;> rw [h] <;> omega
    · unfold Sz
      omega
def pre_mean_until_all : Pr := fun ss own post => ∃ (ys : List Int), ss = [.d (li ys)] ∧ own = [] ∧ Yr ys ∧ post = fun o => o = .ret (.d (fr (mua ys))) []
theorem el_k2n {Z : Sd.Ctx} {ρ : List Slot} {own : Own} {j j' x1 : Nat} {p1 p2 p3 p4 p5 : Pos} : EL Z (.List [.Tuple [.Constant (.int 0) j p1, .UnaryOp .USub (.Constant (.int 1) j' p2) p3] x1 p4] p5) ρ own [pr (0, -1)] := by
  have h : ED Z (.UnaryOp .USub (.Constant (.int 1) j' p2) p3) ρ own (.int (-1)) := by with_reducible exact ed_neg ed_int
  have h2 : EA Z [.UnaryOp .USub (.Constant (.int 1) j' p2) p3] ρ own [.d (.int (-1))] := ea_cons h ea_nil
  have h3 : ED Z (.Tuple [.Constant (.int 0) j p1, .UnaryOp .USub (.Constant (.int 1) j' p2) p3] x1 p4) ρ own (.tuple [.int 0, .int (-1)]) := by with_reducible exact ed_tb2 (eb_k ed_int h2)
  have h4 : EA Z [.Tuple [.Constant (.int 0) j p1, .UnaryOp .USub (.Constant (.int 1) j' p2) p3] x1 p4] ρ own [.d (.tuple [.int 0, .int (-1)])] := by with_reducible exact eb_t h3 ea_nil
  exact el_lst (ds := [pr (0, -1)]) h4
theorem fn_mean_until_all (T : Tx K mg c) : Fn K mg P w base "mean_until_all" ["year"] 4 pre_mean_until_all := T.d_mean_until_all.fn fun f fd F => okG (k := 3) F sc_mean_until_all (by rintro ss own post ⟨ys, rfl, _⟩; rfl) (by
  rintro ss own post ⟨ys, rfl, rfl, hY, rfl⟩ cdv A outer s H E B g
  have hl := hY.hi
  refine sds_rtdrop ?_
  refine sds_cons (sd_expr (es_call (fn_check_year T) g (by decide) (ea_cons (ed_v 0) ea_nil) (ok_year hY)) ?_)
  show SDs _ (_ :: _) _ _ _
  with_reducible refine sds_cons ?_
  with_reducible refine sd_par 1 2 (t := .d (.int ys.sum)) g (eb_t (ed_k2 (i := 0) (i' := 1)) (eb_c ?sum ea_nil)) ?nxt ?i1 ?i2 ?i3 ?i4 ?i5 ?i6 ?i7
  case sum => exact ed_sum g T.n_sum (ed_v 0) .d
  case i1 => rfl
  case i2 => rfl
  case i3 => decide
  case i4 => rfl
  case i5 => rfl
  case i6 => rfl
  case i7 => rfl
  show SDs _ (_ :: _) _ _ _
  with_reducible refine sds_cons ?_
  with_reducible refine sd_setL 3 g.nd el_k2n ?nxt2 ?k1 ?k2 ?k3 ?k4
  case k1 => rfl
  case k2 => first | exact Or.inl rfl | exact Or.inr rfl
  case k3 => rfl
  case k4 => first | exact .inl rfl | exact .inr rfl
  intro p
  have hlen : ∀ i, i ≤ ys.length → (setsL (ys.take i)).length = 2 ^ i := fun i => by
    induction i with
    | zero => intro _; rfl
    | succ i ih =>
      intro hi
      rw [setsL_take (List.getElem?_eq_getElem (show i < ys.length by omega)), setsS_len, ih (by omega), Nat.pow_succ]
      omega
  have h256 : ∀ i, i ≤ ys.length → (setsL (ys.take i)).length ≤ 256 := fun i hi => by
    rw [hlen i hi]
    have := Nat.pow_le_pow_right (show 0 < 2 by decide) (show i ≤ 8 by omega)
    omega
  refine sds_cons (sd_for g (it_list (ed_v 0)) (fun i ρ own => own = [(p, .lst ((setsL (ys.take i)).map pr))] ∧ ∃ t4, ρ = [.d (li ys), .d (fr 0), .d (.int ys.sum), .raw (.ref p), t4, .un, .un]) ⟨rfl, _, rfl⟩ (fun _ _ _ _ => trivial) ?_ ?_)
  · rintro i y ρ1 own1 hy ⟨rfl, t4, rfl⟩
    rw [List.getElem?_map] at hy
    cases ea : ys[i]? with
    | none => rw [ea] at hy; cases hy
    | some y' =>
      rw [ea] at hy
      cases hy
      have hi := (List.getElem?_eq_some_iff.mp ea).1
      have hn := h256 i (by omega)
      have hn1 := h256 (i + 1) (by omega)
      rw [setsL_take ea] at hn1 ⊢
      rw [setsS_len] at hn1
      generalize setsL (ys.take i) = sl at hn hn1 ⊢
      refine ⟨_, _, gt_name 4 g.nd, ?_⟩
      refine sds_one (sd_ext 3 (oa := []) (ob := []) (ys := (sl.map fun p => (p.1 + y', -p.2)).map pr) g.nd rfl (EL.ed (EL.is (el_comp g (compP g (it_own (q := p) (ds := sl.map pr) (ev_v 3) (by simp)) [("one", 5), ("sign", 6)] (blkOk_by (N := ["year", "found", "whole", "sets", "weight", "one", "sign"]) (sc := defScope s_mean_until_all) (by decide +kernel)) sl pr rfl (fun r => some (pr (r.1 + y', -r.2))) (fun r => [.d (li ys), .d (fr 0), .d (.int ys.sum), .raw (.ref p), .d (.int y'), .d (.int r.1), .d (.int r.2)]) [5, 6] (by simp) (by omega) (fun _ _ => by simp)
        (fun r _ s H C cl fp g' => gt_tup g'.calm (gts_cons (gt_name 5 g'.nd) (gts_cons (gt_name 6 g'.nd) gts_nil)) rfl) (fun r _ s H C cl fp o g' => ets_nil) (fun r hr x hx s H C cl fp o g' => ?_))) ?_)) .d ?_ ?_)
      · cases hx
        exact ed_tup (ds := [.int (r.1 + y'), .int (-r.2)]) (ea_cons (ed_add (ed_v 5) (ed_v 4)) (ea_cons (ed_neg (ed_v 6)) ea_nil))
      · rw [List.map_map]
        exact congrFun List.filterMap_eq_map' _
      · simp only [List.length_map]
        omega
      · exact ⟨by rw [setsS, List.map_append]; rfl, _, rfl⟩
  · rintro ρ1 own1 ⟨rfl, t4, rfl⟩
    rw [List.length_map, List.take_length]
    have hn := h256 ys.length (Nat.le_refl _)
    rw [List.take_length] at hn
    obtain ⟨t, e, ht⟩ := setsL_spec ys [] 0 (fun y hy => by have := hY.it y hy; omega) (Int.le_refl _) (fun p hp => nomatch hp)
    have hw := hY.sum_hi
    have e : setsL ys = (0, -1) :: t := e
    have hmu := mua_eq e
    have ht2 : ∀ p ∈ t, 0 < p.1 ∧ p.1 ≤ 160 ∧ (p.2 = 1 ∨ p.2 = -1) := fun p hp => by have := ht p hp; omega
    rw [e] at hn ⊢
    simp only [List.length_cons] at hn
    refine sds_freeze 3 (oa := []) rfl ?_
    refine sds_cons (sd_for g (ys := t.map pr) (it_list (EL.ed (EL.is (el_slice (ed_v 3) (po_yes ed_int) po_no .d) ?_))) (fun i ρ own => own = [] ∧ ∃ t5 t6, ρ = [.d (li ys), .d (fr (muaP ys.sum (t.take i))), .d (.int ys.sum), .d (.list (((0, -1) :: t).map pr)), t4, t5, t6]) ⟨rfl, _, _, rfl⟩ (fun _ _ _ _ => trivial) ?_ ?_)
    · exact cutD_from (((0, -1) :: t).map pr) 1 (by simp)
    · rintro i y ρ1 own1 hy ⟨rfl, t5, t6, rfl⟩
      rw [List.getElem?_map] at hy
      cases ea : t[i]? with
      | none => rw [ea] at hy; cases hy
      | some q =>
        rw [ea] at hy
        cases hy
        have hi := (List.getElem?_eq_some_iff.mp ea).1
        have hq := ht2 q (List.mem_of_getElem? ea)
        have hz := hY.szW
        have hsq := muaP_sq hY.szW ht2 i (by omega)
        have hq8 : Sz 8 q.1 := by unfold Sz; omega
        have hqs : Sq 8 (((q.2 * ys.sum : Int) : Rat) / (q.1 : Rat)) := Sq.of_div hq.1 (by
          unfold Sz at *
          rcases hq.2.2 with h | h <;> rw [h] <;> omega) (by unfold Sz; omega)
        rw [muaP_take ea]
        refine ⟨_, _, gt_tup g.calm (gts_cons (gt_name 5 g.nd) (gts_cons (gt_name 6 g.nd) gts_nil)) rfl, ?_⟩
        refine sds_one (sd_set 1 g.nd (es_call (fn_plus T) g (by decide) (ea_cons (ed_v 1) (ea_cons (es_call (fn_lowest T) g (by decide) (ea_cons (ed_mulS (ed_v 6) (ed_v 2) (.inl ⟨by omega, by omega⟩)) (ea_cons (ed_v 5) ea_nil)) ⟨_, _, rfl, rfl, hq.1, hq8.mono (by decide), rfl⟩) ea_nil)) ⟨_, _, _, 8, rfl, rfl, hsq, hqs, by omega, rfl⟩) ?_)
        exact ⟨rfl, _, _, rfl⟩
    · rintro ρ1 own1 ⟨rfl, t5, t6, rfl⟩
      rw [List.length_map, List.take_length, hmu]
      exact sds_one (sd_retD (ed_v 1) rfl))
end
end Pg

namespace Pg
open PySem PySem.Spec PyProof.Rows L2 Sd
section
variable {P : Program} {w : World} {K : PySem.W.Frag} {mg : Str → Option Value} {base : Heap} {c : Cl}
def mus (ys : List Int) : Rat := sumTo (unl ys) (ys.length + 1)
theorem mus_sq {ys : List Int} (h : Yr ys) : ∀ n, n ≤ 9 → Sq (201 * n + 1) (sumTo (unl ys) n)
  | 0, _ => .zero
  | n + 1, hn => by
    show Sq _ (sumTo (unl ys) n + unl ys n)
    exact ((mus_sq h n (by omega)).add (unl_sq h (by omega))).mono (by omega)
def pre_mean_until_same : Pr := fun ss own post => ∃ (ys : List Int), ss = [.d (li ys)] ∧ own = [] ∧ Yr ys ∧ post = fun o => o = .ret (.d (fr (mus ys))) []
theorem fn_mean_until_same (T : Tx K mg c) : Fn K mg P w base "mean_until_same" ["year"] 4 pre_mean_until_same := T.d_mean_until_same.fn fun f fd F => okG (k := 3) F sc_mean_until_same (by rintro ss own post ⟨ys, rfl, _⟩; rfl) (by
  rintro ss own post ⟨ys, rfl, rfl, hY, rfl⟩ cdv A outer s H E B g
  have hl := hY.hi
  refine sds_cons (sd_expr (es_call (fn_check_year T) g (by decide) (ea_cons (ed_v 0) ea_nil) (ok_year hY)) ?_)
  refine sds_cons (sd_set 1 g.nd (ed_k2 (i := 0) (i' := 1)) ?_)
  refine sds_cons (sd_for g (it_range1 T.n_range (ed_add (ES.is (y := .int (ys.length : Int)) (ed_len T.n_len (ed_v 0) .d) (by rw [List.length_map])) ed_int) ⟨by omega, by omega⟩) (fun i ρ own => own = [] ∧ ∃ t, ρ = [.d (li ys), .d (fr (sumTo (unl ys) i)), t]) ⟨rfl, _, rfl⟩ (fun _ _ _ _ => trivial) ?_ ?_)
  · rintro i y ρ1 own1 hy ⟨rfl, t, rfl⟩
    obtain ⟨hi, rfl⟩ := rng_get hy
    have hi : i ≤ ys.length := by omega
    have e0 : (0 : Int) + (i : Int) = (i : Int) := by omega
    rw [e0]
    refine ⟨_, _, gt_name 2 g.nd, sds_one (sd_set 1 g.nd (es_call (fn_plus T) g (by decide) (ea_cons (ed_v 1) (ea_cons (es_call (fn_unlike_of T) g (by decide) (ea_cons (ed_v 0) (ea_cons (ed_v 2) ea_nil)) ⟨ys, i, rfl, rfl, hY, by omega, rfl⟩) ea_nil)) ⟨_, _, _, _, rfl, rfl, mus_sq hY i (by omega), unl_sq hY (by omega), by omega, rfl⟩) ?_)⟩
    exact ⟨rfl, _, rfl⟩
  · rintro ρ1 own1 ⟨rfl, t, rfl⟩
    rw [rng_length, show ((ys.length : Int) + 1).toNat = ys.length + 1 by omega]
    exact sds_one (sd_retD (ed_v 1) rfl))
end
end Pg

namespace Pg
open PySem PySem.Spec PyProof.Rows L2 Sd
section
variable {P : Program} {w : World} {K : PySem.W.Frag} {mg : Str → Option Value} {base : Heap} {c : Cl}
def gcL (ys : List Int) : Nat := ys.foldl (fun g y => Int.gcd y (g : Int)) 0
theorem gcL_take {ys : List Int} {i : Nat} {y : Int} (h : ys[i]? = some y) : gcL (ys.take (i + 1)) = Int.gcd y (gcL (ys.take i) : Int) := by
  unfold gcL
  rw [List.take_add_one, h, List.foldl_append]
  rfl
theorem gcF_dvd : ∀ (l : List Int) (g : Nat), ((l.foldl (fun g y => Int.gcd y (g : Int)) g : Nat) : Int) ∣ (g : Int) ∧ ∀ y ∈ l, ((l.foldl (fun g y => Int.gcd y (g : Int)) g : Nat) : Int) ∣ y
  | [], g => ⟨Int.dvd_refl _, fun y hy => nomatch hy⟩
  | a :: l, g => by
    obtain ⟨h1, h2⟩ := gcF_dvd l (Int.gcd a (g : Int))
    rw [List.foldl_cons]
    refine ⟨Int.dvd_trans h1 (Int.gcd_dvd_right ..), fun y hy => ?_⟩
    rcases List.mem_cons.mp hy with rfl | hy
    · exact Int.dvd_trans h1 (Int.gcd_dvd_left ..)
    · exact h2 y hy
theorem gcL_dvd {l : List Int} {y : Int} (h : y ∈ l) : ((gcL l : Nat) : Int) ∣ y := (gcF_dvd l 0).2 y h
theorem gcL_pos {l : List Int} (h : ∃ y ∈ l, 0 < y) : 0 < gcL l := by
  obtain ⟨y, hy, h0⟩ := h
  rcases Nat.eq_zero_or_pos (gcL l) with z | z
  · have := gcL_dvd hy
    rw [z] at this
    have := Int.zero_dvd.mp this
    omega
  · exact z
def pln (ys : List Int) : List Int := ys.map (· / ((gcL ys : Nat) : Int))
def pre_plain : Pr := fun ss own post => ∃ (ys : List Int), ss = [.d (li ys)] ∧ own = [] ∧ Yr ys ∧ post = fun o => ∃ p, o = .ret (.raw (.ref p)) [(p, .lst ((pln ys).map PyData.int))]
theorem gcL_le {ys : List Int} (hY : Yr ys) : 0 < gcL ys ∧ gcL ys ≤ 20 := by
  have hl := hY.lo
  obtain ⟨y, hy⟩ : ∃ y, y ∈ ys := ⟨ys[0], List.getElem_mem _⟩
  have h20 := hY.it y hy
  refine ⟨gcL_pos ⟨y, hy, by omega⟩, ?_⟩
  have := Int.le_of_dvd (by omega) (gcL_dvd hy)
  omega
theorem fn_plain (T : Tx K mg c) : Fn K mg P w base "plain" ["year"] 4 pre_plain := T.d_plain.fn fun f fd F => okG (k := 3) F sc_plain (by rintro ss own post ⟨ys, rfl, _⟩; rfl) (by
  rintro ss own post ⟨ys, rfl, rfl, hY, rfl⟩ cdv A outer s H E B g
  have hl := hY.hi
  refine sds_cons (sd_expr (es_call (fn_check_year T) g (by decide) (ea_cons (ed_v 0) ea_nil) (ok_year hY)) ?_)
  refine sds_cons (sd_set 1 g.nd ed_int ?_)
  refine sds_cons (sd_for g (it_list (ed_v 0)) (fun i ρ own => own = [] ∧ ∃ t, ρ = [.d (li ys), .d (.int ((gcL (ys.take i) : Nat) : Int)), t]) ⟨rfl, _, rfl⟩ (fun _ _ _ _ => trivial) ?_ ?_)
  · rintro i y ρ1 own1 hy ⟨rfl, t, rfl⟩
    rw [List.getElem?_map] at hy
    cases ea : ys[i]? with
    | none => rw [ea] at hy; cases hy
    | some y' =>
      rw [ea] at hy
      cases hy
      have hy20 := hY.it _ (List.mem_of_getElem? ea)
      refine ⟨_, _, gt_name 2 g.nd, sds_one (sd_set 1 g.nd (es_call (fn_common T) g (by decide) (ea_cons (ed_v 2) (ea_cons (ed_v 1) ea_nil)) ⟨_, _, rfl, rfl, by omega, by omega, rfl⟩) ⟨rfl, .d (.int y'), ?_⟩)⟩
      rw [gcL_take ea]
      rfl
  · rintro ρ1 own1 ⟨rfl, t, rfl⟩
    rw [List.length_map, List.take_length]
    have hg := gcL_le hY
    refine sds_one (sd_retL (EL.is (el_comp g (compP g (it_list (ed_v 0)) [("weight", 2)] (blkOk_by (N := ["year", "divisor", "weight"]) (sc := defScope s_plain) (by decide +kernel)) ys PyData.int rfl (fun y => some (.int (y / ((gcL ys : Nat) : Int)))) (fun y => [.d (li ys), .d (.int ((gcL ys : Nat) : Int)), .d (.int y)]) [2] (by simp) (by omega) (fun _ _ => trivial)
      (fun d _ s H C cl fp g' => gt_name 2 g'.nd) (fun d _ s H C cl fp o g' => ets_nil) (fun n hn x hx s H C cl fp o g' => ?_))) (by rw [pln, List.map_map]; exact congrFun List.filterMap_eq_map' _)) fun p => ⟨p, rfl⟩)
    cases hx
    exact ed_fdivS (ed_v 2) (ed_v 1) (by omega))
end
end Pg

namespace Pg
open PySem PySem.Spec PyProof.Rows L2 Sd
section
variable {P : Program} {w : World} {K : PySem.W.Frag} {mg : Str → Option Value} {base : Heap} {c : Cl}
def pre_minus : Pr := fun ss own post => ∃ (p q : Rat) (m n : Nat), ss = [.d (fr p), .d (fr q)] ∧ own = [] ∧ Sq m p ∧ Sq n q ∧ m + n ≤ 8990 ∧ post = fun o => o = .ret (.d (fr (p - q))) []
theorem fn_minus (T : Tx K mg c) : Fn K mg P w base "minus" ["one", "other"] 3 pre_minus := T.d_minus.fn fun f fd F => okG (k := 2) F sc_minus (by rintro ss own post ⟨p, q, m, n, rfl, _⟩; rfl) (by
  rintro ss own post ⟨p, q, m, n, rfl, rfl, hp, hq, hmn, rfl⟩ cdv A outer s H E B g
  refine sds_one (sd_retD (es_call (fn_lowest T) g (by decide) (ea_cons (ed_sub (ed_mul (ed_ixT (ed_v 0) ed_int rfl) (ed_ixT (ed_v 1) ed_int rfl) (cmul_of hp.num hq.den (by omega))) (ed_mul (ed_ixT (ed_v 1) ed_int rfl) (ed_ixT (ed_v 0) ed_int rfl) (cmul_of hq.num hp.den (by omega))))
    (ea_cons (ed_mul (ed_ixT (ed_v 0) ed_int rfl) (ed_ixT (ed_v 1) ed_int rfl) (cmul_of hp.den hq.den (by omega))) ea_nil)) ⟨_, _, rfl, rfl, Int.mul_pos (den_pos p) (den_pos q), (hp.den.mul hq.den).mono (by omega), rfl⟩) ?_)
  rw [minus_eq])
end
end Pg

namespace Pg
open PySem PySem.Spec PyProof.Rows L2 Sd
section
variable {P : Program} {w : World} {K : PySem.W.Frag} {mg : Str → Option Value} {base : Heap} {c : Cl}
def pre_same_table : Pr := fun ss own post => ∃ (ys : List Int), ss = [.d (li ys)] ∧ own = [] ∧ Yr ys ∧ post = fun o => ∃ p, o = .ret (.raw (.ref p)) [(p, .lst (((List.range (ys.length + 2)).map fun n => 1 - unl ys n).map fr))]
theorem fn_same_table (T : Tx K mg c) : Fn K mg P w base "same_table" ["year"] 4 pre_same_table := T.d_same_table.fn fun f fd F => okG (k := 3) F sc_same_table (by rintro ss own post ⟨ys, rfl, _⟩; rfl) (by
  rintro ss own post ⟨ys, rfl, rfl, hY, rfl⟩ cdv A outer s H E B g
  have hl := hY.hi
  refine sds_cons (sd_expr (es_call (fn_check_year T) g (by decide) (ea_cons (ed_v 0) ea_nil) (ok_year hY)) ?_)
  refine sds_one (sd_retL (EL.is (el_comp g (compP g (it_range1 T.n_range (ed_add (ES.is (y := .int (ys.length : Int)) (ed_len T.n_len (ed_v 0) .d) (by rw [List.length_map])) ed_int) (by omega)) [("many", 1)] (blkOk_by (N := ["year", "many"]) (sc := defScope s_same_table) (by decide +kernel)) (List.range (ys.length + 2)) (fun i : Nat => PyData.int (i : Int)) (rng_nat (by omega)) (fun i : Nat => some (fr (1 - unl ys i))) (fun i : Nat => [.d (li ys), .d (.int (i : Int))]) [1] (by simp) (by rw [List.length_range]; omega) (fun _ _ => trivial)
      (fun i _ s H C cl fp g' => gt_name 1 g'.nd) (fun i _ s H C cl fp o g' => ets_nil) (fun i hi z hz s H C cl fp o g' => ?_))) ?_) fun p => ⟨p, rfl⟩)
  · cases hz
    have := List.mem_range.mp hi
    exact es_call (fn_minus T) g' (by decide) (ea_cons (ed_k2 (i := 1) (i' := 1)) (ea_cons (es_call (fn_unlike_of T) g' (by decide) (ea_cons (ed_v 0) (ea_cons (ed_v 1) ea_nil)) ⟨ys, i, rfl, rfl, hY, by omega, rfl⟩) ea_nil)) ⟨1, _, 1, 200, rfl, rfl, .one, unl_sq hY (by omega), by decide, rfl⟩
  · rw [List.map_map]
    exact congrFun List.filterMap_eq_map' _)
end
end Pg

namespace Pg
open PySem PySem.Spec PyProof.Rows L2 Sd
section
variable {P : Program} {w : World} {K : PySem.W.Frag} {mg : Str → Option Value} {base : Heap} {c : Cl}
def askO (c : Cl) (i : Nat) (o : Out) : Prop := if i < 6 then ∃ o', o = .exc (erC c i) o' else ∃ s o', o = .ret s o'
theorem y1 : Yr [1] := ⟨by decide, by decide, by decide⟩
inductive Ask1 : Int → PyData → Nat → Prop
  | y0 {x : PyData} (h : isYear x = false) : Ask1 0 x 0
  | o0 (ys : List Int) (hY : Yr ys) : Ask1 0 (li ys) 6
  | y1 {x : PyData} (h : isYear x = false) : Ask1 1 x 0
  | o1 (ys : List Int) (hY : Yr ys) : Ask1 1 (li ys) 6
  | y2 {x : PyData} (h : isYear x = false) : Ask1 2 x 0
  | o2 (ys : List Int) (hY : Yr ys) : Ask1 2 (li ys) 6
  | y3 {x : PyData} (h : isYear x = false) : Ask1 3 x 0
  | o3 (ys : List Int) (hY : Yr ys) : Ask1 3 (li ys) 6
  | y4 {x : PyData} (h : isYear x = false) : Ask1 4 x 0
  | o4 (ys : List Int) (hY : Yr ys) : Ask1 4 (li ys) 6
  | y5 {x : PyData} (h : isYear x = false) : Ask1 5 x 0
  | o5 (ys : List Int) (hY : Yr ys) : Ask1 5 (li ys) 6
  | y6 {x : PyData} (h : isYear x = false) : Ask1 6 x 0
  | o6 (ys : List Int) (hY : Yr ys) : Ask1 6 (li ys) 6
  | y7 {x : PyData} (h : isYear x = false) : Ask1 7 x 0
  | o7 (ys : List Int) (hY : Yr ys) : Ask1 7 (li ys) 6
  | y8 {x : PyData} (h : isYear x = false) : Ask1 8 x 0
  | o8 (ys : List Int) (hY : Yr ys) : Ask1 8 (li ys) 6
  | y9 {x : PyData} (h : isYear x = false) : Ask1 9 x 0
  | o9 (ys : List Int) (hY : Yr ys) : Ask1 9 (li ys) 6
  | y10 {x : PyData} (h : isYear x = false) : Ask1 10 x 0
  | o10 (ys : List Int) (hY : Yr ys) : Ask1 10 (li ys) 6
  | y11 {x : PyData} (h : isYear x = false) : Ask1 11 x 0
  | o11 (ys : List Int) (hY : Yr ys) : Ask1 11 (li ys) 6
  | y12 {x : PyData} (h : isYear x = false) : Ask1 12 x 0
  | o12 (ys : List Int) (hY : Yr ys) : Ask1 12 (li ys) 6
theorem ask1_bad {x : PyData} (h : isYear x = false) : ∀ k : Nat, k < 13 → Ask1 (k : Int) x 0
  | 0, _ => .y0 h
  | 1, _ => .y1 h
  | 2, _ => .y2 h
  | 3, _ => .y3 h
  | 4, _ => .y4 h
  | 5, _ => .y5 h
  | 6, _ => .y6 h
  | 7, _ => .y7 h
  | 8, _ => .y8 h
  | 9, _ => .y9 h
  | 10, _ => .y10 h
  | 11, _ => .y11 h
  | 12, _ => .y12 h
  | k + 13, h => by omega
theorem ask1_ok {ys : List Int} (hY : Yr ys) : ∀ k : Nat, k < 13 → Ask1 (k : Int) (li ys) 6
  | 0, _ => .o0 ys hY
  | 1, _ => .o1 ys hY
  | 2, _ => .o2 ys hY
  | 3, _ => .o3 ys hY
  | 4, _ => .o4 ys hY
  | 5, _ => .o5 ys hY
  | 6, _ => .o6 ys hY
  | 7, _ => .o7 ys hY
  | 8, _ => .o8 ys hY
  | 9, _ => .o9 ys hY
  | 10, _ => .o10 ys hY
  | 11, _ => .o11 ys hY
  | 12, _ => .o12 ys hY
  | k + 13, h => by omega
def pre_law_one (c : Cl) : Pr := fun ss own post => ∃ (wh : Int) (x : PyData) (i : Nat), ss = [.d (.int wh), .d x] ∧ own = [] ∧ Ask1 wh x i ∧ post = askO c i
theorem fn_law_one (T : Tx K mg c) : Fn K mg P w base "_law_one" ["which", "year"] 6 (pre_law_one c) := T.d_law_one.fn fun f fd F => okG (k := 5) F sc_law_one (by rintro ss own post ⟨wh, x, i, rfl, _⟩; rfl) (by
  rintro ss own post ⟨wh, x, i, rfl, rfl, hA, rfl⟩ cdv A outer s H E B g
  cases hA with
  | y0 h =>
    refine sds_cons (sd_if (l := true) (ET.is (et_cmp c_eqI (ed_v 0) ed_int) rfl) (fun _ => sds_one (sd_retX (ex_call (fy_same_table T) g (by decide) (ea_cons (ed_v 1) ea_nil) ⟨x, _, rfl, rfl, rfl, h, rfl⟩ ⟨_, rfl⟩))) fun h => nomatch h)
  | o0 ys hY =>
    refine sds_cons (sd_if (l := true) (ET.is (et_cmp c_eqI (ed_v 0) ed_int) rfl) (fun _ => sds_one (sd_retL (el_call (fn_same_table T) g (by decide) (ea_cons (ed_v 1) ea_nil) ⟨ys, rfl, rfl, hY, rfl⟩) fun p => ⟨_, _, rfl⟩)) fun h => nomatch h)
  | y1 h =>
    refine sds_cons (sd_ifF (ET.is (et_cmp c_eqI (ed_v 0) ed_int) rfl) ?_)
    refine sds_cons (sd_if (l := true) (ET.is (et_cmp c_eqI (ed_v 0) ed_int) rfl) (fun _ => sds_one (sd_retX (ex_call (fy_mean_until_same T) g (by decide) (ea_cons (ed_v 1) ea_nil) ⟨x, _, rfl, rfl, rfl, h, rfl⟩ ⟨_, rfl⟩))) fun h => nomatch h)
  | o1 ys hY =>
    refine sds_cons (sd_ifF (ET.is (et_cmp c_eqI (ed_v 0) ed_int) rfl) ?_)
    refine sds_cons (sd_if (l := true) (ET.is (et_cmp c_eqI (ed_v 0) ed_int) rfl) (fun _ => sds_one (sd_ret (es_call (fn_mean_until_same T) g (by decide) (ea_cons (ed_v 1) ea_nil) ⟨ys, rfl, rfl, hY, rfl⟩) (fun z => nomatch z) ⟨_, _, rfl⟩)) fun h => nomatch h)
  | y2 h =>
    refine sds_skip (z := "which") (fun p => ed_v 0) 2 _ (by decide +kernel) ?_
    refine sds_cons (sd_if (l := true) (ET.is (et_cmp c_eqI (ed_v 0) ed_int) rfl) (fun _ => sds_one (sd_retX (ex_call (fy_mean_until_all T) g (by decide) (ea_cons (ed_v 1) ea_nil) ⟨x, _, rfl, rfl, rfl, h, rfl⟩ ⟨_, rfl⟩))) fun h => nomatch h)
  | o2 ys hY =>
    refine sds_skip (z := "which") (fun p => ed_v 0) 2 _ (by decide +kernel) ?_
    refine sds_cons (sd_if (l := true) (ET.is (et_cmp c_eqI (ed_v 0) ed_int) rfl) (fun _ => sds_one (sd_ret (es_call (fn_mean_until_all T) g (by decide) (ea_cons (ed_v 1) ea_nil) ⟨ys, rfl, rfl, hY, rfl⟩) (fun z => nomatch z) ⟨_, _, rfl⟩)) fun h => nomatch h)
  | y3 h =>
    refine sds_skip (z := "which") (fun p => ed_v 0) 3 _ (by decide +kernel) ?_
    refine sds_cons (sd_if (l := true) (ET.is (et_cmp c_eqI (ed_v 0) ed_int) rfl) (fun _ => sds_one (sd_retX (ex_call (fy_likeliest_days T) g (by decide) (ea_cons (ed_v 1) ea_nil) ⟨x, _, rfl, rfl, rfl, h, rfl⟩ ⟨_, rfl⟩))) fun h => nomatch h)
  | o3 ys hY =>
    refine sds_skip (z := "which") (fun p => ed_v 0) 3 _ (by decide +kernel) ?_
    refine sds_cons (sd_if (l := true) (ET.is (et_cmp c_eqI (ed_v 0) ed_int) rfl) (fun _ => sds_one (sd_retL (el_call (fn_likeliest_days T) g (by decide) (ea_cons (ed_v 1) ea_nil) ⟨ys, rfl, rfl, hY, rfl⟩) fun p => ⟨_, _, rfl⟩)) fun h => nomatch h)
  | y4 h =>
    refine sds_skip (z := "which") (fun p => ed_v 0) 4 _ (by decide +kernel) ?_
    refine sds_cons (sd_if (l := true) (ET.is (et_cmp c_eqI (ed_v 0) ed_int) rfl) (fun _ => sds_one (sd_retX (ex_call (fy_evenest T) g (by decide) (ea_cons (ed_v 1) ea_nil) ⟨x, _, rfl, rfl, rfl, h, rfl⟩ ⟨_, rfl⟩))) fun h => nomatch h)
  | o4 ys hY =>
    refine sds_skip (z := "which") (fun p => ed_v 0) 4 _ (by decide +kernel) ?_
    refine sds_cons (sd_if (l := true) (ET.is (et_cmp c_eqI (ed_v 0) ed_int) rfl) (fun _ => sds_one (sd_retL (el_call (fn_evenest T) g (by decide) (ea_cons (ed_v 1) ea_nil) ⟨ys, rfl, rfl, hY, rfl⟩) fun p => ⟨_, _, rfl⟩)) fun h => nomatch h)
  | y5 h =>
    refine sds_skip (z := "which") (fun p => ed_v 0) 5 _ (by decide +kernel) ?_
    refine sds_cons (sd_if (l := true) (ET.is (et_cmp c_eqI (ed_v 0) ed_int) rfl) (fun _ => sds_one (sd_retX (ex_call (fy_is_even T) g (by decide) (ea_cons (ed_v 1) ea_nil) ⟨x, _, rfl, rfl, rfl, h, rfl⟩ ⟨_, rfl⟩))) fun h => nomatch h)
  | o5 ys hY =>
    refine sds_skip (z := "which") (fun p => ed_v 0) 5 _ (by decide +kernel) ?_
    refine sds_cons (sd_if (l := true) (ET.is (et_cmp c_eqI (ed_v 0) ed_int) rfl) (fun _ => sds_one (sd_ret (es_call (fn_is_even T) g (by decide) (ea_cons (ed_v 1) ea_nil) ⟨ys, rfl, rfl, hY, rfl⟩) (fun z => nomatch z) ⟨_, _, rfl⟩)) fun h => nomatch h)
  | y6 h =>
    refine sds_skip (z := "which") (fun p => ed_v 0) 6 _ (by decide +kernel) ?_
    refine sds_cons (sd_if (l := true) (ET.is (et_cmp c_eqI (ed_v 0) ed_int) rfl) (fun _ => sds_one (sd_retX (ex_call (fy_plain T) g (by decide) (ea_cons (ed_v 1) ea_nil) ⟨x, _, rfl, rfl, rfl, h, rfl⟩ ⟨_, rfl⟩))) fun h => nomatch h)
  | o6 ys hY =>
    refine sds_skip (z := "which") (fun p => ed_v 0) 6 _ (by decide +kernel) ?_
    refine sds_cons (sd_if (l := true) (ET.is (et_cmp c_eqI (ed_v 0) ed_int) rfl) (fun _ => sds_one (sd_retL (el_call (fn_plain T) g (by decide) (ea_cons (ed_v 1) ea_nil) ⟨ys, rfl, rfl, hY, rfl⟩) fun p => ⟨_, _, rfl⟩)) fun h => nomatch h)
  | y7 h =>
    refine sds_skip (z := "which") (fun p => ed_v 0) 7 _ (by decide +kernel) ?_
    refine sds_cons (sd_if (l := true) (ET.is (et_cmp c_eqI (ed_v 0) ed_int) rfl) (fun _ => sds_one (sd_retX (ex_call (fy_format_year T) g (by decide) (ea_cons (ed_v 1) ea_nil) ⟨x, _, rfl, rfl, rfl, h, rfl⟩ ⟨_, rfl⟩))) fun h => nomatch h)
  | o7 ys hY =>
    refine sds_skip (z := "which") (fun p => ed_v 0) 7 _ (by decide +kernel) ?_
    refine sds_cons (sd_if (l := true) (ET.is (et_cmp c_eqI (ed_v 0) ed_int) rfl) (fun _ => sds_one (sd_ret (es_call (fn_format_year T) g (by decide) (ea_cons (ed_v 1) ea_nil) ⟨ys, rfl, rfl, hY, rfl⟩) (fun z => nomatch z) ⟨_, _, rfl⟩)) fun h => nomatch h)
  | y8 h =>
    refine sds_skip (z := "which") (fun p => ed_v 0) 8 _ (by decide +kernel) ?_
    refine sds_cons (sd_if (l := true) (ET.is (et_cmp c_eqI (ed_v 0) ed_int) rfl) (fun _ => sds_one (sd_retG (eg_make (R := fun s o => askO c 0 (.ret s o)) (post := fun x dx o => o = .exc c.BadYear [(x, .raw (.ins c.Calendar dx [])), (dx, .raw (.own x))]) (fx_cal_init T) g (by decide) (ea_cons (ed_v 1) ea_nil) (fun x' dx => ⟨x', dx, x, rfl, rfl, h, rfl⟩) (fun x dx s o1 h => nomatch h) (fun x dx C o1 h => by cases h; exact ⟨_, rfl⟩)) fun s o h => h)) fun h => nomatch h)
  | o8 ys hY =>
    refine sds_skip (z := "which") (fun p => ed_v 0) 8 _ (by decide +kernel) ?_
    refine sds_cons (sd_if (l := true) (ET.is (et_cmp c_eqI (ed_v 0) ed_int) rfl) (fun _ => sds_one (sd_retG (eg_make (R := fun s o => askO c 6 (.ret s o)) (post := fun x dx o => ∃ py pl, o = .ret (.d .none) (cal c x dx py pl ys [])) (fn_cal_init T) g (by decide) (ea_cons (ed_v 1) ea_nil) (fun x' dx => ⟨x', dx, ys, rfl, rfl, hY, rfl⟩) (fun x dx s o1 h => by obtain ⟨py, pl, h⟩ := h; cases h; exact ⟨rfl, _, _, rfl⟩) (fun x dx C o1 h => by obtain ⟨py, pl, h⟩ := h; cases h)) fun s o h => h)) fun h => nomatch h)
  | y9 h =>
    refine sds_skip (z := "which") (fun p => ed_v 0) 9 _ (by decide +kernel) ?_
    refine sds_cons (sd_if (l := true) (ET.is (et_cmp c_eqI (ed_v 0) ed_int) rfl) (fun _ => sds_one (sd_retX (ex_call (fy_look_alike T) g (by decide) (ea_cons (ed_v 1) (ea_cons (ES.is (y := li [1]) (ed_k1 (i := 1)) rfl) ea_nil)) ⟨x, _, rfl, rfl, rfl, h, rfl⟩ ⟨_, rfl⟩))) fun h => nomatch h)
  | o9 ys hY =>
    refine sds_skip (z := "which") (fun p => ed_v 0) 9 _ (by decide +kernel) ?_
    refine sds_cons (sd_if (l := true) (ET.is (et_cmp c_eqI (ed_v 0) ed_int) rfl) (fun _ => sds_one (sd_ret (es_call (fn_look_alike T) g (by decide) (ea_cons (ed_v 1) (ea_cons (ES.is (y := li [1]) (ed_k1 (i := 1)) rfl) ea_nil)) ⟨ys, [1], rfl, rfl, hY, y1, rfl⟩) (fun z => nomatch z) ⟨_, _, rfl⟩)) fun h => nomatch h)
  | y10 h =>
    refine sds_skip (z := "which") (fun p => ed_v 0) 10 _ (by decide +kernel) ?_
    refine sds_cons (sd_if (l := true) (ET.is (et_cmp c_eqI (ed_v 0) ed_int) rfl) (fun _ => sds_one (sd_retX (ex_call (fz_look_alike T) g (by decide) (ea_cons (ES.is (y := li [1]) (ed_k1 (i := 1)) rfl) (ea_cons (ed_v 1) ea_nil)) ⟨[1], x, _, rfl, rfl, rfl, y1, h, rfl⟩ ⟨_, rfl⟩))) fun h => nomatch h)
  | o10 ys hY =>
    refine sds_skip (z := "which") (fun p => ed_v 0) 10 _ (by decide +kernel) ?_
    refine sds_cons (sd_if (l := true) (ET.is (et_cmp c_eqI (ed_v 0) ed_int) rfl) (fun _ => sds_one (sd_ret (es_call (fn_look_alike T) g (by decide) (ea_cons (ES.is (y := li [1]) (ed_k1 (i := 1)) rfl) (ea_cons (ed_v 1) ea_nil)) ⟨[1], ys, rfl, rfl, y1, hY, rfl⟩) (fun z => nomatch z) ⟨_, _, rfl⟩)) fun h => nomatch h)
  | y11 h =>
    refine sds_skip (z := "which") (fun p => ed_v 0) 11 _ (by decide +kernel) ?_
    refine sds_cons (sd_if (l := true) (ET.is (et_cmp c_eqI (ed_v 0) ed_int) rfl) (fun _ => sds_one (sd_retX (ex_call (fy_first_unlike T) g (by decide) (ea_cons (ed_v 1) (ea_cons (ES.is (y := li [1]) (ed_k1 (i := 1)) rfl) ea_nil)) ⟨x, _, rfl, rfl, rfl, h, rfl⟩ ⟨_, rfl⟩))) fun h => nomatch h)
  | o11 ys hY =>
    refine sds_skip (z := "which") (fun p => ed_v 0) 11 _ (by decide +kernel) ?_
    refine sds_cons (sd_if (l := true) (ET.is (et_cmp c_eqI (ed_v 0) ed_int) rfl) (fun _ => sds_one (sd_ret (es_call (fn_first_unlike T) g (by decide) (ea_cons (ed_v 1) (ea_cons (ES.is (y := li [1]) (ed_k1 (i := 1)) rfl) ea_nil)) ⟨ys, [1], rfl, rfl, hY, y1, rfl⟩) (fun z => nomatch z) ⟨_, _, rfl⟩)) fun h => nomatch h)
  | y12 h =>
    refine sds_skip (z := "which") (fun p => ed_v 0) 12 _ (by decide +kernel) ?_
    refine sds_one (sd_retX (ex_call (fz_first_unlike T) g (by decide) (ea_cons (ES.is (y := li [1]) (ed_k1 (i := 1)) rfl) (ea_cons (ed_v 1) ea_nil)) ⟨[1], x, _, rfl, rfl, rfl, y1, h, rfl⟩ ⟨_, rfl⟩))
  | o12 ys hY =>
    refine sds_skip (z := "which") (fun p => ed_v 0) 12 _ (by decide +kernel) ?_
    refine sds_one (sd_ret (es_call (fn_first_unlike T) g (by decide) (ea_cons (ES.is (y := li [1]) (ed_k1 (i := 1)) rfl) (ea_cons (ed_v 1) ea_nil)) ⟨[1], ys, rfl, rfl, y1, hY, rfl⟩) (fun z => nomatch z) ⟨_, _, rfl⟩))
end
end Pg

namespace Pg
open PySem PySem.Spec PyProof.Rows L2 Sd
section
variable {P : Program} {w : World} {K : PySem.W.Frag} {mg : Str → Option Value} {base : Heap} {c : Cl}
theorem evened_bad {c : Cl} {ys : List Int} {i j : Nat} (hY : Yr ys) (hi : i < ys.length) (hj : j < ys.length) (h : (ys.getD i 0 - ys.getD j 0).natAbs < 2) : pre_evened c [.d (li ys), .d (.int (i : Int)), .d (.int (j : Int))] [] (fun o => o = .exc c.NotFound []) := ⟨ys, i, j, rfl, rfl, hY, hi, hj, by funext o; rw [if_pos h]⟩
theorem evened_ok {c : Cl} {ys : List Int} {i j : Nat} (hY : Yr ys) (hi : i < ys.length) (hj : j < ys.length) (h : ¬ (ys.getD i 0 - ys.getD j 0).natAbs < 2) : pre_evened c [.d (li ys), .d (.int (i : Int)), .d (.int (j : Int))] [] (fun o => ∃ p, o = .ret (.raw (.ref p)) [(p, .lst ((evd ys i j).map PyData.int))]) := ⟨ys, i, j, rfl, rfl, hY, hi, hj, by funext o; rw [if_neg h]⟩
end
end Pg

namespace Pg
open PySem PySem.Spec PyProof.Rows L2 Sd
section
variable {P : Program} {w : World} {K : PySem.W.Frag} {mg : Str → Option Value} {base : Heap} {c : Cl}
def pre_on_day : Pr := fun ss own post => ∃ (ys : List Int) (j n : Nat) (y : Int), ss = [.d (li ys), .d (.int (j : Int)), .d (.int (n : Int))] ∧ own = [] ∧ Yr ys ∧ ys[j]? = some y ∧ n ≤ 12 ∧ post = fun o => o = .ret (.d (fr (1 - (((ys.sum - y) ^ n : Int) : Rat) / ((ys.sum ^ n : Int) : Rat)))) []
theorem fn_on_day (T : Tx K mg c) : Fn K mg P w base "on_day" ["year", "day", "many"] 4 pre_on_day := T.d_on_day.fn fun f fd F => okG (k := 3) F sc_on_day (by rintro ss own post ⟨ys, j, n, y, rfl, _⟩; rfl) (by
  rintro ss own post ⟨ys, j, n, y, rfl, rfl, hY, hj, hn, rfl⟩ cdv A outer s H E B g
  have hl := (List.getElem?_eq_some_iff.mp hj).1
  have hm : y ∈ ys := List.mem_of_getElem? hj
  refine sds_cons (sd_expr (es_call (fn_check_year T) g (by decide) (ea_cons (ed_v 0) ea_nil) (ok_year hY)) ?_)
  refine sds_cons (sd_expr (es_call (fn_check_day T) g (by decide) (ea_cons (ed_v 0) (ea_cons (ed_v 1) ea_nil)) (ok_day ⟨by omega, by omega⟩)) ?_)
  refine sds_cons (sd_expr (es_call (fn_check_many T) g (by decide) (ea_cons (ed_v 2) ea_nil) (ok_many ⟨by omega, by omega⟩)) ?_)
  have h1 : Sz 97 ((ys.sum - y) ^ n) := ((hY.szD hm).pow n).mono (by omega)
  have h2 : Sz 97 (ys.sum ^ n) := (hY.szW.pow n).mono (by omega)
  exact sds_one (sd_retD (es_call (fn_minus T) g (by decide) (ea_cons (ed_k2 (i := 1) (i' := 1)) (ea_cons (es_call (fn_lowest T) g (by decide) (ea_cons (es_call (fn_power T) g (by decide) (ea_cons (ed_sub (ed_sum g T.n_sum (ed_v 0) .d) (ed_ixL (ed_v 0) (ed_v 1) .d (getI hj))) (ea_cons (ed_v 2) ea_nil)) ⟨_, n, 8, rfl, rfl, hY.szD hm, by omega, by decide, rfl⟩)
    (ea_cons (es_call (fn_power T) g (by decide) (ea_cons (ed_sum g T.n_sum (ed_v 0) .d) (ea_cons (ed_v 2) ea_nil)) ⟨_, n, 8, rfl, rfl, hY.szW, by omega, by decide, rfl⟩) ea_nil)) ⟨_, _, rfl, rfl, hY.posP n, h2.mono (by decide), rfl⟩) ea_nil)) ⟨1, _, 1, 97, rfl, rfl, .one, Sq.of_div (hY.posP n) h1 h2, by decide, rfl⟩) rfl))
end
end Pg

namespace Pg
open PySem PySem.Spec PyProof.Rows L2 Sd
section
variable {P : Program} {w : World} {K : PySem.W.Frag} {mg : Str → Option Value} {base : Heap} {c : Cl}
/-- a test that changes what is owned -/
def ETG (Z : Sd.Ctx) (e : Expr) (ρ : List Slot) (own : Own) (R : Bool → Own → Prop) : Prop := ∀ Hf σ H, Sat Z.B Hf H own → EnvR Hf σ ρ → ∀ Q : Bool → Hp → Prop, (∀ b Hf' H' own', Same Hf Hf' → Sat Z.B Hf' H' own' → R b own' → Q b H') → wT Z.X e σ H Q
theorem sd_ifG {Z : Sd.Ctx} {D : DE} {c : Expr} {A B : List Stmt} {pos : Pos} {ρ : List Slot} {own : Own} {R : Bool → Own → Prop} (hc : ETG Z c ρ own R) (h1 : ∀ o, R true o → SDs Z A D ρ o) (h2 : ∀ o, R false o → SDs Z B D ρ o) : SD Z (.If c A B pos) D ρ own := fun H0 Hf σ H m0 S E => wS.of (ps_if ptW pssW pssW) (hc Hf σ H S E _ fun b Hf1 H1 o m1 S1 hR => by
  cases b with
  | true => exact iteT (h1 o hR H0 Hf1 σ H1 (m0.trans m1) S1 (E.mono m1))
  | false => exact iteF (h2 o hR H0 Hf1 σ H1 (m0.trans m1) S1 (E.mono m1)))
/-- or, and with a change of what is owned: as tests -/
def EWG (Z : Sd.Ctx) (e : Expr) (ρ : List Slot) (own : Own) (R : Bool → Own → Prop) : Prop := ∀ Hf σ H, Sat Z.B Hf H own → EnvR Hf σ ρ → ∀ Q : Bool → Hp → Prop, (∀ b Hf' H' own', Same Hf Hf' → Sat Z.B Hf' H' own' → R b own' → Q b H') → wW Z.X e σ H Q
theorem EWG.et {Z : Sd.Ctx} {e : Expr} {ρ : List Slot} {own : Own} {R : Bool → Own → Prop} (h : EWG Z e ρ own R) : ETG Z e ρ own R := fun Hf σ H S E Q q => wT.of pwW.pt (h Hf σ H S E Q q)
theorem ETG.imp {Z : Sd.Ctx} {e : Expr} {ρ : List Slot} {own : Own} {R R' : Bool → Own → Prop} (h : ETG Z e ρ own R) (q : ∀ b o, R b o → R' b o) : ETG Z e ρ own R' := fun Hf σ H S E Q k => h Hf σ H S E Q fun b Hf' H' o m S' r => k b Hf' H' o m S' (q b o r)
theorem etg_val {Z : Sd.Ctx} {e : Expr} {ρ : List Slot} {own : Own} {R : Bool → Own → Prop} (h : EG Z e ρ own fun s o => ∃ k, s = .d (.bool k) ∧ R k o) (he : ∀ whole, isTrue e Z.X.env whole = (do let v ← whole; standAt e.pos; holding [v] (truthy v)) := by intro _; rfl) : ETG Z e ρ own R := fun Hf σ H S E Q q =>
  wT.of (pt_val peW he) (h Hf σ H S E _ fun v Hf1 H1 s o m1 S1 r1 _ hq => by
    obtain ⟨k, rfl, hR⟩ := hq
    cases r1
    exact ⟨k, rfl, q k Hf1 H1 o m1 S1 hR⟩)
theorem etg_not {Z : Sd.Ctx} {e : Expr} {pos : Pos} {ρ : List Slot} {own : Own} {R : Bool → Own → Prop} (h : ETG Z e ρ own fun b o => R (!b) o) : ETG Z (.UnaryOp .Not e pos) ρ own R := fun Hf σ H S E Q q => wT.of (pt_not ptW) (h Hf σ H S E _ fun b Hf1 H1 o m1 S1 hR => q (!b) Hf1 H1 o m1 S1 hR)
theorem fre_ints (ns : List Int) : ∀ d ∈ ns.map PyData.int, Fre d := fun d hd => by
  obtain ⟨n, _, rfl⟩ := List.mem_map.mp hd
  exact .int n
end
end Pg

namespace Pg
open PySem PySem.Spec PyProof.Rows L2 Sd
section
variable {P : Program} {w : World} {K : PySem.W.Frag} {mg : Str → Option Value} {base : Heap} {c : Cl}
/-- a list of one's own that is or is not a year -/
def pre_checked_t (c : Cl) : Pr := fun ss own post => ∃ (p : Addr) (ys : List Int), ss = [.raw (.ref p)] ∧ own = [(p, .lst (ys.map PyData.int))] ∧ post = fun o => (isYear (li ys) = true ∧ o = .ret (.raw (.ref p)) [(p, .lst (ys.map PyData.int))]) ∨ (isYear (li ys) = false ∧ o = .exc c.BadYear [])
theorem fn_checked_t (T : Tx K mg c) : Fn K mg P w base "checked" ["year"] 3 (pre_checked_t c) := T.d_checked.fn fun f fd F => okG (k := 2) F sc_checked (by rintro ss own post ⟨p, ys, rfl, _⟩; rfl) (by
  rintro ss own post ⟨p, ys, rfl, rfl, rfl⟩ cdv A outer s H E B g
  refine sds_cons (sd_ifG (R := fun b o => b = !isYear (li ys) ∧ o = [(p, .lst (ys.map PyData.int))]) (etg_not (etg_val (eg_lend (R' := fun s o => s = .d (.bool (isYear (li ys))) ∧ o = []) 0 rfl (fre_ints ys) (ES.toEG (es_call (fn_is_year T) g (by decide) (ea_cons (ed_v 0) ea_nil) ⟨_, rfl, rfl, rfl⟩) (fun z => nomatch z) ⟨rfl, rfl⟩) ?_))) ?_ ?_)
  · rintro s o ⟨rfl, rfl⟩
    exact ⟨.bl _, (fun q hq => nomatch hq), _, rfl, rfl, rfl⟩
  · rintro o ⟨h, rfl⟩
    refine sds_drop (oa := []) (ob := []) (sds_one (sd_raise g T.e_BadYear (.inr ⟨?_, rfl⟩)))
    simpa using h.symm
  · rintro o ⟨h, rfl⟩
    refine sds_nil (sds_one (sd_ret (ev_v 0) (fun z => nomatch z) (.inl ⟨?_, rfl⟩)))
    simpa using h.symm)
/-- a new list, checked -/
theorem eg_checked {Z : Sd.Ctx} {k : Nat} {ρ : List Slot} {own : Own} {e : Expr} {p pos : Pos} {ys : List Int} {R : Slot → Own → Prop} (F : Fn Z.X.K Z.X.mg Z.X.prog Z.X.w Z.X.base "checked" ["year"] 3 (pre_checked_t c)) (g : Gd Z k) (hk : 3 ≤ k) (he : EL Z e ρ own (ys.map PyData.int)) (h1 : isYear (li ys) = true → ∀ q, R (.raw (.ref q)) ((q, .lst (ys.map PyData.int)) :: own)) (h2 : isYear (li ys) = false → Z.ex c.BadYear ρ own) (hg : Gl Z.X "checked" := by rfl) (hs : starEach [e] Z.X.env = (false, eval e Z.X.env) :: starEach [] Z.X.env := by rfl) :
    EG Z (.Call (.Name "checked" p) [e] [] pos) ρ own R :=
  eg_callG (RA := fun ss o => ∃ q, ss = [.raw (.ref q)] ∧ o = (q, .lst (ys.map PyData.int)) :: own) F g hk (eag_cons (P := fun s o => ∃ q, s = .raw (.ref q) ∧ o = (q, .lst (ys.map PyData.int)) :: own) (EL.toEG he fun q => ⟨q, rfl, rfl⟩) (by
    rintro s o ⟨q, rfl, rfl⟩ _
    exact EA.toEAG ea_nil ⟨q, rfl, rfl⟩) hs) (by
    rintro ss o ⟨q, rfl, rfl⟩
    refine ⟨[], [(q, .lst (ys.map PyData.int))], own, _, rfl, ⟨q, ys, rfl, rfl, rfl⟩, ?_, ?_⟩
    · rintro s o1 h
      rcases h with ⟨h, e⟩ | ⟨_, e⟩
      · cases e
        exact h1 h q
      · cases e
    · rintro C o1 h
      rcases h with ⟨_, e⟩ | ⟨h, e⟩
      · cases e
      · cases e
        exact h2 h) hg (by decide) hs rfl
end
end Pg

namespace Pg
open PySem PySem.Spec PyProof.Rows L2 Sd
section
variable {P : Program} {w : World} {K : PySem.W.Frag} {mg : Str → Option Value} {base : Heap} {c : Cl}
end
end Pg

namespace Pg
open PySem PySem.Spec PyProof.Rows L2 Sd
section
variable {P : Program} {w : World} {K : PySem.W.Frag} {mg : Str → Option Value} {base : Heap} {c : Cl}
def ptg (ys : List Int) (i j : Nat) : List Int := (ys.set i (ys.getD i 0 + ys.getD j 0)).take j ++ (ys.set i (ys.getD i 0 + ys.getD j 0)).drop (j + 1)
end
end Pg

namespace Pg
open PySem PySem.Spec PyProof.Rows L2 Sd
section
variable {P : Program} {w : World} {K : PySem.W.Frag} {mg : Str → Option Value} {base : Heap} {c : Cl}
theorem isInt_of {x : PyData} {lo hi : Int} (h : isInt x lo hi = true) : ∃ v, x = .int v ∧ lo ≤ v ∧ v ≤ hi := by
  unfold Sd.isInt at h
  split at h
  · simp at h
    exact ⟨_, rfl, h⟩
  · cases h
end
end Pg

namespace Pg
open PySem PySem.Spec PyProof.Rows L2 Sd
section
variable {P : Program} {w : World} {K : PySem.W.Frag} {mg : Str → Option Value} {base : Heap} {c : Cl}
theorem no_day {c : Cl} {ys : List Int} {x : PyData} (h : isInt x 0 ((ys.length : Int) - 1) = false) : pre_check_day c [.d (li ys), .d x] [] (fun o => o = .exc c.BadDay []) := ⟨_, x, rfl, rfl, by rw [List.length_map, if_neg (by rw [h]; decide)]⟩
theorem day_of {ys : List Int} {x : PyData} (h : isInt x 0 ((ys.length : Int) - 1) = true) : ∃ j : Nat, x = .int (j : Int) ∧ j < ys.length := by
  obtain ⟨v, rfl, h1, h2⟩ := isInt_of h
  exact ⟨v.toNat, by rw [Int.toNat_of_nonneg h1], by omega⟩
def pre_without_day_t (c : Cl) : Pr := fun ss own post => ∃ (ys : List Int) (x : PyData), ss = [.d (li ys), .d x] ∧ own = [] ∧ Yr ys ∧ post = fun o => (isInt x 0 ((ys.length : Int) - 1) = false ∧ o = .exc c.BadDay []) ∨ ∃ j : Nat, x = .int (j : Int) ∧ j < ys.length ∧ ((isYear (li (ys.take j ++ ys.drop (j + 1))) = true ∧ ∃ p, o = .ret (.raw (.ref p)) [(p, .lst ((ys.take j ++ ys.drop (j + 1)).map PyData.int))]) ∨ (isYear (li (ys.take j ++ ys.drop (j + 1))) = false ∧ o = .exc c.BadYear []))
theorem fn_without_day_t (T : Tx K mg c) : Fn K mg P w base "without_day" ["year", "day"] 4 (pre_without_day_t c) := T.d_without_day.fn fun f fd F => okG (k := 3) F sc_without_day (by rintro ss own post ⟨ys, j, rfl, _⟩; rfl) (by
  rintro ss own post ⟨ys, x, rfl, rfl, hY, rfl⟩ cdv A outer s H E B g
  have hl := hY.hi
  refine sds_cons (sd_expr (es_call (fn_check_year T) g (by decide) (ea_cons (ed_v 0) ea_nil) (ok_year hY)) ?_)
  by_cases hd : isInt x 0 ((ys.length : Int) - 1) = true
  · obtain ⟨j, rfl, hj⟩ := day_of hd
    refine sds_cons (sd_expr (es_call (fn_check_day T) g (by decide) (ea_cons (ed_v 0) (ea_cons (ed_v 1) ea_nil)) (ok_day ⟨by omega, by omega⟩)) ?_)
    have e1 : Sd.cutD (ys.map PyData.int) none (some (j : Int)) ++ Sd.cutD (ys.map PyData.int) (some ((j : Int) + 1)) none = (ys.take j ++ ys.drop (j + 1)).map PyData.int := by
      rw [cutD_to _ _ (by rw [List.length_map]; omega), show ((j : Int) + 1) = ((j + 1 : Nat) : Int) by omega, cutD_from _ _ (by rw [List.length_map]; omega), List.map_append, List.map_take, List.map_drop]
    exact sds_one (sd_retG (R := fun s o => isYear (li (ys.take j ++ ys.drop (j + 1))) = true ∧ ∃ p, s = .raw (.ref p) ∧ o = [(p, .lst ((ys.take j ++ ys.drop (j + 1)).map PyData.int))]) (eg_checked (fn_checked_t T) g (by decide) (EL.is (el_cat (EL.ed (el_slice (ed_v 0) po_no (po_yes (ed_v 1)) .d)) (EL.ed (el_slice (ed_v 0) (po_yes (ed_add (ed_v 1) ed_int)) po_no .d)) .d .d (by
      rw [← List.length_append, e1, List.length_map, List.length_append, List.length_take, List.length_drop]
      omega)) e1) (fun h q => ⟨h, q, rfl, rfl⟩) fun h => .inr ⟨j, rfl, hj, .inr ⟨h, rfl⟩⟩) (by
      rintro s o ⟨h, p, rfl, rfl⟩
      exact .inr ⟨j, rfl, hj, .inl ⟨h, p, rfl⟩⟩))
  · have hd : isInt x 0 ((ys.length : Int) - 1) = false := by simpa using hd
    exact sds_cons (sd_exprX (ex_call (fn_check_day T) g (by decide) (ea_cons (ed_v 0) (ea_cons (ed_v 1) ea_nil)) (no_day hd) (.inl ⟨hd, rfl⟩))))
end
end Pg

namespace Pg
open PySem PySem.Spec PyProof.Rows L2 Sd
section
variable {P : Program} {w : World} {K : PySem.W.Frag} {mg : Str → Option Value} {base : Heap} {c : Cl}
def pre_put_together_t (c : Cl) : Pr := fun ss own post => ∃ (ys : List Int) (x y : PyData), ss = [.d (li ys), .d x, .d y] ∧ own = [] ∧ Yr ys ∧ post = fun o => ((isInt x 0 ((ys.length : Int) - 1) && isInt y 0 ((ys.length : Int) - 1)) = false ∧ o = .exc c.BadDay []) ∨ ∃ i j : Nat, x = .int (i : Int) ∧ y = .int (j : Int) ∧ i < ys.length ∧ j < ys.length ∧
  ((i = j ∧ o = .exc c.BadNumber []) ∨ (i ≠ j ∧ isYear (li (ptg ys i j)) = true ∧ ∃ p, o = .ret (.raw (.ref p)) [(p, .lst ((ptg ys i j).map PyData.int))]) ∨ (i ≠ j ∧ isYear (li (ptg ys i j)) = false ∧ o = .exc c.BadYear []))
theorem fn_put_together_t (T : Tx K mg c) : Fn K mg P w base "put_together" ["year", "one", "other"] 4 (pre_put_together_t c) := T.d_put_together.fn fun f fd F => okG (k := 3) F sc_put_together (by rintro ss own post ⟨ys, i, j, rfl, _⟩; rfl) (by
  rintro ss own post ⟨ys, x, y, rfl, rfl, hY, rfl⟩ cdv A outer s H E B g
  have hl := hY.hi
  refine sds_rtsub ?_
  refine sds_cons (sd_expr (es_call (fn_check_year T) g (by decide) (ea_cons (ed_v 0) ea_nil) (ok_year hY)) ?_)
  by_cases hd : isInt x 0 ((ys.length : Int) - 1) = true
  · obtain ⟨i, rfl, hi⟩ := day_of hd
    refine sds_cons (sd_expr (es_call (fn_check_day T) g (by decide) (ea_cons (ed_v 0) (ea_cons (ed_v 1) ea_nil)) (ok_day ⟨by omega, by omega⟩)) ?_)
    by_cases hd2 : isInt y 0 ((ys.length : Int) - 1) = true
    · obtain ⟨j, rfl, hj⟩ := day_of hd2
      refine sds_cons (sd_expr (es_call (fn_check_day T) g (by decide) (ea_cons (ed_v 0) (ea_cons (ed_v 2) ea_nil)) (ok_day ⟨by omega, by omega⟩)) ?_)
      refine sds_cons (sd_if (et_cmp c_eqI (ed_v 1) (ed_v 2)) (fun h => ?_) fun h => sds_nil ?_)
      · have h := of_decide_eq_true h
        exact sds_one (sd_raise g T.e_BadNumber (.inr ⟨i, j, rfl, rfl, hi, hj, .inl ⟨by omega, rfl⟩⟩))
      have hij : i ≠ j := by
        have := of_decide_eq_false h
        omega
      have gi : ys[i]? = some (ys.getD i 0) := by rw [List.getD_eq_getElem?_getD, List.getElem?_eq_getElem hi]; rfl
      have gj : ys[j]? = some (ys.getD j 0) := by rw [List.getD_eq_getElem?_getD, List.getElem?_eq_getElem hj]; rfl
      refine sds_cons (sd_setL 3 g.nd (el_list T.n_list (ed_v 0) .d) fun p => ?_)
      refine sds_cons (sd_augitem (oa := []) (ob := []) (n := i) (y := ys.getD i 0) (z := ys.getD j 0) iop_addC (ev_v 3) (ed_v 1) (ed_ixL (ed_v 0) (ed_v 2) .d (getI gj)) (ixN_of (by rw [List.length_map]; exact hi)) (by rw [List.getElem?_map, gi]; rfl) trivial ?_)
      obtain ⟨fs, hfs⟩ : ∃ fs, fs = ys.set i (ys.getD i 0 + ys.getD j 0) := ⟨_, rfl⟩
      have em : (ys.map PyData.int).set i (.int (ys.getD i 0 + ys.getD j 0)) = fs.map PyData.int := by rw [hfs, List.map_set]
      rw [em]
      refine sds_freeze 3 (oa := []) rfl ?_
      have hpt : ptg ys i j = fs.take j ++ fs.drop (j + 1) := by rw [hfs]; rfl
      have hsl : fs.length = ys.length := by rw [hfs, List.length_set]
      have e1 : Sd.cutD (fs.map PyData.int) none (some (j : Int)) ++ Sd.cutD (fs.map PyData.int) (some ((j : Int) + 1)) none = (ptg ys i j).map PyData.int := by
        rw [cutD_to _ _ (by rw [List.length_map]; omega), show ((j : Int) + 1) = ((j + 1 : Nat) : Int) by omega, cutD_from _ _ (by rw [List.length_map]; omega), hpt, List.map_append, List.map_take, List.map_drop]
      have hpl : (ptg ys i j).length ≤ 8 := by
        rw [hpt, List.length_append, List.length_take, List.length_drop]
        omega
      exact sds_one (sd_retG (R := fun s o => isYear (li (ptg ys i j)) = true ∧ ∃ p, s = .raw (.ref p) ∧ o = [(p, .lst ((ptg ys i j).map PyData.int))]) (eg_checked (fn_checked_t T) g (by decide) (EL.is (el_cat (EL.ed (el_slice (ed_v 3) po_no (po_yes (ed_v 2)) .d)) (EL.ed (el_slice (ed_v 3) (po_yes (ed_add (ed_v 2) ed_int)) po_no .d)) .d .d (by
        rw [← List.length_append, e1, List.length_map]
        omega)) e1) (fun h q => ⟨h, q, rfl, rfl⟩) fun h => .inr ⟨i, j, rfl, rfl, hi, hj, .inr (.inr ⟨hij, h, rfl⟩)⟩) (by
        rintro s o ⟨h, p, rfl, rfl⟩
        exact ⟨_, List.Sublist.refl _, .inr ⟨i, j, rfl, rfl, hi, hj, .inr (.inl ⟨hij, h, p, rfl⟩)⟩⟩))
    · have hd2 : isInt y 0 ((ys.length : Int) - 1) = false := by simpa using hd2
      exact sds_cons (sd_exprX (ex_call (fn_check_day T) g (by decide) (ea_cons (ed_v 0) (ea_cons (ed_v 2) ea_nil)) (no_day hd2) (.inl ⟨by rw [hd2, Bool.and_false], rfl⟩)))
  · have hd : isInt x 0 ((ys.length : Int) - 1) = false := by simpa using hd
    exact sds_cons (sd_exprX (ex_call (fn_check_day T) g (by decide) (ea_cons (ed_v 0) (ea_cons (ed_v 1) ea_nil)) (no_day hd) (.inl ⟨by rw [hd, Bool.false_and], rfl⟩))))
end
end Pg

namespace Pg
open PySem PySem.Spec PyProof.Rows L2 Sd
section
variable {P : Program} {w : World} {K : PySem.W.Frag} {mg : Str → Option Value} {base : Heap} {c : Cl}
def pre_share_of : Pr := fun ss own post => ∃ (ys : List Int) (j : Nat) (y : Int), ss = [.d (li ys), .d (.int (j : Int))] ∧ own = [] ∧ Yr ys ∧ ys[j]? = some y ∧ post = fun o => o = .ret (.d (fr ((y : Rat) / ys.sum))) []
theorem fn_share_of (T : Tx K mg c) : Fn K mg P w base "share_of" ["year", "day"] 4 pre_share_of := T.d_share_of.fn fun f fd F => okG (k := 3) F sc_share_of (by rintro ss own post ⟨ys, j, y, rfl, _⟩; rfl) (by
  rintro ss own post ⟨ys, j, y, rfl, rfl, hY, hj, rfl⟩ cdv A outer s H E B g
  have hl := (List.getElem?_eq_some_iff.mp hj).1
  refine sds_cons (sd_expr (es_call (fn_check_year T) g (by decide) (ea_cons (ed_v 0) ea_nil) (ok_year hY)) ?_)
  refine sds_cons (sd_expr (es_call (fn_check_day T) g (by decide) (ea_cons (ed_v 0) (ea_cons (ed_v 1) ea_nil)) (ok_day ⟨by omega, by omega⟩)) ?_)
  exact sds_one (sd_retD (es_call (fn_lowest T) g (by decide) (ea_cons (ed_ixL (ed_v 0) (ed_v 1) .d (getI hj)) (ea_cons (ed_sum g T.n_sum (ed_v 0) .d) ea_nil)) ⟨_, _, rfl, rfl, by have := hY.sum_lo; omega, hY.szW.mono (by decide), rfl⟩) rfl))
end
end Pg

namespace Pg
open PySem PySem.Spec PyProof.Rows L2 Sd
section
variable {P : Program} {w : World} {K : PySem.W.Frag} {mg : Str → Option Value} {base : Heap} {c : Cl}
inductive Ask3 : Int → PyData → PyData → Nat → Prop
  | y0 {x y : PyData} (h : isYear x = false) : Ask3 0 x y 0
  | y1 {x y : PyData} (h : isYear x = false) : Ask3 1 x y 0
  | y2 {x y : PyData} (h : isYear x = false) : Ask3 2 x y 0
  | y3 {x y : PyData} (h : isYear x = false) : Ask3 3 x y 0
  | y4 {x y : PyData} (h : isYear x = false) : Ask3 4 x y 0
  | y5 {x y : PyData} (h : isYear x = false) : Ask3 5 x y 0
  | y6 {x y : PyData} (h : isYear x = false) : Ask3 6 x y 0
  | y7 {x y : PyData} (h : isYear x = false) : Ask3 7 x y 0
  | d0 (ys : List Int) (hY : Yr ys) {y : PyData} (h : Sd.isInt y 0 ((ys.length : Int) - 1) = false) : Ask3 0 (li ys) y 1
  | d1 (ys : List Int) (hY : Yr ys) {y : PyData} (h : Sd.isInt y 0 ((ys.length : Int) - 1) = false) : Ask3 1 (li ys) y 1
  | d2 (ys : List Int) (hY : Yr ys) {y : PyData} (h : Sd.isInt y 0 ((ys.length : Int) - 1) = false) : Ask3 2 (li ys) y 1
  | d3 (ys : List Int) (hY : Yr ys) {y : PyData} (h : Sd.isInt y 0 ((ys.length : Int) - 1) = false) : Ask3 3 (li ys) y 1
  | d4 (ys : List Int) (hY : Yr ys) {y : PyData} (h : Sd.isInt y 0 ((ys.length : Int) - 1) = false) : Ask3 4 (li ys) y 1
  | d5 (ys : List Int) (hY : Yr ys) {y : PyData} (h : Sd.isInt y 0 ((ys.length : Int) - 1) = false) : Ask3 5 (li ys) y 1
  | d6 (ys : List Int) (hY : Yr ys) {y : PyData} (h : Sd.isInt y 0 ((ys.length : Int) - 1) = false) : Ask3 6 (li ys) y 1
  | d7 (ys : List Int) (hY : Yr ys) {y : PyData} (h : Sd.isInt y 0 ((ys.length : Int) - 1) = false) : Ask3 7 (li ys) y 1
  | o0 (ys : List Int) (hY : Yr ys) (j : Nat) (hj : j < ys.length) : Ask3 0 (li ys) (.int (j : Int)) 6
  | o1 (ys : List Int) (hY : Yr ys) (j : Nat) (hj : j < ys.length) : Ask3 1 (li ys) (.int (j : Int)) 6
  | o2 (ys : List Int) (hY : Yr ys) (j : Nat) (hj : j < ys.length) : Ask3 2 (li ys) (.int (j : Int)) 6
  | e3 (ys : List Int) (hY : Yr ys) (j : Nat) (hj : j < ys.length) (h : (ys.getD j 0 - ys.getD 0 0).natAbs < 2) : Ask3 3 (li ys) (.int (j : Int)) 5
  | o3 (ys : List Int) (hY : Yr ys) (j : Nat) (hj : j < ys.length) (h : ¬ (ys.getD j 0 - ys.getD 0 0).natAbs < 2) : Ask3 3 (li ys) (.int (j : Int)) 6
  | e4 (ys : List Int) (hY : Yr ys) (j : Nat) (hj : j < ys.length) (h : (ys.getD 0 0 - ys.getD j 0).natAbs < 2) : Ask3 4 (li ys) (.int (j : Int)) 5
  | o4 (ys : List Int) (hY : Yr ys) (j : Nat) (hj : j < ys.length) (h : ¬ (ys.getD 0 0 - ys.getD j 0).natAbs < 2) : Ask3 4 (li ys) (.int (j : Int)) 6
  | p5 (ys : List Int) (hY : Yr ys) (hl : 1 < ys.length) : Ask3 5 (li ys) (.int 1) 2
  | p6 (ys : List Int) (hY : Yr ys) (hl : 1 < ys.length) : Ask3 6 (li ys) (.int 1) 2
  | o7 (ys : List Int) (hY : Yr ys) (j : Nat) (hj : j < ys.length) (h : isYear (li (ys.take j ++ ys.drop (j + 1))) = true) : Ask3 7 (li ys) (.int (j : Int)) 6
theorem ask3_bad {x y : PyData} (h : isYear x = false) : ∀ k : Nat, k < 8 → Ask3 (k : Int) x y 0
  | 0, _ => .y0 h
  | 1, _ => .y1 h
  | 2, _ => .y2 h
  | 3, _ => .y3 h
  | 4, _ => .y4 h
  | 5, _ => .y5 h
  | 6, _ => .y6 h
  | 7, _ => .y7 h
  | k + 8, h => by omega
theorem ask3_day {ys : List Int} (hY : Yr ys) {y : PyData} (h : Sd.isInt y 0 ((ys.length : Int) - 1) = false) : ∀ k : Nat, k < 8 → Ask3 (k : Int) (li ys) y 1
  | 0, _ => .d0 ys hY h
  | 1, _ => .d1 ys hY h
  | 2, _ => .d2 ys hY h
  | 3, _ => .d3 ys hY h
  | 4, _ => .d4 ys hY h
  | 5, _ => .d5 ys hY h
  | 6, _ => .d6 ys hY h
  | 7, _ => .d7 ys hY h
  | k + 8, h => by omega
def pre_law_dayed (c : Cl) : Pr := fun ss own post => ∃ (wh : Int) (x y : PyData) (i : Nat), ss = [.d (.int wh), .d x, .d y] ∧ own = [] ∧ Ask3 wh x y i ∧ post = askO c i
theorem fn_law_dayed (T : Tx K mg c) : Fn K mg P w base "_law_dayed" ["which", "year", "day"] 6 (pre_law_dayed c) := T.d_law_dayed.fn fun f fd F => okG (k := 5) F sc_law_dayed (by rintro ss own post ⟨wh, x, y, i, rfl, _⟩; rfl) (by
  rintro ss own post ⟨wh, x, y, i, rfl, rfl, hA, rfl⟩ cdv A outer s H E B g
  cases hA with
  | y0 h =>
    refine sds_cons (sd_if (l := true) (ET.is (et_cmp c_eqI (ed_v 0) ed_int) rfl) (fun _ => sds_one (sd_retX (ex_call (fy_share_of T) g (by decide) (ea_cons (ed_v 1) (ea_cons (ed_v 2) ea_nil)) ⟨x, _, rfl, rfl, rfl, h, rfl⟩ ⟨_, rfl⟩))) fun h => nomatch h)
  | y1 h =>
    refine sds_cons (sd_ifF (ET.is (et_cmp c_eqI (ed_v 0) ed_int) rfl) ?_)
    refine sds_cons (sd_if (l := true) (ET.is (et_cmp c_eqI (ed_v 0) ed_int) rfl) (fun _ => sds_one (sd_retX (ex_call (fy_on_day T) g (by decide) (ea_cons (ed_v 1) (ea_cons (ed_v 2) (ea_cons ed_int ea_nil))) ⟨x, _, rfl, rfl, rfl, h, rfl⟩ ⟨_, rfl⟩))) fun h => nomatch h)
  | y2 h =>
    refine sds_skip (z := "which") (fun p => ed_v 0) 2 _ (by decide +kernel) ?_
    refine sds_cons (sd_if (l := true) (ET.is (et_cmp c_eqI (ed_v 0) ed_int) rfl) (fun _ => sds_one (sd_retX (ex_call (fy_just_on_day T) g (by decide) (ea_cons (ed_v 1) (ea_cons (ed_v 2) (ea_cons ed_int (ea_cons ed_int ea_nil)))) ⟨x, _, rfl, rfl, rfl, h, rfl⟩ ⟨_, rfl⟩))) fun h => nomatch h)
  | y3 h =>
    refine sds_skip (z := "which") (fun p => ed_v 0) 3 _ (by decide +kernel) ?_
    refine sds_cons (sd_if (l := true) (ET.is (et_cmp c_eqI (ed_v 0) ed_int) rfl) (fun _ => sds_one (sd_retX (ex_call (fy_evened T) g (by decide) (ea_cons (ed_v 1) (ea_cons (ed_v 2) (ea_cons ed_int ea_nil))) ⟨x, _, rfl, rfl, rfl, h, rfl⟩ ⟨_, rfl⟩))) fun h => nomatch h)
  | y4 h =>
    refine sds_skip (z := "which") (fun p => ed_v 0) 4 _ (by decide +kernel) ?_
    refine sds_cons (sd_if (l := true) (ET.is (et_cmp c_eqI (ed_v 0) ed_int) rfl) (fun _ => sds_one (sd_retX (ex_call (fy_evened T) g (by decide) (ea_cons (ed_v 1) (ea_cons ed_int (ea_cons (ed_v 2) ea_nil))) ⟨x, _, rfl, rfl, rfl, h, rfl⟩ ⟨_, rfl⟩))) fun h => nomatch h)
  | y5 h =>
    refine sds_skip (z := "which") (fun p => ed_v 0) 5 _ (by decide +kernel) ?_
    refine sds_cons (sd_if (l := true) (ET.is (et_cmp c_eqI (ed_v 0) ed_int) rfl) (fun _ => sds_one (sd_retX (ex_call (fy_put_together T) g (by decide) (ea_cons (ed_v 1) (ea_cons (ed_v 2) (ea_cons ed_int ea_nil))) ⟨x, _, rfl, rfl, rfl, h, rfl⟩ ⟨_, rfl⟩))) fun h => nomatch h)
  | y6 h =>
    refine sds_skip (z := "which") (fun p => ed_v 0) 6 _ (by decide +kernel) ?_
    refine sds_cons (sd_if (l := true) (ET.is (et_cmp c_eqI (ed_v 0) ed_int) rfl) (fun _ => sds_one (sd_retX (ex_call (fy_put_together T) g (by decide) (ea_cons (ed_v 1) (ea_cons ed_int (ea_cons (ed_v 2) ea_nil))) ⟨x, _, rfl, rfl, rfl, h, rfl⟩ ⟨_, rfl⟩))) fun h => nomatch h)
  | y7 h =>
    refine sds_skip (z := "which") (fun p => ed_v 0) 7 _ (by decide +kernel) ?_
    refine sds_one (sd_retX (ex_call (fy_without_day T) g (by decide) (ea_cons (ed_v 1) (ea_cons (ed_v 2) ea_nil)) ⟨x, _, rfl, rfl, rfl, h, rfl⟩ ⟨_, rfl⟩))
  | d0 ys hY h =>
    refine sds_cons (sd_if (l := true) (ET.is (et_cmp c_eqI (ed_v 0) ed_int) rfl) (fun _ => sds_one (sd_retX (ex_call (fd_share_of T) g (by decide) (ea_cons (ed_v 1) (ea_cons (ed_v 2) ea_nil)) ⟨ys, y, _, rfl, rfl, rfl, hY, h, rfl⟩ ⟨_, rfl⟩))) fun h => nomatch h)
  | d1 ys hY h =>
    refine sds_cons (sd_ifF (ET.is (et_cmp c_eqI (ed_v 0) ed_int) rfl) ?_)
    refine sds_cons (sd_if (l := true) (ET.is (et_cmp c_eqI (ed_v 0) ed_int) rfl) (fun _ => sds_one (sd_retX (ex_call (fd_on_day T) g (by decide) (ea_cons (ed_v 1) (ea_cons (ed_v 2) (ea_cons ed_int ea_nil))) ⟨ys, y, _, rfl, rfl, rfl, hY, h, rfl⟩ ⟨_, rfl⟩))) fun h => nomatch h)
  | d2 ys hY h =>
    refine sds_skip (z := "which") (fun p => ed_v 0) 2 _ (by decide +kernel) ?_
    refine sds_cons (sd_if (l := true) (ET.is (et_cmp c_eqI (ed_v 0) ed_int) rfl) (fun _ => sds_one (sd_retX (ex_call (fd_just_on_day T) g (by decide) (ea_cons (ed_v 1) (ea_cons (ed_v 2) (ea_cons ed_int (ea_cons ed_int ea_nil)))) ⟨ys, y, _, rfl, rfl, rfl, hY, h, rfl⟩ ⟨_, rfl⟩))) fun h => nomatch h)
  | d3 ys hY h =>
    refine sds_skip (z := "which") (fun p => ed_v 0) 3 _ (by decide +kernel) ?_
    refine sds_cons (sd_if (l := true) (ET.is (et_cmp c_eqI (ed_v 0) ed_int) rfl) (fun _ => sds_one (sd_retX (ex_call (fd_evened T) g (by decide) (ea_cons (ed_v 1) (ea_cons (ed_v 2) (ea_cons ed_int ea_nil))) ⟨ys, y, _, rfl, rfl, rfl, hY, h, rfl⟩ ⟨_, rfl⟩))) fun h => nomatch h)
  | d4 ys hY h =>
    have hlo := hY.lo
    refine sds_skip (z := "which") (fun p => ed_v 0) 4 _ (by decide +kernel) ?_
    refine sds_cons (sd_if (l := true) (ET.is (et_cmp c_eqI (ed_v 0) ed_int) rfl) (fun _ => sds_one (sd_retX (ex_call (fe_evened T) g (by decide) (ea_cons (ed_v 1) (ea_cons ed_int (ea_cons (ed_v 2) ea_nil))) ⟨ys, 0, y, rfl, rfl, hY, by omega, h, rfl⟩ ⟨_, rfl⟩))) fun h => nomatch h)
  | d5 ys hY h =>
    refine sds_skip (z := "which") (fun p => ed_v 0) 5 _ (by decide +kernel) ?_
    refine sds_cons (sd_if (l := true) (ET.is (et_cmp c_eqI (ed_v 0) ed_int) rfl) (fun _ => sds_one (sd_retG (eg_call (R := fun s o => askO c 1 (.ret s o)) (oa := []) (o1 := []) (ob := []) (fn_put_together_t T) g (by decide) (ea_cons (ed_v 1) (ea_cons (ed_v 2) (ea_cons ed_int ea_nil))) ⟨ys, y, .int 1, rfl, rfl, hY, rfl⟩ ?_ ?_) (fun s o h => h))) fun h => nomatch h)
    · intro s o h'
      rcases h' with ⟨_, e⟩ | ⟨i', j', e1, e2, hi', hj', _⟩
      · cases e
      · exact absurd h (by subst e1; simp [Sd.isInt]; omega)
    · intro C o h'
      rcases h' with ⟨_, e⟩ | ⟨i', j', e1, e2, hi', hj', _⟩
      · cases e; exact ⟨_, rfl⟩
      · exact absurd h (by subst e1; simp [Sd.isInt]; omega)
  | d6 ys hY h =>
    refine sds_skip (z := "which") (fun p => ed_v 0) 6 _ (by decide +kernel) ?_
    refine sds_cons (sd_if (l := true) (ET.is (et_cmp c_eqI (ed_v 0) ed_int) rfl) (fun _ => sds_one (sd_retG (eg_call (R := fun s o => askO c 1 (.ret s o)) (oa := []) (o1 := []) (ob := []) (fn_put_together_t T) g (by decide) (ea_cons (ed_v 1) (ea_cons ed_int (ea_cons (ed_v 2) ea_nil))) ⟨ys, .int 1, y, rfl, rfl, hY, rfl⟩ ?_ ?_) (fun s o h => h))) fun h => nomatch h)
    · intro s o h'
      rcases h' with ⟨_, e⟩ | ⟨i', j', e1, e2, hi', hj', _⟩
      · cases e
      · exact absurd h (by subst e2; simp [Sd.isInt]; omega)
    · intro C o h'
      rcases h' with ⟨_, e⟩ | ⟨i', j', e1, e2, hi', hj', _⟩
      · cases e; exact ⟨_, rfl⟩
      · exact absurd h (by subst e2; simp [Sd.isInt]; omega)
  | d7 ys hY h =>
    refine sds_skip (z := "which") (fun p => ed_v 0) 7 _ (by decide +kernel) ?_
    refine sds_one (sd_retG (eg_call (R := fun s o => askO c 1 (.ret s o)) (oa := []) (o1 := []) (ob := []) (fn_without_day_t T) g (by decide) (ea_cons (ed_v 1) (ea_cons (ed_v 2) ea_nil)) ⟨ys, y, rfl, rfl, hY, rfl⟩ ?_ ?_) (fun s o h => h))
    · intro s o h'
      rcases h' with ⟨_, e⟩ | ⟨j', e1, hj', _⟩
      · cases e
      · exact absurd h (by subst e1; simp [Sd.isInt]; omega)
    · intro C o h'
      rcases h' with ⟨_, e⟩ | ⟨j', e1, hj', _⟩
      · cases e; exact ⟨_, rfl⟩
      · exact absurd h (by subst e1; simp [Sd.isInt]; omega)
  | o0 ys hY j hj =>
    refine sds_cons (sd_if (l := true) (ET.is (et_cmp c_eqI (ed_v 0) ed_int) rfl) (fun _ => sds_one (sd_ret (es_call (fn_share_of T) g (by decide) (ea_cons (ed_v 1) (ea_cons (ed_v 2) ea_nil)) ⟨ys, j, ys[j], rfl, rfl, hY, List.getElem?_eq_getElem hj, rfl⟩) (fun z => nomatch z) ⟨_, _, rfl⟩)) fun h => nomatch h)
  | o1 ys hY j hj =>
    refine sds_cons (sd_ifF (ET.is (et_cmp c_eqI (ed_v 0) ed_int) rfl) ?_)
    refine sds_cons (sd_if (l := true) (ET.is (et_cmp c_eqI (ed_v 0) ed_int) rfl) (fun _ => sds_one (sd_ret (es_call (fn_on_day T) g (by decide) (ea_cons (ed_v 1) (ea_cons (ed_v 2) (ea_cons ed_int ea_nil))) ⟨ys, j, 1, ys[j], rfl, rfl, hY, List.getElem?_eq_getElem hj, by decide, rfl⟩) (fun z => nomatch z) ⟨_, _, rfl⟩)) fun h => nomatch h)
  | o2 ys hY j hj =>
    refine sds_skip (z := "which") (fun p => ed_v 0) 2 _ (by decide +kernel) ?_
    refine sds_cons (sd_if (l := true) (ET.is (et_cmp c_eqI (ed_v 0) ed_int) rfl) (fun _ => sds_one (sd_ret (es_call (fn_just_on_day T) g (by decide) (ea_cons (ed_v 1) (ea_cons (ed_v 2) (ea_cons ed_int (ea_cons ed_int ea_nil)))) ⟨ys, j, 1, 1, ys[j], rfl, rfl, hY, List.getElem?_eq_getElem hj, by decide, by decide, rfl⟩) (fun z => nomatch z) ⟨_, _, rfl⟩)) fun h => nomatch h)
  | e3 ys hY j hj h =>
    have hlo := hY.lo
    refine sds_skip (z := "which") (fun p => ed_v 0) 3 _ (by decide +kernel) ?_
    refine sds_cons (sd_if (l := true) (ET.is (et_cmp c_eqI (ed_v 0) ed_int) rfl) (fun _ => sds_one (sd_retX (ex_call (fn_evened T) g (by decide) (ea_cons (ed_v 1) (ea_cons (ed_v 2) (ea_cons ed_int ea_nil))) (evened_bad hY hj (j := 0) (by omega) h) ⟨_, rfl⟩))) fun h => nomatch h)
  | o3 ys hY j hj h =>
    have hlo := hY.lo
    refine sds_skip (z := "which") (fun p => ed_v 0) 3 _ (by decide +kernel) ?_
    refine sds_cons (sd_if (l := true) (ET.is (et_cmp c_eqI (ed_v 0) ed_int) rfl) (fun _ => sds_one (sd_retL (el_call (fn_evened T) g (by decide) (ea_cons (ed_v 1) (ea_cons (ed_v 2) (ea_cons ed_int ea_nil))) (evened_ok hY hj (j := 0) (by omega) h)) fun p => ⟨_, _, rfl⟩)) fun h => nomatch h)
  | e4 ys hY j hj h =>
    have hlo := hY.lo
    refine sds_skip (z := "which") (fun p => ed_v 0) 4 _ (by decide +kernel) ?_
    refine sds_cons (sd_if (l := true) (ET.is (et_cmp c_eqI (ed_v 0) ed_int) rfl) (fun _ => sds_one (sd_retX (ex_call (fn_evened T) g (by decide) (ea_cons (ed_v 1) (ea_cons ed_int (ea_cons (ed_v 2) ea_nil))) (evened_bad hY (i := 0) (by omega) hj h) ⟨_, rfl⟩))) fun h => nomatch h)
  | o4 ys hY j hj h =>
    have hlo := hY.lo
    refine sds_skip (z := "which") (fun p => ed_v 0) 4 _ (by decide +kernel) ?_
    refine sds_cons (sd_if (l := true) (ET.is (et_cmp c_eqI (ed_v 0) ed_int) rfl) (fun _ => sds_one (sd_retL (el_call (fn_evened T) g (by decide) (ea_cons (ed_v 1) (ea_cons ed_int (ea_cons (ed_v 2) ea_nil))) (evened_ok hY (i := 0) (by omega) hj h)) fun p => ⟨_, _, rfl⟩)) fun h => nomatch h)
  | p5 ys hY hl =>
    refine sds_skip (z := "which") (fun p => ed_v 0) 5 _ (by decide +kernel) ?_
    refine sds_cons (sd_if (l := true) (ET.is (et_cmp c_eqI (ed_v 0) ed_int) rfl) (fun _ => sds_one (sd_retG (eg_call (R := fun s o => askO c 2 (.ret s o)) (oa := []) (o1 := []) (ob := []) (fn_put_together_t T) g (by decide) (ea_cons (ed_v 1) (ea_cons (ed_v 2) (ea_cons ed_int ea_nil))) ⟨ys, .int 1, .int 1, rfl, rfl, hY, rfl⟩ ?_ ?_) (fun s o h => h))) fun h => nomatch h)
    · intro s o h'
      rcases h' with ⟨_, e⟩ | ⟨i', j', e1, e2, hi', hj', ⟨e3, e⟩ | ⟨e3, e4, p, e⟩ | ⟨e3, e4, e⟩⟩
      · cases e
      · cases e
      · exact absurd (by injection e1 with e1; injection e2 with e2; omega) e3
      · cases e
    · intro C o h'
      rcases h' with ⟨e0, e⟩ | ⟨i', j', e1, e2, hi', hj', ⟨e3, e⟩ | ⟨e3, e4, p, e⟩ | ⟨e3, e4, e⟩⟩
      · exact absurd e0 (by simp [Sd.isInt]; omega)
      · cases e; exact ⟨_, rfl⟩
      · cases e
      · exact absurd (by injection e1 with e1; injection e2 with e2; omega) e3
  | p6 ys hY hl =>
    refine sds_skip (z := "which") (fun p => ed_v 0) 6 _ (by decide +kernel) ?_
    refine sds_cons (sd_if (l := true) (ET.is (et_cmp c_eqI (ed_v 0) ed_int) rfl) (fun _ => sds_one (sd_retG (eg_call (R := fun s o => askO c 2 (.ret s o)) (oa := []) (o1 := []) (ob := []) (fn_put_together_t T) g (by decide) (ea_cons (ed_v 1) (ea_cons ed_int (ea_cons (ed_v 2) ea_nil))) ⟨ys, .int 1, .int 1, rfl, rfl, hY, rfl⟩ ?_ ?_) (fun s o h => h))) fun h => nomatch h)
    · intro s o h'
      rcases h' with ⟨_, e⟩ | ⟨i', j', e1, e2, hi', hj', ⟨e3, e⟩ | ⟨e3, e4, p, e⟩ | ⟨e3, e4, e⟩⟩
      · cases e
      · cases e
      · exact absurd (by injection e1 with e1; injection e2 with e2; omega) e3
      · cases e
    · intro C o h'
      rcases h' with ⟨e0, e⟩ | ⟨i', j', e1, e2, hi', hj', ⟨e3, e⟩ | ⟨e3, e4, p, e⟩ | ⟨e3, e4, e⟩⟩
      · exact absurd e0 (by simp [Sd.isInt]; omega)
      · cases e; exact ⟨_, rfl⟩
      · cases e
      · exact absurd (by injection e1 with e1; injection e2 with e2; omega) e3
  | o7 ys hY j hj h =>
    refine sds_skip (z := "which") (fun p => ed_v 0) 7 _ (by decide +kernel) ?_
    refine sds_one (sd_retG (eg_call (R := fun s o => askO c 6 (.ret s o)) (oa := []) (o1 := []) (ob := []) (fn_without_day_t T) g (by decide) (ea_cons (ed_v 1) (ea_cons (ed_v 2) ea_nil)) ⟨ys, _, rfl, rfl, hY, rfl⟩ ?_ ?_) (fun s o h => h))
    · intro s o h'
      exact ⟨_, _, rfl⟩
    · intro C o h'
      rcases h' with ⟨e0, e⟩ | ⟨j', e1, hj', ⟨e3, p, e⟩ | ⟨e3, e⟩⟩
      · exact absurd e0 (by simp [Sd.isInt]; omega)
      · cases e
      · cases e1; rw [h] at e3; cases e3)
end
end Pg

namespace Pg
open PySem PySem.Spec PyProof.Rows L2 Sd
section
variable {P : Program} {w : World} {K : PySem.W.Frag} {mg : Str → Option Value} {base : Heap} {c : Cl}
def pre_all_unlike : Pr := fun ss own post => ∃ (ys : List Int) (n : Nat), ss = [.d (li ys), .d (.int (n : Int))] ∧ own = [] ∧ Yr ys ∧ n ≤ 12 ∧ post = fun o => o = .ret (.d (fr (unl ys n))) []
theorem fn_all_unlike (T : Tx K mg c) : Fn K mg P w base "all_unlike" ["year", "many"] 4 pre_all_unlike := T.d_all_unlike.fn fun f fd F => okG (k := 3) F sc_all_unlike (by rintro ss own post ⟨ys, n, rfl, _⟩; rfl) (by
  rintro ss own post ⟨ys, n, rfl, rfl, hY, hn, rfl⟩ cdv A outer s H E B g
  refine sds_cons (sd_expr (es_call (fn_check_year T) g (by decide) (ea_cons (ed_v 0) ea_nil) (ok_year hY)) ?_)
  refine sds_cons (sd_expr (es_call (fn_check_many T) g (by decide) (ea_cons (ed_v 1) ea_nil) (ok_many ⟨by omega, by omega⟩)) ?_)
  exact sds_one (sd_retD (es_call (fn_unlike_of T) g (by decide) (ea_cons (ed_v 0) (ea_cons (ed_v 1) ea_nil)) ⟨ys, n, rfl, rfl, hY, hn, rfl⟩) rfl))
end
end Pg

namespace Pg
open PySem PySem.Spec PyProof.Rows L2 Sd
section
variable {P : Program} {w : World} {K : PySem.W.Frag} {mg : Str → Option Value} {base : Heap} {c : Cl}
/-! ways that use k days -/
def uwT (T : Nat → Int) (w : Int) (n j : Nat) : Int := T j * (bin n (n - j) : Nat) * w ^ (n - j)
def uwS (T : Nat → Nat → Int) (w : Int) (k n : Nat) : Int := T k n + (if k = 0 then 0 else sumN (uwT (T (k - 1)) w n) n)
def uwF (ys : List Int) : Nat → Nat → Int := ys.foldl uwS (fun k n => if k = 0 ∧ n = 0 then 1 else 0)
theorem uwF_take {ys : List Int} {i : Nat} {y : Int} (h : ys[i]? = some y) : uwF (ys.take (i + 1)) = uwS (uwF (ys.take i)) y := by
  unfold uwF
  rw [List.take_add_one, h, List.foldl_append]
  rfl
theorem sumN_zero' {f : Nat → Int} {n : Nat} (h : ∀ i, i < n → f i = 0) : sumN f n = 0 := by rw [sumN_congr h, sumN_zero]
theorem uwF_out {ys : List Int} : ∀ i, i ≤ ys.length → ∀ k n, i < k → uwF (ys.take i) k n = 0
  | 0, _, k, n, hk => if_neg fun z => by omega
  | i + 1, hi, k, n, hk => by
    have hlt : i < ys.length := by omega
    rw [uwF_take (List.getElem?_eq_getElem hlt), uwS, uwF_out i (by omega) k n (by omega), if_neg (by omega), sumN_zero' fun j _ => by
      rw [uwT, uwF_out i (by omega) (k - 1) j (by omega), Int.zero_mul, Int.zero_mul]]
    rfl
theorem uwT_sz {b : Nat} {T : Nat → Int} {w : Int} {n j : Nat} (hT : ∀ n, n ≤ 12 → Sz b (T n)) (hw : 1 ≤ w ∧ w ≤ 20) (hn : n ≤ 12) (hj : j ≤ 12) : Sz (b + 74) (uwT T w n j) :=
  (((hT j hj).mul (sz_bin hn)).mul (sz_pw hw (by omega))).mono (by omega)
theorem uwS_sz {b : Nat} {T : Nat → Nat → Int} {w : Int} {k n : Nat} (hT : ∀ k n, n ≤ 12 → Sz b (T k n)) (hw : 1 ≤ w ∧ w ≤ 20) (hn : n ≤ 12) : Sz (b + 90) (uwS T w k n) := by
  unfold uwS
  split
  · exact ((hT k n hn).add (n := b) (j := 0) (by unfold Sz; exact Nat.two_pow_pos _)).mono (by omega)
  · exact ((hT k n hn).add (sumN_sz (b := b + 74) fun i hi => uwT_sz (hT (k - 1)) hw hn (by omega))).mono (by omega)
theorem uwF_sz {ys : List Int} (hY : ∀ y ∈ ys, 1 ≤ y ∧ y ≤ 20) : ∀ i, i ≤ ys.length → ∀ k n, n ≤ 12 → Sz (90 * i + 1) (uwF (ys.take i) k n)
  | 0, _, k, n, _ => by
    show Sz 1 (if k = 0 ∧ n = 0 then 1 else 0)
    split <;> (unfold Sz; decide)
  | i + 1, hi, k, n, hn => by
    have hlt : i < ys.length := by omega
    rw [uwF_take (List.getElem?_eq_getElem hlt)]
    exact (uwS_sz (uwF_sz hY i (by omega)) (hY _ (List.getElem_mem hlt)) hn).mono (by omega)
theorem uwF_szA {ys : List Int} (hY : Yr ys) (k : Nat) {n : Nat} (hn : n ≤ 12) : Sz 730 (uwF ys k n) := by
  have h := uwF_sz hY.it ys.length (Nat.le_refl _) k n hn
  rw [List.take_length] at h
  have := hY.hi
  exact h.mono (by omega)
/-- under way: rows before d done, of row d those before j -/
def uwU (T : Nat → Nat → Int) (w : Int) (d j k n : Nat) : Int := (if k < d ∨ (k = d ∧ n < j) then T k n else 0) + (if k = 0 then 0 else sumN (uwT (T (k - 1)) w n) (if k - 1 < d then n else if k - 1 = d then min n j else 0))
def uwV (T : Nat → Nat → Int) (w : Int) (d j o k n : Nat) : Int := uwU T w d j k n + (if k = d ∧ n = j then T d j else 0) + (if k = d + 1 ∧ j < n ∧ n ≤ j + o then uwT (T d) w n j else 0)
theorem uwU_zero (T : Nat → Nat → Int) (w : Int) (k n : Nat) : uwU T w 0 0 k n = 0 := by
  unfold uwU
  rw [if_neg (by omega)]
  by_cases h : k = 0
  · rw [if_pos h]; rfl
  · rw [if_neg h, if_neg (by omega)]
    split
    · rw [Nat.min_zero]; rfl
    · rfl
theorem uwV_zero (T : Nat → Nat → Int) (w : Int) (d j k n : Nat) : uwV T w d j 0 k n = if k = d ∧ n = j then uwU T w d j k n + T d j else uwU T w d j k n := by
  unfold uwV
  rw [if_neg (c := k = d + 1 ∧ j < n ∧ n ≤ j + 0) (by omega)]
  split <;> omega
theorem uwV_succ (T : Nat → Nat → Int) (w : Int) (d j o k n : Nat) : (if k = d + 1 ∧ n = j + (o + 1) then uwV T w d j o k n + uwT (T d) w (j + (o + 1)) j else uwV T w d j o k n) = uwV T w d j (o + 1) k n := by
  unfold uwV
  by_cases h : k = d + 1 ∧ n = j + (o + 1)
  · obtain ⟨rfl, rfl⟩ := h
    rw [if_pos ⟨rfl, rfl⟩, if_neg (c := d + 1 = d + 1 ∧ j < j + (o + 1) ∧ j + (o + 1) ≤ j + o) (by omega), if_pos (c := d + 1 = d + 1 ∧ j < j + (o + 1) ∧ j + (o + 1) ≤ j + (o + 1)) (by omega)]
    omega
  · rw [if_neg h]
    by_cases h2 : k = d + 1 ∧ j < n ∧ n ≤ j + o
    · rw [if_pos h2, if_pos (c := k = d + 1 ∧ j < n ∧ n ≤ j + (o + 1)) (by omega)]
    · rw [if_neg h2, if_neg (c := k = d + 1 ∧ j < n ∧ n ≤ j + (o + 1)) (by omega)]
theorem uwV_done (T : Nat → Nat → Int) (w : Int) {d j m k n : Nat} (hj : j ≤ m) (hn : n ≤ m) : uwV T w d j (m - j) k n = uwU T w d (j + 1) k n := by
  unfold uwV uwU
  by_cases h1 : k = d + 1
  · subst h1
    rw [if_neg (c := d + 1 < d ∨ d + 1 = d ∧ n < j) (by omega), if_neg (c := d + 1 < d ∨ d + 1 = d ∧ n < j + 1) (by omega), if_neg (c := d + 1 = d ∧ n = j) (by omega), if_neg (c := d + 1 = 0) (by omega), if_neg (c := d + 1 = 0) (by omega), Nat.add_sub_cancel, if_neg (c := d < d) (by omega), if_neg (c := d < d) (by omega), if_pos rfl, if_pos rfl]
    by_cases h2 : j < n
    · rw [if_pos (by omega), Nat.min_eq_right (by omega), Nat.min_eq_right (by omega), sumN]
      omega
    · rw [if_neg (by omega), Nat.min_eq_left (by omega), Nat.min_eq_left (by omega)]
      omega
  · rw [if_neg (c := k = d + 1 ∧ j < n ∧ n ≤ j + (m - j)) (by omega)]
    have e : (if k = 0 then (0 : Int) else sumN (uwT (T (k - 1)) w n) (if k - 1 < d then n else if k - 1 = d then min n j else 0)) = (if k = 0 then 0 else sumN (uwT (T (k - 1)) w n) (if k - 1 < d then n else if k - 1 = d then min n (j + 1) else 0)) := by
      by_cases h0 : k = 0
      · rw [if_pos h0, if_pos h0]
      · rw [if_neg h0, if_neg h0, if_neg (c := k - 1 = d) (by omega), if_neg (c := k - 1 = d) (by omega)]
    rw [e]
    by_cases h3 : k = d ∧ n = j
    · obtain ⟨rfl, rfl⟩ := h3
      rw [if_pos (c := k = k ∧ n = n) ⟨rfl, rfl⟩, if_neg (c := k < k ∨ k = k ∧ n < n) (by omega), if_pos (c := k < k ∨ k = k ∧ n < n + 1) (by omega)]
      omega
    · rw [if_neg h3]
      by_cases h4 : k < d ∨ k = d ∧ n < j
      · rw [if_pos h4, if_pos (c := k < d ∨ k = d ∧ n < j + 1) (by omega)]
        omega
      · rw [if_neg h4, if_neg (c := k < d ∨ k = d ∧ n < j + 1) (by omega)]
        omega
theorem uwU_next (T : Nat → Nat → Int) (w : Int) {d m k n : Nat} (hn : n ≤ m) : uwU T w d (m + 1) k n = uwU T w (d + 1) 0 k n := by
  unfold uwU
  have e1 : (if k < d ∨ k = d ∧ n < m + 1 then T k n else 0) = (if k < d + 1 ∨ k = d + 1 ∧ n < 0 then T k n else 0) := by
    by_cases h : k < d + 1
    · rw [if_pos (by omega), if_pos (by omega)]
    · rw [if_neg (by omega), if_neg (by omega)]
  rw [e1]
  congr 1
  by_cases h0 : k = 0
  · rw [if_pos h0, if_pos h0]
  · rw [if_neg h0, if_neg h0]
    congr 1
    by_cases h : k - 1 < d
    · rw [if_pos h, if_pos (by omega)]
    · rw [if_neg h]
      by_cases h2 : k - 1 = d
      · rw [if_pos h2, if_pos (by omega), Nat.min_eq_left (by omega)]
      · rw [if_neg h2, if_neg (by omega), Nat.min_zero]
        split <;> rfl
theorem uwU_end {T : Nat → Nat → Int} (w : Int) {D k n : Nat} (hT : ∀ n, T D n = 0) (hk : k ≤ D) : uwU T w D 0 k n = uwS T w k n := by
  unfold uwU uwS
  have e1 : (if k < D ∨ k = D ∧ n < 0 then T k n else 0) = T k n := by
    by_cases h : k < D
    · rw [if_pos (.inl h)]
    · rw [if_neg (by omega), show k = D by omega, hT]
  rw [e1]
  congr 1
  by_cases h0 : k = 0
  · rw [if_pos h0, if_pos h0]
  · rw [if_neg h0, if_neg h0, if_pos (by omega)]
/-- the chance that just k days have some -/
def usd (ys : List Int) (m k : Nat) : Rat := ((uwF ys k m : Int) : Rat) / ((ys.sum ^ m : Int) : Rat)
theorem usd_sq {ys : List Int} (hY : Yr ys) (k : Nat) {m : Nat} (hm : m ≤ 12) : Sq 730 (usd ys m k) := Sq.of_div (hY.posP m) (uwF_szA hY k hm) ((hY.szW.pow m).mono (by omega))
def alu (ys : List Int) (m : Nat) : Rat := usd ys m ys.length
end
end Pg

namespace Pg
open PySem PySem.Spec PyProof.Rows L2 Sd
section
variable {P : Program} {w : World} {K : PySem.W.Frag} {mg : Str → Option Value} {base : Heap} {c : Cl}
def uwN : List Str := ["year", "many", "table", "weight", "fresh", "days", "row", "whole", "ways", "own", "k"]
abbrev uwD (T : Nat → Nat → Int) (D m : Nat) : PyData := .list ((List.range D).map fun k => PyData.list (tabZ (T k) (m + 1)))
def pre_used_ways : Pr := fun ss own post => ∃ (ys : List Int) (m : Nat), ss = [.d (li ys), .d (.int (m : Int))] ∧ own = [] ∧ Yr ys ∧ m ≤ 12 ∧ post = fun o => ∃ p, o = .ret (.raw (.ref p)) [(p, .lst (tabZ (fun k => uwF ys k m) (ys.length + 1)))]
theorem fn_used_ways (T : Tx K mg c) : Fn K mg P w base "used_ways" ["year", "many"] 2 pre_used_ways := T.d_used_ways.fn fun f fd F => okG (k := 1) F sc_used_ways (by rintro ss own post ⟨ys, m, rfl, _⟩; rfl) (by
  rintro ss own post ⟨ys, m, rfl, rfl, hY, hm, rfl⟩ cdv A outer s H E B g
  have hl := hY.hi
  show SDs _ (_ :: _) _ _ _
  with_reducible refine sds_cons ?_
  with_reducible refine sd_set 2 g.nd (s := .d (uwD (uwF (ys.take 0)) 1 m)) ?A ?B ?C1 ?C2 ?C3 ?C4
  case C1 => rfl
  case C2 => first | exact Or.inl rfl | exact Or.inr rfl
  case C3 => rfl
  case C4 => first | exact .inl rfl | exact .inr rfl
  case A =>
    have e0 : uwD (uwF (ys.take 0)) 1 m = .list [.list (tabZ (fun k => if k = 0 then 1 else 0) (m + 1))] := by
      show PyData.list [PyData.list _] = PyData.list [PyData.list _]
      refine congrArg (fun t => PyData.list [PyData.list t]) (tabZ_congr fun k _ => ?_)
      show (if 0 = 0 ∧ k = 0 then (1 : Int) else 0) = _
      by_cases h : k = 0
      · rw [if_pos h, if_pos ⟨rfl, h⟩]
      · rw [if_neg h, if_neg fun z => h z.2]
    rw [e0]
    with_reducible refine ed_lb1 (eb_b ?_ ea_nil)
    exact EL.ed (EL.is (el_cat (xs := [.int 1]) (ys := (List.replicate (m : Int).toNat [PyData.int 0]).flatten) ed_k1 (EL.ed (el_rep ed_k1 (ed_v 1) .d (by omega) (by simp))) .d .d (by rw [Int.toNat_natCast, tabZ_const, tabZ_len]; simp; omega)) (by rw [Int.toNat_natCast, tabZ_unit]))
  case B =>
  refine sds_cons (sd_for g (it_list (ed_v 0)) (fun i ρ own => own = [] ∧ ∃ t3 t4 t5 t6 t7 t8 t9 t10, ρ = [.d (li ys), .d (.int (m : Int)), .d (uwD (uwF (ys.take i)) (i + 1) m), t3, t4, t5, t6, t7, t8, t9, t10]) ⟨rfl, _, _, _, _, _, _, _, _, rfl⟩ (fun _ _ _ _ => trivial) ?_ ?_)
  · rintro i y ρ1 own1 hy ⟨rfl, t3, t4, t5, t6, t7, t8, t9, t10, rfl⟩
    rw [List.getElem?_map] at hy
    cases ea : ys[i]? with
    | none => rw [ea] at hy; cases hy
    | some y' =>
      rw [ea] at hy
      cases hy
      have hmem : y' ∈ ys := List.mem_of_getElem? ea
      have hy20 := hY.it _ hmem
      have hi := (List.getElem?_eq_some_iff.mp ea).1
      have hsz := uwF_sz hY.it i (by omega)
      have hout := fun n => uwF_out (ys := ys) i (by omega) (i + 1) n (by omega)
      rw [uwF_take ea]
      generalize uwF (ys.take i) = W at hsz hout ⊢
      refine ⟨_, _, gt_name 3 g.nd, ?_⟩
      refine sds_cons (sd_setCR 4 g (compR (tb := fun k => tabZ ((fun _ _ => 0) k) (m + 1)) g (it_range1 T.n_range (ed_add (ES.is (y := .int ((i + 1 : Nat) : Int)) (ed_len T.n_len (ed_v 2) .d) (by simp)) ed_int) (by omega)) [("k", 10)] (blkOk_by (N := uwN) (sc := defScope s_used_ways) (by decide +kernel)) (fun _ _ => trivial) (by rw [rng_length]; omega) ?_) ?_ rfl)
      · intro j yy as D _
        exact ⟨_, _, by simp, fun s H C cl fp => gt_name 10 g.nd, fun s H C cl fp => EL.is (el_rep (ed_k1 (i := 0)) (ed_add (ed_v 1) ed_int) .d (by omega) (by simp)) (by rw [show ((m : Int) + 1).toNat = m + 1 by omega, tabZ_const])⟩
      intro q as hal
      have hal : as.length = i + 2 := by
        rw [hal, rng_length]
        omega
      rw [rowsO_congr (f := fun k => tabZ ((fun _ _ => 0) k) (m + 1)) (g := fun k => tabZ (uwU W y' 0 0 k) (m + 1)) fun k _ => tabZ_congr fun n _ => (uwU_zero W y' k n).symm]
      refine sds_cons (sd_for g (it_enum T.n_enumerate (ed_v 2)) (fun d ρ own => own = (q, .raw (.lst (as.map V.ref))) :: (rowsO as (fun k => tabZ (uwU W y' d 0 k) (m + 1)) ++ []) ∧ ∃ t5 t6 t7 t8 t9 t10, ρ = [.d (li ys), .d (.int (m : Int)), .d (uwD W (i + 1) m), .d (.int y'), .raw (.ref q), t5, t6, t7, t8, t9, t10]) ⟨rfl, _, _, _, _, _, _, rfl⟩ (fun _ _ _ _ => trivial) ?_ ?_)
      · rintro d yy ρ2 own2 hyy ⟨rfl, t5, t6, t7, t8, t9, t10, rfl⟩
        obtain ⟨row, hrow, rfl⟩ := enumD_get hyy
        have hd : d < i + 1 ∧ row = .list (tabZ (W d) (m + 1)) := by
          rw [List.getElem?_map, Option.map_eq_some_iff] at hrow
          obtain ⟨d', h1, rfl⟩ := hrow
          have h2 := (List.getElem?_eq_some_iff.mp h1).1
          rw [List.length_range] at h2
          rw [List.getElem?_range h2] at h1
          cases h1
          exact ⟨h2, rfl⟩
        obtain ⟨hd, rfl⟩ := hd
        refine ⟨_, _, gt_tup g.calm (gts_cons (gt_name 5 g.nd) (gts_cons (gt_name 6 g.nd) gts_nil)) rfl, ?_⟩
        refine sds_one (sd_for g (it_enum T.n_enumerate (ed_v 6)) (fun j ρ own => own = (q, .raw (.lst (as.map V.ref))) :: (rowsO as (fun k => tabZ (uwU W y' d j k) (m + 1)) ++ []) ∧ ∃ t7 t8 t9 t10, ρ = [.d (li ys), .d (.int (m : Int)), .d (uwD W (i + 1) m), .d (.int y'), .raw (.ref q), .d (.int (d : Int)), .d (.list (tabZ (W d) (m + 1))), t7, t8, t9, t10]) ⟨rfl, _, _, _, _, rfl⟩ (fun _ _ _ _ => trivial) ?_ ?_)
        · rintro j yz ρ3 own3 hyz ⟨rfl, t7, t8, t9, t10, rfl⟩
          obtain ⟨vv, hvv, rfl⟩ := enumD_get hyz
          have hj : j < m + 1 := by
            have := (List.getElem?_eq_some_iff.mp hvv).1
            rwa [tabZ_len] at this
          rw [tabZ_get hj] at hvv
          cases hvv
          refine ⟨_, _, gt_tup g.calm (gts_cons (gt_name 7 g.nd) (gts_cons (gt_name 8 g.nd) gts_nil)) rfl, ?_⟩
          refine sds_cons (sd_aug2 (a := d) (b := j) (z := W d j) (F := uwU W y' d j) (fun o => ev_v 4) (fun o => ed_v 5) (fun o => ed_v 7) (fun o => ed_v 8) (by omega) hj ?_)
          rw [rowsO_congr (f := fun k => tabZ (fun n => if k = d ∧ n = j then uwU W y' d j k n + W d j else uwU W y' d j k n) (m + 1)) (g := fun k => tabZ (uwV W y' d j 0 k) (m + 1)) fun k _ => tabZ_congr fun n _ => by
            rw [uwV_zero]]
          refine sds_one (sd_for g (it_range2 T.n_range ed_int (ed_add (ed_sub (ed_v 1) (ed_v 7)) ed_int) (by omega)) (fun o ρ own => own = (q, .raw (.lst (as.map V.ref))) :: (rowsO as (fun k => tabZ (uwV W y' d j o k) (m + 1)) ++ []) ∧ ∃ t9 t10, ρ = [.d (li ys), .d (.int (m : Int)), .d (uwD W (i + 1) m), .d (.int y'), .raw (.ref q), .d (.int (d : Int)), .d (.list (tabZ (W d) (m + 1))), .d (.int (j : Int)), .d (.int (W d j)), t9, t10]) ⟨rfl, _, _, rfl⟩ (fun _ _ _ _ => trivial) ?_ ?_)
          · rintro o yo ρ4 own4 hyo ⟨rfl, t9, t10, rfl⟩
            obtain ⟨ho, rfl⟩ := rng_get hyo
            have ho : j + (o + 1) ≤ m := by omega
            rw [show (1 : Int) + (o : Int) = ((o + 1 : Nat) : Int) by omega]
            have e1 : (j : Int) + ((o + 1 : Nat) : Int) = ((j + (o + 1) : Nat) : Int) := by omega
            have z1 := hsz d j (by omega)
            have z2 : Sz 13 (bin (j + (o + 1)) (o + 1) : Nat) := sz_bin (by omega)
            refine ⟨_, _, gt_name 9 g.nd, sds_one (sd_aug2 (a := d + 1) (b := j + (o + 1)) (z := uwT (W d) y' (j + (o + 1)) j) (F := uwV W y' d j o) (fun o => ev_v 4) (fun o => ES.is (ed_add (ed_v 5) ed_int) (by push_cast; rfl)) (fun _ => ES.is (ed_add (ed_v 7) (ed_v 9)) (by rw [e1])) (fun _ => ES.is (ed_mul (ed_mul (ed_v 8) (es_call (fn_choose T) g (by decide) (ea_cons (ES.is (ed_add (ed_v 7) (ed_v 9)) (by rw [e1])) (ea_cons (ed_v 9) ea_nil)) ⟨j + (o + 1), o + 1, rfl, rfl, by omega, by omega, rfl⟩) (cmul_of z1 z2 (by omega))) (es_call (fn_power T) g (by decide) (ea_cons (ed_v 3) (ea_cons (ed_v 9) ea_nil)) ⟨y', o + 1, 5, rfl, rfl, by unfold Sz; omega, by omega, by decide, rfl⟩) (cmul_of (z1.mul z2) (sz_pw hy20 (by omega)) (by omega))) ?_) (by omega) (by omega) ?_)⟩
            · rw [uwT, show j + (o + 1) - j = o + 1 by omega]
            · refine ⟨?_, _, _, rfl⟩
              rw [rowsO_congr (g := fun k => tabZ (uwV W y' d j (o + 1) k) (m + 1)) fun k _ => tabZ_congr fun n _ => uwV_succ W y' d j o k n]
          · rintro ρ4 own4 ⟨rfl, t9, t10, rfl⟩
            rw [rng_length, show ((m : Int) - (j : Int) + 1 - 1).toNat = m - j by omega]
            refine ⟨?_, _, _, _, _, rfl⟩
            rw [rowsO_congr (g := fun k => tabZ (uwU W y' d (j + 1) k) (m + 1)) fun k _ => tabZ_congr fun n hn => uwV_done W y' (by omega) (by omega)]
        · rintro ρ3 own3 ⟨rfl, t7, t8, t9, t10, rfl⟩
          have el : (enumD (tabZ (W d) (m + 1))).length = m + 1 := by simp [enumD, tabZ_len]
          rw [el]
          refine ⟨?_, _, _, _, _, _, _, rfl⟩
          rw [rowsO_congr (g := fun k => tabZ (uwU W y' (d + 1) 0 k) (m + 1)) fun k _ => tabZ_congr fun n hn => uwU_next W y' (by omega)]
      · rintro ρ2 own2 ⟨rfl, t5, t6, t7, t8, t9, t10, rfl⟩
        have el : (enumD ((List.range (i + 1)).map fun k => PyData.list (tabZ (W k) (m + 1)))).length = i + 1 := by simp [enumD]
        rw [el, rowsO_congr (f := fun k => tabZ (uwU W y' (i + 1) 0 k) (m + 1)) (g := fun k => tabZ (uwS W y' k) (m + 1)) fun k hk => tabZ_congr fun n hn => uwU_end y' (hout) (by omega)]
        refine sds_cons (sd_set 2 g.nd (ev_v 4) ?_)
        refine sds_freezeRows 2 rfl ?_
        rw [hal]
        exact sds_nil ⟨rfl, _, _, _, _, _, _, _, _, rfl⟩
  · rintro ρ1 own1 ⟨rfl, t3, t4, t5, t6, t7, t8, t9, t10, rfl⟩
    rw [List.length_map, List.take_length]
    refine sds_one (sd_retL (EL.is (el_comp g (compP g (it_list (ed_v 2)) [("row", 6)] (blkOk_by (N := uwN) (sc := defScope s_used_ways) (by decide +kernel)) (List.range (ys.length + 1)) (fun k => PyData.list (tabZ (uwF ys k) (m + 1))) rfl (fun k => some (.int (uwF ys k m))) (fun k => [.d (li ys), .d (.int (m : Int)), .d (uwD (uwF ys) (ys.length + 1) m), t3, t4, t5, .d (.list (tabZ (uwF ys k) (m + 1))), t7, t8, t9, t10]) [6] (by simp) (by rw [List.length_range]; omega) (fun _ _ => trivial)
      (fun i _ s H C cl fp g' => gt_name 6 g'.nd) (fun i _ s H C cl fp o g' => ets_nil) (fun i hi z hz s H C cl fp o g' => ?_))) ?_) fun p => ⟨p, rfl⟩)
    · cases hz
      exact ed_ixL (ed_v 6) (ed_v 1) .d (tabZ_at (by omega))
    · exact congrFun List.filterMap_eq_map' _)
end
end Pg

namespace Pg
open PySem PySem.Spec PyProof.Rows L2 Sd
section
variable {P : Program} {w : World} {K : PySem.W.Frag} {mg : Str → Option Value} {base : Heap} {c : Cl}
def pre_all_used_of : Pr := fun ss own post => ∃ (ys : List Int) (m : Nat), ss = [.d (li ys), .d (.int (m : Int))] ∧ own = [] ∧ Yr ys ∧ m ≤ 12 ∧ post = fun o => o = .ret (.d (fr (alu ys m))) []
theorem fn_all_used_of (T : Tx K mg c) : Fn K mg P w base "all_used_of" ["year", "many"] 3 pre_all_used_of := T.d_all_used_of.fn fun f fd F => okG (k := 2) F sc_all_used_of (by rintro ss own post ⟨ys, m, rfl, _⟩; rfl) (by
  rintro ss own post ⟨ys, m, rfl, rfl, hY, hm, rfl⟩ cdv A outer s H E B g
  have h2 : Sz 97 (ys.sum ^ m) := (hY.szW.pow m).mono (by omega)
  refine sds_one (sd_retD (es_call (fn_lowest T) g (by decide) (ea_cons (ed_ixL (ds := tabZ (fun k => uwF ys k m) (ys.length + 1)) (d := .int (uwF ys ys.length m)) (EL.ed (el_call (fn_used_ways T) g (by decide) (ea_cons (ed_v 0) (ea_cons (ed_v 1) ea_nil)) ⟨ys, m, rfl, rfl, hY, hm, rfl⟩)) (ed_neg ed_int) .d ?_) (ea_cons (es_call (fn_power T) g (by decide) (ea_cons (ed_sum g T.n_sum (ed_v 0) .d) (ea_cons (ed_v 1) ea_nil)) ⟨_, m, 8, rfl, rfl, hY.szW, by omega, by decide, rfl⟩) ea_nil)) ⟨_, _, rfl, rfl, hY.posP m, h2.mono (by decide), rfl⟩) rfl)
  refine atI_ixN (n := ys.length) ?_ (tabZ_get (by omega))
  unfold ixN
  rw [tabZ_len, if_neg (by omega), if_pos (by omega)]
  congr 1
  omega)
theorem alu_sq {ys : List Int} (hY : Yr ys) {m : Nat} (hm : m ≤ 12) : Sq 730 (alu ys m) := usd_sq hY _ hm
end
end Pg

namespace Pg
open PySem PySem.Spec PyProof.Rows L2 Sd
section
variable {P : Program} {w : World} {K : PySem.W.Frag} {mg : Str → Option Value} {base : Heap} {c : Cl}
def pre_all_used : Pr := fun ss own post => ∃ (ys : List Int) (m : Nat), ss = [.d (li ys), .d (.int (m : Int))] ∧ own = [] ∧ Yr ys ∧ m ≤ 12 ∧ post = fun o => o = .ret (.d (fr (alu ys m))) []
theorem fn_all_used (T : Tx K mg c) : Fn K mg P w base "all_used" ["year", "many"] 4 pre_all_used := T.d_all_used.fn fun f fd F => okG (k := 3) F sc_all_used (by rintro ss own post ⟨ys, m, rfl, _⟩; rfl) (by
  rintro ss own post ⟨ys, m, rfl, rfl, hY, hm, rfl⟩ cdv A outer s H E B g
  refine sds_cons (sd_expr (es_call (fn_check_year T) g (by decide) (ea_cons (ed_v 0) ea_nil) (ok_year hY)) ?_)
  refine sds_cons (sd_expr (es_call (fn_check_many T) g (by decide) (ea_cons (ed_v 1) ea_nil) (ok_many ⟨by omega, by omega⟩)) ?_)
  exact sds_one (sd_retD (es_call (fn_all_used_of T) g (by decide) (ea_cons (ed_v 0) (ea_cons (ed_v 1) ea_nil)) ⟨ys, m, rfl, rfl, hY, hm, rfl⟩) rfl))
end
end Pg

namespace Pg
open PySem PySem.Spec PyProof.Rows L2 Sd
section
variable {P : Program} {w : World} {K : PySem.W.Frag} {mg : Str → Option Value} {base : Heap} {c : Cl}
def aua (ys : List Int) (m : Nat) : Rat := if m = 0 then 0 else alu ys m - alu ys (m - 1)
def pre_all_used_at : Pr := fun ss own post => ∃ (ys : List Int) (m : Nat), ss = [.d (li ys), .d (.int (m : Int))] ∧ own = [] ∧ Yr ys ∧ m ≤ 12 ∧ post = fun o => o = .ret (.d (fr (aua ys m))) []
theorem fn_all_used_at (T : Tx K mg c) : Fn K mg P w base "all_used_at" ["year", "many"] 4 pre_all_used_at := T.d_all_used_at.fn fun f fd F => okG (k := 3) F sc_all_used_at (by rintro ss own post ⟨ys, m, rfl, _⟩; rfl) (by
  rintro ss own post ⟨ys, n, rfl, rfl, hY, hn, rfl⟩ cdv A outer s H E B g
  refine sds_cons (sd_expr (es_call (fn_check_year T) g (by decide) (ea_cons (ed_v 0) ea_nil) (ok_year hY)) ?_)
  refine sds_cons (sd_expr (es_call (fn_check_many T) g (by decide) (ea_cons (ed_v 1) ea_nil) (ok_many ⟨by omega, by omega⟩)) ?_)
  refine sds_one (sd_retD (es_if (et_cmp c_eqI (ed_v 1) ed_int) (fun h => ES.is (ed_k2 (i := 0) (i' := 1)) ?_) fun h => ES.is (es_call (fn_minus T) g (by decide) (ea_cons (es_call (fn_all_used_of T) g (by decide) (ea_cons (ed_v 0) (ea_cons (ed_v 1) ea_nil)) ⟨ys, n, rfl, rfl, hY, hn, rfl⟩) (ea_cons (es_call (fn_all_used_of T) g (by decide) (ea_cons (ed_v 0) (ea_cons (ES.is (y := .int ((n - 1 : Nat) : Int)) (ed_sub (ed_v 1) ed_int) ?_) ea_nil)) ⟨ys, n - 1, rfl, rfl, hY, by omega, rfl⟩) ea_nil)) ⟨_, _, 730, 730, rfl, rfl, alu_sq hY hn, alu_sq hY (by omega), by decide, rfl⟩) ?_) rfl)
  · have h : n = 0 := by simpa using h
    rw [aua, if_pos h, fr_zero]
  · have h : n ≠ 0 := by simpa using h
    rw [show ((n - 1 : Nat) : Int) = (n : Int) - 1 by omega]
  · have h : n ≠ 0 := by simpa using h
    rw [aua, if_neg h])
end
end Pg

namespace Pg
open PySem PySem.Spec PyProof.Rows L2 Sd
section
variable {P : Program} {w : World} {K : PySem.W.Frag} {mg : Str → Option Value} {base : Heap} {c : Cl}
/-! ways with at most c things on a day -/
def cwT (f : Nat → Int) (w : Int) (n o : Nat) : Int := (bin n o : Nat) * w ^ o * f (n - o)
def cwS (f : Nat → Int) (w : Int) (c n : Nat) : Int := sumN (cwT f w n) (min c n + 1)
def cwF (ys : List Int) (c : Nat) : Nat → Int := ys.foldl (fun f w n => cwS f w c n) (fun n => if n = 0 then 1 else 0)
theorem cwF_take {ys : List Int} {c i : Nat} {y : Int} (h : ys[i]? = some y) (n : Nat) : cwF (ys.take (i + 1)) c n = cwS (cwF (ys.take i) c) y c n := by
  unfold cwF
  rw [List.take_add_one, h, List.foldl_append]
  rfl
theorem cwT_sz {b : Nat} {f : Nat → Int} {w : Int} {n o : Nat} (hf : ∀ n, n ≤ 12 → Sz b (f n)) (hw : 1 ≤ w ∧ w ≤ 20) (hn : n ≤ 12) (ho : o ≤ 12) : Sz (b + 74) (cwT f w n o) :=
  (((sz_bin hn).mul (sz_pw hw ho)).mul (hf (n - o) (by omega))).mono (by omega)
theorem cwS_sz {b c : Nat} {f : Nat → Int} {w : Int} {n : Nat} (hf : ∀ n, n ≤ 12 → Sz b (f n)) (hw : 1 ≤ w ∧ w ≤ 20) (hn : n ≤ 12) : Sz (b + 90) (cwS f w c n) :=
  (sumN_sz (n := min c n + 1) fun i hi => cwT_sz hf hw hn (by omega)).mono (by omega)
theorem cwF_sz {ys : List Int} (hY : ∀ y ∈ ys, 1 ≤ y ∧ y ≤ 20) (c : Nat) : ∀ i, i ≤ ys.length → ∀ n, n ≤ 12 → Sz (90 * i + 1) (cwF (ys.take i) c n)
  | 0, _, n, _ => by
    show Sz 1 (if n = 0 then 1 else 0)
    split <;> (unfold Sz; decide)
  | i + 1, hi, n, hn => by
    have hlt : i < ys.length := by omega
    rw [cwF_take (List.getElem?_eq_getElem hlt)]
    exact (cwS_sz (cwF_sz hY c i (by omega)) (hY _ (List.getElem_mem hlt)) hn).mono (by omega)
theorem cwF_szA {ys : List Int} (hY : Yr ys) (c : Nat) {n : Nat} (hn : n ≤ 12) : Sz 730 (cwF ys c n) := by
  have h := cwF_sz hY.it c ys.length (Nat.le_refl _) n hn
  rw [List.take_length] at h
  have := hY.hi
  exact h.mono (by omega)
/-- the chance that no day has more than c -/
def crw (ys : List Int) (m c : Nat) : Rat := ((cwF ys c m : Int) : Rat) / ((ys.sum ^ m : Int) : Rat)
theorem crw_sq {ys : List Int} (hY : Yr ys) (c : Nat) {m : Nat} (hm : m ≤ 12) : Sq 730 (crw ys m c) := Sq.of_div (hY.posP m) (cwF_szA hY c hm) ((hY.szW.pow m).mono (by omega))
end
end Pg

namespace Pg
open PySem PySem.Spec PyProof.Rows L2 Sd
section
variable {P : Program} {w : World} {K : PySem.W.Frag} {mg : Str → Option Value} {base : Heap} {c : Cl}
def pre_crowd_of : Pr := fun ss own post => ∃ (ys : List Int) (m c : Nat), ss = [.d (li ys), .d (.int (m : Int)), .d (.int (c : Int))] ∧ own = [] ∧ Yr ys ∧ m ≤ 12 ∧ c ≤ 13 ∧ post = fun o => o = .ret (.d (fr (crw ys m c))) []
theorem fn_crowd_of (T : Tx K mg c) : Fn K mg P w base "crowd_of" ["year", "many", "crowd"] 3 pre_crowd_of := T.d_crowd_of.fn fun f fd F => okG (k := 2) F sc_crowd_of (by rintro ss own post ⟨ys, m, c, rfl, _⟩; rfl) (by
  rintro ss own post ⟨ys, m, c, rfl, rfl, hY, hm, hc, rfl⟩ cdv A outer s H E B g
  have hl := hY.hi
  refine sds_cons (sd_setL 3 g.nd (EL.is (el_cat (ed_k1 (i := 1)) (EL.ed (el_rep (ed_k1 (i := 0)) (ed_v 1) .d (by omega) (by simp))) .d .d ?_) (by rw [Int.toNat_natCast, tabZ_unit])) fun p0 => ?_)
  · rw [Int.toNat_natCast, tabZ_const, tabZ_len]
    simp
    omega
  refine sds_freeze 3 (oa := []) rfl ?_
  refine sds_cons (sd_for g (it_list (ed_v 0)) (fun i ρ own => own = [] ∧ ∃ t4 t5 t6 t7, ρ = [.d (li ys), .d (.int (m : Int)), .d (.int (c : Int)), .d (.list (tabZ (cwF (ys.take i) c) (m + 1))), t4, t5, t6, t7]) ⟨rfl, _, _, _, _, rfl⟩ (fun _ _ _ _ => trivial) ?_ ?_)
  · rintro i y ρ1 own1 hy ⟨rfl, t4, t5, t6, t7, rfl⟩
    rw [List.getElem?_map] at hy
    cases ea : ys[i]? with
    | none => rw [ea] at hy; cases hy
    | some y' =>
      rw [ea] at hy
      cases hy
      have hmem : y' ∈ ys := List.mem_of_getElem? ea
      have hy20 := hY.it _ hmem
      have hi := (List.getElem?_eq_some_iff.mp ea).1
      have hsz := cwF_sz hY.it c i (by omega)
      rw [show cwF (ys.take (i + 1)) c = cwS (cwF (ys.take i) c) y' c from funext fun n => cwF_take ea n]
      generalize cwF (ys.take i) c = F at hsz ⊢
      refine ⟨_, _, gt_name 4 g.nd, ?_⟩
      refine sds_cons (sd_setL 5 g.nd (EL.is (el_rep (ed_k1 (i := 0)) (ed_add (ed_v 1) ed_int) .d (by omega) (by simp)) (by rw [show ((m : Int) + 1).toNat = m + 1 by omega, tabZ_const])) fun p => ?_)
      refine sds_cons (sd_for g (it_range1 T.n_range (ed_add (ed_v 1) ed_int) (by omega)) (fun j ρ own => own = [(p, .lst (tabZ (fun n => if n < j then cwS F y' c n else 0) (m + 1)))] ∧ ∃ t6 t7, ρ = [.d (li ys), .d (.int (m : Int)), .d (.int (c : Int)), .d (.list (tabZ F (m + 1))), .d (.int y'), .raw (.ref p), t6, t7]) ⟨rfl, _, _, rfl⟩ (fun _ _ _ _ => trivial) ?_ ?_)
      · rintro j yy ρ2 own2 hyy ⟨rfl, t6, t7, rfl⟩
        obtain ⟨hj, rfl⟩ := rng_get hyy
        have hj : j ≤ m := by omega
        rw [show (0 : Int) + (j : Int) = (j : Int) by omega]
        refine ⟨_, _, gt_name 6 g.nd, ?_⟩
        have emin : (if (j : Int) < (c : Int) then (j : Int) else (c : Int)) = ((min c j : Nat) : Int) := by split <;> omega
        refine sds_one (sd_for g (it_range1 T.n_range (ed_add (ES.is (ed_min2 g T.n_min (ed_v 2) (ed_v 6)) (by rw [emin])) ed_int) (by omega)) (fun o ρ own => own = [(p, .lst (tabZ (fun n => if n < j then cwS F y' c n else if n = j then sumN (cwT F y' j) o else 0) (m + 1)))] ∧ ∃ t7, ρ = [.d (li ys), .d (.int (m : Int)), .d (.int (c : Int)), .d (.list (tabZ F (m + 1))), .d (.int y'), .raw (.ref p), .d (.int (j : Int)), t7]) ⟨?_, _, rfl⟩ (fun _ _ _ _ => trivial) ?_ ?_)
        · refine congrArg (fun t => [(p, Sd.OO.lst t)]) (tabZ_congr fun k hk => ?_)
          split
          · rfl
          · split <;> rfl
        · rintro o yz ρ3 own3 hyz ⟨rfl, t7, rfl⟩
          obtain ⟨ho, rfl⟩ := rng_get hyz
          have ho : o ≤ min c j := by omega
          rw [show (0 : Int) + (o : Int) = (o : Int) by omega]
          have esub : (j : Int) - (o : Int) = ((j - o : Nat) : Int) := by omega
          refine ⟨_, _, gt_name 7 g.nd, sds_one (sd_augitem (oa := []) (ob := []) (n := j) (y := sumN (cwT F y' j) o) (z := cwT F y' j o) iop_addC (ev_v 5) (ed_v 6) (ed_mul (ed_mul (es_call (fn_choose T) g (by decide) (ea_cons (ed_v 6) (ea_cons (ed_v 7) ea_nil)) ⟨j, o, rfl, rfl, by omega, by omega, rfl⟩) (es_call (fn_power T) g (by decide) (ea_cons (ed_v 4) (ea_cons (ed_v 7) ea_nil)) ⟨y', o, 5, rfl, rfl, by unfold Sz; omega, by omega, by decide, rfl⟩) (cmul_of (sz_bin (by omega)) (sz_pw hy20 (by omega)) (by decide))) (ed_ixL (ed_v 3) (ES.is (ed_sub (ed_v 6) (ed_v 7)) (by rw [esub])) .d (tabZ_at (by omega))) (cmul_of ((sz_bin (by omega)).mul (sz_pw hy20 (by omega))) (hsz _ (by omega)) (by omega))) (ixN_of (by rw [tabZ_len]; omega)) ?_ trivial ?_)⟩
          · rw [tabZ_get (by omega), if_neg (by omega), if_pos rfl]
          · refine ⟨?_, _, rfl⟩
            rw [tabZ_set]
            refine congrArg (fun t => [(p, Sd.OO.lst t)]) (tabZ_congr fun k hk => ?_)
            by_cases h1 : k = j
            · subst h1
              rw [if_pos rfl, if_neg (by omega), if_pos rfl, sumN]
            · rw [if_neg h1, if_neg h1, if_neg h1]
        · rintro ρ3 own3 ⟨rfl, t7, rfl⟩
          rw [rng_length, show (((min c j : Nat) : Int) + 1).toNat = min c j + 1 by omega]
          refine ⟨?_, _, _, rfl⟩
          refine congrArg (fun t => [(p, Sd.OO.lst t)]) (tabZ_congr fun k hk => ?_)
          by_cases h1 : k = j
          · subst h1
            rw [if_neg (by omega), if_pos rfl, if_pos (by omega)]
            rfl
          · rw [if_neg h1]
            by_cases h2 : k < j
            · rw [if_pos h2, if_pos (by omega)]
            · rw [if_neg h2, if_neg (by omega)]
      · rintro ρ2 own2 ⟨rfl, t6, t7, rfl⟩
        rw [rng_length, show ((m : Int) + 1).toNat = m + 1 by omega]
        rw [tabZ_congr (f := fun n => if n < m + 1 then cwS F y' c n else 0) (g := cwS F y' c) fun k hk => if_pos hk]
        refine sds_cons (sd_set 3 g.nd (ev_v 5) ?_)
        refine sds_freeze 3 (oa := []) rfl ?_
        exact sds_nil ⟨rfl, _, _, _, _, rfl⟩
  · rintro ρ1 own1 ⟨rfl, t4, t5, t6, t7, rfl⟩
    rw [List.length_map, List.take_length]
    have h2 : Sz 97 (ys.sum ^ m) := (hY.szW.pow m).mono (by omega)
    exact sds_one (sd_retD (es_call (fn_lowest T) g (by decide) (ea_cons (ed_ixL (ed_v 3) (ed_v 1) .d (tabZ_at (by omega))) (ea_cons (es_call (fn_power T) g (by decide) (ea_cons (ed_sum g T.n_sum (ed_v 0) .d) (ea_cons (ed_v 1) ea_nil)) ⟨_, m, 8, rfl, rfl, hY.szW, by omega, by decide, rfl⟩) ea_nil)) ⟨_, _, rfl, rfl, hY.posP m, h2.mono (by decide), rfl⟩) rfl))
end
end Pg

namespace Pg
open PySem PySem.Spec PyProof.Rows L2 Sd
section
variable {P : Program} {w : World} {K : PySem.W.Frag} {mg : Str → Option Value} {base : Heap} {c : Cl}
def pre_crowd_at_most : Pr := fun ss own post => ∃ (ys : List Int) (m k : Nat), ss = [.d (li ys), .d (.int (m : Int)), .d (.int (k : Int))] ∧ own = [] ∧ Yr ys ∧ m ≤ 12 ∧ k ≤ 12 ∧ post = fun o => o = .ret (.d (fr (crw ys m k))) []
theorem fn_crowd_at_most (T : Tx K mg c) : Fn K mg P w base "crowd_at_most" ["year", "many", "crowd"] 4 pre_crowd_at_most := T.d_crowd_at_most.fn fun f fd F => okG (k := 3) F sc_crowd_at_most (by rintro ss own post ⟨ys, m, k, rfl, _⟩; rfl) (by
  rintro ss own post ⟨ys, m, k, rfl, rfl, hY, hm, hk, rfl⟩ cdv A outer s H E B g
  have e1 : Sd.isInt (.int (k : Int)) 0 12 = true := by simp [Sd.isInt]; omega
  refine sds_cons (sd_expr (es_call (fn_check_year T) g (by decide) (ea_cons (ed_v 0) ea_nil) (ok_year hY)) ?_)
  refine sds_cons (sd_expr (es_call (fn_check_many T) g (by decide) (ea_cons (ed_v 1) ea_nil) (ok_many ⟨by omega, by omega⟩)) ?_)
  refine sds_cons (sd_ifF (ET.is (et_not (et_val (es_call (fn_is_int T) g (by decide) (ea_cons (ed_v 2) (ea_cons ed_int (ea_cons ed_int ea_nil))) ⟨_, _, _, rfl, rfl, rfl⟩))) (by rw [e1]; rfl)) ?_)
  exact sds_one (sd_retD (es_call (fn_crowd_of T) g (by decide) (ea_cons (ed_v 0) (ea_cons (ed_v 1) (ea_cons (ed_v 2) ea_nil))) ⟨ys, m, k, rfl, rfl, hY, hm, by omega, rfl⟩) rfl))
end
end Pg

namespace Pg
open PySem PySem.Spec PyProof.Rows L2 Sd
section
variable {P : Program} {w : World} {K : PySem.W.Frag} {mg : Str → Option Value} {base : Heap} {c : Cl}
def crd (ys : List Int) (m k : Nat) : Rat := if k = 0 then crw ys m 0 else crw ys m k - crw ys m (k - 1)
def pre_crowds : Pr := fun ss own post => ∃ (ys : List Int) (m : Nat), ss = [.d (li ys), .d (.int (m : Int))] ∧ own = [] ∧ Yr ys ∧ m ≤ 12 ∧ post = fun o => ∃ p, o = .ret (.raw (.ref p)) [(p, .lst (((List.range (m + 1)).map (crd ys m)).map fr))]
theorem fn_crowds (T : Tx K mg c) : Fn K mg P w base "crowds" ["year", "many"] 4 pre_crowds := T.d_crowds.fn fun f fd F => okG (k := 3) F sc_crowds (by rintro ss own post ⟨ys, m, rfl, _⟩; rfl) (by
  rintro ss own post ⟨ys, m, rfl, rfl, hY, hm, rfl⟩ cdv A outer s H E B g
  refine sds_cons (sd_expr (es_call (fn_check_year T) g (by decide) (ea_cons (ed_v 0) ea_nil) (ok_year hY)) ?_)
  refine sds_cons (sd_expr (es_call (fn_check_many T) g (by decide) (ea_cons (ed_v 1) ea_nil) (ok_many ⟨by omega, by omega⟩)) ?_)
  refine sds_cons (sd_setC 2 g (compP g (it_range1 T.n_range (ed_add (ed_v 1) ed_int) (by omega)) [("crowd", 6)] (blkOk_by (N := ["year", "many", "lows", "found", "before", "now", "crowd"]) (sc := defScope s_crowds) (by decide +kernel)) (List.range (m + 1)) (fun i : Nat => PyData.int (i : Int)) (rng_nat (by omega)) (fun i : Nat => some (fr (crw ys m i))) (fun i : Nat => [.d (li ys), .d (.int (m : Int)), .un, .un, .un, .un, .d (.int (i : Int))]) [6] (by simp) (by rw [List.length_range]; omega) (fun _ _ => trivial)
      (fun i _ s H C cl fp g' => gt_name 6 g'.nd) (fun i _ s H C cl fp o g' => ets_nil) (fun i hi z hz s H C cl fp o g' => ?_)) ?_ rfl)
  · cases hz
    have := List.mem_range.mp hi
    exact es_call (fn_crowd_of T) g' (by decide) (ea_cons (ed_v 0) (ea_cons (ed_v 1) (ea_cons (ed_v 6) ea_nil))) ⟨ys, m, i, rfl, rfl, hY, hm, by omega, rfl⟩
  rintro p ds o ⟨e, rfl⟩
  have e2 : ds = (List.range (m + 1)).map fun i => fr (crw ys m i) := by
    rw [e]
    exact congrFun List.filterMap_eq_map' _
  subst e2
  refine sds_freeze 2 (oa := []) rfl ?_
  have hg : ∀ j : Nat, j ≤ m → ((List.range (m + 1)).map fun i => fr (crw ys m i))[j]? = some (fr (crw ys m j)) := fun j hj => by
    rw [List.getElem?_map, List.getElem?_range (by omega)]
    rfl
  refine sds_cons (sd_setL 3 g.nd (el_lst (ds := [fr (crw ys m 0)]) (ea_cons (ed_ixL (ed_v 2) ed_int .d (atI_nat (hg 0 (by omega)))) ea_nil)) fun q => ?_)
  refine sds_cons (sd_for g (it_zip T.n_zip (ed_v 2) (EL.ed (EL.is (el_slice (ed_v 2) (po_yes ed_int) po_no .d) (cutD_from _ 1 (by simp))))) (fun i ρ own => own = [(q, .lst (((List.range (i + 1)).map (crd ys m)).map fr))] ∧ ∃ t4 t5 t6, ρ = [.d (li ys), .d (.int (m : Int)), .d (.list ((List.range (m + 1)).map fun i => fr (crw ys m i))), .raw (.ref q), t4, t5, t6]) ⟨rfl, _, _, _, rfl⟩ (fun _ _ _ _ => trivial) ?_ ?_)
  · rintro i y ρ1 own1 hy ⟨rfl, t4, t5, t6, rfl⟩
    have hz : i < m ∧ y = .tuple [fr (crw ys m i), fr (crw ys m (i + 1))] := by
      unfold zipD at hy
      rw [List.getElem?_map, Option.map_eq_some_iff] at hy
      obtain ⟨⟨a, b⟩, h1, rfl⟩ := hy
      obtain ⟨h2, h3⟩ := List.getElem?_zip_eq_some.mp h1
      rw [List.getElem?_drop] at h3
      have hlt := (List.getElem?_eq_some_iff.mp h3).1
      rw [List.length_map, List.length_range] at hlt
      rw [hg i (by omega)] at h2
      rw [show 1 + i = i + 1 by omega, hg (i + 1) (by omega)] at h3
      cases h2
      cases h3
      exact ⟨by omega, rfl⟩
    obtain ⟨hi, rfl⟩ := hz
    have z1 := crw_sq hY i hm
    have z2 := crw_sq hY (i + 1) hm
    refine ⟨_, _, gt_tup g.calm (gts_cons (gt_name 4 g.nd) (gts_cons (gt_name 5 g.nd) gts_nil)) rfl, sds_one (sd_append (oa := []) (ob := []) (ev_v 3) (es_call (fn_lowest T) g (by decide) (ea_cons (ed_sub (ed_mul (ed_ixT (ed_v 5) ed_int rfl) (ed_ixT (ed_v 4) ed_int rfl) (cmul_of z2.num z1.den (by omega))) (ed_mul (ed_ixT (ed_v 4) ed_int rfl) (ed_ixT (ed_v 5) ed_int rfl) (cmul_of z1.num z2.den (by omega)))) (ea_cons (ed_mul (ed_ixT (ed_v 5) ed_int rfl) (ed_ixT (ed_v 4) ed_int rfl) (cmul_of z2.den z1.den (by omega))) ea_nil)) ⟨_, _, rfl, rfl, Int.mul_pos (den_pos _) (den_pos _), (z2.den.mul z1.den).mono (by omega), rfl⟩) (by simp; omega) ⟨?_, _, _, _, rfl⟩)⟩
    rw [minus_eq]
    rw [List.range_succ (n := i + 1), List.map_append, List.map_append]
    simp [crd]
  · rintro ρ1 own1 ⟨rfl, t4, t5, t6, rfl⟩
    have el : (zipD ((List.range (m + 1)).map fun i => fr (crw ys m i)) (((List.range (m + 1)).map fun i => fr (crw ys m i)).drop 1)).length = m := by simp [zipD]
    rw [el]
    exact sds_one (sd_ret (ev_v 3) (fun z => nomatch z) ⟨q, rfl⟩))
end
end Pg

namespace Pg
open PySem PySem.Spec PyProof.Rows L2 Sd
section
variable {P : Program} {w : World} {K : PySem.W.Frag} {mg : Str → Option Value} {base : Heap} {c : Cl}
def fsa (ys : List Int) (n : Nat) : Rat := if n = 0 then 0 else unl ys (n - 1) - unl ys n
def pre_first_same_at : Pr := fun ss own post => ∃ (ys : List Int) (n : Nat), ss = [.d (li ys), .d (.int (n : Int))] ∧ own = [] ∧ Yr ys ∧ n ≤ 12 ∧ post = fun o => o = .ret (.d (fr (fsa ys n))) []
theorem fn_first_same_at (T : Tx K mg c) : Fn K mg P w base "first_same_at" ["year", "many"] 4 pre_first_same_at := T.d_first_same_at.fn fun f fd F => okG (k := 3) F sc_first_same_at (by rintro ss own post ⟨ys, n, rfl, _⟩; rfl) (by
  rintro ss own post ⟨ys, n, rfl, rfl, hY, hn, rfl⟩ cdv A outer s H E B g
  refine sds_cons (sd_expr (es_call (fn_check_year T) g (by decide) (ea_cons (ed_v 0) ea_nil) (ok_year hY)) ?_)
  refine sds_cons (sd_expr (es_call (fn_check_many T) g (by decide) (ea_cons (ed_v 1) ea_nil) (ok_many ⟨by omega, by omega⟩)) ?_)
  refine sds_one (sd_retD (es_if (et_cmp c_eqI (ed_v 1) ed_int) (fun h => ES.is (ed_k2 (i := 0) (i' := 1)) ?_) fun h => ES.is (es_call (fn_minus T) g (by decide) (ea_cons (es_call (fn_unlike_of T) g (by decide) (ea_cons (ed_v 0) (ea_cons (ES.is (y := .int ((n - 1 : Nat) : Int)) (ed_sub (ed_v 1) ed_int) ?_) ea_nil)) ⟨ys, n - 1, rfl, rfl, hY, by omega, rfl⟩) (ea_cons (es_call (fn_unlike_of T) g (by decide) (ea_cons (ed_v 0) (ea_cons (ed_v 1) ea_nil)) ⟨ys, n, rfl, rfl, hY, hn, rfl⟩) ea_nil)) ⟨_, _, 200, 200, rfl, rfl, unl_sq hY (by omega), unl_sq hY hn, by decide, rfl⟩) ?_) rfl)
  · have h : n = 0 := by simpa using h
    rw [fsa, if_pos h, fr_zero]
  · have h : n ≠ 0 := by simpa using h
    rw [show ((n - 1 : Nat) : Int) = (n : Int) - 1 by omega]
  · have h : n ≠ 0 := by simpa using h
    rw [fsa, if_neg h])
end
end Pg

namespace Pg
open PySem PySem.Spec PyProof.Rows L2 Sd
section
variable {P : Program} {w : World} {K : PySem.W.Frag} {mg : Str → Option Value} {base : Heap} {c : Cl}
/-! dicts as lists of pairs -/
theorem getT_put {κ α : Type} [DecidableEq κ] (tb : List (κ × α)) (k j : κ) (v : α) : getT (putT tb k v) j = if j = k then some v else getT tb j := by
  unfold putT
  by_cases h : (tb.any fun e => decide (e.1 = k)) = true
  · rw [if_pos h]
    induction tb with
    | nil => cases h
    | cons e tb ih =>
      rw [List.map_cons]
      by_cases he : e.1 = k
      · rw [if_pos he]
        by_cases hj : j = k
        · subst hj
          simp [getT, List.find?_cons, he]
        · have hne : ¬ k = j := fun z => hj z.symm
          have e1 : getT ((e.1, v) :: tb.map fun e => if e.1 = k then (e.1, v) else e) j = getT (tb.map fun e => if e.1 = k then (e.1, v) else e) j := by simp [getT, List.find?_cons, he, hne]
          have e2 : getT (e :: tb) j = getT tb j := by simp [getT, List.find?_cons, he, hne]
          rw [e1, e2, if_neg hj]
          clear ih h
          induction tb with
          | nil => rfl
          | cons a tb ih2 =>
            rw [List.map_cons]
            by_cases ha : a.1 = k
            · rw [if_pos ha]
              have e3 : getT ((a.1, v) :: tb.map fun e => if e.1 = k then (e.1, v) else e) j = getT (tb.map fun e => if e.1 = k then (e.1, v) else e) j := by simp [getT, List.find?_cons, ha, hne]
              have e4 : getT (a :: tb) j = getT tb j := by simp [getT, List.find?_cons, ha, hne]
              rw [e3, e4]
              exact ih2 (by simp [getT, List.find?_cons, he, hne]) (by simp [getT, List.find?_cons, he, hne])
            · rw [if_neg ha]
              by_cases haj : a.1 = j
              · simp [getT, List.find?_cons, haj]
              · have e3 : getT (a :: tb.map fun e => if e.1 = k then (e.1, v) else e) j = getT (tb.map fun e => if e.1 = k then (e.1, v) else e) j := by simp [getT, List.find?_cons, haj]
                have e4 : getT (a :: tb) j = getT tb j := by simp [getT, List.find?_cons, haj]
                rw [e3, e4]
                exact ih2 (by simp [getT, List.find?_cons, he, hne]) (by simp [getT, List.find?_cons, he, hne])
      · rw [if_neg he]
        have h' : (tb.any fun e => decide (e.1 = k)) = true := by
          rw [List.any_cons] at h
          simpa [he] using h
        by_cases hej : e.1 = j
        · have hjk : ¬ j = k := fun z => he (hej.trans z)
          rw [if_neg hjk]
          simp [getT, List.find?_cons, hej]
        · have e3 : getT (e :: tb.map fun e => if e.1 = k then (e.1, v) else e) j = getT (tb.map fun e => if e.1 = k then (e.1, v) else e) j := by simp [getT, List.find?_cons, hej]
          have e4 : getT (e :: tb) j = getT tb j := by simp [getT, List.find?_cons, hej]
          rw [e3, e4]
          exact ih h'
  · rw [if_neg h]
    have h : ∀ e ∈ tb, e.1 ≠ k := fun e he z => h (List.any_eq_true.mpr ⟨e, he, decide_eq_true z⟩)
    unfold getT
    rw [List.find?_append]
    by_cases hj : j = k
    · subst hj
      rw [if_pos rfl, List.find?_eq_none.mpr (fun e he z => h e he (of_decide_eq_true z))]
      simp
    · have hne : ¬ k = j := fun z => hj z.symm
      rw [if_neg hj]
      cases tb.find? (fun e => decide (e.1 = j)) with
      | none => simp [hne]
      | some e => rfl
theorem putT_keys {κ α : Type} [DecidableEq κ] (tb : List (κ × α)) (k : κ) (v : α) : (putT tb k v).map (·.1) = if k ∈ tb.map (·.1) then tb.map (·.1) else tb.map (·.1) ++ [k] := by
  unfold putT
  by_cases h : (tb.any fun e => decide (e.1 = k)) = true
  · have hm : k ∈ tb.map (·.1) := by
      obtain ⟨e, he, hd⟩ := List.any_eq_true.mp h
      exact List.mem_map.mpr ⟨e, he, of_decide_eq_true hd⟩
    rw [if_pos h, if_pos hm, List.map_map]
    refine List.map_congr_left fun e _ => ?_
    show (if e.1 = k then (e.1, v) else e).1 = e.1
    split <;> rfl
  · have hm : k ∉ tb.map (·.1) := fun z => by
      obtain ⟨e, he, rfl⟩ := List.mem_map.mp z
      exact h (List.any_eq_true.mpr ⟨e, he, decide_eq_true rfl⟩)
    rw [if_neg h, if_neg hm, List.map_append]
    rfl
theorem putT_nodup {κ α : Type} [DecidableEq κ] {tb : List (κ × α)} (h : (tb.map (·.1)).Nodup) (k : κ) (v : α) : ((putT tb k v).map (·.1)).Nodup := by
  rw [putT_keys]
  split
  · exact h
  · rename_i hn
    refine List.nodup_append.mpr ⟨h, by simp, fun a ha b hb z => ?_⟩
    have : b = k := by simpa using hb
    rw [z, this] at ha
    exact hn ha
theorem nodup_lt : ∀ (n : Nat) (l : List Nat), l.Nodup → (∀ x ∈ l, x < n) → l.length ≤ n
  | 0, [], _, _ => Nat.le_refl _
  | 0, a :: l, _, h => absurd (h a List.mem_cons_self) (by omega)
  | n + 1, l, hn, h => by
    have h1 := nodup_lt n (l.erase n) (hn.erase n) fun x hx => by
      have h2 := h x (List.mem_of_mem_erase hx)
      have h3 : x ≠ n := fun z => (hn.mem_erase_iff.mp hx).1 z
      omega
    have := List.length_erase_le (a := n) (l := l)
    by_cases hm : n ∈ l
    · have := List.length_erase_of_mem hm
      have : 0 < l.length := List.length_pos_of_mem hm
      omega
    · rw [List.erase_of_not_mem hm] at h1
      omega
theorem keys_box {α : Type} {A B : Nat} {tb : List ((Nat × Nat) × α)} (hn : (tb.map (·.1)).Nodup) (h : ∀ e ∈ tb, e.1.1 < A ∧ e.1.2 < B) : tb.length ≤ A * B := by
  have h1 := nodup_lt (A * B) ((tb.map (·.1)).map fun k => k.1 * B + k.2) (by
    refine List.nodup_iff_pairwise_ne.mpr (List.pairwise_map.mpr (List.Pairwise.imp_of_mem ?_ (List.nodup_iff_pairwise_ne.mp hn)))
    · intro a b ha hb hab z
      obtain ⟨e, he, rfl⟩ := List.mem_map.mp ha
      obtain ⟨f, hf, rfl⟩ := List.mem_map.mp hb
      obtain ⟨a1, a2⟩ := h e he
      obtain ⟨b1, b2⟩ := h f hf
      have d1 : (e.1.1 * B + e.1.2) / B = e.1.1 := by rw [Nat.mul_comm, Nat.mul_add_div (by omega), Nat.div_eq_of_lt a2]; rfl
      have d2 : (f.1.1 * B + f.1.2) / B = f.1.1 := by rw [Nat.mul_comm, Nat.mul_add_div (by omega), Nat.div_eq_of_lt b2]; rfl
      have z : e.1.1 * B + e.1.2 = f.1.1 * B + f.1.2 := z
      rw [z, d2] at d1
      rw [← d1] at z
      exact hab (Prod.ext d1.symm (by omega))) fun x hx => by
    obtain ⟨k, hk, rfl⟩ := List.mem_map.mp hx
    obtain ⟨e, he, rfl⟩ := List.mem_map.mp hk
    obtain ⟨a1, a2⟩ := h e he
    have := Nat.mul_le_mul_right B (show e.1.1 + 1 ≤ A from a1)
    rw [Nat.add_mul] at this
    omega
  simpa using h1
/-- as data -/
def encT {κ : Type} (key : κ → List Int) (tb : List (κ × Int)) : List (List Int × PyData) := tb.map fun e => (key e.1, PyData.int e.2)
theorem enc_get {κ : Type} [DecidableEq κ] {key : κ → List Int} (inj : ∀ a b, key a = key b → a = b) (k : κ) : ∀ tb : List (κ × Int), getT (encT key tb) (key k) = (getT tb k).map PyData.int
  | [] => rfl
  | e :: tb => by
    have ih := enc_get inj k tb
    by_cases h : e.1 = k
    · simp [encT, getT, List.find?_cons, h]
    · have h' : ¬ key e.1 = key k := fun z => h (inj _ _ z)
      have e1 : getT (e :: tb) k = getT tb k := by simp [getT, List.find?_cons, h]
      have e2 : getT (encT key (e :: tb)) (key k) = getT (encT key tb) (key k) := by simp [encT, getT, List.find?_cons, h']
      rw [e1, e2, ih]
theorem enc_put {κ : Type} [DecidableEq κ] {key : κ → List Int} (inj : ∀ a b, key a = key b → a = b) (k : κ) (v : Int) (tb : List (κ × Int)) : putT (encT key tb) (key k) (.int v) = encT key (putT tb k v) := by
  have ha : ((encT key tb).any fun e => decide (e.1 = key k)) = (tb.any fun e => decide (e.1 = k)) := by
    unfold encT
    rw [List.any_map]
    congr 1
    funext e
    exact decide_eq_decide.mpr ⟨fun z => inj _ _ z, fun z => by show key e.1 = _; rw [z]⟩
  unfold putT
  rw [ha]
  by_cases h : (tb.any fun e => decide (e.1 = k)) = true
  · rw [if_pos h, if_pos h]
    unfold encT
    rw [List.map_map, List.map_map]
    refine List.map_congr_left fun e _ => ?_
    show (if key e.1 = key k then (key e.1, PyData.int v) else (key e.1, PyData.int e.2)) = (key (if e.1 = k then (e.1, v) else e).1, PyData.int (if e.1 = k then (e.1, v) else e).2)
    by_cases hk : e.1 = k
    · rw [if_pos (by rw [hk]), if_pos hk]
    · rw [if_neg (fun z => hk (inj _ _ z)), if_neg hk]
  · rw [if_neg h, if_neg h]
    unfold encT
    rw [List.map_append]
    rfl
/-! pairs on days -/
abbrev PwT := List ((Nat × Nat) × Int)
def trn (n : Nat) : Nat := n * (n - 1) / 2
def kNN (k : Nat × Nat) : List Int := [(k.1 : Int), (k.2 : Int)]
theorem kNN_inj (a b : Nat × Nat) (h : kNN a = kNN b) : a = b := by
  unfold kNN at h
  injection h with h1 h2
  injection h2 with h2
  exact Prod.ext (by omega) (by omega)
def pwV (w : Int) (e : (Nat × Nat) × Int) (o : Nat) : Int := e.2 * (bin (e.1.1 + o) o : Nat) * w ^ o
def addT (f : PwT) (k : Nat × Nat) (z : Int) : PwT := putT f k ((getT f k).getD 0 + z)
def pwO (w : Int) (e : (Nat × Nat) × Int) (f : PwT) : Nat → PwT
  | 0 => f
  | o + 1 => addT (pwO w e f o) (e.1.1 + o, e.1.2 + trn o) (pwV w e o)
def pwI (m : Nat) (w : Int) (kn : PwT) : PwT := kn.foldl (fun f e => pwO w e f (m - e.1.1 + 1)) []
def pwF (m : Nat) (ys : List Int) : PwT := ys.foldl (fun kn w => pwI m w kn) [((0, 0), 1)]
theorem pwF_take {m : Nat} {ys : List Int} {i : Nat} {y : Int} (h : ys[i]? = some y) : pwF m (ys.take (i + 1)) = pwI m y (pwF m (ys.take i)) := by
  unfold pwF
  rw [List.take_add_one, h, List.foldl_append]
  rfl
theorem pwI_take {m : Nat} {w : Int} {kn : PwT} {i : Nat} {e : (Nat × Nat) × Int} (h : kn[i]? = some e) : (kn.take (i + 1)).foldl (fun f e => pwO w e f (m - e.1.1 + 1)) [] = pwO w e ((kn.take i).foldl (fun f e => pwO w e f (m - e.1.1 + 1)) []) (m - e.1.1 + 1) := by
  rw [List.take_add_one, h, List.foldl_append]
  rfl
/-- keys in a box, each once, values below s times C -/
structure PwOk (m B s C : Nat) (f : PwT) : Prop where
  nd : (f.map (·.1)).Nodup
  bx : ∀ e ∈ f, e.1.1 < m + 1 ∧ e.1.2 < B
  vl : ∀ e ∈ f, e.2.natAbs ≤ s * C
theorem PwOk.len {m B s C : Nat} {f : PwT} (h : PwOk m B s C f) : f.length ≤ (m + 1) * B := keys_box h.nd h.bx
theorem getT_le {f : PwT} {k : Nat × Nat} {n : Nat} (h : ∀ e ∈ f, e.2.natAbs ≤ n) : ((getT f k).getD 0).natAbs ≤ n := by
  cases hg : getT f k with
  | none => exact Nat.zero_le _
  | some v =>
    unfold getT at hg
    obtain ⟨e, he, rfl⟩ := Option.map_eq_some_iff.mp hg
    exact h e (List.mem_of_find?_eq_some he)
theorem PwOk.add {m B s C : Nat} {f : PwT} (h : PwOk m B s C f) {k : Nat × Nat} {z : Int} (h1 : k.1 < m + 1) (h2 : k.2 < B) (hz : z.natAbs ≤ C) : PwOk m B (s + 1) C (addT f k z) := by
  have hv : ((getT f k).getD 0 + z).natAbs ≤ (s + 1) * C := by
    have := getT_le (k := k) h.vl
    rw [Nat.add_mul]
    omega
  have key : ∀ e ∈ addT f k z, e.1 = k ∧ e.2 = (getT f k).getD 0 + z ∨ e ∈ f := by
    intro e he
    unfold addT putT at he
    split at he
    · obtain ⟨e', he', rfl⟩ := List.mem_map.mp he
      by_cases hk : e'.1 = k
      · rw [if_pos hk]
        exact .inl ⟨hk, rfl⟩
      · rw [if_neg hk]
        exact .inr he'
    · rcases List.mem_append.mp he with he | he
      · exact .inr he
      · have : e = (k, (getT f k).getD 0 + z) := by simpa using he
        rw [this]
        exact .inl ⟨rfl, rfl⟩
  refine ⟨putT_nodup h.nd _ _, fun e he => ?_, fun e he => ?_⟩
  · rcases key e he with ⟨e1, _⟩ | he
    · rw [e1]; exact ⟨h1, h2⟩
    · exact h.bx e he
  · rcases key e he with ⟨_, e2⟩ | he
    · rw [e2]; exact hv
    · have := h.vl e he
      rw [Nat.add_mul]
      omega
theorem trn_le : ∀ {o : Nat}, o ≤ 12 → trn o ≤ 66 := by
  have h : ∀ o : Fin 13, trn o.val ≤ 66 := by decide
  intro o ho
  exact h ⟨o, by omega⟩
theorem pwO_ok {m B s C : Nat} {w : Int} {e : (Nat × Nat) × Int} {f : PwT} (hm : m ≤ 12) (h : PwOk m (B + 66) s C f) (he : e.1.2 < B) : ∀ o, e.1.1 + o ≤ m + 1 → (∀ j, j < o → (pwV w e j).natAbs ≤ C) → PwOk m (B + 66) (s + o) C (pwO w e f o)
  | 0, _, _ => h
  | o + 1, ho, hv => (pwO_ok hm h he o (by omega) fun j hj => hv j (by omega)).add (by show e.1.1 + o < m + 1; omega) (by show e.1.2 + trn o < B + 66; have := trn_le (o := o) (by omega); omega) (hv o (by omega))
theorem pwV_le {w : Int} {e : (Nat × Nat) × Int} {o C m : Nat} (hm : m ≤ 12) (hw : 1 ≤ w ∧ w ≤ 20) (he : e.1.1 + o ≤ m) (hv : e.2.natAbs ≤ C) : (pwV w e o).natAbs ≤ C * 2 ^ 74 := by
  unfold pwV
  rw [Int.natAbs_mul, Int.natAbs_mul, Nat.mul_assoc]
  refine Nat.mul_le_mul hv ?_
  have z1 : Sz 13 (bin (e.1.1 + o) o : Nat) := sz_bin (by omega)
  have z2 : Sz 61 (w ^ o) := sz_pw hw (by omega)
  have z3 := z1.mul z2
  unfold Sz at z3
  rw [Int.natAbs_mul] at z3
  exact Nat.le_of_lt z3
theorem pwI_okI {m B s C : Nat} {w : Int} {kn : PwT} (hm : m ≤ 12) (hw : 1 ≤ w ∧ w ≤ 20) (h : PwOk m B s C kn) : ∀ i, i ≤ kn.length → PwOk m (B + 66) (13 * i) (s * C * 2 ^ 74) ((kn.take i).foldl (fun f e => pwO w e f (m - e.1.1 + 1)) [])
  | 0, _ => ⟨by simp, (fun e he => nomatch he), fun e he => nomatch he⟩
  | i + 1, hi => by
    have hlt : i < kn.length := by omega
    have hmem : kn[i] ∈ kn := List.getElem_mem hlt
    rw [pwI_take (List.getElem?_eq_getElem hlt)]
    obtain ⟨b1, b2⟩ := h.bx _ hmem
    have := pwO_ok (w := w) (e := kn[i]) hm (pwI_okI hm hw h i (by omega)) b2 (m - kn[i].1.1 + 1) (by omega) fun j hj => pwV_le hm hw (by omega) (h.vl _ hmem)
    refine ⟨this.nd, this.bx, fun e he => Nat.le_trans (this.vl e he) (Nat.mul_le_mul_right _ (by omega))⟩
theorem pwF_ok {m : Nat} {ys : List Int} (hm : m ≤ 12) (hY : ∀ y ∈ ys, 1 ≤ y ∧ y ≤ 20) (h8 : ys.length ≤ 8) : ∀ i, i ≤ ys.length → PwOk m (66 * i + 1) 1 (2 ^ (92 * i)) (pwF m (ys.take i))
  | 0, _ => ⟨by simp [pwF], fun e he => by
      have : e = ((0, 0), 1) := by simpa [pwF] using he
      subst this
      exact ⟨by simp, by decide⟩, fun e he => by
      have : e = ((0, 0), 1) := by simpa [pwF] using he
      subst this
      decide⟩
  | i + 1, hi => by
    have hlt : i < ys.length := by omega
    have ih := pwF_ok hm hY h8 i (by omega)
    rw [pwF_take (List.getElem?_eq_getElem hlt)]
    have hl := ih.len
    have h1 := pwI_okI (w := ys[i]) hm (hY _ (List.getElem_mem hlt)) ih (pwF m (ys.take i)).length (Nat.le_refl _)
    rw [List.take_length] at h1
    refine ⟨h1.nd, fun e he => ?_, fun e he => ?_⟩
    · have := h1.bx e he
      exact ⟨this.1, by omega⟩
    · refine Nat.le_trans (h1.vl e he) ?_
      have hlen : 13 * (pwF m (ys.take i)).length ≤ 2 ^ 18 := by
        have : (m + 1) * (66 * i + 1) ≤ 13 * (66 * 8 + 1) := Nat.mul_le_mul (by omega) (by omega)
        omega
      rw [Nat.one_mul, Nat.one_mul, show 92 * (i + 1) = 18 + (92 * i + 74) by omega, Nat.pow_add, Nat.pow_add]
      exact Nat.mul_le_mul_right _ hlen
theorem PwOk.szv {m B i : Nat} {f : PwT} (h : PwOk m B 1 (2 ^ i) f) {e : (Nat × Nat) × Int} (he : e ∈ f) : Sz (i + 1) e.2 := by
  have := h.vl e he
  unfold Sz
  rw [Nat.pow_succ]
  have := Nat.two_pow_pos i
  omega
/-- the rows: pairs, ways -/
def pwR (ys : List Int) (m : Nat) : List (Int × Int) := srtP ((pwF m ys).filterMap fun e => if e.1.1 = m then some ((e.1.2 : Int), e.2) else none)
end
end Pg

namespace Pg
open PySem PySem.Spec PyProof.Rows L2 Sd
section
variable {P : Program} {w : World} {K : PySem.W.Frag} {mg : Str → Option Value} {base : Heap} {c : Cl}
def pwN : List Str := ["year", "many", "known", "weight", "fresh", "whole", "pairs", "ways", "own", "key"]
def pre_pair_ways : Pr := fun ss own post => ∃ (ys : List Int) (m : Nat), ss = [.d (li ys), .d (.int (m : Int))] ∧ own = [] ∧ Yr ys ∧ m ≤ 12 ∧ post = fun o => ∃ p, o = .ret (.raw (.ref p)) [(p, .lst ((pwR ys m).map pr))]
theorem trn_int (o : Nat) : (o : Int) * ((o : Int) - 1) / 2 = ((trn o : Nat) : Int) := by
  unfold trn
  cases o with
  | zero => rfl
  | succ n =>
    rw [show ((n + 1 : Nat) : Int) - 1 = (n : Int) by omega, show n + 1 - 1 = n by omega, ← Int.natCast_mul]
    omega
theorem eg_disp00 {Z : Sd.Ctx} {n : Nat} {ρ : List Slot} {own : Own} {j1 j2 j3 x1 : Nat} {p1 p2 p3 p4 pos : Pos} {R : Slot → Own → Prop} (g : Gd Z n) (h : ∀ p, R (.raw (.ref p)) ((p, .dt [([0, 0], .int 1)]) :: own)) : EG Z (.Dict [some (.Tuple [.Constant (.int 0) j1 p1, .Constant (.int 0) j2 p2] x1 p3)] [.Constant (.int 1) j3 p4] pos) ρ own R := by
  with_reducible refine eg_disp1 (k := [0, 0]) (x := .int 1) g ?a ?b h
  case a =>
    intro o
    show ED _ _ _ _ (.tuple [.int 0, .int 0])
    with_reducible exact ed_tb2 (eb_k ed_int (eb_k ed_int ea_nil))
  case b => intro o; with_reducible exact ed_int
theorem fn_pair_ways (T : Tx K mg c) : Fn K mg P w base "pair_ways" ["year", "many"] 2 pre_pair_ways := T.d_pair_ways.fn fun f fd F => okG (k := 1) F sc_pair_ways (by rintro ss own post ⟨ys, m, rfl, _⟩; rfl) (by
  rintro ss own post ⟨ys, m, rfl, rfl, hY, hm, rfl⟩ cdv A outer s H E B g
  have hl := hY.hi
  refine sds_rtsub ?_
  show SDs _ (_ :: _) _ _ _
  with_reducible refine sds_cons ?_
  with_reducible refine sd_setG (R := (fun s o => ∃ q, s = .raw (.ref q) ∧ o = [(q, .dt (encT kNN (pwF m (ys.take 0))))])) 2 g.nd ?e ?n ?a ?b ?c ?d
  case e => with_reducible exact eg_disp00 g fun p => ⟨p, rfl, rfl⟩
  case a => rfl
  case b => first | exact Or.inl rfl | exact Or.inr rfl
  case c => rfl
  case d => first | exact .inl rfl | exact .inr rfl
  rintro _ _ ⟨q0, rfl, rfl⟩
  refine sds_cons (sd_for g (it_list (ed_v 0)) (fun i ρ own => ∃ q t3 t4 t5 t6 t7 t8 t9, own = [(q, .dt (encT kNN (pwF m (ys.take i))))] ∧ ρ = [.d (li ys), .d (.int (m : Int)), .raw (.ref q), t3, t4, t5, t6, t7, t8, t9]) ⟨q0, _, _, _, _, _, _, _, rfl, rfl⟩ (fun _ _ _ _ => trivial) ?_ ?_)
  · rintro i y ρ1 own1 hy ⟨q, t3, t4, t5, t6, t7, t8, t9, rfl, rfl⟩
    rw [List.getElem?_map] at hy
    cases ea : ys[i]? with
    | none => rw [ea] at hy; cases hy
    | some y' =>
      rw [ea] at hy
      cases hy
      have hmem : y' ∈ ys := List.mem_of_getElem? ea
      have hy20 := hY.it _ hmem
      have hi := (List.getElem?_eq_some_iff.mp ea).1
      have hok := pwF_ok hm hY.it hl i (by omega)
      rw [pwF_take ea]
      generalize pwF m (ys.take i) = kn at hok ⊢
      refine ⟨_, _, gt_name 3 g.nd, ?_⟩
      refine sds_cons (sd_setG 4 g.nd (eg_dnew (R := fun s o => ∃ r, s = .raw (.ref r) ∧ o = [(r, .dt []), (q, .dt (encT kNN kn))]) fun p => ⟨p, rfl, rfl⟩) ?_)
      rintro _ _ ⟨r, rfl, rfl⟩
      refine sds_cons (sd_lock (oa := [(r, .dt [])]) (ob := []) (q := q) fun od kvs => ?_)
      refine sd_for g (it_items (od := od) (kvs := kvs) (q := q) (tb := encT kNN kn) (by simp) (ev_v 2)) (fun j ρ own => ∃ t5 t6 t7 t8 t9, own = [(r, .dt (encT kNN ((kn.take j).foldl (fun f e => pwO y' e f (m - e.1.1 + 1)) []))), (q, .dl od kvs (encT kNN kn))] ∧ ρ = [.d (li ys), .d (.int (m : Int)), .raw (.ref q), .d (.int y'), .raw (.ref r), t5, t6, t7, t8, t9]) ⟨_, _, _, _, _, rfl, rfl⟩ ?_ ?_ ?_
      · rintro j ρ own ⟨_, _, _, _, _, rfl, _⟩
        simp
      · rintro j yy ρ2 own2 hyy ⟨t5, t6, t7, t8, t9, rfl, rfl⟩
        unfold encT at hyy
        rw [List.map_map, List.getElem?_map] at hyy
        cases ek : kn[j]? with
        | none => rw [ek] at hyy; cases hyy
        | some e =>
          rw [ek] at hyy
          cases hyy
          have hej : e ∈ kn := List.mem_of_getElem? ek
          have hjl := (List.getElem?_eq_some_iff.mp ek).1
          obtain ⟨b1, b2⟩ := hok.bx e hej
          have zv := hok.szv hej
          have hI := pwI_okI hm hy20 hok j (by omega)
          rw [pwI_take ek]
          generalize (kn.take j).foldl (fun f e => pwO y' e f (m - e.1.1 + 1)) [] = fr at hI ⊢
          refine ⟨_, _, gt_tup g.calm (gts_cons (gt_tup (n := 2) g.calm (gts_cons (gt_name 5 g.nd) (gts_cons (gt_name 6 g.nd) gts_nil)) rfl) (gts_cons (gt_name 7 g.nd) gts_nil)) rfl, ?_⟩
          refine sds_one (sd_for g (it_range1 T.n_range (ed_add (ed_sub (ed_v 1) (ed_v 5)) ed_int) (by omega)) (fun o ρ own => ∃ t8 t9, own = [(r, .dt (encT kNN (pwO y' e fr o))), (q, .dl od kvs (encT kNN kn))] ∧ ρ = [.d (li ys), .d (.int (m : Int)), .raw (.ref q), .d (.int y'), .raw (.ref r), .d (.int (e.1.1 : Int)), .d (.int (e.1.2 : Int)), .d (.int e.2), t8, t9]) ⟨_, _, rfl, rfl⟩ (fun _ _ _ _ => trivial) ?_ ?_)
          · rintro o yo ρ3 own3 hyo ⟨t8, t9, rfl, rfl⟩
            obtain ⟨ho, rfl⟩ := rng_get hyo
            have ho : e.1.1 + o ≤ m := by omega
            rw [show (0 : Int) + (o : Int) = (o : Int) by omega]
            have hO := pwO_ok (w := y') hm hI b2 o (by omega) fun j hj => pwV_le hm hy20 (by omega) (hok.vl e hej)
            have hlen := hO.len
            have hlt : (encT kNN (pwO y' e fr o)).length < 100000 := by
              unfold encT
              rw [List.length_map]
              have : (m + 1) * (66 * i + 1 + 66) ≤ 13 * (66 * 8 + 1 + 66) := Nat.mul_le_mul (by omega) (by omega)
              omega
            refine ⟨_, _, gt_name 8 g.nd, ?_⟩
            have ekey : PyData.tuple ((kNN (e.1.1 + o, e.1.2 + trn o)).map PyData.int) = .tuple [.int ((e.1.1 : Int) + (o : Int)), .int ((e.1.2 : Int) + (o : Int) * ((o : Int) - 1) / 2)] := by
              rw [trn_int]
              simp [kNN]
            refine sds_cons (sd_set 9 g.nd (s := .d (.tuple ((kNN (e.1.1 + o, e.1.2 + trn o)).map PyData.int))) (ES.is (ed_tup (ds := [_, _]) (ea_cons (ed_add (ed_v 5) (ed_v 8)) (ea_cons (ed_add (ed_v 6) (ed_fdivS (ed_mulS (ed_v 8) (ed_sub (ed_v 8) ed_int) (.inl ⟨by omega, by omega⟩)) ed_int (by omega))) ea_nil))) ekey.symm) ?_)
            have esum : (e.1.1 : Int) + (o : Int) = ((e.1.1 + o : Nat) : Int) := by omega
            have z2 : Sz 13 (bin (e.1.1 + o) o : Nat) := sz_bin (by omega)
            refine sds_one (sd_dput (oa := []) (ob := [(q, .dl od kvs (encT kNN kn))]) (k := kNN (e.1.1 + o, e.1.2 + trn o)) (x := .int ((getT (pwO y' e fr o) (e.1.1 + o, e.1.2 + trn o)).getD 0 + pwV y' e o)) g (ed_add (ES.is (y := .int ((getT (pwO y' e fr o) (e.1.1 + o, e.1.2 + trn o)).getD 0)) (ed_dget2 (k := kNN (e.1.1 + o, e.1.2 + trn o)) (tb := encT kNN (pwO y' e fr o)) (q := r) (d0 := .int 0) g (by simp) (ev_v 4) (ed_v 9) ed_int) ?_) (ed_mul (ed_mul (ed_v 7) (es_call (fn_choose T) g (by decide) (ea_cons (ES.is (ed_add (ed_v 5) (ed_v 8)) (by rw [esum])) (ea_cons (ed_v 8) ea_nil)) ⟨e.1.1 + o, o, rfl, rfl, by omega, by omega, rfl⟩) (cmul_of zv z2 (by omega))) (es_call (fn_power T) g (by decide) (ea_cons (ed_v 3) (ea_cons (ed_v 8) ea_nil)) ⟨y', o, 5, rfl, rfl, by unfold Sz; omega, by omega, by decide, rfl⟩) (cmul_of (zv.mul z2) (sz_pw hy20 (by omega)) (by omega)))) (ev_v 4) (ed_v 9) hlt ?_)
            · rw [enc_get kNN_inj]
              cases getT (pwO y' e fr o) (e.1.1 + o, e.1.2 + trn o) <;> rfl
            · rw [enc_put kNN_inj]
              exact ⟨_, _, rfl, rfl⟩
          · rintro ρ3 own3 ⟨t8, t9, rfl, rfl⟩
            rw [rng_length, show ((m : Int) - (e.1.1 : Int) + 1).toNat = m - e.1.1 + 1 by omega]
            exact ⟨_, _, _, _, _, rfl, rfl⟩
      · rintro ρ2 own2 ⟨t5, t6, t7, t8, t9, rfl, rfl⟩
        refine ⟨[(r, _)], [], rfl, ?_⟩
        have el : ((encT kNN kn).map itemD).length = kn.length := by simp [encT]
        rw [el, List.take_length]
        refine sds_cons (sd_set 2 g.nd (ev_v 4) ?_)
        refine sds_drop (oa := [(r, _)]) (ob := []) ?_
        exact sds_nil ⟨r, _, _, _, _, _, _, _, rfl, rfl⟩
  · rintro ρ1 own1 ⟨q, t3, t4, t5, t6, t7, t8, t9, rfl, rfl⟩
    rw [List.length_map, List.take_length]
    have hok := pwF_ok hm hY.it hl ys.length (Nat.le_refl _)
    rw [List.take_length] at hok
    have hlen := hok.len
    refine sds_one (sd_retL (el_sortedP (ps := (pwF m ys).filterMap fun e => if e.1.1 = m then some ((e.1.2 : Int), e.2) else none) T.n_sorted (EL.ed (EL.is (el_lock (oa := []) (ob := []) (q := q) fun od kvs => el_comp g (compO g (it_items (od := od) (kvs := kvs) (q := q) (tb := encT kNN (pwF m ys)) (by simp) (ev_v 2)) [("whole", 5), ("pairs", 6), ("ways", 7)] (blkOk_by (N := pwN) (sc := defScope s_pair_ways) (by decide +kernel)) (pwF m ys) (fun e => itemD (kNN e.1, PyData.int e.2)) (by unfold encT; rw [List.map_map]; rfl) (fun e => if e.1.1 = m then some (pr ((e.1.2 : Int), e.2)) else none) (fun e => [.d (li ys), .d (.int (m : Int)), .raw (.ref q), t3, t4, .d (.int (e.1.1 : Int)), .d (.int (e.1.2 : Int)), .d (.int e.2), t8, t9]) ([5] ++ [6] ++ [7]) (by simp) ?_ (by simp)
      (fun e _ s H C cl fp g' => gt_tup g'.calm (gts_cons (gt_tup (n := 2) g'.calm (gts_cons (gt_name 5 g'.nd) (gts_cons (gt_name 6 g'.nd) gts_nil)) rfl) (gts_cons (gt_name 7 g'.nd) gts_nil)) rfl) (fun e _ s H C cl fp D acc g' => ets_one (ET.is (et_cmp c_eqI (ed_v 5) (ed_v 1)) ?_)) (fun e he z hz s H C cl fp D acc g' => ?_))) ?_)) .d) fun p => ⟨[(p, .lst ((pwR ys m).map pr))], List.Sublist.cons₂ _ (List.nil_sublist _), p, rfl⟩)
    · have : (m + 1) * (66 * ys.length + 1) ≤ 13 * (66 * 8 + 1) := Nat.mul_le_mul (by omega) (by omega)
      omega
    · by_cases h : e.1.1 = m
      · rw [if_pos h, decide_eq_true (by omega)]; rfl
      · rw [if_neg h, decide_eq_false (by omega)]; rfl
    · split at hz
      · cases hz
        exact ed_tup (ds := [_, _]) (ea_cons (ed_v 6) (ea_cons (ed_v 7) ea_nil))
      · cases hz
    · rw [List.map_filterMap]
      refine fm_congr fun e _ => ?_
      split <;> rfl)
end
end Pg

namespace Pg
open PySem PySem.Spec PyProof.Rows L2 Sd
section
variable {P : Program} {w : World} {K : PySem.W.Frag} {mg : Str → Option Value} {base : Heap} {c : Cl}
def pcD (ys : List Int) (m : Nat) (p : Int × Int) : PyData := .tuple [.int p.1, fr ((p.2 : Rat) / ((ys.sum ^ m : Int) : Rat))]
def pre_pair_chances : Pr := fun ss own post => ∃ (ys : List Int) (m : Nat), ss = [.d (li ys), .d (.int (m : Int))] ∧ own = [] ∧ Yr ys ∧ m ≤ 12 ∧ post = fun o => ∃ p, o = .ret (.raw (.ref p)) [(p, .lst ((pwR ys m).map (pcD ys m)))]
theorem pwR_len {ys : List Int} (hY : Yr ys) {m : Nat} (hm : m ≤ 12) : (pwR ys m).length < 100000 := by
  have hok := pwF_ok hm hY.it hY.hi ys.length (Nat.le_refl _)
  rw [List.take_length] at hok
  have hlen := hok.len
  have h8 := hY.hi
  have : (m + 1) * (66 * ys.length + 1) ≤ 13 * (66 * 8 + 1) := Nat.mul_le_mul (by omega) (by omega)
  unfold pwR
  rw [(srtP_perm _).length_eq]
  have := List.length_filterMap_le (fun e : (Nat × Nat) × Int => if e.1.1 = m then some ((e.1.2 : Int), e.2) else none) (pwF m ys)
  omega
theorem fn_pair_chances (T : Tx K mg c) : Fn K mg P w base "pair_chances" ["year", "many"] 4 pre_pair_chances := T.d_pair_chances.fn fun f fd F => okG (k := 3) F sc_pair_chances (by rintro ss own post ⟨ys, m, rfl, _⟩; rfl) (by
  rintro ss own post ⟨ys, m, rfl, rfl, hY, hm, rfl⟩ cdv A outer s H E B g
  refine sds_cons (sd_expr (es_call (fn_check_year T) g (by decide) (ea_cons (ed_v 0) ea_nil) (ok_year hY)) ?_)
  refine sds_cons (sd_expr (es_call (fn_check_many T) g (by decide) (ea_cons (ed_v 1) ea_nil) (ok_many ⟨by omega, by omega⟩)) ?_)
  refine sds_cons (sd_set 2 g.nd (es_call (fn_power T) g (by decide) (ea_cons (ed_sum g T.n_sum (ed_v 0) .d) (ea_cons (ed_v 1) ea_nil)) ⟨_, m, 8, rfl, rfl, hY.szW, by omega, by decide, rfl⟩) ?_)
  have h2 : Sz 97 (ys.sum ^ m) := (hY.szW.pow m).mono (by omega)
  refine sds_one (sd_retL (EL.is (el_comp g (compP g (it_list (EL.ed (el_call (fn_pair_ways T) g (by decide) (ea_cons (ed_v 0) (ea_cons (ed_v 1) ea_nil)) ⟨ys, m, rfl, rfl, hY, hm, rfl⟩))) [("pairs", 3), ("ways", 4)] (blkOk_by (N := ["year", "many", "whole", "pairs", "ways"]) (sc := defScope s_pair_chances) (by decide +kernel)) (pwR ys m) pr rfl (fun p => some (pcD ys m p)) (fun p => [.d (li ys), .d (.int (m : Int)), .d (.int (ys.sum ^ m)), .d (.int p.1), .d (.int p.2)]) ([3] ++ [4]) (by simp) (pwR_len hY hm) (fun _ _ => trivial)
      (fun p _ s H C cl fp g' => gt_tup g'.calm (gts_cons (gt_name 3 g'.nd) (gts_cons (gt_name 4 g'.nd) gts_nil)) rfl) (fun i _ s H C cl fp o g' => ets_nil) (fun p hp z hz s H C cl fp o g' => ?_))) (congrFun List.filterMap_eq_map' _)) fun p => ⟨p, rfl⟩)
  cases hz
  exact ed_tup (ds := [_, _]) (ea_cons (ed_v 3) (ea_cons (es_call (fn_lowest T) g' (by decide) (ea_cons (ed_v 4) (ea_cons (ed_v 2) ea_nil)) ⟨_, _, rfl, rfl, hY.posP m, h2.mono (by decide), rfl⟩) ea_nil)))
end
end Pg

namespace Pg
open PySem PySem.Spec PyProof.Rows L2 Sd
section
variable {P : Program} {w : World} {K : PySem.W.Frag} {mg : Str → Option Value} {base : Heap} {c : Cl}
theorem pwO_get (w : Int) (e : (Nat × Nat) × Int) (f : PwT) (k : Nat × Nat) : ∀ o, (getT f k).isSome = true → (getT (pwO w e f o) k).isSome = true
  | 0, h => h
  | o + 1, h => by
    unfold pwO addT
    rw [getT_put]
    split
    · rfl
    · exact pwO_get w e f k o h
theorem pwO_has (w : Int) (e : (Nat × Nat) × Int) (f : PwT) {o n : Nat} (h : o < n) : (getT (pwO w e f n) (e.1.1 + o, e.1.2 + trn o)).isSome = true := by
  induction n with
  | zero => omega
  | succ n ih =>
    unfold pwO addT
    rw [getT_put]
    split
    · rfl
    · rename_i hne
      rcases Nat.lt_succ_iff_lt_or_eq.mp h with h | h
      · exact ih h
      · subst h
        exact absurd rfl hne
theorem pwI_get {m : Nat} {w : Int} (k : Nat × Nat) : ∀ (kn : PwT) (f : PwT), (getT f k).isSome = true → (getT (kn.foldl (fun f e => pwO w e f (m - e.1.1 + 1)) f) k).isSome = true
  | [], f, h => h
  | e :: kn, f, h => pwI_get k kn _ (pwO_get w e f k _ h)
theorem pwI_has {m : Nat} {w : Int} {e : (Nat × Nat) × Int} {o : Nat} (ho : o ≤ m - e.1.1) : ∀ (kn : PwT) (f : PwT), e ∈ kn → (getT (kn.foldl (fun f e => pwO w e f (m - e.1.1 + 1)) f) (e.1.1 + o, e.1.2 + trn o)).isSome = true
  | [], f, h => nomatch h
  | a :: kn, f, h => by
    rw [List.foldl_cons]
    rcases List.mem_cons.mp h with rfl | h
    · exact pwI_get _ kn _ (pwO_has w e f (by omega))
    · exact pwI_has ho kn _ h
theorem getT_some_mem {κ α : Type} [DecidableEq κ] {tb : List (κ × α)} {k : κ} (h : (getT tb k).isSome = true) : ∃ v, (k, v) ∈ tb := by
  unfold getT at h
  rw [Option.isSome_map] at h
  obtain ⟨e, he⟩ := Option.isSome_iff_exists.mp h
  have h1 := List.find?_some he
  have h2 := List.mem_of_find?_eq_some he
  have h1 : e.1 = k := of_decide_eq_true h1
  exact ⟨e.2, by rw [← h1]; exact h2⟩
theorem pwF_has (m : Nat) : ∀ (ys : List Int) (kn : PwT), (∃ v, ((0, 0), v) ∈ kn) → (∃ v, ((0, 0), v) ∈ ys.foldl (fun kn w => pwI m w kn) kn) ∧ (ys ≠ [] → ∃ v, ((m, trn m), v) ∈ ys.foldl (fun kn w => pwI m w kn) kn)
  | [], kn, h => ⟨h, fun z => absurd rfl z⟩
  | y :: ys, kn, ⟨v, h⟩ => by
    rw [List.foldl_cons]
    have h0 : ∃ v, ((0, 0), v) ∈ pwI m y kn := getT_some_mem (pwI_has (m := m) (w := y) (e := ((0, 0), v)) (o := 0) (by omega) kn [] h)
    have hm : ∃ v, ((m, trn m), v) ∈ pwI m y kn := by
      have := getT_some_mem (pwI_has (m := m) (w := y) (e := ((0, 0), v)) (o := m) (by show m ≤ m - 0; omega) kn [] h)
      simpa [pwI] using this
    obtain ⟨a, b⟩ := pwF_has m ys (pwI m y kn) h0
    refine ⟨a, fun _ => ?_⟩
    by_cases hy : ys = []
    · subst hy
      exact hm
    · exact b hy
theorem pwR_ne {ys : List Int} (hY : Yr ys) (m : Nat) : ∃ v, (((trn m : Nat) : Int), v) ∈ pwR ys m := by
  have hne : ys ≠ [] := fun z => by have := hY.lo; rw [z] at this; exact absurd this (by decide)
  obtain ⟨v, hv⟩ := (pwF_has m ys [((0, 0), 1)] ⟨1, by simp⟩).2 hne
  exact ⟨v, (srtP_perm _).mem_iff.mpr (List.mem_filterMap.mpr ⟨((m, trn m), v), hv, by simp⟩)⟩
/-- the greatest of the second ones -/
def mx2 (l : List (Int × Int)) : Int := l.foldl (fun a p => max a p.2) (l.headD (0, 0)).2
theorem mx2_aux : ∀ (l : List (Int × Int)) (a : Int), a ≤ l.foldl (fun a p => max a p.2) a ∧ (∀ p ∈ l, p.2 ≤ l.foldl (fun a p => max a p.2) a) ∧ (l.foldl (fun a p => max a p.2) a = a ∨ ∃ p ∈ l, l.foldl (fun a p => max a p.2) a = p.2)
  | [], a => ⟨Int.le_refl _, (fun p hp => nomatch hp), .inl rfl⟩
  | q :: l, a => by
    obtain ⟨h1, h2, h3⟩ := mx2_aux l (max a q.2)
    rw [List.foldl_cons]
    refine ⟨by omega, fun p hp => ?_, ?_⟩
    · rcases List.mem_cons.mp hp with rfl | hp
      · omega
      · exact h2 p hp
    · rcases h3 with h3 | ⟨p, hp, h3⟩
      · by_cases h : a ≤ q.2
        · exact .inr ⟨q, by simp, by omega⟩
        · exact .inl (by omega)
      · exact .inr ⟨p, by simp [hp], h3⟩
theorem mx2_ok {l : List (Int × Int)} (h : l ≠ []) : (∃ p ∈ l, p.2 = mx2 l) ∧ ∀ p ∈ l, p.2 ≤ mx2 l := by
  cases l with
  | nil => exact absurd rfl h
  | cons q l =>
    obtain ⟨h1, h2, h3⟩ := mx2_aux (q :: l) q.2
    refine ⟨?_, h2⟩
    rcases h3 with h3 | ⟨p, hp, h3⟩
    · exact ⟨q, by simp, h3.symm⟩
    · exact ⟨p, hp, h3.symm⟩
def lkP (ys : List Int) (m : Nat) : List Int := (pwR ys m).filterMap fun p => if p.2 = mx2 (pwR ys m) then some p.1 else none
def pre_likeliest_pairs : Pr := fun ss own post => ∃ (ys : List Int) (m : Nat), ss = [.d (li ys), .d (.int (m : Int))] ∧ own = [] ∧ Yr ys ∧ m ≤ 12 ∧ post = fun o => ∃ p, o = .ret (.raw (.ref p)) [(p, .lst ((lkP ys m).map PyData.int))]
theorem fn_likeliest_pairs (T : Tx K mg c) : Fn K mg P w base "likeliest_pairs" ["year", "many"] 4 pre_likeliest_pairs := T.d_likeliest_pairs.fn fun f fd F => okG (k := 3) F sc_likeliest_pairs (by rintro ss own post ⟨ys, m, rfl, _⟩; rfl) (by
  rintro ss own post ⟨ys, m, rfl, rfl, hY, hm, rfl⟩ cdv A outer s H E B g
  refine sds_cons (sd_expr (es_call (fn_check_year T) g (by decide) (ea_cons (ed_v 0) ea_nil) (ok_year hY)) ?_)
  refine sds_cons (sd_expr (es_call (fn_check_many T) g (by decide) (ea_cons (ed_v 1) ea_nil) (ok_many ⟨by omega, by omega⟩)) ?_)
  refine sds_cons (sd_set 2 g.nd (EL.ed (el_call (fn_pair_ways T) g (by decide) (ea_cons (ed_v 0) (ea_cons (ed_v 1) ea_nil)) ⟨ys, m, rfl, rfl, hY, hm, rfl⟩)) ?_)
  have hlen := pwR_len hY hm
  have hne : pwR ys m ≠ [] := by
    obtain ⟨v, hv⟩ := pwR_ne hY m
    exact List.ne_nil_of_mem hv
  obtain ⟨⟨pm, hpm, hpe⟩, hmx⟩ := mx2_ok hne
  refine sds_cons (sd_set 3 g.nd (s := .d (.int (mx2 (pwR ys m)))) (ed_max (ns := (pwR ys m).map (·.2)) g T.n_max (EL.ed (EL.is (ys := ((pwR ys m).map (·.2)).map PyData.int) (el_comp g (compP g (it_list (ed_v 2)) [("pairs", 4), ("ways", 5)] (blkOk_by (N := ["year", "many", "rows", "best", "pairs", "ways"]) (sc := defScope s_likeliest_pairs) (by decide +kernel)) (pwR ys m) pr rfl (fun p => some (.int p.2)) (fun p => [.d (li ys), .d (.int (m : Int)), .d (.list ((pwR ys m).map pr)), .un, .d (.int p.1), .d (.int p.2)]) ([4] ++ [5]) (by simp) hlen (fun _ _ => trivial)
      (fun p _ s H C cl fp g' => gt_tup g'.calm (gts_cons (gt_name 4 g'.nd) (gts_cons (gt_name 5 g'.nd) gts_nil)) rfl) (fun i _ s H C cl fp o g' => ets_nil) (fun p hp z hz s H C cl fp o g' => ?_))) (by rw [List.map_map]; exact congrFun List.filterMap_eq_map' _))) .d (List.mem_map.mpr ⟨pm, hpm, hpe⟩) (fun y hy => ?_)) ?_)
  · cases hz
    exact ed_v 5
  · obtain ⟨p, hp, rfl⟩ := List.mem_map.mp hy
    exact hmx p hp
  refine sds_one (sd_retL (EL.is (el_comp g (compP g (it_list (ed_v 2)) [("pairs", 4), ("ways", 5)] (blkOk_by (N := ["year", "many", "rows", "best", "pairs", "ways"]) (sc := defScope s_likeliest_pairs) (by decide +kernel)) (pwR ys m) pr rfl (fun p => if p.2 = mx2 (pwR ys m) then some (.int p.1) else none) (fun p => [.d (li ys), .d (.int (m : Int)), .d (.list ((pwR ys m).map pr)), .d (.int (mx2 (pwR ys m))), .d (.int p.1), .d (.int p.2)]) ([4] ++ [5]) (by simp) hlen (fun _ _ => trivial)
      (fun p _ s H C cl fp g' => gt_tup g'.calm (gts_cons (gt_name 4 g'.nd) (gts_cons (gt_name 5 g'.nd) gts_nil)) rfl) (fun p _ s H C cl fp o g' => ets_one (ET.is (et_cmp c_eqI (ed_v 5) (ed_v 3)) ?_)) (fun p hp z hz s H C cl fp o g' => ?_))) ?_) fun p => ⟨p, rfl⟩)
  · by_cases h : p.2 = mx2 (pwR ys m)
    · rw [if_pos h, decide_eq_true h]; rfl
    · rw [if_neg h, decide_eq_false h]; rfl
  · split at hz
    · cases hz
      exact ed_v 4
    · cases hz
  · rw [lkP, List.map_filterMap]
    refine fm_congr fun p _ => ?_
    split <;> rfl)
end
end Pg

namespace Pg
open PySem PySem.Spec PyProof.Rows L2 Sd
section
variable {P : Program} {w : World} {K : PySem.W.Frag} {mg : Str → Option Value} {base : Heap} {c : Cl}
def sqs (ys : List Int) : Int := (ys.map fun y => y * y).sum
def pre_mean_pairs : Pr := fun ss own post => ∃ (ys : List Int) (n : Nat), ss = [.d (li ys), .d (.int (n : Int))] ∧ own = [] ∧ Yr ys ∧ n ≤ 12 ∧ post = fun o => o = .ret (.d (fr ((((n : Int) * ((n : Int) - 1) / 2 * sqs ys : Int) : Rat) / ((ys.sum * ys.sum : Int) : Rat)))) []
theorem sqs_hi {ys : List Int} (h : Yr ys) : 0 ≤ sqs ys ∧ sqs ys ≤ 3200 := by
  unfold sqs
  have h1 := sum_le_mul (b := 400) (ys := ys.map fun y => y * y) (fun z hz => by
    obtain ⟨y, hy, rfl⟩ := List.mem_map.mp hz
    have := h.it y hy
    have : y * y ≤ 20 * 20 := Int.mul_le_mul (by omega) (by omega) (by omega) (by omega)
    omega)
  have h2 := sum_ge_mul (b := 0) (ys := ys.map fun y => y * y) (fun z hz => by
    obtain ⟨y, hy, rfl⟩ := List.mem_map.mp hz
    have := h.it y hy
    exact Int.mul_nonneg (by omega) (by omega))
  rw [List.length_map] at h1 h2
  have := h.hi
  omega
theorem fn_mean_pairs (T : Tx K mg c) : Fn K mg P w base "mean_pairs" ["year", "many"] 4 pre_mean_pairs := T.d_mean_pairs.fn fun f fd F => okG (k := 3) F sc_mean_pairs (by rintro ss own post ⟨ys, n, rfl, _⟩; rfl) (by
  rintro ss own post ⟨ys, n, rfl, rfl, hY, hn, rfl⟩ cdv A outer s H E B g
  have hl := hY.hi
  obtain ⟨q1, q2⟩ := sqs_hi hY
  have s1 := hY.sum_lo
  have s2 := hY.sum_hi
  refine sds_cons (sd_expr (es_call (fn_check_year T) g (by decide) (ea_cons (ed_v 0) ea_nil) (ok_year hY)) ?_)
  refine sds_cons (sd_expr (es_call (fn_check_many T) g (by decide) (ea_cons (ed_v 1) ea_nil) (ok_many ⟨by omega, by omega⟩)) ?_)
  refine sds_cons (sd_set 2 g.nd (ed_sum (ns := ys.map fun y => y * y) g T.n_sum (EL.ed (EL.is (el_comp g (compP g (it_list (ed_v 0)) [("weight", 3)] (blkOk_by (N := ["year", "many", "squares", "weight"]) (sc := defScope s_mean_pairs) (by decide +kernel)) ys PyData.int rfl (fun y => some (.int (y * y))) (fun y => [.d (li ys), .d (.int (n : Int)), .un, .d (.int y)]) [3] (by simp) (by omega) (fun _ _ => trivial)
        (fun d _ s H C cl fp g' => gt_name 3 g'.nd) (fun d _ s H C cl fp o g' => ets_nil) (fun y hy x hx s H C cl fp o g' => ?_))) ?_)) .d) ?_)
  · cases hx
    have := hY.it y hy
    exact ed_mulS (ed_v 3) (ed_v 3) (.inl ⟨by omega, by omega⟩)
  · rw [List.map_map]
    exact List.filterMap_eq_map' .. |>.symm ▸ rfl
  have a1 : 0 ≤ (n : Int) * ((n : Int) - 1) / 2 ∧ (n : Int) * ((n : Int) - 1) / 2 ≤ 66 := by
    have : ∀ m : Nat, m ≤ 12 → 0 ≤ (m : Int) * ((m : Int) - 1) / 2 ∧ (m : Int) * ((m : Int) - 1) / 2 ≤ 66 := by decide
    exact this n hn
  refine sds_one (sd_retD (es_call (fn_lowest T) g (by decide) (ea_cons (ed_mulS (ed_fdivS (ed_mulS (ed_v 1) (ed_sub (ed_v 1) ed_int) (.inl ⟨by omega, by omega⟩)) ed_int ⟨by decide, by decide⟩) (ed_v 2) (.inl ⟨by omega, by omega⟩)) (ea_cons (ed_mulS (ed_sum g T.n_sum (ed_v 0) .d) (ed_sum g T.n_sum (ed_v 0) .d) (.inl ⟨by omega, by omega⟩)) ea_nil)) ⟨_, _, rfl, rfl, Int.mul_pos (by omega) (by omega), (hY.szW.mul hY.szW).mono (by decide), rfl⟩) rfl))
end
end Pg

namespace Pg
open PySem PySem.Spec PyProof.Rows L2 Sd
section
variable {P : Program} {w : World} {K : PySem.W.Frag} {mg : Str → Option Value} {base : Heap} {c : Cl}
def musd (ys : List Int) (n : Nat) (l : List Int) : Rat := (l.map fun y => 1 - (((ys.sum - y) ^ n : Int) : Rat) / ((ys.sum ^ n : Int) : Rat)).sum
def pre_mean_used : Pr := fun ss own post => ∃ (ys : List Int) (n : Nat), ss = [.d (li ys), .d (.int (n : Int))] ∧ own = [] ∧ Yr ys ∧ n ≤ 12 ∧ post = fun o => o = .ret (.d (fr (musd ys n ys))) []
theorem musd_take {ys : List Int} {n i : Nat} {y : Int} (h : ys[i]? = some y) : musd ys n (ys.take (i + 1)) = musd ys n (ys.take i) + (1 - (((ys.sum - y) ^ n : Int) : Rat) / ((ys.sum ^ n : Int) : Rat)) := by
  unfold musd
  rw [List.take_add_one, h, List.map_append, List.sum_append]
  simp only [Option.toList_some, List.map_cons, List.map_nil, List.sum_cons, List.sum_nil, Rat.add_zero]
theorem fn_mean_used (T : Tx K mg c) : Fn K mg P w base "mean_used" ["year", "many"] 4 pre_mean_used := T.d_mean_used.fn fun f fd F => okG (k := 3) F sc_mean_used (by rintro ss own post ⟨ys, n, rfl, _⟩; rfl) (by
  rintro ss own post ⟨ys, n, rfl, rfl, hY, hn, rfl⟩ cdv A outer s H E B g
  have hl := hY.hi
  refine sds_cons (sd_expr (es_call (fn_check_year T) g (by decide) (ea_cons (ed_v 0) ea_nil) (ok_year hY)) ?_)
  refine sds_cons (sd_expr (es_call (fn_check_many T) g (by decide) (ea_cons (ed_v 1) ea_nil) (ok_many ⟨by omega, by omega⟩)) ?_)
  refine sds_cons (sd_par 2 3 g (ea_cons (ed_k2 (i := 0) (i' := 1)) (ea_cons (ed_sum g T.n_sum (ed_v 0) .d) ea_nil)) ?_)
  refine sds_cons (sd_for g (it_list (ed_v 0)) (fun i ρ own => own = [] ∧ Sq (200 * i + 1) (musd ys n (ys.take i)) ∧ ∃ t, ρ = [.d (li ys), .d (.int (n : Int)), .d (fr (musd ys n (ys.take i))), .d (.int ys.sum), t]) ⟨rfl, .zero, _, rfl⟩ (fun _ _ _ _ => trivial) ?_ ?_)
  · rintro i y ρ1 own1 hy ⟨rfl, hs, t, rfl⟩
    rw [List.getElem?_map] at hy
    cases ea : ys[i]? with
    | none => rw [ea] at hy; cases hy
    | some y' =>
      rw [ea] at hy
      cases hy
      have hm : y' ∈ ys := List.mem_of_getElem? ea
      have hi := (List.getElem?_eq_some_iff.mp ea).1
      have h1 : Sz 97 ((ys.sum - y') ^ n) := ((hY.szD hm).pow n).mono (by omega)
      have h2 : Sz 97 (ys.sum ^ n) := (hY.szW.pow n).mono (by omega)
      have h3 : Sq 97 ((((ys.sum - y') ^ n : Int) : Rat) / ((ys.sum ^ n : Int) : Rat)) := Sq.of_div (hY.posP n) h1 h2
      have h4 := Sq.one.sub h3
      refine ⟨_, _, gt_name 4 g.nd, sds_one (sd_set 2 g.nd (es_call (fn_plus T) g (by decide) (ea_cons (ed_v 2) (ea_cons (es_call (fn_minus T) g (by decide) (ea_cons (ed_k2 (i := 1) (i' := 1)) (ea_cons (es_call (fn_lowest T) g (by decide) (ea_cons (es_call (fn_power T) g (by decide) (ea_cons (ed_sub (ed_v 3) (ed_v 4)) (ea_cons (ed_v 1) ea_nil)) ⟨_, n, 8, rfl, rfl, hY.szD hm, by omega, by decide, rfl⟩)
        (ea_cons (es_call (fn_power T) g (by decide) (ea_cons (ed_v 3) (ea_cons (ed_v 1) ea_nil)) ⟨_, n, 8, rfl, rfl, hY.szW, by omega, by decide, rfl⟩) ea_nil)) ⟨_, _, rfl, rfl, hY.posP n, h2.mono (by decide), rfl⟩) ea_nil)) ⟨1, _, 1, 97, rfl, rfl, .one, h3, by decide, rfl⟩) ea_nil)) ⟨_, _, _, _, rfl, rfl, hs, h4, by omega, rfl⟩) ?_)⟩
      refine ⟨rfl, ?_, .d (.int y'), ?_⟩
      · rw [musd_take ea]
        exact (hs.add h4).mono (by omega)
      · rw [musd_take ea]
        rfl
  · rintro ρ1 own1 ⟨rfl, hs, t, rfl⟩
    refine sds_one (sd_retD (ed_v 2) ?_)
    rw [List.length_map, List.take_length])
end
end Pg

namespace Pg
open PySem PySem.Spec PyProof.Rows L2 Sd
section
variable {P : Program} {w : World} {K : PySem.W.Frag} {mg : Str → Option Value} {base : Heap} {c : Cl}
def ndaS (ys : List Int) (n : Nat) (l : List Int) : Rat := (l.map fun y => ((y * (ys.sum - y) ^ (n - 1) : Int) : Rat) / ((ys.sum ^ n : Int) : Rat)).sum
def nda (ys : List Int) (n : Nat) : Rat := if n = 0 then 0 else ndaS ys n ys
theorem nda_take {ys : List Int} {n i : Nat} {y : Int} (h : ys[i]? = some y) : ndaS ys n (ys.take (i + 1)) = ndaS ys n (ys.take i) + ((y * (ys.sum - y) ^ (n - 1) : Int) : Rat) / ((ys.sum ^ n : Int) : Rat) := by
  unfold ndaS
  rw [List.take_add_one, h, List.map_append, List.sum_append]
  simp only [Option.toList_some, List.map_cons, List.map_nil, List.sum_cons, List.sum_nil, Rat.add_zero]
def pre_new_day_at : Pr := fun ss own post => ∃ (ys : List Int) (n : Nat), ss = [.d (li ys), .d (.int (n : Int))] ∧ own = [] ∧ Yr ys ∧ n ≤ 12 ∧ post = fun o => o = .ret (.d (fr (nda ys n))) []
theorem nda_term {ys : List Int} (hY : Yr ys) {n : Nat} (hn : n ≤ 12) {y : Int} (hm : y ∈ ys) : Sq 110 (((y * (ys.sum - y) ^ (n - 1) : Int) : Rat) / ((ys.sum ^ n : Int) : Rat)) :=
  Sq.of_div (hY.posP n) (((hY.szy hm).mul ((hY.szD hm).pow (n - 1))).mono (by omega)) ((hY.szW.pow n).mono (by omega))
theorem nda_sqI {ys : List Int} (hY : Yr ys) {n : Nat} (hn : n ≤ 12) : ∀ i, i ≤ ys.length → Sq (200 * i + 1) (ndaS ys n (ys.take i))
  | 0, _ => .zero
  | i + 1, hi => by
    have hlt : i < ys.length := by omega
    rw [nda_take (List.getElem?_eq_getElem hlt)]
    exact ((nda_sqI hY hn i (by omega)).add (nda_term hY hn (List.getElem_mem hlt))).mono (by omega)
theorem fn_new_day_at (T : Tx K mg c) : Fn K mg P w base "new_day_at" ["year", "many"] 4 pre_new_day_at := T.d_new_day_at.fn fun f fd F => okG (k := 3) F sc_new_day_at (by rintro ss own post ⟨ys, n, rfl, _⟩; rfl) (by
  rintro ss own post ⟨ys, n, rfl, rfl, hY, hn, rfl⟩ cdv A outer s H E B g
  have hl := hY.hi
  refine sds_cons (sd_expr (es_call (fn_check_year T) g (by decide) (ea_cons (ed_v 0) ea_nil) (ok_year hY)) ?_)
  refine sds_cons (sd_expr (es_call (fn_check_many T) g (by decide) (ea_cons (ed_v 1) ea_nil) (ok_many ⟨by omega, by omega⟩)) ?_)
  refine sds_cons (sd_par 2 3 g (ea_cons (ed_k2 (i := 0) (i' := 1)) (ea_cons (ed_sum g T.n_sum (ed_v 0) .d) ea_nil)) ?_)
  refine sds_cons (sd_if (et_cmp c_eqI (ed_v 1) ed_int) (fun h => ?_) fun h => sds_nil ?_)
  · have h : n = 0 := by simpa using h
    refine sds_one (sd_retD (ed_v 2) ?_)
    rw [nda, if_pos h, fr_zero]
  have h0 : n ≠ 0 := by simpa using h
  refine sds_cons (sd_for g (it_list (ed_v 0)) (fun i ρ own => own = [] ∧ ∃ t, ρ = [.d (li ys), .d (.int (n : Int)), .d (fr (ndaS ys n (ys.take i))), .d (.int ys.sum), t]) ⟨rfl, _, rfl⟩ (fun _ _ _ _ => trivial) ?_ ?_)
  · rintro i y ρ1 own1 hy ⟨rfl, t, rfl⟩
    rw [List.getElem?_map] at hy
    cases ea : ys[i]? with
    | none => rw [ea] at hy; cases hy
    | some y' =>
      rw [ea] at hy
      cases hy
      have hm : y' ∈ ys := List.mem_of_getElem? ea
      have hi := (List.getElem?_eq_some_iff.mp ea).1
      have h1 : Sz 97 ((ys.sum - y') ^ (n - 1)) := ((hY.szD hm).pow (n - 1)).mono (by omega)
      have h2 : Sz 97 (ys.sum ^ n) := (hY.szW.pow n).mono (by omega)
      refine ⟨_, _, gt_name 4 g.nd, sds_one (sd_set 2 g.nd (es_call (fn_plus T) g (by decide) (ea_cons (ed_v 2) (ea_cons (es_call (fn_lowest T) g (by decide) (ea_cons (ed_mul (ed_v 4) (es_call (fn_power T) g (by decide) (ea_cons (ed_sub (ed_v 3) (ed_v 4)) (ea_cons (ES.is (y := .int ((n - 1 : Nat) : Int)) (ed_sub (ed_v 1) ed_int) (by rw [show ((n - 1 : Nat) : Int) = (n : Int) - 1 by omega])) ea_nil)) ⟨_, n - 1, 8, rfl, rfl, hY.szD hm, by omega, by decide, rfl⟩) (cmul_of (hY.szy hm) h1 (by decide)))
        (ea_cons (es_call (fn_power T) g (by decide) (ea_cons (ed_v 3) (ea_cons (ed_v 1) ea_nil)) ⟨_, n, 8, rfl, rfl, hY.szW, by omega, by decide, rfl⟩) ea_nil)) ⟨_, _, rfl, rfl, hY.posP n, h2.mono (by decide), rfl⟩) ea_nil)) ⟨_, _, _, _, rfl, rfl, nda_sqI hY hn i (by omega), nda_term hY hn hm, by omega, rfl⟩) ?_)⟩
      exact ⟨rfl, .d (.int y'), by rw [nda_take ea]; rfl⟩
  · rintro ρ1 own1 ⟨rfl, t, rfl⟩
    refine sds_one (sd_retD (ed_v 2) ?_)
    rw [List.length_map, List.take_length, nda, if_neg h0])
end
end Pg

namespace Pg
open PySem PySem.Spec PyProof.Rows L2 Sd
section
variable {P : Program} {w : World} {K : PySem.W.Frag} {mg : Str → Option Value} {base : Heap} {c : Cl}
def pre_some_same : Pr := fun ss own post => ∃ (ys : List Int) (n : Nat), ss = [.d (li ys), .d (.int (n : Int))] ∧ own = [] ∧ Yr ys ∧ n ≤ 12 ∧ post = fun o => o = .ret (.d (fr (1 - unl ys n))) []
theorem fn_some_same (T : Tx K mg c) : Fn K mg P w base "some_same" ["year", "many"] 4 pre_some_same := T.d_some_same.fn fun f fd F => okG (k := 3) F sc_some_same (by rintro ss own post ⟨ys, n, rfl, _⟩; rfl) (by
  rintro ss own post ⟨ys, n, rfl, rfl, hY, hn, rfl⟩ cdv A outer s H E B g
  refine sds_cons (sd_expr (es_call (fn_check_year T) g (by decide) (ea_cons (ed_v 0) ea_nil) (ok_year hY)) ?_)
  refine sds_cons (sd_expr (es_call (fn_check_many T) g (by decide) (ea_cons (ed_v 1) ea_nil) (ok_many ⟨by omega, by omega⟩)) ?_)
  exact sds_one (sd_retD (es_call (fn_minus T) g (by decide) (ea_cons (ed_k2 (i := 1) (i' := 1)) (ea_cons (es_call (fn_unlike_of T) g (by decide) (ea_cons (ed_v 0) (ea_cons (ed_v 1) ea_nil)) ⟨ys, n, rfl, rfl, hY, hn, rfl⟩) ea_nil)) ⟨1, _, 1, 200, rfl, rfl, .one, unl_sq hY hn, by decide, rfl⟩) rfl))
end
end Pg

namespace Pg
open PySem PySem.Spec PyProof.Rows L2 Sd
section
variable {P : Program} {w : World} {K : PySem.W.Frag} {mg : Str → Option Value} {base : Heap} {c : Cl}
def pre_used_chances : Pr := fun ss own post => ∃ (ys : List Int) (m : Nat), ss = [.d (li ys), .d (.int (m : Int))] ∧ own = [] ∧ Yr ys ∧ m ≤ 12 ∧ post = fun o => ∃ p, o = .ret (.raw (.ref p)) [(p, .lst (((List.range (ys.length + 1)).map (usd ys m)).map fr))]
theorem fn_used_chances (T : Tx K mg c) : Fn K mg P w base "used_chances" ["year", "many"] 4 pre_used_chances := T.d_used_chances.fn fun f fd F => okG (k := 3) F sc_used_chances (by rintro ss own post ⟨ys, m, rfl, _⟩; rfl) (by
  rintro ss own post ⟨ys, m, rfl, rfl, hY, hm, rfl⟩ cdv A outer s H E B g
  have hl := hY.hi
  refine sds_cons (sd_expr (es_call (fn_check_year T) g (by decide) (ea_cons (ed_v 0) ea_nil) (ok_year hY)) ?_)
  refine sds_cons (sd_expr (es_call (fn_check_many T) g (by decide) (ea_cons (ed_v 1) ea_nil) (ok_many ⟨by omega, by omega⟩)) ?_)
  have h2 : Sz 97 (ys.sum ^ m) := (hY.szW.pow m).mono (by omega)
  refine sds_one (sd_retL (EL.is (el_comp g (compP g (it_list (EL.ed (el_call (fn_used_ways T) g (by decide) (ea_cons (ed_v 0) (ea_cons (ed_v 1) ea_nil)) ⟨ys, m, rfl, rfl, hY, hm, rfl⟩))) [("ways", 2)] (blkOk_by (N := ["year", "many", "ways"]) (sc := defScope s_used_chances) (by decide +kernel)) (List.range (ys.length + 1)) (fun k => PyData.int (uwF ys k m)) rfl (fun k => some (fr (usd ys m k))) (fun k => [.d (li ys), .d (.int (m : Int)), .d (.int (uwF ys k m))]) [2] (by simp) (by rw [List.length_range]; omega) (fun _ _ => trivial)
      (fun i _ s H C cl fp g' => gt_name 2 g'.nd) (fun i _ s H C cl fp o g' => ets_nil) (fun i hi z hz s H C cl fp o g' => ?_))) ?_) fun p => ⟨p, rfl⟩)
  · cases hz
    exact es_call (fn_lowest T) g' (by decide) (ea_cons (ed_v 2) (ea_cons (es_call (fn_power T) g' (by decide) (ea_cons (ed_sum g' T.n_sum (ed_v 0) .d) (ea_cons (ed_v 1) ea_nil)) ⟨_, m, 8, rfl, rfl, hY.szW, by omega, by decide, rfl⟩) ea_nil)) ⟨_, _, rfl, rfl, hY.posP m, h2.mono (by decide), rfl⟩
  · rw [List.map_map]
    exact congrFun List.filterMap_eq_map' _)
end
end Pg

namespace Pg
open PySem PySem.Spec PyProof.Rows L2 Sd
section
variable {P : Program} {w : World} {K : PySem.W.Frag} {mg : Str → Option Value} {base : Heap} {c : Cl}
inductive Ask2 : Int → PyData → PyData → Nat → Prop
  | y0 {x y : PyData} (h : isYear x = false) : Ask2 0 x y 0
  | n0 (ys : List Int) (hY : Yr ys) {y : PyData} (h : Sd.isInt y 0 12 = false) : Ask2 0 (li ys) y 2
  | o0 (ys : List Int) (hY : Yr ys) (m : Nat) (hm : m ≤ 12) : Ask2 0 (li ys) (.int (m : Int)) 6
  | y1 {x y : PyData} (h : isYear x = false) : Ask2 1 x y 0
  | n1 (ys : List Int) (hY : Yr ys) {y : PyData} (h : Sd.isInt y 0 12 = false) : Ask2 1 (li ys) y 2
  | o1 (ys : List Int) (hY : Yr ys) (m : Nat) (hm : m ≤ 12) : Ask2 1 (li ys) (.int (m : Int)) 6
  | y2 {x y : PyData} (h : isYear x = false) : Ask2 2 x y 0
  | n2 (ys : List Int) (hY : Yr ys) {y : PyData} (h : Sd.isInt y 0 12 = false) : Ask2 2 (li ys) y 2
  | o2 (ys : List Int) (hY : Yr ys) (m : Nat) (hm : m ≤ 12) : Ask2 2 (li ys) (.int (m : Int)) 6
  | y3 {x y : PyData} (h : isYear x = false) : Ask2 3 x y 0
  | n3 (ys : List Int) (hY : Yr ys) {y : PyData} (h : Sd.isInt y 0 12 = false) : Ask2 3 (li ys) y 2
  | o3 (ys : List Int) (hY : Yr ys) (m : Nat) (hm : m ≤ 12) : Ask2 3 (li ys) (.int (m : Int)) 6
  | y4 {x y : PyData} (h : isYear x = false) : Ask2 4 x y 0
  | n4 (ys : List Int) (hY : Yr ys) {y : PyData} (h : Sd.isInt y 0 12 = false) : Ask2 4 (li ys) y 2
  | o4 (ys : List Int) (hY : Yr ys) (m : Nat) (hm : m ≤ 12) : Ask2 4 (li ys) (.int (m : Int)) 6
  | y5 {x y : PyData} (h : isYear x = false) : Ask2 5 x y 0
  | n5 (ys : List Int) (hY : Yr ys) {y : PyData} (h : Sd.isInt y 0 12 = false) : Ask2 5 (li ys) y 2
  | o5 (ys : List Int) (hY : Yr ys) (m : Nat) (hm : m ≤ 12) : Ask2 5 (li ys) (.int (m : Int)) 6
  | y6 {x y : PyData} (h : isYear x = false) : Ask2 6 x y 0
  | n6 (ys : List Int) (hY : Yr ys) {y : PyData} (h : Sd.isInt y 0 12 = false) : Ask2 6 (li ys) y 2
  | o6 (ys : List Int) (hY : Yr ys) (m : Nat) (hm : m ≤ 12) : Ask2 6 (li ys) (.int (m : Int)) 6
  | y7 {x y : PyData} (h : isYear x = false) : Ask2 7 x y 0
  | n7 (ys : List Int) (hY : Yr ys) {y : PyData} (h : Sd.isInt y 0 12 = false) : Ask2 7 (li ys) y 2
  | o7 (ys : List Int) (hY : Yr ys) (m : Nat) (hm : m ≤ 12) : Ask2 7 (li ys) (.int (m : Int)) 6
  | y8 {x y : PyData} (h : isYear x = false) : Ask2 8 x y 0
  | n8 (ys : List Int) (hY : Yr ys) {y : PyData} (h : Sd.isInt y 0 12 = false) : Ask2 8 (li ys) y 2
  | o8 (ys : List Int) (hY : Yr ys) (m : Nat) (hm : m ≤ 12) : Ask2 8 (li ys) (.int (m : Int)) 6
  | y9 {x y : PyData} (h : isYear x = false) : Ask2 9 x y 0
  | n9 (ys : List Int) (hY : Yr ys) {y : PyData} (h : Sd.isInt y 0 12 = false) : Ask2 9 (li ys) y 2
  | o9 (ys : List Int) (hY : Yr ys) (m : Nat) (hm : m ≤ 12) : Ask2 9 (li ys) (.int (m : Int)) 6
  | y10 {x y : PyData} (h : isYear x = false) : Ask2 10 x y 0
  | n10 (ys : List Int) (hY : Yr ys) {y : PyData} (h : Sd.isInt y 0 12 = false) : Ask2 10 (li ys) y 2
  | o10 (ys : List Int) (hY : Yr ys) (m : Nat) (hm : m ≤ 12) : Ask2 10 (li ys) (.int (m : Int)) 6
  | y11 {x y : PyData} (h : isYear x = false) : Ask2 11 x y 0
  | n11 (ys : List Int) (hY : Yr ys) {y : PyData} (h : Sd.isInt y 0 12 = false) : Ask2 11 (li ys) y 2
  | o11 (ys : List Int) (hY : Yr ys) (m : Nat) (hm : m ≤ 12) : Ask2 11 (li ys) (.int (m : Int)) 6
  | y12 {x y : PyData} (h : isYear x = false) : Ask2 12 x y 0
  | n12 (ys : List Int) (hY : Yr ys) {y : PyData} (h : Sd.isInt y 0 12 = false) : Ask2 12 (li ys) y 2
  | o12 (ys : List Int) (hY : Yr ys) (m : Nat) (hm : m ≤ 12) : Ask2 12 (li ys) (.int (m : Int)) 6
  | y13 {x y : PyData} (h : isYear x = false) : Ask2 13 x y 0
  | n13 (ys : List Int) (hY : Yr ys) {y : PyData} (h : Sd.isInt y 0 12 = false) : Ask2 13 (li ys) y 2
  | o13 (ys : List Int) (hY : Yr ys) (m : Nat) (hm : m ≤ 12) : Ask2 13 (li ys) (.int (m : Int)) 6
  | y14 {x y : PyData} (h : isYear x = false) : Ask2 14 x y 0
  | n14 (ys : List Int) (hY : Yr ys) {y : PyData} (h : Sd.isInt y 0 12 = false) : Ask2 14 (li ys) y 2
  | o14 (ys : List Int) (hY : Yr ys) (m : Nat) (hm : m ≤ 12) : Ask2 14 (li ys) (.int (m : Int)) 6
  | y15 {x y : PyData} (h : isYear x = false) : Ask2 15 x y 0
  | n15 (ys : List Int) (hY : Yr ys) {y : PyData} (h : Sd.isInt y 0 12 = false) : Ask2 15 (li ys) y 2
  | o15 (ys : List Int) (hY : Yr ys) (m : Nat) (hm : m ≤ 12) : Ask2 15 (li ys) (.int (m : Int)) 6
  | y16 {x y : PyData} (h : isYear x = false) : Ask2 16 x y 0
  | n16 (ys : List Int) (hY : Yr ys) {y : PyData} (h : Sd.isInt y 0 12 = false) : Ask2 16 (li ys) y 2
  | o16 (ys : List Int) (hY : Yr ys) (m : Nat) (hm : m ≤ 12) : Ask2 16 (li ys) (.int (m : Int)) 6
theorem ask2_bad {x y : PyData} (h : isYear x = false) : ∀ k : Nat, k < 17 → Ask2 (k : Int) x y 0
  | 0, _ => .y0 h
  | 1, _ => .y1 h
  | 2, _ => .y2 h
  | 3, _ => .y3 h
  | 4, _ => .y4 h
  | 5, _ => .y5 h
  | 6, _ => .y6 h
  | 7, _ => .y7 h
  | 8, _ => .y8 h
  | 9, _ => .y9 h
  | 10, _ => .y10 h
  | 11, _ => .y11 h
  | 12, _ => .y12 h
  | 13, _ => .y13 h
  | 14, _ => .y14 h
  | 15, _ => .y15 h
  | 16, _ => .y16 h
  | k + 17, h => by omega
theorem ask2_num {ys : List Int} (hY : Yr ys) {y : PyData} (h : Sd.isInt y 0 12 = false) : ∀ k : Nat, k < 17 → Ask2 (k : Int) (li ys) y 2
  | 0, _ => .n0 ys hY h
  | 1, _ => .n1 ys hY h
  | 2, _ => .n2 ys hY h
  | 3, _ => .n3 ys hY h
  | 4, _ => .n4 ys hY h
  | 5, _ => .n5 ys hY h
  | 6, _ => .n6 ys hY h
  | 7, _ => .n7 ys hY h
  | 8, _ => .n8 ys hY h
  | 9, _ => .n9 ys hY h
  | 10, _ => .n10 ys hY h
  | 11, _ => .n11 ys hY h
  | 12, _ => .n12 ys hY h
  | 13, _ => .n13 ys hY h
  | 14, _ => .n14 ys hY h
  | 15, _ => .n15 ys hY h
  | 16, _ => .n16 ys hY h
  | k + 17, h => by omega
theorem ask2_ok {ys : List Int} (hY : Yr ys) {m : Nat} (hm : m ≤ 12) : ∀ k : Nat, k < 17 → Ask2 (k : Int) (li ys) (.int (m : Int)) 6
  | 0, _ => .o0 ys hY m hm
  | 1, _ => .o1 ys hY m hm
  | 2, _ => .o2 ys hY m hm
  | 3, _ => .o3 ys hY m hm
  | 4, _ => .o4 ys hY m hm
  | 5, _ => .o5 ys hY m hm
  | 6, _ => .o6 ys hY m hm
  | 7, _ => .o7 ys hY m hm
  | 8, _ => .o8 ys hY m hm
  | 9, _ => .o9 ys hY m hm
  | 10, _ => .o10 ys hY m hm
  | 11, _ => .o11 ys hY m hm
  | 12, _ => .o12 ys hY m hm
  | 13, _ => .o13 ys hY m hm
  | 14, _ => .o14 ys hY m hm
  | 15, _ => .o15 ys hY m hm
  | 16, _ => .o16 ys hY m hm
  | k + 17, h => by omega
def pre_law_numbered (c : Cl) : Pr := fun ss own post => ∃ (wh : Int) (x y : PyData) (i : Nat), ss = [.d (.int wh), .d x, .d y] ∧ own = [] ∧ Ask2 wh x y i ∧ post = askO c i
theorem fn_law_numbered (T : Tx K mg c) : Fn K mg P w base "_law_numbered" ["which", "year", "many"] 6 (pre_law_numbered c) := T.d_law_numbered.fn fun f fd F => okG (k := 5) F sc_law_numbered (by rintro ss own post ⟨wh, x, y, i, rfl, _⟩; rfl) (by
  rintro ss own post ⟨wh, x, y, i, rfl, rfl, hA, rfl⟩ cdv A outer s H E B g
  cases hA with
  | y0 h =>
    refine sds_cons (sd_if (l := true) (ET.is (et_cmp c_eqI (ed_v 0) ed_int) rfl) (fun _ => sds_one (sd_retX (ex_call (fy_all_unlike T) g (by decide) (ea_cons (ed_v 1) (ea_cons (ed_v 2) ea_nil)) ⟨x, _, rfl, rfl, rfl, h, rfl⟩ ⟨_, rfl⟩))) fun h => nomatch h)
  | n0 ys hY h =>
    refine sds_cons (sd_if (l := true) (ET.is (et_cmp c_eqI (ed_v 0) ed_int) rfl) (fun _ => sds_one (sd_retX (ex_call (fm_all_unlike T) g (by decide) (ea_cons (ed_v 1) (ea_cons (ed_v 2) ea_nil)) ⟨ys, y, _, rfl, rfl, rfl, hY, h, rfl⟩ ⟨_, rfl⟩))) fun h => nomatch h)
  | o0 ys hY m hm =>
    refine sds_cons (sd_if (l := true) (ET.is (et_cmp c_eqI (ed_v 0) ed_int) rfl) (fun _ => sds_one (sd_ret (es_call (fn_all_unlike T) g (by decide) (ea_cons (ed_v 1) (ea_cons (ed_v 2) ea_nil)) ⟨ys, m, rfl, rfl, hY, hm, rfl⟩) (fun z => nomatch z) ⟨_, _, rfl⟩)) fun h => nomatch h)
  | y1 h =>
    refine sds_cons (sd_ifF (ET.is (et_cmp c_eqI (ed_v 0) ed_int) rfl) ?_)
    refine sds_cons (sd_if (l := true) (ET.is (et_cmp c_eqI (ed_v 0) ed_int) rfl) (fun _ => sds_one (sd_retX (ex_call (fy_some_same T) g (by decide) (ea_cons (ed_v 1) (ea_cons (ed_v 2) ea_nil)) ⟨x, _, rfl, rfl, rfl, h, rfl⟩ ⟨_, rfl⟩))) fun h => nomatch h)
  | n1 ys hY h =>
    refine sds_cons (sd_ifF (ET.is (et_cmp c_eqI (ed_v 0) ed_int) rfl) ?_)
    refine sds_cons (sd_if (l := true) (ET.is (et_cmp c_eqI (ed_v 0) ed_int) rfl) (fun _ => sds_one (sd_retX (ex_call (fm_some_same T) g (by decide) (ea_cons (ed_v 1) (ea_cons (ed_v 2) ea_nil)) ⟨ys, y, _, rfl, rfl, rfl, hY, h, rfl⟩ ⟨_, rfl⟩))) fun h => nomatch h)
  | o1 ys hY m hm =>
    refine sds_cons (sd_ifF (ET.is (et_cmp c_eqI (ed_v 0) ed_int) rfl) ?_)
    refine sds_cons (sd_if (l := true) (ET.is (et_cmp c_eqI (ed_v 0) ed_int) rfl) (fun _ => sds_one (sd_ret (es_call (fn_some_same T) g (by decide) (ea_cons (ed_v 1) (ea_cons (ed_v 2) ea_nil)) ⟨ys, m, rfl, rfl, hY, hm, rfl⟩) (fun z => nomatch z) ⟨_, _, rfl⟩)) fun h => nomatch h)
  | y2 h =>
    refine sds_skip (z := "which") (fun p => ed_v 0) 2 _ (by decide +kernel) ?_
    refine sds_cons (sd_if (l := true) (ET.is (et_cmp c_eqI (ed_v 0) ed_int) rfl) (fun _ => sds_one (sd_retX (ex_call (fy_first_same_at T) g (by decide) (ea_cons (ed_v 1) (ea_cons (ed_v 2) ea_nil)) ⟨x, _, rfl, rfl, rfl, h, rfl⟩ ⟨_, rfl⟩))) fun h => nomatch h)
  | n2 ys hY h =>
    refine sds_skip (z := "which") (fun p => ed_v 0) 2 _ (by decide +kernel) ?_
    refine sds_cons (sd_if (l := true) (ET.is (et_cmp c_eqI (ed_v 0) ed_int) rfl) (fun _ => sds_one (sd_retX (ex_call (fm_first_same_at T) g (by decide) (ea_cons (ed_v 1) (ea_cons (ed_v 2) ea_nil)) ⟨ys, y, _, rfl, rfl, rfl, hY, h, rfl⟩ ⟨_, rfl⟩))) fun h => nomatch h)
  | o2 ys hY m hm =>
    refine sds_skip (z := "which") (fun p => ed_v 0) 2 _ (by decide +kernel) ?_
    refine sds_cons (sd_if (l := true) (ET.is (et_cmp c_eqI (ed_v 0) ed_int) rfl) (fun _ => sds_one (sd_ret (es_call (fn_first_same_at T) g (by decide) (ea_cons (ed_v 1) (ea_cons (ed_v 2) ea_nil)) ⟨ys, m, rfl, rfl, hY, hm, rfl⟩) (fun z => nomatch z) ⟨_, _, rfl⟩)) fun h => nomatch h)
  | y3 h =>
    refine sds_skip (z := "which") (fun p => ed_v 0) 3 _ (by decide +kernel) ?_
    refine sds_cons (sd_if (l := true) (ET.is (et_cmp c_eqI (ed_v 0) ed_int) rfl) (fun _ => sds_one (sd_retX (ex_call (fy_crowd_at_most T) g (by decide) (ea_cons (ed_v 1) (ea_cons (ed_v 2) (ea_cons ed_int ea_nil))) ⟨x, _, rfl, rfl, rfl, h, rfl⟩ ⟨_, rfl⟩))) fun h => nomatch h)
  | n3 ys hY h =>
    refine sds_skip (z := "which") (fun p => ed_v 0) 3 _ (by decide +kernel) ?_
    refine sds_cons (sd_if (l := true) (ET.is (et_cmp c_eqI (ed_v 0) ed_int) rfl) (fun _ => sds_one (sd_retX (ex_call (fm_crowd_at_most T) g (by decide) (ea_cons (ed_v 1) (ea_cons (ed_v 2) (ea_cons ed_int ea_nil))) ⟨ys, y, _, rfl, rfl, rfl, hY, h, rfl⟩ ⟨_, rfl⟩))) fun h => nomatch h)
  | o3 ys hY m hm =>
    refine sds_skip (z := "which") (fun p => ed_v 0) 3 _ (by decide +kernel) ?_
    refine sds_cons (sd_if (l := true) (ET.is (et_cmp c_eqI (ed_v 0) ed_int) rfl) (fun _ => sds_one (sd_ret (es_call (fn_crowd_at_most T) g (by decide) (ea_cons (ed_v 1) (ea_cons (ed_v 2) (ea_cons ed_int ea_nil))) ⟨ys, m, 1, rfl, rfl, hY, hm, by decide, rfl⟩) (fun z => nomatch z) ⟨_, _, rfl⟩)) fun h => nomatch h)
  | y4 h =>
    refine sds_skip (z := "which") (fun p => ed_v 0) 4 _ (by decide +kernel) ?_
    refine sds_cons (sd_if (l := true) (ET.is (et_cmp c_eqI (ed_v 0) ed_int) rfl) (fun _ => sds_one (sd_retX (ex_call (fy_crowds T) g (by decide) (ea_cons (ed_v 1) (ea_cons (ed_v 2) ea_nil)) ⟨x, _, rfl, rfl, rfl, h, rfl⟩ ⟨_, rfl⟩))) fun h => nomatch h)
  | n4 ys hY h =>
    refine sds_skip (z := "which") (fun p => ed_v 0) 4 _ (by decide +kernel) ?_
    refine sds_cons (sd_if (l := true) (ET.is (et_cmp c_eqI (ed_v 0) ed_int) rfl) (fun _ => sds_one (sd_retX (ex_call (fm_crowds T) g (by decide) (ea_cons (ed_v 1) (ea_cons (ed_v 2) ea_nil)) ⟨ys, y, _, rfl, rfl, rfl, hY, h, rfl⟩ ⟨_, rfl⟩))) fun h => nomatch h)
  | o4 ys hY m hm =>
    refine sds_skip (z := "which") (fun p => ed_v 0) 4 _ (by decide +kernel) ?_
    refine sds_cons (sd_if (l := true) (ET.is (et_cmp c_eqI (ed_v 0) ed_int) rfl) (fun _ => sds_one (sd_retL (el_call (fn_crowds T) g (by decide) (ea_cons (ed_v 1) (ea_cons (ed_v 2) ea_nil)) ⟨ys, m, rfl, rfl, hY, hm, rfl⟩) fun p => ⟨_, _, rfl⟩)) fun h => nomatch h)
  | y5 h =>
    refine sds_skip (z := "which") (fun p => ed_v 0) 5 _ (by decide +kernel) ?_
    refine sds_cons (sd_if (l := true) (ET.is (et_cmp c_eqI (ed_v 0) ed_int) rfl) (fun _ => sds_one (sd_retX (ex_call (fy_pair_chances T) g (by decide) (ea_cons (ed_v 1) (ea_cons (ed_v 2) ea_nil)) ⟨x, _, rfl, rfl, rfl, h, rfl⟩ ⟨_, rfl⟩))) fun h => nomatch h)
  | n5 ys hY h =>
    refine sds_skip (z := "which") (fun p => ed_v 0) 5 _ (by decide +kernel) ?_
    refine sds_cons (sd_if (l := true) (ET.is (et_cmp c_eqI (ed_v 0) ed_int) rfl) (fun _ => sds_one (sd_retX (ex_call (fm_pair_chances T) g (by decide) (ea_cons (ed_v 1) (ea_cons (ed_v 2) ea_nil)) ⟨ys, y, _, rfl, rfl, rfl, hY, h, rfl⟩ ⟨_, rfl⟩))) fun h => nomatch h)
  | o5 ys hY m hm =>
    refine sds_skip (z := "which") (fun p => ed_v 0) 5 _ (by decide +kernel) ?_
    refine sds_cons (sd_if (l := true) (ET.is (et_cmp c_eqI (ed_v 0) ed_int) rfl) (fun _ => sds_one (sd_retL (el_call (fn_pair_chances T) g (by decide) (ea_cons (ed_v 1) (ea_cons (ed_v 2) ea_nil)) ⟨ys, m, rfl, rfl, hY, hm, rfl⟩) fun p => ⟨_, _, rfl⟩)) fun h => nomatch h)
  | y6 h =>
    refine sds_skip (z := "which") (fun p => ed_v 0) 6 _ (by decide +kernel) ?_
    refine sds_cons (sd_if (l := true) (ET.is (et_cmp c_eqI (ed_v 0) ed_int) rfl) (fun _ => sds_one (sd_retX (ex_call (fy_mean_pairs T) g (by decide) (ea_cons (ed_v 1) (ea_cons (ed_v 2) ea_nil)) ⟨x, _, rfl, rfl, rfl, h, rfl⟩ ⟨_, rfl⟩))) fun h => nomatch h)
  | n6 ys hY h =>
    refine sds_skip (z := "which") (fun p => ed_v 0) 6 _ (by decide +kernel) ?_
    refine sds_cons (sd_if (l := true) (ET.is (et_cmp c_eqI (ed_v 0) ed_int) rfl) (fun _ => sds_one (sd_retX (ex_call (fm_mean_pairs T) g (by decide) (ea_cons (ed_v 1) (ea_cons (ed_v 2) ea_nil)) ⟨ys, y, _, rfl, rfl, rfl, hY, h, rfl⟩ ⟨_, rfl⟩))) fun h => nomatch h)
  | o6 ys hY m hm =>
    refine sds_skip (z := "which") (fun p => ed_v 0) 6 _ (by decide +kernel) ?_
    refine sds_cons (sd_if (l := true) (ET.is (et_cmp c_eqI (ed_v 0) ed_int) rfl) (fun _ => sds_one (sd_ret (es_call (fn_mean_pairs T) g (by decide) (ea_cons (ed_v 1) (ea_cons (ed_v 2) ea_nil)) ⟨ys, m, rfl, rfl, hY, hm, rfl⟩) (fun z => nomatch z) ⟨_, _, rfl⟩)) fun h => nomatch h)
  | y7 h =>
    refine sds_skip (z := "which") (fun p => ed_v 0) 7 _ (by decide +kernel) ?_
    refine sds_cons (sd_if (l := true) (ET.is (et_cmp c_eqI (ed_v 0) ed_int) rfl) (fun _ => sds_one (sd_retX (ex_call (fy_likeliest_pairs T) g (by decide) (ea_cons (ed_v 1) (ea_cons (ed_v 2) ea_nil)) ⟨x, _, rfl, rfl, rfl, h, rfl⟩ ⟨_, rfl⟩))) fun h => nomatch h)
  | n7 ys hY h =>
    refine sds_skip (z := "which") (fun p => ed_v 0) 7 _ (by decide +kernel) ?_
    refine sds_cons (sd_if (l := true) (ET.is (et_cmp c_eqI (ed_v 0) ed_int) rfl) (fun _ => sds_one (sd_retX (ex_call (fm_likeliest_pairs T) g (by decide) (ea_cons (ed_v 1) (ea_cons (ed_v 2) ea_nil)) ⟨ys, y, _, rfl, rfl, rfl, hY, h, rfl⟩ ⟨_, rfl⟩))) fun h => nomatch h)
  | o7 ys hY m hm =>
    refine sds_skip (z := "which") (fun p => ed_v 0) 7 _ (by decide +kernel) ?_
    refine sds_cons (sd_if (l := true) (ET.is (et_cmp c_eqI (ed_v 0) ed_int) rfl) (fun _ => sds_one (sd_retL (el_call (fn_likeliest_pairs T) g (by decide) (ea_cons (ed_v 1) (ea_cons (ed_v 2) ea_nil)) ⟨ys, m, rfl, rfl, hY, hm, rfl⟩) fun p => ⟨_, _, rfl⟩)) fun h => nomatch h)
  | y8 h =>
    refine sds_skip (z := "which") (fun p => ed_v 0) 8 _ (by decide +kernel) ?_
    refine sds_cons (sd_if (l := true) (ET.is (et_cmp c_eqI (ed_v 0) ed_int) rfl) (fun _ => sds_one (sd_retX (ex_call (fy_used_chances T) g (by decide) (ea_cons (ed_v 1) (ea_cons (ed_v 2) ea_nil)) ⟨x, _, rfl, rfl, rfl, h, rfl⟩ ⟨_, rfl⟩))) fun h => nomatch h)
  | n8 ys hY h =>
    refine sds_skip (z := "which") (fun p => ed_v 0) 8 _ (by decide +kernel) ?_
    refine sds_cons (sd_if (l := true) (ET.is (et_cmp c_eqI (ed_v 0) ed_int) rfl) (fun _ => sds_one (sd_retX (ex_call (fm_used_chances T) g (by decide) (ea_cons (ed_v 1) (ea_cons (ed_v 2) ea_nil)) ⟨ys, y, _, rfl, rfl, rfl, hY, h, rfl⟩ ⟨_, rfl⟩))) fun h => nomatch h)
  | o8 ys hY m hm =>
    refine sds_skip (z := "which") (fun p => ed_v 0) 8 _ (by decide +kernel) ?_
    refine sds_cons (sd_if (l := true) (ET.is (et_cmp c_eqI (ed_v 0) ed_int) rfl) (fun _ => sds_one (sd_retL (el_call (fn_used_chances T) g (by decide) (ea_cons (ed_v 1) (ea_cons (ed_v 2) ea_nil)) ⟨ys, m, rfl, rfl, hY, hm, rfl⟩) fun p => ⟨_, _, rfl⟩)) fun h => nomatch h)
  | y9 h =>
    refine sds_skip (z := "which") (fun p => ed_v 0) 9 _ (by decide +kernel) ?_
    refine sds_cons (sd_if (l := true) (ET.is (et_cmp c_eqI (ed_v 0) ed_int) rfl) (fun _ => sds_one (sd_retX (ex_call (fy_mean_used T) g (by decide) (ea_cons (ed_v 1) (ea_cons (ed_v 2) ea_nil)) ⟨x, _, rfl, rfl, rfl, h, rfl⟩ ⟨_, rfl⟩))) fun h => nomatch h)
  | n9 ys hY h =>
    refine sds_skip (z := "which") (fun p => ed_v 0) 9 _ (by decide +kernel) ?_
    refine sds_cons (sd_if (l := true) (ET.is (et_cmp c_eqI (ed_v 0) ed_int) rfl) (fun _ => sds_one (sd_retX (ex_call (fm_mean_used T) g (by decide) (ea_cons (ed_v 1) (ea_cons (ed_v 2) ea_nil)) ⟨ys, y, _, rfl, rfl, rfl, hY, h, rfl⟩ ⟨_, rfl⟩))) fun h => nomatch h)
  | o9 ys hY m hm =>
    refine sds_skip (z := "which") (fun p => ed_v 0) 9 _ (by decide +kernel) ?_
    refine sds_cons (sd_if (l := true) (ET.is (et_cmp c_eqI (ed_v 0) ed_int) rfl) (fun _ => sds_one (sd_ret (es_call (fn_mean_used T) g (by decide) (ea_cons (ed_v 1) (ea_cons (ed_v 2) ea_nil)) ⟨ys, m, rfl, rfl, hY, hm, rfl⟩) (fun z => nomatch z) ⟨_, _, rfl⟩)) fun h => nomatch h)
  | y10 h =>
    refine sds_skip (z := "which") (fun p => ed_v 0) 10 _ (by decide +kernel) ?_
    refine sds_cons (sd_if (l := true) (ET.is (et_cmp c_eqI (ed_v 0) ed_int) rfl) (fun _ => sds_one (sd_retX (ex_call (fy_all_used T) g (by decide) (ea_cons (ed_v 1) (ea_cons (ed_v 2) ea_nil)) ⟨x, _, rfl, rfl, rfl, h, rfl⟩ ⟨_, rfl⟩))) fun h => nomatch h)
  | n10 ys hY h =>
    refine sds_skip (z := "which") (fun p => ed_v 0) 10 _ (by decide +kernel) ?_
    refine sds_cons (sd_if (l := true) (ET.is (et_cmp c_eqI (ed_v 0) ed_int) rfl) (fun _ => sds_one (sd_retX (ex_call (fm_all_used T) g (by decide) (ea_cons (ed_v 1) (ea_cons (ed_v 2) ea_nil)) ⟨ys, y, _, rfl, rfl, rfl, hY, h, rfl⟩ ⟨_, rfl⟩))) fun h => nomatch h)
  | o10 ys hY m hm =>
    refine sds_skip (z := "which") (fun p => ed_v 0) 10 _ (by decide +kernel) ?_
    refine sds_cons (sd_if (l := true) (ET.is (et_cmp c_eqI (ed_v 0) ed_int) rfl) (fun _ => sds_one (sd_ret (es_call (fn_all_used T) g (by decide) (ea_cons (ed_v 1) (ea_cons (ed_v 2) ea_nil)) ⟨ys, m, rfl, rfl, hY, hm, rfl⟩) (fun z => nomatch z) ⟨_, _, rfl⟩)) fun h => nomatch h)
  | y11 h =>
    refine sds_skip (z := "which") (fun p => ed_v 0) 11 _ (by decide +kernel) ?_
    refine sds_cons (sd_if (l := true) (ET.is (et_cmp c_eqI (ed_v 0) ed_int) rfl) (fun _ => sds_one (sd_retX (ex_call (fy_all_used_at T) g (by decide) (ea_cons (ed_v 1) (ea_cons (ed_v 2) ea_nil)) ⟨x, _, rfl, rfl, rfl, h, rfl⟩ ⟨_, rfl⟩))) fun h => nomatch h)
  | n11 ys hY h =>
    refine sds_skip (z := "which") (fun p => ed_v 0) 11 _ (by decide +kernel) ?_
    refine sds_cons (sd_if (l := true) (ET.is (et_cmp c_eqI (ed_v 0) ed_int) rfl) (fun _ => sds_one (sd_retX (ex_call (fm_all_used_at T) g (by decide) (ea_cons (ed_v 1) (ea_cons (ed_v 2) ea_nil)) ⟨ys, y, _, rfl, rfl, rfl, hY, h, rfl⟩ ⟨_, rfl⟩))) fun h => nomatch h)
  | o11 ys hY m hm =>
    refine sds_skip (z := "which") (fun p => ed_v 0) 11 _ (by decide +kernel) ?_
    refine sds_cons (sd_if (l := true) (ET.is (et_cmp c_eqI (ed_v 0) ed_int) rfl) (fun _ => sds_one (sd_ret (es_call (fn_all_used_at T) g (by decide) (ea_cons (ed_v 1) (ea_cons (ed_v 2) ea_nil)) ⟨ys, m, rfl, rfl, hY, hm, rfl⟩) (fun z => nomatch z) ⟨_, _, rfl⟩)) fun h => nomatch h)
  | y12 h =>
    refine sds_skip (z := "which") (fun p => ed_v 0) 12 _ (by decide +kernel) ?_
    refine sds_cons (sd_if (l := true) (ET.is (et_cmp c_eqI (ed_v 0) ed_int) rfl) (fun _ => sds_one (sd_retX (ex_call (fy_new_day_at T) g (by decide) (ea_cons (ed_v 1) (ea_cons (ed_v 2) ea_nil)) ⟨x, _, rfl, rfl, rfl, h, rfl⟩ ⟨_, rfl⟩))) fun h => nomatch h)
  | n12 ys hY h =>
    refine sds_skip (z := "which") (fun p => ed_v 0) 12 _ (by decide +kernel) ?_
    refine sds_cons (sd_if (l := true) (ET.is (et_cmp c_eqI (ed_v 0) ed_int) rfl) (fun _ => sds_one (sd_retX (ex_call (fm_new_day_at T) g (by decide) (ea_cons (ed_v 1) (ea_cons (ed_v 2) ea_nil)) ⟨ys, y, _, rfl, rfl, rfl, hY, h, rfl⟩ ⟨_, rfl⟩))) fun h => nomatch h)
  | o12 ys hY m hm =>
    refine sds_skip (z := "which") (fun p => ed_v 0) 12 _ (by decide +kernel) ?_
    refine sds_cons (sd_if (l := true) (ET.is (et_cmp c_eqI (ed_v 0) ed_int) rfl) (fun _ => sds_one (sd_ret (es_call (fn_new_day_at T) g (by decide) (ea_cons (ed_v 1) (ea_cons (ed_v 2) ea_nil)) ⟨ys, m, rfl, rfl, hY, hm, rfl⟩) (fun z => nomatch z) ⟨_, _, rfl⟩)) fun h => nomatch h)
  | y13 h =>
    refine sds_skip (z := "which") (fun p => ed_v 0) 13 _ (by decide +kernel) ?_
    refine sds_cons (sd_if (l := true) (ET.is (et_cmp c_eqI (ed_v 0) ed_int) rfl) (fun _ => sds_one (sd_retX (ex_call (fy_on_day T) g (by decide) (ea_cons (ed_v 1) (ea_cons ed_int (ea_cons (ed_v 2) ea_nil))) ⟨x, _, rfl, rfl, rfl, h, rfl⟩ ⟨_, rfl⟩))) fun h => nomatch h)
  | n13 ys hY h =>
    have hlo := hY.lo
    refine sds_skip (z := "which") (fun p => ed_v 0) 13 _ (by decide +kernel) ?_
    refine sds_cons (sd_if (l := true) (ET.is (et_cmp c_eqI (ed_v 0) ed_int) rfl) (fun _ => sds_one (sd_retX (ex_call (fm_on_day T) g (by decide) (ea_cons (ed_v 1) (ea_cons ed_int (ea_cons (ed_v 2) ea_nil))) ⟨ys, 0, y, _, rfl, rfl, rfl, hY, by omega, h, rfl⟩ ⟨_, rfl⟩))) fun h => nomatch h)
  | o13 ys hY m hm =>
    have hlo := hY.lo
    refine sds_skip (z := "which") (fun p => ed_v 0) 13 _ (by decide +kernel) ?_
    refine sds_cons (sd_if (l := true) (ET.is (et_cmp c_eqI (ed_v 0) ed_int) rfl) (fun _ => sds_one (sd_ret (es_call (fn_on_day T) g (by decide) (ea_cons (ed_v 1) (ea_cons ed_int (ea_cons (ed_v 2) ea_nil))) ⟨ys, 0, m, ys[0], rfl, rfl, hY, List.getElem?_eq_getElem (by omega), hm, rfl⟩) (fun z => nomatch z) ⟨_, _, rfl⟩)) fun h => nomatch h)
  | y14 h =>
    refine sds_skip (z := "which") (fun p => ed_v 0) 14 _ (by decide +kernel) ?_
    refine sds_cons (sd_if (l := true) (ET.is (et_cmp c_eqI (ed_v 0) ed_int) rfl) (fun _ => sds_one (sd_retX (ex_call (fy_just_on_day T) g (by decide) (ea_cons (ed_v 1) (ea_cons ed_int (ea_cons (ed_v 2) (ea_cons ed_int ea_nil)))) ⟨x, _, rfl, rfl, rfl, h, rfl⟩ ⟨_, rfl⟩))) fun h => nomatch h)
  | n14 ys hY h =>
    have hlo := hY.lo
    refine sds_skip (z := "which") (fun p => ed_v 0) 14 _ (by decide +kernel) ?_
    refine sds_cons (sd_if (l := true) (ET.is (et_cmp c_eqI (ed_v 0) ed_int) rfl) (fun _ => sds_one (sd_retX (ex_call (fm_just_on_day T) g (by decide) (ea_cons (ed_v 1) (ea_cons ed_int (ea_cons (ed_v 2) (ea_cons ed_int ea_nil)))) ⟨ys, 0, y, _, rfl, rfl, rfl, hY, by omega, h, rfl⟩ ⟨_, rfl⟩))) fun h => nomatch h)
  | o14 ys hY m hm =>
    have hlo := hY.lo
    refine sds_skip (z := "which") (fun p => ed_v 0) 14 _ (by decide +kernel) ?_
    refine sds_cons (sd_if (l := true) (ET.is (et_cmp c_eqI (ed_v 0) ed_int) rfl) (fun _ => sds_one (sd_ret (es_call (fn_just_on_day T) g (by decide) (ea_cons (ed_v 1) (ea_cons ed_int (ea_cons (ed_v 2) (ea_cons ed_int ea_nil)))) ⟨ys, 0, m, 0, ys[0], rfl, rfl, hY, List.getElem?_eq_getElem (by omega), hm, by decide, rfl⟩) (fun z => nomatch z) ⟨_, _, rfl⟩)) fun h => nomatch h)
  | y15 h =>
    refine sds_skip (z := "which") (fun p => ed_v 0) 15 _ (by decide +kernel) ?_
    refine sds_one (sd_retG (R := fun s o => askO c 0 (.ret s o)) (eg_if (k := true) (ET.is (et_cmp c_eqI (ed_v 0) ed_int) rfl) (fun _ => EX.toEG (ex_call (fy_more_same T) g (by decide) (ea_cons (ed_v 1) (ea_cons (ES.is (y := li [1]) (ed_k1 (i := 1)) rfl) (ea_cons (ed_v 2) ea_nil))) ⟨x, _, rfl, rfl, rfl, h, rfl⟩ ⟨_, rfl⟩)) (fun h => nomatch h)) fun s o h => h)
  | n15 ys hY h =>
    refine sds_skip (z := "which") (fun p => ed_v 0) 15 _ (by decide +kernel) ?_
    refine sds_one (sd_retG (R := fun s o => askO c 2 (.ret s o)) (eg_if (k := true) (ET.is (et_cmp c_eqI (ed_v 0) ed_int) rfl) (fun _ => EX.toEG (ex_call (fm_more_same T) g (by decide) (ea_cons (ed_v 1) (ea_cons (ES.is (y := li [1]) (ed_k1 (i := 1)) rfl) (ea_cons (ed_v 2) ea_nil))) ⟨ys, [1], y, rfl, rfl, hY, y1, h, rfl⟩ ⟨_, rfl⟩)) (fun h => nomatch h)) fun s o h => h)
  | o15 ys hY m hm =>
    refine sds_skip (z := "which") (fun p => ed_v 0) 15 _ (by decide +kernel) ?_
    refine sds_one (sd_ret (es_if (k := true) (ET.is (et_cmp c_eqI (ed_v 0) ed_int) rfl) (fun _ => es_call (fn_more_same T) g (by decide) (ea_cons (ed_v 1) (ea_cons (ES.is (y := li [1]) (ed_k1 (i := 1)) rfl) (ea_cons (ed_v 2) ea_nil))) ⟨ys, [1], m, rfl, rfl, hY, y1, hm, unl_sq hY hm, unl_sq y1 hm, rfl⟩) (fun h => nomatch h)) (fun z => nomatch z) ⟨_, _, rfl⟩)
  | y16 h =>
    refine sds_skip (z := "which") (fun p => ed_v 0) 15 _ (by decide +kernel) ?_
    refine sds_one (sd_retG (R := fun s o => askO c 0 (.ret s o)) (eg_if (k := false) (ET.is (et_cmp c_eqI (ed_v 0) ed_int) rfl) (fun h => nomatch h) (fun _ => EX.toEG (ex_call (fz_more_same T) g (by decide) (ea_cons (ES.is (y := li [1]) (ed_k1 (i := 1)) rfl) (ea_cons (ed_v 1) (ea_cons (ed_v 2) ea_nil))) ⟨[1], x, _, rfl, rfl, rfl, y1, h, rfl⟩ ⟨_, rfl⟩))) fun s o h => h)
  | n16 ys hY h =>
    refine sds_skip (z := "which") (fun p => ed_v 0) 15 _ (by decide +kernel) ?_
    refine sds_one (sd_retG (R := fun s o => askO c 2 (.ret s o)) (eg_if (k := false) (ET.is (et_cmp c_eqI (ed_v 0) ed_int) rfl) (fun h => nomatch h) (fun _ => EX.toEG (ex_call (fm_more_same T) g (by decide) (ea_cons (ES.is (y := li [1]) (ed_k1 (i := 1)) rfl) (ea_cons (ed_v 1) (ea_cons (ed_v 2) ea_nil))) ⟨[1], ys, y, rfl, rfl, y1, hY, h, rfl⟩ ⟨_, rfl⟩))) fun s o h => h)
  | o16 ys hY m hm =>
    refine sds_skip (z := "which") (fun p => ed_v 0) 15 _ (by decide +kernel) ?_
    refine sds_one (sd_ret (es_if (k := false) (ET.is (et_cmp c_eqI (ed_v 0) ed_int) rfl) (fun h => nomatch h) (fun _ => es_call (fn_more_same T) g (by decide) (ea_cons (ES.is (y := li [1]) (ed_k1 (i := 1)) rfl) (ea_cons (ed_v 1) (ea_cons (ed_v 2) ea_nil))) ⟨[1], ys, m, rfl, rfl, y1, hY, hm, unl_sq y1 hm, unl_sq hY hm, rfl⟩)) (fun z => nomatch z) ⟨_, _, rfl⟩))
end
end Pg

namespace Pg
open PySem PySem.Spec PyProof.Rows L2 Sd
section
variable {P : Program} {w : World} {K : PySem.W.Frag} {mg : Str → Option Value} {base : Heap} {c : Cl}
def askN (i : Nat) : Str := if i < 6 then erN i else "done"
theorem er_ex (T : Tx K mg c) {i : Nat} (hi : i < 6) : PySem.W.exmOne K (.ref (erC c i)) (.ref c.DayError) = some true := by
  match i, hi with
  | 0, _ => exact T.q_BadYear.ex
  | 1, _ => exact T.q_BadDay.ex
  | 2, _ => exact T.q_BadNumber.ex
  | 3, _ => exact T.q_BadShare.ex
  | 4, _ => exact T.q_BadText.ex
  | 5, _ => exact T.q_NotFound.ex
inductive AskA : Int → Int → PyData → PyData → Nat → Prop
  | one {wh : Int} {x y : PyData} {i : Nat} (h : Ask1 wh x i) : AskA 1 wh x y i
  | num {wh : Int} {x y : PyData} {i : Nat} (h : Ask2 wh x y i) : AskA 2 wh x y i
  | day {wh : Int} {x y : PyData} {i : Nat} (h : Ask3 wh x y i) : AskA 3 wh x y i
theorem askO_ret {c : Cl} {i : Nat} {s : Slot} {o : Own} (h : askO c i (.ret s o)) : ¬ i < 6 := fun hi => by
  unfold askO at h
  rw [if_pos hi] at h
  obtain ⟨o', e⟩ := h
  cases e
theorem askO_exc {c : Cl} {i : Nat} {C : Addr} {o : Own} (h : askO c i (.exc C o)) : i < 6 ∧ C = erC c i := by
  unfold askO at h
  by_cases hi : i < 6
  · rw [if_pos hi] at h
    obtain ⟨o', e⟩ := h
    cases e
    exact ⟨hi, rfl⟩
  · rw [if_neg hi] at h
    obtain ⟨s', o', e⟩ := h
    cases e
def pre_law_asked : Pr := fun ss own post => ∃ (gr wh : Int) (x y : PyData) (i : Nat), ss = [.d (.int gr), .d (.int wh), .d x, .d y] ∧ own = [] ∧ AskA gr wh x y i ∧ post = fun o => o = .ret (.d (.str (askN i))) []
theorem fn_law_asked (T : Tx K mg c) : Fn K mg P w base "_law_asked" ["group", "which", "year", "thing"] 7 pre_law_asked := T.d_law_asked.fn fun f fd F => okG (k := 6) F sc_law_asked (by rintro ss own post ⟨gr, wh, x, y, i, rfl, _⟩; rfl) (by
  rintro ss own post ⟨gr, wh, x, y, i, rfl, rfl, hA, rfl⟩ cdv A outer s H E B g
  refine sds_rtsub ?_
  refine sds_cons (sd_set 4 g.nd ed_non ?_)
  refine sds_cons (sd_try_keep 5 4 g ⟨rfl, by decide, .inl T.e_DayError.g⟩ fun pn xe B' g' => ?_)
  cases hA with
  | one hA =>
    refine sds_one (sd_if (l := true) (ET.is (et_cmp c_eqI (ed_v 0) ed_int) rfl) (fun _ => ?_) fun h => nomatch h)
    refine sds_one (sd_exprG (R := fun _ _ => ¬ i < 6) (eg_call (oa := []) (o1 := []) (ob := []) (fn_law_one T) g' (by decide) (ea_cons (ed_v 1) (ea_cons (ed_v 2) ea_nil)) ⟨wh, x, i, rfl, rfl, hA, rfl⟩ (fun s o h => askO_ret h) ?_) ?_)
    · intro C o h
      obtain ⟨hi, rfl⟩ := askO_exc h
      refine ⟨er_ex T hi, fun a => ?_⟩
      refine sds_one (sd_retD (es_if (k := false) (et_cmp c_isNR (ev_v 4) ed_non) (fun h => nomatch h) fun _ => es_error (oa := []) (i := i) (fn_law_error T) g (by decide) hi (ev_v 4)) ?_)
      refine ⟨[], List.nil_sublist _, ?_⟩
      rw [askN, if_pos hi]
    · intro s o hi
      refine sds_one (sd_retD (es_if (k := true) (et_cmp c_isND (ed_v 4) ed_non) (fun _ => ed_str) fun h => nomatch h) ⟨[], List.nil_sublist _, ?_⟩)
      rw [askN, if_neg hi]
  | num hA =>
    refine sds_one (sd_if (l := false) (ET.is (et_cmp c_eqI (ed_v 0) ed_int) rfl) (fun h => nomatch h) fun _ => ?_)
    refine sds_one (sd_if (l := true) (ET.is (et_cmp c_eqI (ed_v 0) ed_int) rfl) (fun _ => ?_) fun h => nomatch h)
    refine sds_one (sd_exprG (R := fun _ _ => ¬ i < 6) (eg_call (oa := []) (o1 := []) (ob := []) (fn_law_numbered T) g' (by decide) (ea_cons (ed_v 1) (ea_cons (ed_v 2) (ea_cons (ed_v 3) ea_nil))) ⟨wh, x, y, i, rfl, rfl, hA, rfl⟩ (fun s o h => askO_ret h) ?_) ?_)
    · intro C o h
      obtain ⟨hi, rfl⟩ := askO_exc h
      refine ⟨er_ex T hi, fun a => ?_⟩
      refine sds_one (sd_retD (es_if (k := false) (et_cmp c_isNR (ev_v 4) ed_non) (fun h => nomatch h) fun _ => es_error (oa := []) (i := i) (fn_law_error T) g (by decide) hi (ev_v 4)) ?_)
      refine ⟨[], List.nil_sublist _, ?_⟩
      rw [askN, if_pos hi]
    · intro s o hi
      refine sds_one (sd_retD (es_if (k := true) (et_cmp c_isND (ed_v 4) ed_non) (fun _ => ed_str) fun h => nomatch h) ⟨[], List.nil_sublist _, ?_⟩)
      rw [askN, if_neg hi]
  | day hA =>
    refine sds_one (sd_if (l := false) (ET.is (et_cmp c_eqI (ed_v 0) ed_int) rfl) (fun h => nomatch h) fun _ => ?_)
    refine sds_one (sd_if (l := false) (ET.is (et_cmp c_eqI (ed_v 0) ed_int) rfl) (fun h => nomatch h) fun _ => ?_)
    refine sds_one (sd_exprG (R := fun _ _ => ¬ i < 6) (eg_call (oa := []) (o1 := []) (ob := []) (fn_law_dayed T) g' (by decide) (ea_cons (ed_v 1) (ea_cons (ed_v 2) (ea_cons (ed_v 3) ea_nil))) ⟨wh, x, y, i, rfl, rfl, hA, rfl⟩ (fun s o h => askO_ret h) ?_) ?_)
    · intro C o h
      obtain ⟨hi, rfl⟩ := askO_exc h
      refine ⟨er_ex T hi, fun a => ?_⟩
      refine sds_one (sd_retD (es_if (k := false) (et_cmp c_isNR (ev_v 4) ed_non) (fun h => nomatch h) fun _ => es_error (oa := []) (i := i) (fn_law_error T) g (by decide) hi (ev_v 4)) ?_)
      refine ⟨[], List.nil_sublist _, ?_⟩
      rw [askN, if_pos hi]
    · intro s o hi
      refine sds_one (sd_retD (es_if (k := true) (et_cmp c_isND (ed_v 4) ed_non) (fun _ => ed_str) fun h => nomatch h) ⟨[], List.nil_sublist _, ?_⟩)
      rw [askN, if_neg hi])
/-- one call asked -/
theorem ed_asked {Z : Sd.Ctx} {k : Nat} {ρ : List Slot} {own : Own} {e1 e2 e3 e4 : Expr} {p pos : Pos} {gr wh : Int} {x y : PyData} {i : Nat} (F : Fn Z.X.K Z.X.mg Z.X.prog Z.X.w Z.X.base "_law_asked" ["group", "which", "year", "thing"] 7 pre_law_asked) (g : Gd Z k) (hk : 7 ≤ k) (h1 : ED Z e1 ρ own (.int gr)) (h2 : ED Z e2 ρ own (.int wh)) (h3 : ED Z e3 ρ own x) (h4 : ED Z e4 ρ own y) (hA : AskA gr wh x y i)
    (hg : Gl Z.X "_law_asked" := by rfl) (he : starEach [e1, e2, e3, e4] Z.X.env = (false, eval e1 Z.X.env) :: starEach [e2, e3, e4] Z.X.env := by rfl) (he2 : starEach [e2, e3, e4] Z.X.env = (false, eval e2 Z.X.env) :: starEach [e3, e4] Z.X.env := by rfl) (he3 : starEach [e3, e4] Z.X.env = (false, eval e3 Z.X.env) :: starEach [e4] Z.X.env := by rfl) (he4 : starEach [e4] Z.X.env = (false, eval e4 Z.X.env) :: starEach [] Z.X.env := by rfl) (hpl : (backTo pos (starEach [e2, e3, e4] Z.X.env)).any (·.1) = false := by rfl) :
    ED Z (.Call (.Name "_law_asked" p) [e1, e2, e3, e4] [] pos) ρ own (.str (askN i)) := es_call F g hk (ea_cons h1 (ea_cons h2 (ea_cons h3 (ea_cons h4 ea_nil he4) he3) he2) he) ⟨gr, wh, x, y, i, rfl, rfl, hA, rfl⟩ hg (by decide) he hpl
theorem askN_ok (i : Nat) : PyData.strOk (askN i) = true := by
  unfold askN
  split
  · rename_i h
    match i, h with
    | 0, _ => decide +kernel
    | 1, _ => decide +kernel
    | 2, _ => decide +kernel
    | 3, _ => decide +kernel
    | 4, _ => decide +kernel
    | 5, _ => decide +kernel
  · decide +kernel
/-- the same word n times -/
def wrd (i n : Nat) : List PyData := List.replicate n (.str (askN i))
theorem shp_wrd (i n : Nat) : Shp 1 (.list (wrd i n)) := shp_list fun d hd => by
  have := (List.mem_replicate.mp hd).2
  subst this
  exact shp_str (askN_ok i)
theorem wrd_fm {α : Type} (i : Nat) (l : List α) : l.filterMap (fun _ => some (PyData.str (askN i))) = wrd i l.length := by
  unfold wrd
  induction l with
  | nil => rfl
  | cons a l ih =>
    show PyData.str (askN i) :: l.filterMap _ = _
    rw [ih, List.length_cons, List.replicate_succ]
theorem et_wrd {Z : Sd.Ctx} {k : Nat} {ρ : List Slot} {own : Own} {a b : Expr} {pos : Pos} (i n : Nat) (g : Gd Z k) (h1 : ED Z a ρ own (.list (wrd i n))) (h2 : ED Z b ρ own (.list (wrd i n))) : ET Z (.Compare a [.NotEq] [b] pos) ρ own false := ET.is (et_cmp (c_ne g .d .d ((shp_wrd i n).shaped (by decide)) ((shp_wrd i n).shaped (by decide))) h1 h2) (by rw [eqv_self (shp_wrd i n)]; rfl)
end
end Pg

namespace Pg
open PySem PySem.Spec PyProof.Rows L2 Sd
section
variable {P : Program} {w : World} {K : PySem.W.Frag} {mg : Str → Option Value} {base : Heap} {c : Cl}
def eqdO (c : Cl) (x : PyData) : Out := if isShr x = true then (match x with
  | .tuple [.int a, .int b] => if a = 1 ∧ b ≤ 8 then .ret (.d (.int b)) [] else .exc c.NotFound []
  | _ => .exc c.BadShare []) else .exc c.BadShare []
def pre_equal_days (c : Cl) : Pr := fun ss own post => ∃ x, ss = [.d x] ∧ own = [] ∧ post = fun o => o = eqdO c x
theorem fn_equal_days (T : Tx K mg c) : Fn K mg P w base "equal_days" ["chance"] 4 (pre_equal_days c) := T.d_equal_days.fn fun f fd F => okG (k := 3) F sc_equal_days (by rintro ss own post ⟨x, rfl, _⟩; rfl) (by
  rintro ss own post ⟨x, rfl, rfl, rfl⟩ cdv A outer s H E B g
  by_cases hs : isShr x = true
  · refine sds_cons (sd_expr (es_call (fn_check_share_t T) g (by decide) (ea_cons (ed_v 0) ea_nil) (ok_shareT hs)) ?_)
    have hx : ∃ a b, x = .tuple [.int a, .int b] ∧ 0 < b := by
      unfold isShr at hs
      split at hs
      · simp only [Bool.and_eq_true, decide_eq_true_eq] at hs
        exact ⟨_, _, rfl, hs.1⟩
      · cases hs
    obtain ⟨a, b, rfl, hb⟩ := hx
    have e : eqdO c (.tuple [.int a, .int b]) = if a = 1 ∧ b ≤ 8 then .ret (.d (.int b)) [] else .exc c.NotFound [] := by
      unfold eqdO
      rw [if_pos hs]
    refine sds_cons (sd_if (l := !decide (a = 1 ∧ b ≤ 8)) (ET.is (EW.et (ew_or (et_cmp c_neI (ed_ixT (ed_v 0) ed_int rfl) ed_int) fun _ => ew_or1 (et_not (et_val (es_call (fn_is_int T) g (by decide) (ea_cons (ed_ixT (ed_v 0) ed_int rfl) (ea_cons ed_int (ea_cons ed_int ea_nil))) ⟨_, _, _, rfl, rfl, rfl⟩))))) ?_) (fun h => ?_) fun h => sds_nil ?_)
    · have : (1 : Int) ≤ b := by omega
      simp [Sd.isInt, this]
    · refine sds_one (sd_raise g T.e_NotFound ?_)
      show Out.exc c.NotFound [] = eqdO c _
      rw [e, if_neg (by simp at h; omega)]
    · refine sds_one (sd_retD (ed_ixT (ed_v 0) ed_int rfl) ?_)
      show Out.ret (.d (.int b)) [] = eqdO c _
      rw [e, if_pos (by simpa using h)]
  · have hs : isShr x = false := by simpa using hs
    refine sds_cons (sd_exprX (ex_call (fn_check_share_t T) g (by decide) (ea_cons (ed_v 0) ea_nil) (no_shareT hs) ?_))
    unfold eqdO
    rw [hs]
    rfl)
end
end Pg

namespace Pg
open PySem PySem.Spec PyProof.Rows L2 Sd
section
variable {P : Program} {w : World} {K : PySem.W.Frag} {mg : Str → Option Value} {base : Heap} {c : Cl}
theorem ea_k {Z : Sd.Ctx} {ρ : List Slot} {own : Own} {x : Const} {j : Nat} {p : Pos} {es : List Expr} {s : Slot} {ss : List Slot} (h : ES Z (.Constant x j p) ρ own s) (hr : EA Z es ρ own ss) : EA Z (.Constant x j p :: es) ρ own (s :: ss) := ea_cons h hr
theorem ea_t {Z : Sd.Ctx} {ρ : List Slot} {own : Own} {xs : List Expr} {j : Nat} {p : Pos} {es : List Expr} {s : Slot} {ss : List Slot} (h : ES Z (.Tuple xs j p) ρ own s) (hr : EA Z es ρ own ss) : EA Z (.Tuple xs j p :: es) ρ own (s :: ss) := ea_cons h hr
theorem ea_l {Z : Sd.Ctx} {ρ : List Slot} {own : Own} {xs : List Expr} {p : Pos} {es : List Expr} {s : Slot} {ss : List Slot} (h : ES Z (.List xs p) ρ own s) (hr : EA Z es ρ own ss) : EA Z (.List xs p :: es) ρ own (s :: ss) := ea_cons h hr
theorem ea_b {Z : Sd.Ctx} {ρ : List Slot} {own : Own} {a b : Expr} {op : Operator} {p : Pos} {es : List Expr} {s : Slot} {ss : List Slot} (h : ES Z (.BinOp a op b p) ρ own s) (hr : EA Z es ρ own ss) : EA Z (.BinOp a op b p :: es) ρ own (s :: ss) := ea_cons h hr
theorem ea_c {Z : Sd.Ctx} {ρ : List Slot} {own : Own} {f : Expr} {as : List Expr} {p : Pos} {es : List Expr} {s : Slot} {ss : List Slot} (h : ES Z (.Call f as [] p) ρ own s) (hr : EA Z es ρ own ss) : EA Z (.Call f as [] p :: es) ρ own (s :: ss) := ea_cons h hr
theorem ed_t0 {Z : Sd.Ctx} {ρ : List Slot} {own : Own} {x1 : Nat} {pos : Pos} : ED Z (.Tuple [] x1 pos) ρ own (.tuple []) := ed_tup (ds := []) ea_nil
theorem ed_l0 {Z : Sd.Ctx} {ρ : List Slot} {own : Own} {pos : Pos} : ED Z (.List [] pos) ρ own (.list []) := ed_lst (ds := []) ea_nil
theorem ed_t1 {Z : Sd.Ctx} {ρ : List Slot} {own : Own} {x1 : Nat} {pos : Pos} {es : List Expr} {x : PyData} (h : EA Z es ρ own [.d x]) : ED Z (.Tuple es x1 pos) ρ own (.tuple [x]) := ed_tup (ds := [x]) h
theorem ed_t2 {Z : Sd.Ctx} {ρ : List Slot} {own : Own} {x1 : Nat} {pos : Pos} {es : List Expr} {x y : PyData} (h : EA Z es ρ own [.d x, .d y]) : ED Z (.Tuple es x1 pos) ρ own (.tuple [x, y]) := ed_tup (ds := [x, y]) h
theorem ed_t3 {Z : Sd.Ctx} {ρ : List Slot} {own : Own} {x1 : Nat} {pos : Pos} {es : List Expr} {z0 z1 z2 : PyData} (h : EA Z es ρ own [.d z0, .d z1, .d z2]) : ED Z (.Tuple es x1 pos) ρ own (.tuple [z0, z1, z2]) := ed_tup (ds := [z0, z1, z2]) h
theorem ed_l2 {Z : Sd.Ctx} {ρ : List Slot} {own : Own} {pos : Pos} {es : List Expr} {x y : PyData} (h : EA Z es ρ own [.d x, .d y]) : ED Z (.List es pos) ρ own (.list [x, y]) := ed_lst (ds := [x, y]) h
theorem ed_l1 {Z : Sd.Ctx} {ρ : List Slot} {own : Own} {pos : Pos} {es : List Expr} {x : PyData} (h : EA Z es ρ own [.d x]) : ED Z (.List es pos) ρ own (.list [x]) := ed_lst (ds := [x]) h
theorem ed_rep9 {Z : Sd.Ctx} {ρ : List Slot} {own : Own} {j1 j2 : Nat} {p1 p2 p3 p4 : Pos} {x : Int} (h : ED Z (.Constant (.int x) j1 p1) ρ own (.int x)) : ED Z (.BinOp (.List [.Constant (.int x) j1 p1] p2) .Mult (.Constant (.int 9) j2 p3) p4) ρ own (.list [.int x, .int x, .int x, .int x, .int x, .int x, .int x, .int x, .int x]) := ES.is (EL.ed (el_rep (i := 9) (ed_lst (ds := [.int x]) (ea_cons h ea_nil)) ed_int .d (by decide) (by simp))) rfl
theorem it_lstE {Z : Sd.Ctx} {ρ : List Slot} {own : Own} {pos : Pos} {tg : Expr} {es : List Expr} {ss : List Slot} {ds : List PyData} (h : EA Z es ρ own ss) (e : ss = ds.map Slot.d) (hl : ds.length ≤ 1000) : IT Z tg (.List es pos) ρ own (fun _ => True) ds := it_list (ed_lst (ds := ds) (e ▸ h) hl)
theorem it_tupE {Z : Sd.Ctx} {ρ : List Slot} {own : Own} {x1 : Nat} {pos : Pos} {tg : Expr} {es : List Expr} {ss : List Slot} {ds : List PyData} (h : EA Z es ρ own ss) (e : ss = ds.map Slot.d) (hl : ds.length ≤ 1000) : IT Z tg (.Tuple es x1 pos) ρ own (fun _ => True) ds := it_tup (ed_tup (ds := ds) (e ▸ h) hl)
theorem sd_or2 {Z : Sd.Ctx} {ρ : List Slot} {own : Own} {D : DE} {a b : Expr} {p1 p2 : Pos} {A : List Stmt} (h1 : ET Z a ρ own false) (h2 : ET Z b ρ own false) (hn : D.nx ρ own) : SD Z (.If (.BoolOp .Or [a, b] p1) A [] p2) D ρ own := sd_ifF (ET.is (EW.et (ew_or h1 fun _ => ew_or1 h2)) rfl) hn
def forB : Stmt → List Stmt
  | .For _ _ b _ _ => b
  | _ => []
def tryB : Stmt → List Stmt
  | .Try b _ _ _ _ => b
  | _ => []
theorem eg_catD {Z : Sd.Ctx} {ρ : List Slot} {own : Own} {a b : Expr} {pos : Pos} {xs : List PyData} {R1 R : Slot → Own → Prop} (ha : ED Z a ρ own (.list xs)) (hb : EG Z b ρ own R1) (h : ∀ t o, R1 t o → ∃ ys, t = .d (.list ys) ∧ xs.length + ys.length ≤ 100000 ∧ R (.d (.list (xs ++ ys))) o) : EG Z (.BinOp a .Add b pos) ρ own R := eg_bin op_cat ha hb fun v w Hf H t own' S r1 r2 q2 Q q => by
  obtain ⟨ys, rfl, hl, hR⟩ := h t own' q2
  cases (show Rep Hf v (.list xs) from r1) with
  | lst h1 g1 =>
    cases (show Rep Hf w (.list ys) from r2) with
    | lst h2 g2 =>
      have e1 := g1.length
      have e2 := g2.length
      refine ⟨_, _, _, _, rfl, rfl, S.e1 _ _ h1, S.e1 _ _ h2, Nat.le_trans (by omega : _ ≤ 100000) (by decide), fun l hl => ?_⟩
      exact q _ _ _ (.d (.list (xs ++ ys))) (S.new_same hl _) (S.new hl _) (.lst upd_same ((g1.append g2).mono (S.new_same hl _))) (fun z => nomatch z) hR
end
end Pg

namespace Pg
open PySem PySem.Spec PyProof.Rows L2 Sd
section
variable {P : Program} {w : World} {K : PySem.W.Frag} {mg : Str → Option Value} {base : Heap} {c : Cl}
def pre_check_share : Pr := fun ss own post => ∃ (q : Rat), ss = [.d (fr q)] ∧ own = [] ∧ Shr q ∧ post = fun o => o = .ret (.d .none) []
theorem fn_check_share (T : Tx K mg c) : Fn K mg P w base "check_share" ["value"] 3 pre_check_share := T.d_check_share.fn fun f fd F => okG (k := 2) F sc_check_share (by rintro ss own post ⟨q, rfl, _⟩; rfl) (by
  rintro ss own post ⟨q, rfl, rfl, hq, rfl⟩ cdv A outer s H E B g
  refine sds_one (sd_ifF (ET.is (et_not (et_val (es_call (fn_is_share T) g (by decide) (ea_cons (ed_v 0) ea_nil) ⟨q, rfl, rfl, hq, rfl⟩))) rfl) rfl))
end
end Pg

namespace Pg
open PySem PySem.Spec PyProof.Rows L2 Sd
section
variable {P : Program} {w : World} {K : PySem.W.Frag} {mg : Str → Option Value} {base : Heap} {c : Cl}
def nedF (ys : List Int) (q : Rat) : Nat → Nat → Nat
  | s, 0 => s
  | s, m + 1 => if q ≤ 1 - unl ys s then s else nedF ys q (s + 1) m
def ned (ys : List Int) (q : Rat) : Nat := nedF ys q 0 (ys.length + 1)
def pre_needed : Pr := fun ss own post => ∃ (ys : List Int) (q : Rat), ss = [.d (li ys), .d (fr q)] ∧ own = [] ∧ Yr ys ∧ Shr q ∧ Sq 100 q ∧ post = fun o => o = .ret (.d (.int (ned ys q : Nat))) []
theorem fn_needed (T : Tx K mg c) : Fn K mg P w base "needed" ["year", "share"] 4 pre_needed := T.d_needed.fn fun f fd F => okG (k := 3) F sc_needed (by rintro ss own post ⟨ys, q, rfl, _⟩; rfl) (by
  rintro ss own post ⟨ys, q, rfl, rfl, hY, hq, hz, rfl⟩ cdv A outer s H E B g
  have hl := hY.hi
  refine sds_cons (sd_expr (es_call (fn_check_year T) g (by decide) (ea_cons (ed_v 0) ea_nil) (ok_year hY)) ?_)
  refine sds_cons (sd_expr (es_call (fn_check_share T) g (by decide) (ea_cons (ed_v 1) ea_nil) ⟨q, rfl, rfl, hq, rfl⟩) ?_)
  refine sds_cons (sd_for g (it_range1 T.n_range (ed_add (ES.is (y := .int (ys.length : Int)) (ed_len T.n_len (ed_v 0) .d) (by rw [List.length_map])) ed_int) ⟨by omega, by omega⟩) (fun i ρ own => own = [] ∧ ned ys q = nedF ys q i (ys.length + 1 - i) ∧ ∃ t, ρ = [.d (li ys), .d (fr q), t]) ⟨rfl, rfl, _, rfl⟩ (fun _ _ _ _ => trivial) ?_ ?_)
  · rintro i y ρ1 own1 hy ⟨rfl, hn, t, rfl⟩
    obtain ⟨hi, rfl⟩ := rng_get hy
    have hi : i ≤ ys.length := by omega
    have e0 : (0 : Int) + (i : Int) = (i : Int) := by omega
    rw [e0]
    rw [show ys.length + 1 - i = (ys.length - i) + 1 by omega, nedF] at hn
    refine ⟨_, _, gt_name 2 g.nd, sds_one (sd_if (et_val (es_call (fn_at_most T) g (by decide) (ea_cons (ed_v 1) (ea_cons (es_call (fn_minus T) g (by decide) (ea_cons (ed_k2 (i := 1) (i' := 1)) (ea_cons (es_call (fn_unlike_of T) g (by decide) (ea_cons (ed_v 0) (ea_cons (ed_v 2) ea_nil)) ⟨ys, i, rfl, rfl, hY, by omega, rfl⟩) ea_nil)) ⟨1, _, 1, 200, rfl, rfl, .one, unl_sq hY (by omega), by decide, rfl⟩) ea_nil)) ⟨q, _, 100, _, rfl, rfl, hz, Sq.one.sub (unl_sq hY (by omega)), by decide, rfl⟩)) (fun h => ?_) fun h => sds_nil ?_)⟩
    · have h : q ≤ 1 - unl ys i := by simpa using h
      rw [if_pos h] at hn
      refine sds_one (sd_retD (ed_v 2) ?_)
      rw [hn]
    · have h : ¬ q ≤ 1 - unl ys i := by simpa using h
      rw [if_neg h] at hn
      exact ⟨rfl, by rw [hn, show ys.length + 1 - (i + 1) = ys.length - i by omega], _, rfl⟩
  · rintro ρ1 own1 ⟨rfl, hn, t, rfl⟩
    rw [rng_length, show ((ys.length : Int) + 1).toNat = ys.length + 1 by omega, Nat.sub_self, nedF] at hn
    refine sds_one (sd_retD (ES.is (y := .int ((ys.length + 1 : Nat) : Int)) (ed_add (ES.is (y := .int (ys.length : Int)) (ed_len T.n_len (ed_v 0) .d) (by rw [List.length_map])) ed_int) (by push_cast; rfl)) ?_)
    rw [hn])
end
end Pg

namespace Pg
open PySem PySem.Spec PyProof.Rows L2 Sd
section
variable {P : Program} {w : World} {K : PySem.W.Frag} {mg : Str → Option Value} {base : Heap} {c : Cl}
end
end Pg

namespace Pg
open PySem PySem.Spec PyProof.Rows L2 Sd
section
variable {P : Program} {w : World} {K : PySem.W.Frag} {mg : Str → Option Value} {base : Heap} {c : Cl}
/-! two days read from a chance -/
structure Two (q : Rat) (h l : Nat) : Prop where
  lo : 1 ≤ l
  le : l ≤ h
  hi : h ≤ 20
  co : Nat.gcd h l = 1
  eq : 2 * (h : Rat) * (l : Rat) = q * ((h : Rat) + l) * ((h : Rat) + l)
end
end Pg

namespace Pg
open PySem PySem.Spec PyProof.Rows L2 Sd
section
variable {P : Program} {w : World} {K : PySem.W.Frag} {mg : Str → Option Value} {base : Heap} {c : Cl}
end
end Pg

namespace Pg
open PySem PySem.Spec PyProof.Rows L2 Sd
section
variable {P : Program} {w : World} {K : PySem.W.Frag} {mg : Str → Option Value} {base : Heap} {c : Cl}
theorem fn_two_days_x (T : Tx K mg c) : Fn K mg P w base "two_days" ["chance"] 4 (fun ss own post => ∃ x, ss = [.d x] ∧ own = [] ∧ isShr x = false ∧ post = fun o => o = .exc c.BadShare []) := T.d_two_days.fn fun f fd F => okG (k := 3) F sc_two_days (by rintro ss own post ⟨q, rfl, _⟩; rfl) (by
  rintro ss own post ⟨x, rfl, rfl, hs, rfl⟩ cdv A outer s H E B g
  exact sds_cons (sd_exprX (ex_call (fn_check_share_t T) g (by decide) (ea_cons (ed_v 0) ea_nil) (no_shareT hs) rfl)))
end
end Pg

namespace Pg
open PySem PySem.Spec PyProof.Rows L2 Sd
section
variable {P : Program} {w : World} {K : PySem.W.Frag} {mg : Str → Option Value} {base : Heap} {c : Cl}
theorem fs_needed (T : Tx K mg c) : Fn K mg P w base "needed" ["year", "share"] 4 (fun ss own post => ∃ (ys : List Int) (x : PyData), ss = [.d (li ys), .d x] ∧ own = [] ∧ Yr ys ∧ isShr x = false ∧ post = fun o => o = .exc c.BadShare []) := T.d_needed.fn fun f fd F => okG (k := 3) F sc_needed (by rintro ss own post ⟨ys, x, rfl, _⟩; rfl) (by
  rintro ss own post ⟨ys, x, rfl, rfl, hY, h, rfl⟩ cdv A outer s H E B g
  refine sds_cons (sd_expr (es_call (fn_check_year T) g (by decide) (ea_cons (ed_v 0) ea_nil) (ok_year hY)) ?_)
  exact sds_cons (sd_exprX (ex_call (fn_check_share_t T) g (by decide) (ea_cons (ed_v 1) ea_nil) (bad_share h) rfl)))
theorem fs_needed_for_all (T : Tx K mg c) : Fn K mg P w base "needed_for_all" ["year", "share"] 4 (fun ss own post => ∃ (ys : List Int) (x : PyData), ss = [.d (li ys), .d x] ∧ own = [] ∧ Yr ys ∧ isShr x = false ∧ post = fun o => o = .exc c.BadShare []) := T.d_needed_for_all.fn fun f fd F => okG (k := 3) F sc_needed_for_all (by rintro ss own post ⟨ys, x, rfl, _⟩; rfl) (by
  rintro ss own post ⟨ys, x, rfl, rfl, hY, h, rfl⟩ cdv A outer s H E B g
  refine sds_cons (sd_expr (es_call (fn_check_year T) g (by decide) (ea_cons (ed_v 0) ea_nil) (ok_year hY)) ?_)
  exact sds_cons (sd_exprX (ex_call (fn_check_share_t T) g (by decide) (ea_cons (ed_v 1) ea_nil) (bad_share h) rfl)))
def badS : List PyData := [.none, .int 5, .tuple [.int 1], .list [.int 1, .int 2], .tuple [.int (0 - 1), .int 2], .tuple [.int 3, .int 2], .tuple [.int 2, .int 4], .tuple [.int 0, .int 2], .tuple [.int 1, .int 0], .tuple [.bool true, .int 2], .tuple [.int 1, .int 2, .int 3]]
theorem badS_x {d : PyData} (h : d ∈ badS) : isShr d = false := by
  simp only [badS, List.mem_cons, List.not_mem_nil, or_false] at h
  rcases h with rfl | rfl | rfl | rfl | rfl | rfl | rfl | rfl | rfl | rfl | rfl <;> decide +kernel
theorem eq_bad {c : Cl} {x : PyData} (h : isShr x = false) : eqdO c x = .exc c.BadShare [] := by
  unfold eqdO
  rw [if_neg (by rw [h]; decide)]
theorem ned_one {ys : List Int} (hY : Yr ys) : ned ys 1 = ys.length + 1 := by
  have key : ∀ m s, s + m = ys.length + 1 → nedF ys 1 s m = ys.length + 1 := fun m => by
    induction m with
    | zero => intro s h; unfold nedF; omega
    | succ m ih =>
      intro s h
      unfold nedF
      rw [if_neg, ih (s + 1) (by omega)]
      intro z
      have hp : 0 < unl ys s := by
        rw [unl_es, Rat.div_def]
        have h1 : 0 < ((fac s : Nat) : Int) * esI ys s := by
          refine Int.mul_pos (by have := fac_pos s; omega) ?_
          have pos : ∀ (l : List Int) (n : Nat), (∀ y ∈ l, 0 < y) → n ≤ l.length → 0 < esI l n := fun l => by
            induction l with
            | nil => intro n _ hn; have : n = 0 := by simpa using hn
                     subst this; decide
            | cons a l ih =>
              intro n hl hn
              cases n with
              | zero => rw [esI_zero]; decide
              | succ n =>
                rw [esI_cons]
                have h2 := ih n (fun y hy => hl y (List.mem_cons_of_mem _ hy)) (by simpa using hn)
                have h3 := esI_nonneg l (n + 1) fun y hy => Int.le_of_lt (hl y (List.mem_cons_of_mem _ hy))
                have h4 := Int.mul_pos (hl a List.mem_cons_self) h2
                omega
          exact pos ys s (fun y hy => by have := hY.it y hy; omega) (by omega)
        have h2 : (0 : Rat) < ((((fac s : Nat) : Int) * esI ys s : Int) : Rat) := by exact_mod_cast h1
        have h3 : (0 : Rat) < ((ys.sum ^ s : Int) : Rat) := by exact_mod_cast hY.posP s
        exact Rat.mul_pos h2 (Rat.inv_pos.mpr h3)
      grind
  unfold ned
  exact key _ 0 (by omega)
def shN : List Str := ["year", "bad", "told", "which", "caught", "e"]
abbrev shB : List Stmt := forB ((defBody s_law_shares).getD 0 (.Pass ⟨0, 0, 0, 0⟩))
abbrev shW : List Stmt := forB (shB.getD 1 (.Pass ⟨0, 0, 0, 0⟩))
theorem shares_try (T : Tx K mg c) {f : Addr} {cdv : Value} {A : Around} {outer : List Env} {s : Shared} {H : Hp} {E : XK} {B : Bs} {ex ex' : Addr → List Slot → Own → Prop} {pn : List (Addr × Obj)} {xe : Value → Shared → Prop} {B' : Bs} (g : Gd (trZ (ctxOf P w K mg base shN "_law_shares" s_law_shares f cdv A outer s H E B ex) pn xe B' ex') 5)
    {ys : List Int} (hY : Yr ys) {x : PyData} (h : isShr x = false) {i : Nat} (hi : i < 4) {s2 s4 s5 : Slot} {own : Own} {D : DE} (hx : ex' c.BadShare [.d (li ys), .d x, s2, .d (.int (i : Int)), s4, s5] own) :
    SDs (trZ (ctxOf P w K mg base shN "_law_shares" s_law_shares f cdv A outer s H E B ex) pn xe B' ex') (tryB (shW.getD 1 (.Pass ⟨0, 0, 0, 0⟩))) D [.d (li ys), .d x, s2, .d (.int (i : Int)), s4, s5] own := by
  match i, hi with
  | 0, _ => exact sds_one (sd_if (l := true) (ET.is (et_cmp c_eqI (ed_v 3) ed_int) rfl) (fun _ => sds_one (sd_exprX (ex_call (fs_needed T) g (by decide) (ea_cons (ed_v 0) (ea_cons (ed_v 1) ea_nil)) ⟨ys, x, rfl, rfl, hY, h, rfl⟩ hx))) fun h => nomatch h)
  | 1, _ =>
    refine sds_one (sd_if (l := false) (ET.is (et_cmp c_eqI (ed_v 3) ed_int) rfl) (fun h => nomatch h) fun _ => ?_)
    exact sds_one (sd_if (l := true) (ET.is (et_cmp c_eqI (ed_v 3) ed_int) rfl) (fun _ => sds_one (sd_exprX (ex_call (fs_needed_for_all T) g (by decide) (ea_cons (ed_v 0) (ea_cons (ed_v 1) ea_nil)) ⟨ys, x, rfl, rfl, hY, h, rfl⟩ hx))) fun h => nomatch h)
  | 2, _ =>
    refine sds_one (sd_if (l := false) (ET.is (et_cmp c_eqI (ed_v 3) ed_int) rfl) (fun h => nomatch h) fun _ => ?_)
    refine sds_one (sd_if (l := false) (ET.is (et_cmp c_eqI (ed_v 3) ed_int) rfl) (fun h => nomatch h) fun _ => ?_)
    exact sds_one (sd_if (l := true) (ET.is (et_cmp c_eqI (ed_v 3) ed_int) rfl) (fun _ => sds_one (sd_exprX (ex_call (fn_two_days_x T) g (by decide) (ea_cons (ed_v 1) ea_nil) ⟨x, rfl, rfl, h, rfl⟩ hx))) fun h => nomatch h)
  | 3, _ =>
    refine sds_one (sd_if (l := false) (ET.is (et_cmp c_eqI (ed_v 3) ed_int) rfl) (fun h => nomatch h) fun _ => ?_)
    refine sds_one (sd_if (l := false) (ET.is (et_cmp c_eqI (ed_v 3) ed_int) rfl) (fun h => nomatch h) fun _ => ?_)
    refine sds_one (sd_if (l := false) (ET.is (et_cmp c_eqI (ed_v 3) ed_int) rfl) (fun h => nomatch h) fun _ => ?_)
    exact sds_one (sd_exprX (ex_call (fn_equal_days T) g (by decide) (ea_cons (ed_v 1) ea_nil) ⟨x, rfl, rfl, by rw [eq_bad h]⟩ hx))
def pre_law_shares : Pr := fun ss own post => ∃ (ys : List Int), ss = [.d (li ys)] ∧ own = [] ∧ Yr ys ∧ post = fun o => o = .ret (.d (.bool true)) []
theorem y8 : isYear (li (List.replicate 8 20)) = true := by decide +kernel
theorem fn_law_shares (T : Tx K mg c) : Fn K mg P w base "_law_shares" ["year"] 6 pre_law_shares := T.d_law_shares.fn fun f fd F => okG (k := 5) F sc_law_shares (by rintro ss own post ⟨ys, rfl, _⟩; rfl) (by
  rintro ss own post ⟨ys, rfl, rfl, hY, rfl⟩ cdv A outer s H E B g
  have hlo := hY.lo
  refine sds_rtsub ?_
  show SDs _ (_ :: _) _ _ _
  with_reducible refine sds_cons ?_
  with_reducible refine sd_for g (Po := fun _ => True) (ys := badS) ?itA (fun i ρ o => ∃ x1 x2 x3 x4 x5, ρ = [.d (li ys), x1, x2, x3, x4, x5]) ?h0A ?hpA ?stA ?hdA ?hsA
  case itA =>
    with_reducible refine it_lstE (ea_k ed_non (ea_k ed_int (ea_t (ed_t1 (ea_k ed_int ea_nil)) (ea_l (ed_l2 (ea_k ed_int (ea_k ed_int ea_nil))) (ea_t (ed_t2 (ea_b (ed_sub ed_int ed_int) (ea_k ed_int ea_nil))) (ea_t (ed_t2 (ea_k ed_int (ea_k ed_int ea_nil))) (ea_t (ed_t2 (ea_k ed_int (ea_k ed_int ea_nil))) (ea_t (ed_t2 (ea_k ed_int (ea_k ed_int ea_nil))) (ea_t (ed_t2 (ea_k ed_int (ea_k ed_int ea_nil))) (ea_t (ed_t2 (ea_k ed_bl (ea_k ed_int ea_nil))) (ea_t (ed_t3 (ea_k ed_int (ea_k ed_int (ea_k ed_int ea_nil)))) ea_nil))))))))))) ?j2A ?j3A
    case j2A => rfl
    case j3A => decide
  case h0A => exact ⟨_, _, _, _, _, rfl⟩
  case hpA => exact fun _ _ _ _ => trivial
  case hsA => intro _; rfl
  case stA =>
    rintro i y ρ1 ow hy ⟨x1, x2, x3, x4, x5, rfl⟩
    have hb := badS_x (List.mem_of_getElem? hy)
    refine ⟨_, _, gt_name 1 g.nd, ?_⟩
    refine sds_cons (sd_setL 2 g.nd (ds := []) (el_lst (ds := []) ea_nil) fun pt => ?_)
    refine sds_cons (sd_for g (it_range1 T.n_range ed_int ⟨by decide, by decide⟩) (fun i ρ own => ∃ jk x3 x4 x5, own = jk ++ (pt, .lst (wrd 3 i)) :: ow ∧ ρ = [.d (li ys), .d y, .raw (.ref pt), x3, x4, x5]) ⟨[], _, _, _, rfl, rfl⟩ (fun _ _ _ _ => trivial) ?_ ?_)
    · rintro i z ρ2 own2 hz ⟨jk, x3, x4, x5, rfl, rfl⟩
      obtain ⟨hi, rfl⟩ := rng_get hz
      have hi : i < 4 := hi
      rw [show (0 : Int) + (i : Int) = (i : Int) by omega]
      refine ⟨_, _, gt_name 3 g.nd, ?_⟩
      refine sds_cons (sd_set 4 g.nd ed_non ?_)
      refine sds_cons (sd_try_keep 5 4 g ⟨rfl, by decide, .inl T.e_DayError.g⟩ fun pn xe B' g' => ?_)
      refine shares_try T g' hY hb hi ⟨T.q_BadShare.ex, fun a => ?_⟩
      refine sds_one (sd_append (oa := (a, .raw (ExK (.ref c.BadShare) a)) :: jk) (ob := ow) (p := pt) (ds := wrd 3 i) (x := .str (askN 3)) (ev_v 2) (es_if (k := false) (et_cmp c_isNR (ev_v 4) ed_non) (fun h => nomatch h) fun _ => es_error (oa := []) (ob := jk ++ (pt, .lst (wrd 3 i)) :: ow) (i := 3) (fn_law_error T) g (by decide) (by decide) (ev_v 4)) ?_ ?_)
      · unfold wrd
        rw [List.length_replicate]
        omega
      · exact ⟨(a, .raw (ExK (.ref c.BadShare) a)) :: jk, _, _, _, by unfold wrd; rw [List.replicate_succ'], rfl⟩
    rintro ρ2 own2 ⟨jk, x3, x4, x5, rfl, rfl⟩
    rw [rng_length, show ((4 : Int)).toNat = 4 from rfl]
    refine sds_one (sd_ifF (ET.is (EW.et (ew_or (et_cmp c_notB (es_call (fn_is_share_t T) g (by decide) (ea_cons (ed_v 1) ea_nil) ⟨y, rfl, rfl, rfl⟩) ed_bl) fun _ => ew_or1 (et_cmp (c_ne g (Dat.o (p := pt) (ds := wrd 3 4) (by simp)) (Dat.d (x := .list (wrd 3 4))) ((shp_wrd 3 4).shaped (by decide)) ((shp_wrd 3 4).shaped (by decide))) (ev_v 2) (EL.ed (EL.is (el_rep (i := 4) (ed_s1 (z := "share")) ed_int .d (by decide) (by simp)) rfl))))) (by rw [hb, eqv_self (shp_wrd 3 4)]; rfl)) ⟨_, _, _, _, _, rfl⟩)
  case hdA =>
    rintro ρ1 ow ⟨x1, x2, x3, x4, x5, rfl⟩
    have hs0 : isShr (.tuple [.int 0, .int 1]) = true := by decide +kernel
    have hs1 : isShr (.tuple [.int 1, .int 1]) = true := by decide +kernel
    have hq : Shr (1 : Rat) := by constructor <;> decide
    refine sds_one (sd_retD (ES.is (ed_and (ed_cmp c_isB (es_call (fn_is_year T) g (by decide) (ea_cons (EL.ed (EL.is (ys := (List.replicate 8 20).map PyData.int) (el_rep (i := 8) (ed_k1 (i := 20)) ed_int .d (by decide) (by simp)) rfl)) ea_nil) ⟨_, rfl, rfl, rfl⟩) ed_bl) fun _ => ed_and (ed_cmp c_isB (es_call (fn_is_share_t T) g (by decide) (ea_cons (ed_k2 (i := 0) (i' := 1)) ea_nil) ⟨_, rfl, rfl, rfl⟩) ed_bl) fun _ => ed_and (ed_cmp c_isB (es_call (fn_is_share_t T) g (by decide) (ea_cons (ed_k2 (i := 1) (i' := 1)) ea_nil) ⟨_, rfl, rfl, rfl⟩) ed_bl) fun _ => ed_one (ed_cmp c_eqI (es_call (fn_needed T) g (by decide) (ea_cons (ed_v 0) (ea_cons (ES.is (y := fr 1) (ed_k2 (i := 1) (i' := 1)) rfl) ea_nil)) ⟨ys, 1, rfl, rfl, hY, hq, Sq.one.mono (by decide), rfl⟩) (ed_add (ES.is (y := .int (ys.length : Int)) (ed_len T.n_len (ed_v 0) .d) (by rw [List.length_map])) ed_int))) ?_) ⟨[], List.nil_sublist _, rfl⟩)
    rw [show isYear (.list ((List.replicate 8 20).map PyData.int)) = true from y8, hs0, hs1, ned_one hY]
    simp)
end
end Pg

namespace Pg
open PySem PySem.Spec PyProof.Rows L2 Sd
section
variable {P : Program} {w : World} {K : PySem.W.Frag} {mg : Str → Option Value} {base : Heap} {c : Cl}
def pre_law_start (K : PySem.W.Frag) : Pr := fun ss own post => ∃ (a : Addr) (ns : List Int), ss = [.raw (.ref a)] ∧ ScrAt K own a ns ∧ post = fun o => ∃ d n cells, cells ≠ [] ∧ o = .ret (.raw (.ref d)) (drw d n cells 0 ++ own)
theorem fn_law_start (T : Tx K mg c) : Fn K mg P w base "_law_start" ["script"] 1 (pre_law_start K) := T.d_law_start.fn fun f fd F => okG (k := 0) F sc_law_start (by rintro ss own post ⟨a, ns, rfl, _⟩; rfl) (by
  rintro ss own post ⟨a, ns, rfl, hs, rfl⟩ cdv A outer s H E B g
  refine sds_one (sd_retG (eg_lst2 (P := fun v o => ∃ n, v = .ref n ∧ o = (n, .lst ((if ns = [] then [0] else ns).map PyData.int)) :: own) (EL.toEG (el_if (et_cmp (c_neScr g hs) (ev_v 0) (ed_lst (ds := []) ea_nil)) (fun h => EL.is (el_listScr T.n_list (ev_v 0) hs) ?_) fun h => EL.is (el_lst (ds := [.int 0]) (ea_cons ed_int ea_nil)) ?_) fun p => ⟨_, rfl, p, rfl, rfl⟩) fun v o _ => ed_int) ?_)
  · rw [if_neg (by simpa using h)]
  · rw [if_pos (by simpa using h)]
    rfl
  · rintro t o ⟨q, v, o', rfl, rfl, n, rfl, rfl⟩
    exact ⟨q, n, if ns = [] then [0] else ns, by split <;> simp_all, rfl⟩)
end
end Pg

namespace Pg
open PySem PySem.Spec PyProof.Rows L2 Sd
section
variable {P : Program} {w : World} {K : PySem.W.Frag} {mg : Str → Option Value} {base : Heap} {c : Cl}
def pre_law_draw : Pr := fun ss own post => ∃ (d n : Addr) (cells : List Int) (cnt limit : Int), ss = [.raw (.ref d), .d (.int limit)] ∧ own = drw d n cells cnt ∧ cells ≠ [] ∧ 0 < limit ∧ limit < 1073741824 ∧
  post = fun o => ∃ r cells' cnt', 0 ≤ r ∧ r < limit ∧ cells' ≠ [] ∧ o = .ret (.d (.int r)) (drw d n cells' cnt')
theorem fn_law_draw (T : Tx K mg c) : Fn K mg P w base "_law_draw" ["draws", "limit"] 1 pre_law_draw := T.d_law_draw.fn fun f fd F => okG (k := 0) F sc_law_draw (by rintro ss own post ⟨d, n, cells, cnt, limit, rfl, _⟩; rfl) (by
  rintro ss own post ⟨d, n, cells, cnt, limit, rfl, rfl, hc, hl, hl2, rfl⟩ cdv A outer s H E B g
  unfold drw
  have hpos : (0 : Int) < cells.length := by
    have := List.length_pos_iff.mpr hc
    omega
  refine sds_cons (sd_set 2 g.nd (es_ixR (s := .raw (.ref n)) (q := d) (vs := [.ref n, .int cnt]) (by simp) (ev_v 0) ed_int rfl fun _ => rfl) ?_)
  refine sds_cons (sd_setitemR (oa := []) (q := d) (vs := [.ref n, .int cnt]) (n := 1) (v := .int (cnt + 1)) (ed_add (es_ixR (s := .d (.int cnt)) (q := d) (vs := [.ref n, .int cnt]) (by simp) (ev_v 0) ed_int rfl fun _ => Rep.int _) ed_int) (fun _ _ h => by cases h; rfl) (ev_v 0) ed_int rfl ?_)
  have eset : ([.ref n, .int cnt] : List V).set 1 (.int (cnt + 1)) = [.ref n, .int (cnt + 1)] := rfl
  rw [eset]
  refine sds_cons (sd_set 3 g.nd (ed_mod (es_ixR (s := .d (.int (cnt + 1))) (q := d) (vs := [.ref n, .int (cnt + 1)]) (by simp) (ev_v 0) ed_int rfl fun _ => Rep.int _) (ed_len (ds := cells.map PyData.int) T.n_len (ev_v 2) (Lst.o (by simp))) (by rw [List.length_map]; exact hpos)) ?_)
  rw [List.length_map]
  have h1 := Int.emod_nonneg (cnt + 1) (Int.ne_of_gt hpos)
  have h2 := Int.emod_lt_of_pos (cnt + 1) hpos
  obtain ⟨j, hj⟩ : ∃ j : Nat, (cnt + 1) % (cells.length : Int) = (j : Int) := ⟨((cnt + 1) % (cells.length : Int)).toNat, by omega⟩
  rw [hj]
  have hjl : j < cells.length := by omega
  have hat : (cells.map PyData.int)[j]? = some (.int cells[j]) := by
    rw [List.getElem?_map, List.getElem?_eq_getElem hjl]
    rfl
  have hix : ixN (cells.map PyData.int).length (j : Int) = some j := by
    unfold ixN
    rw [if_pos (by omega), if_pos (by rw [List.length_map]; omega)]
    simp
  refine sds_cons (sd_set 4 g.nd (ed_ixL (ds := cells.map PyData.int) (ev_v 2) (ed_v 3) (Lst.o (by simp)) (atI_ixN hix hat)) ?_)
  refine sds_cons (sd_if (et_cmp c_ge (ed_v 4) ed_int) (fun h => ?_) fun h => ?_)
  · refine sds_cons (sd_setitem (oa := [_]) (p := n) (n := j) (ed_fdivS (ed_v 4) (ed_v 1) ⟨hl, hl2⟩) (ev_v 2) (ed_v 3) hix ?_)
    refine sds_one (sd_retD (ed_mod (ed_v 4) (ed_v 1) hl) ?_)
    refine ⟨cells[j] % limit, cells.set j (cells[j] / limit), cnt + 1, Int.emod_nonneg _ (Int.ne_of_gt hl), Int.emod_lt_of_pos _ hl, fun z => hc (by simpa using z), ?_⟩
    rw [List.map_set]
    rfl
  · refine sds_nil ?_
    have m1 := fun x : Int => Int.emod_nonneg x (show (4294967291 : Int) ≠ 0 by decide)
    have m2 := fun x : Int => Int.emod_lt_of_pos x (show (0 : Int) < 4294967291 by decide)
    have m3 := fun x : Int => Int.emod_nonneg x (show (4294967279 : Int) ≠ 0 by decide)
    have m4 := fun x : Int => Int.emod_lt_of_pos x (show (0 : Int) < 4294967279 by decide)
    refine sds_cons (sd_set 5 g.nd (ed_mod (ed_add (ed_v 4) (ed_mulS ed_int (es_ixR (s := .d (.int (cnt + 1))) (q := d) (vs := [.ref n, .int (cnt + 1)]) (by simp) (ev_v 0) ed_int rfl fun _ => Rep.int _) (.inl ⟨by decide, by decide⟩))) ed_int (by decide)) ?_)
    refine sds_cons (sd_set 5 g.nd (ed_mod (ed_pow (ed_v 5) ed_int ⟨by decide, by decide, ?_⟩) ed_int (by decide)) ?_)
    · have a1 := m1 (cells[j] + 104729 * (cnt + 1))
      have a2 := m2 (cells[j] + 104729 * (cnt + 1))
      generalize (cells[j] + 104729 * (cnt + 1)) % 4294967291 = x at a1 a2
      show x.natAbs < 2 ^ 64
      omega
    · refine sds_one (sd_retD (ed_mod (ed_fdivS (ed_mod (ed_add (ed_mulS (ed_fdivS (ed_v 5) ed_int ⟨by decide, by decide⟩) ed_int (.inr ⟨by decide, by decide⟩)) (ed_v 5)) ed_int (by decide)) ed_int ⟨by decide, by decide⟩) (ed_v 1) hl) ?_)
      exact ⟨_, cells, cnt + 1, Int.emod_nonneg _ (Int.ne_of_gt hl), Int.emod_lt_of_pos _ hl, hc, rfl⟩)
end
end Pg

namespace Pg
open PySem PySem.Spec PyProof.Rows L2 Sd
section
variable {P : Program} {w : World} {K : PySem.W.Frag} {mg : Str → Option Value} {base : Heap} {c : Cl}
def pre_law_pick : Pr := fun ss own post => ∃ (d n : Addr) (cells : List Int) (cnt : Int) (ds : List PyData), ss = [.raw (.ref d), .d (.list ds)] ∧ own = drw d n cells cnt ∧ cells ≠ [] ∧ ds ≠ [] ∧ ds.length ≤ 1000000 ∧
  post = fun o => ∃ x cells' cnt', x ∈ ds ∧ cells' ≠ [] ∧ o = .ret (.d x) (drw d n cells' cnt')
theorem fn_law_pick (T : Tx K mg c) : Fn K mg P w base "_law_pick" ["draws", "choices"] 2 pre_law_pick := T.d_law_pick.fn fun f fd F => okG (k := 1) F sc_law_pick (by rintro ss own post ⟨d, n, cells, cnt, ds, rfl, _⟩; rfl) (by
  rintro ss own post ⟨d, n, cells, cnt, ds, rfl, rfl, hc, hd, hl, rfl⟩ cdv A outer s H E B g
  have hpos : 0 < ds.length := List.length_pos_iff.mpr hd
  refine sds_one (sd_retG (eg_ixL (P := fun i o => ∃ cells' cnt', 0 ≤ i ∧ i < (ds.length : Int) ∧ cells' ≠ [] ∧ o = drw d n cells' cnt') (R := fun t o => ∃ x cells' cnt', x ∈ ds ∧ cells' ≠ [] ∧ t = .d x ∧ o = drw d n cells' cnt') (ed_v 1) (eg_call (oa := []) (o1 := drw d n cells cnt) (ob := []) (fn_law_draw T) g (by decide) (ea_cons (ev_v 0) (ea_cons (ed_len T.n_len (ed_v 1) .d) ea_nil)) ⟨d, n, cells, cnt, _, rfl, rfl, hc, by omega, by omega, rfl⟩ ?_ ?_) ?_) ?_)
  · rintro t o1 ⟨r, cells', cnt', h0, h1, h2, e⟩
    cases e
    exact ⟨r, rfl, cells', cnt', h0, h1, h2, by simp⟩
  · rintro C o1 ⟨r, cells', cnt', h0, h1, h2, e⟩
    cases e
  · rintro i o ⟨cells', cnt', h0, h1, h2, rfl⟩
    obtain ⟨j, rfl⟩ : ∃ j : Nat, i = (j : Int) := ⟨i.toNat, by omega⟩
    have hj : j < ds.length := by omega
    exact ⟨ds[j], atI_nat (List.getElem?_eq_getElem hj), ds[j], cells', cnt', List.getElem_mem hj, h2, rfl, rfl⟩
  · rintro t o ⟨x, cells', cnt', h1, h2, rfl, rfl⟩
    exact ⟨x, cells', cnt', h1, h2, rfl⟩)
end
end Pg

namespace Pg
open PySem PySem.Spec PyProof.Rows L2 Sd
section
variable {P : Program} {w : World} {K : PySem.W.Frag} {mg : Str → Option Value} {base : Heap} {c : Cl}
def pre_law_year : Pr := fun ss own post => ∃ (d n : Addr) (cells : List Int) (cnt most : Int), ss = [.raw (.ref d), .d (.int most)] ∧ own = drw d n cells cnt ∧ cells ≠ [] ∧ 1 ≤ most ∧ most ≤ 8 ∧
  post = fun o => ∃ p ys cells' cnt', Yr ys ∧ (ys.length : Int) ≤ most ∧ cells' ≠ [] ∧ o = .ret (.raw (.ref p)) ((p, .lst (ys.map PyData.int)) :: drw d n cells' cnt')
theorem fn_law_year (T : Tx K mg c) : Fn K mg P w base "_law_year" ["draws", "most"] 3 pre_law_year := T.d_law_year.fn fun f fd F => okG (k := 2) F sc_law_year (by rintro ss own post ⟨d, n, cells, cnt, most, rfl, _⟩; rfl) (by
  rintro ss own post ⟨d, n, cells, cnt, most, rfl, rfl, hc, hm1, hm8, rfl⟩ cdv A outer s H E B g
  refine sds_cons (sd_setG 2 g.nd (R := fun t o => ∃ wd cells' cnt', (1 ≤ wd ∧ wd ≤ 20) ∧ cells' ≠ [] ∧ t = .d (.int wd) ∧ o = drw d n cells' cnt') (eg_call (oa := []) (o1 := drw d n cells cnt) (ob := []) (fn_law_pick T) g (by decide) (ea_cons (ev_v 0) (ea_cons (ed_lst (ds := [.int 1, .int 3, .int 20]) (ea_cons ed_int (ea_cons ed_int (ea_cons ed_int ea_nil)))) ea_nil)) ⟨d, n, cells, cnt, _, rfl, rfl, hc, by simp, by simp, rfl⟩ ?_ ?_) ?_)
  · rintro t o1 ⟨x, cells', cnt', h1, h2, e⟩
    cases e
    simp only [List.mem_cons, List.not_mem_nil, or_false] at h1
    rcases h1 with rfl | rfl | rfl
    · exact ⟨1, cells', cnt', by decide, h2, rfl, by simp⟩
    · exact ⟨3, cells', cnt', by decide, h2, rfl, by simp⟩
    · exact ⟨20, cells', cnt', by decide, h2, rfl, by simp⟩
  · rintro C o1 ⟨x, cells', cnt', h1, h2, e⟩
    cases e
  rintro t o ⟨wd, cells', cnt', hw, hc', rfl, rfl⟩
  refine sds_one (sd_retG (eg_comp g (compG g (itg_range1 (P := fun i o => (1 ≤ i ∧ i ≤ most) ∧ ∃ cells' cnt', cells' ≠ [] ∧ o = drw d n cells' cnt') T.n_range (EG.imp (eg_add (P := fun j o => (0 ≤ j ∧ j < most) ∧ ∃ cells' cnt', cells' ≠ [] ∧ o = drw d n cells' cnt') ed_int (eg_call (oa := []) (o1 := drw d n cells' cnt') (ob := []) (fn_law_draw T) g (by decide) (ea_cons (ev_v 0) (ea_cons (ed_v 1) ea_nil)) ⟨d, n, cells', cnt', _, rfl, rfl, hc', by omega, by omega, rfl⟩ ?_ ?_)) ?_)) [("k", 3)] (blkOk_by (N := ["draws", "most", "wide", "k"]) (sc := defScope s_law_year) (by decide +kernel))
    (fun ys i acc o => ∃ m : Int, (1 ≤ m ∧ m ≤ most) ∧ ys.length = m.toNat ∧ (∃ vs : List Int, acc = vs.map PyData.int ∧ vs.length = i ∧ ∀ v ∈ vs, 1 ≤ v ∧ v ≤ 20) ∧ i ≤ ys.length ∧ ∃ cells' cnt', cells' ≠ [] ∧ o = drw d n cells' cnt') ?_ ?_ ?_)) ?_)
  · rintro t o1 ⟨r, cells'', cnt'', h0, h1, h2, e⟩
    cases e
    exact ⟨r, rfl, ⟨h0, h1⟩, cells'', cnt'', h2, by simp⟩
  · rintro C o1 ⟨r, cells'', cnt'', h0, h1, h2, e⟩
    cases e
  · rintro t o ⟨j, rfl, hj, cells'', cnt'', h2, rfl⟩
    exact ⟨1 + j, rfl, by omega, by omega, cells'', cnt'', h2, rfl⟩
  · rintro ys o ⟨i, rfl, hi, cells'', cnt'', h2, rfl⟩
    exact ⟨i, hi, rng_length _ _, ⟨[], rfl, rfl, by simp⟩, Nat.zero_le _, cells'', cnt'', h2, rfl⟩
  · rintro ys i acc o ⟨m, hm, hl, ⟨vs, rfl, hv, _⟩, hi, _⟩
    rw [List.length_map]
    omega
  · rintro ys i y acc o D hy ⟨m, hm, hl, ⟨vs, rfl, hv, hvs⟩, hi, cells'', cnt'', h2, rfl⟩
    have hlt : i < ys.length := (List.getElem?_eq_some_iff.mp hy).1
    refine ⟨_, _, true, ?_, fun s H C cl fp => gt_name 3 g.nd, fun s H C cl fp => ets_nil, fun _ s H C cl fp => ?_, fun h => nomatch h⟩
    · intro i hi
      simpa using hi
    · refine EG.imp (eg_add (P := fun j o => (0 ≤ j ∧ j < wd) ∧ ∃ cells' cnt', cells' ≠ [] ∧ o = (D, .lst (vs.map PyData.int)) :: drw d n cells' cnt') ed_int (eg_call (oa := [(D, .lst (vs.map PyData.int))]) (o1 := drw d n cells'' cnt'') (ob := []) (fn_law_draw T) (g.blk ..) (by decide) (ea_cons (ev_v 0) (ea_cons (ed_v 2) ea_nil)) ⟨d, n, cells'', cnt'', _, rfl, rfl, h2, by omega, by omega, rfl⟩ ?_ ?_)) ?_
      · rintro t o1 ⟨r, cells3, cnt3, h0, h1, h2, e⟩
        cases e
        exact ⟨r, rfl, ⟨h0, h1⟩, cells3, cnt3, h2, by simp⟩
      · rintro C o1 ⟨r, cells3, cnt3, h0, h1, h2, e⟩
        cases e
      · rintro t o ⟨j, rfl, hj, cells3, cnt3, h3, rfl⟩
        refine ⟨.int (1 + j), drw d n cells3 cnt3, rfl, rfl, m, hm, hl, ⟨vs ++ [1 + j], by simp, by simp [hv], ?_⟩, hlt, cells3, cnt3, h3, rfl⟩
        intro v hv'
        rcases List.mem_append.mp hv' with h | h
        · exact hvs v h
        · have : v = 1 + j := by simpa using h
          omega
  · rintro t o ⟨p, ds, o', rfl, rfl, ys, m, hm, hl, ⟨vs, rfl, hv, hvs⟩, hi, cells3, cnt3, h3, rfl⟩
    exact ⟨p, vs, cells3, cnt3, ⟨by omega, by omega, hvs⟩, by omega, h3, rfl⟩)
end
end Pg

namespace Pg
open PySem PySem.Spec PyProof.Rows L2 Sd
section
variable {P : Program} {w : World} {K : PySem.W.Frag} {mg : Str → Option Value} {base : Heap} {c : Cl}
end
end Pg

namespace Pg
open PySem PySem.Spec PyProof.Rows L2 Sd
section
variable {P : Program} {w : World} {K : PySem.W.Frag} {mg : Str → Option Value} {base : Heap} {c : Cl}
theorem eg_year {Z : Sd.Ctx} {k : Nat} {ρ : List Slot} {ob : Own} {e1 e2 : Expr} {p pos : Pos} {d n : Addr} {cells : List Int} {cnt most : Int} (F : Fn Z.X.K Z.X.mg Z.X.prog Z.X.w Z.X.base "_law_year" ["draws", "most"] 3 pre_law_year) (g : Gd Z k) (hk : 3 ≤ k) (hc : cells ≠ []) (ha : EA Z [e1, e2] ρ (drw d n cells cnt ++ ob) [.raw (.ref d), .d (.int most)]) (hl : 1 ≤ most) (hl2 : most ≤ 8)
    (hg : Gl Z.X "_law_year" := by rfl) (he : starEach [e1, e2] Z.X.env = (false, eval e1 Z.X.env) :: starEach [e2] Z.X.env := by rfl) (hpl : (backTo pos (starEach [e2] Z.X.env)).any (·.1) = false := by rfl) :
    EG Z (.Call (.Name "_law_year" p) [e1, e2] [] pos) ρ (drw d n cells cnt ++ ob) (fun t o => ∃ (ys cells' : List Int) (cnt' : Int), Yr ys ∧ (ys.length : Int) ≤ most ∧ cells' ≠ [] ∧ t = .d (li ys) ∧ o = drw d n cells' cnt' ++ ob) :=
  EG.frz (P := fun ds o => ∃ (ys cells' : List Int) (cnt' : Int), ds = ys.map PyData.int ∧ Yr ys ∧ (ys.length : Int) ≤ most ∧ cells' ≠ [] ∧ o = drw d n cells' cnt' ++ ob)
    (eg_call (oa := []) (o1 := drw d n cells cnt) F g hk ha ⟨d, n, cells, cnt, most, rfl, rfl, hc, hl, hl2, rfl⟩ (by
      rintro t o1 ⟨q, ys, cells', cnt', h1, h2, h3, e⟩
      cases e
      exact ⟨q, _, _, rfl, rfl, ys, cells', cnt', rfl, h1, h2, h3, rfl⟩) (by
      rintro C o1 ⟨q, ys, cells', cnt', h1, h2, h3, e⟩
      cases e) hg (by decide) he hpl) (by
    rintro ds o ⟨ys, cells', cnt', rfl, h1, h2, h3, rfl⟩
    exact ⟨ys, cells', cnt', h1, h2, h3, rfl, rfl⟩)
end
end Pg

namespace Pg
open PySem PySem.Spec PyProof.Rows L2 Sd
section
variable {P : Program} {w : World} {K : PySem.W.Frag} {mg : Str → Option Value} {base : Heap} {c : Cl}
def lN : List Str := ["script", "draws", "bad", "year", "k"]
def badY : List PyData := [.none, .int 5, .tuple [], .list [], .tuple [.int 1, .int 2], .list [.int 0], .list [.int 21], .list [.int (0 - 1)], .list [.bool true], .list [.str "1"], .list [.none], .list [.int 1, .int 1, .int 1, .int 1, .int 1, .int 1, .int 1, .int 1, .int 1], .list [.list [.int 1]]]
theorem badY_x {d : PyData} (h : d ∈ badY) : isYear d = false := by
  simp only [badY, List.mem_cons, List.not_mem_nil, or_false] at h
  rcases h with rfl | rfl | rfl | rfl | rfl | rfl | rfl | rfl | rfl | rfl | rfl | rfl | rfl <;> decide +kernel
def badM : List PyData := [.none, .int 13, .int (0 - 1), .bool true, .str "1"]
theorem badM_x {d : PyData} (h : d ∈ badM) : Sd.isInt d 0 12 = false := by
  simp only [badM, List.mem_cons, List.not_mem_nil, or_false] at h
  rcases h with rfl | rfl | rfl | rfl | rfl <;> decide +kernel
def badD (n : Nat) : List PyData := [.none, .int (n : Int), .int (0 - 1), .bool true, .str "0"]
theorem badD_x {n : Nat} {d : PyData} (h : d ∈ badD n) : Sd.isInt d 0 ((n : Int) - 1) = false := by
  simp only [badD, List.mem_cons, List.not_mem_nil, or_false] at h
  rcases h with rfl | rfl | rfl | rfl | rfl
  · rfl
  · simp [Sd.isInt]; omega
  · rfl
  · rfl
  · rfl
theorem y120 : Yr [1, 20] := ⟨by decide, by decide, by decide⟩
/-- a range of calls -/
theorem et_rng {Z : Sd.Ctx} {k : Nat} {ρ : List Slot} {own : Own} {elt tg it b : Expr} {scope : Scope} {p1 p2 : Pos} (i n : Nat) (g : Gd Z k) (h : CP Z elt tg it [] scope ρ own (fun ds o => ds = (List.range n).filterMap (fun _ => some (PyData.str (askN i))) ∧ o = own)) (hs : ∀ x, foldedSetIterable it Z.X.env x = pure x) (h2 : ED Z b ρ own (.list (wrd i n))) : ET Z (.Compare (.ListComp elt [⟨tg, it, [], 0⟩] scope p1) [.NotEq] [b] p2) ρ own false := et_wrd i n g (EL.ed (EL.is (el_comp g h hs) (by rw [wrd_fm, List.length_range]))) h2
theorem et_tup {Z : Sd.Ctx} {k : Nat} {ρ : List Slot} {own : Own} {elt tg it b : Expr} {scope : Scope} {p1 p2 : Pos} (i : Nat) (l : List Int) (g : Gd Z k) (h : CP Z elt tg it [] scope ρ own (fun ds o => ds = l.filterMap (fun _ => some (PyData.str (askN i))) ∧ o = own)) (hs : ∀ x, foldedSetIterable it Z.X.env x = pure x) (h2 : ED Z b ρ own (.list (wrd i l.length))) : ET Z (.Compare (.ListComp elt [⟨tg, it, [], 0⟩] scope p1) [.NotEq] [b] p2) ρ own false := et_wrd i l.length g (EL.ed (EL.is (el_comp g h hs) (by rw [wrd_fm]))) h2
theorem ok_law (T : Tx K mg c) {f : Addr} {fd : FuncData} (F : Fun K "law" "law" s_law f fd) : FnOk P w K mg base (L2.CX P w) 9 f fd ["script"] (spG (pre_law K)) := okG (k := 8) F sc_law (by rintro ss own post ⟨a, ns, rfl, _⟩; rfl) (by
  rintro ss own0 post ⟨a, ns, rfl, hs, hns, rfl⟩ cdv A outer s H E B g
  refine sds_cons (sd_setG 1 g.nd (R := fun t o => ∃ (d q : Addr) (cells : List Int), cells ≠ [] ∧ t = .raw (.ref d) ∧ o = drw d q cells 0 ++ own0) (eg_callW (fn_law_start T) g (by decide) (ea_cons (ev_v 0) ea_nil) ⟨a, ns, rfl, hs, rfl⟩ ?_ ?_) ?_)
  · rintro t o ⟨d, n, cells, hc, e⟩
    cases e
    exact ⟨d, n, cells, hc, rfl, rfl⟩
  · rintro C o ⟨d, n, cells, hc, e⟩
    cases e
  rintro t o ⟨d, q, cells, hc, rfl, rfl⟩
  show SDs _ (_ :: _) _ _ _
  with_reducible refine sds_cons ?_
  with_reducible refine sd_for g (Po := fun _ => True) (ys := badY) ?itA (fun i ρ o => o = drw d q cells 0 ++ own0 ∧ ∃ x2, ρ = [.raw (.ref a), .raw (.ref d), x2, .un, .un]) ?h0A ?hpA ?stA ?hdA ?hsA
  case itA =>
    with_reducible refine it_lstE (ea_k ed_non (ea_k ed_int (ea_t ed_t0 (ea_l ed_l0 (ea_t (ed_t2 (ea_k ed_int (ea_k ed_int ea_nil))) (ea_l (ed_l1 (ea_k ed_int ea_nil)) (ea_l (ed_l1 (ea_k ed_int ea_nil)) (ea_l (ed_l1 (ea_b (ed_sub ed_int ed_int) ea_nil)) (ea_l (ed_l1 (ea_k ed_bl ea_nil)) (ea_l (ed_l1 (ea_k ed_str ea_nil)) (ea_l (ed_l1 (ea_k ed_non ea_nil)) (ea_b (ed_rep9 ed_int) (ea_l (ed_l1 (ea_l (ed_l1 (ea_k ed_int ea_nil)) ea_nil)) ea_nil))))))))))))) ?j2A ?j3A
    case j2A => rfl
    case j3A => decide
  case h0A => exact ⟨rfl, _, rfl⟩
  case hpA => exact fun _ _ _ _ => trivial
  case hsA => intro _; rfl
  case stA =>
    rintro i y ρ1 ow hy ⟨rfl, x2, rfl⟩
    have hb := badY_x (List.mem_of_getElem? hy)
    refine ⟨_, _, gt_name 2 g.nd, ?_⟩
    refine sds_cons (sd_or2 (ET.is (et_cmp c_notB (es_call (fn_is_year T) g (by decide) (ea_cons (ed_v 2) ea_nil) ⟨y, rfl, rfl, rfl⟩) ed_bl) (by rw [hb]; rfl)) (et_rng 0 13 g (compP g (it_range1 T.n_range ed_int ⟨by decide, by decide⟩) [("k", 4)] (blkOk_by (N := lN) (sc := defScope s_law) (by decide +kernel)) (List.range 13) (fun (k : Nat) => PyData.int ((k : Nat) : Int)) (rng_nat rfl) (fun _ => some (.str (askN 0))) (fun k => [.raw (.ref a), .raw (.ref d), .d y, .un, .d (.int ((k : Nat) : Int))]) [4] (by simp) (by simp) (fun _ _ => trivial)
      (fun k _ s H C cl fp g' => gt_name 4 g'.nd) (fun k hk s H C cl fp o g' => ets_nil) (fun k hk x hx s H C cl fp o g' => by cases hx; exact ed_asked (fn_law_asked T) g' (by decide) ed_int (ed_v 4) (ed_v 2) ed_int (.one (ask1_bad hb k (List.mem_range.mp hk))))) (fun _ => rfl) (ES.is (EL.ed (el_rep (i := 13) (ed_s1 (z := "year")) ed_int .d (by decide) (by simp))) rfl)) ?_)
    refine sds_one (sd_or2 (et_rng 0 17 g (compP g (it_range1 T.n_range ed_int ⟨by decide, by decide⟩) [("k", 4)] (blkOk_by (N := lN) (sc := defScope s_law) (by decide +kernel)) (List.range 17) (fun (k : Nat) => PyData.int ((k : Nat) : Int)) (rng_nat rfl) (fun _ => some (.str (askN 0))) (fun k => [.raw (.ref a), .raw (.ref d), .d y, .un, .d (.int ((k : Nat) : Int))]) [4] (by simp) (by simp) (fun _ _ => trivial)
      (fun k _ s H C cl fp g' => gt_name 4 g'.nd) (fun k hk s H C cl fp o g' => ets_nil) (fun k hk x hx s H C cl fp o g' => by cases hx; exact ed_asked (fn_law_asked T) g' (by decide) ed_int (ed_v 4) (ed_v 2) ed_non (.num (ask2_bad hb k (List.mem_range.mp hk))))) (fun _ => rfl) (ES.is (EL.ed (el_rep (i := 17) (ed_s1 (z := "year")) ed_int .d (by decide) (by simp))) rfl))
      (et_rng 0 8 g (compP g (it_range1 T.n_range ed_int ⟨by decide, by decide⟩) [("k", 4)] (blkOk_by (N := lN) (sc := defScope s_law) (by decide +kernel)) (List.range 8) (fun (k : Nat) => PyData.int ((k : Nat) : Int)) (rng_nat rfl) (fun _ => some (.str (askN 0))) (fun k => [.raw (.ref a), .raw (.ref d), .d y, .un, .d (.int ((k : Nat) : Int))]) [4] (by simp) (by simp) (fun _ _ => trivial)
      (fun k _ s H C cl fp g' => gt_name 4 g'.nd) (fun k hk s H C cl fp o g' => ets_nil) (fun k hk x hx s H C cl fp o g' => by cases hx; exact ed_asked (fn_law_asked T) g' (by decide) ed_int (ed_v 4) (ed_v 2) ed_non (.day (ask3_bad hb k (List.mem_range.mp hk))))) (fun _ => rfl) (ES.is (EL.ed (el_rep (i := 8) (ed_s1 (z := "year")) ed_int .d (by decide) (by simp))) rfl)) ⟨rfl, _, rfl⟩)
  case hdA =>
  rintro ρ1 ow ⟨rfl, x2, rfl⟩
  refine sds_cons (sd_setG 3 g.nd (R := fun t o => ∃ (ys cells' : List Int) (cnt' : Int), Yr (5 :: 1 :: ys) ∧ 1 ≤ ys.length ∧ t = .d (li (5 :: 1 :: ys)) ∧ o = drw d q cells' cnt' ++ own0) (eg_catD (xs := [.int 5, .int 1]) (ed_lst (ds := [.int 5, .int 1]) (ea_cons ed_int (ea_cons ed_int ea_nil))) (eg_year (fn_law_year T) g (by decide) hc (ea_cons (ev_v 1) (ea_cons ed_int ea_nil)) (by decide) (by decide)) ?_) ?_)
  · rintro t o ⟨ys, cells', cnt', hY, hl, _, rfl, rfl⟩
    have hlo := hY.lo
    refine ⟨ys.map PyData.int, rfl, by simp; omega, ys, cells', cnt', ⟨by simp, by simp; omega, fun y hy => ?_⟩, by omega, rfl, rfl⟩
    rcases List.mem_cons.mp hy with rfl | hy
    · decide
    · rcases List.mem_cons.mp hy with rfl | hy
      · decide
      · exact hY.it y hy
  rintro t o ⟨zs, cells2, cnt2, hY, hlz, rfl, rfl⟩
  obtain ⟨ys, hys⟩ : ∃ ys, ys = 5 :: 1 :: zs := ⟨_, rfl⟩
  have g0 : ys.getD 0 0 = 5 := by rw [hys]; rfl
  have g1 : ys.getD 1 0 = 1 := by rw [hys]; rfl
  have hl3 : 3 ≤ ys.length := by rw [hys]; simp; omega
  rw [← hys] at hY ⊢
  have hl8 := hY.hi
  have hwo : isYear (li (ys.take 1 ++ ys.drop (1 + 1))) = true := Yr.is ⟨by rw [List.length_append, List.length_take, List.length_drop]; omega, by rw [List.length_append, List.length_take, List.length_drop]; omega, fun y hy => by
    rcases List.mem_append.mp hy with hy | hy
    · exact hY.it y (List.mem_of_mem_take hy)
    · exact hY.it y (List.mem_of_mem_drop hy)⟩
  obtain ⟨ow, how⟩ : ∃ ow, ow = drw d q cells2 cnt2 ++ own0 := ⟨_, rfl⟩
  rw [← how]
  show SDs _ (_ :: _) _ _ _
  with_reducible refine sds_cons ?_
  with_reducible refine sd_for g (Po := fun _ => True) (ys := badM) ?itB (fun i ρ o => o = ow ∧ ∃ x2, ρ = [.raw (.ref a), .raw (.ref d), x2, .d (li ys), .un]) ?h0B ?hpB ?stB ?hdB ?hsB
  case itB =>
    with_reducible refine it_lstE (ea_k ed_non (ea_k ed_int (ea_b (ed_sub ed_int ed_int) (ea_k ed_bl (ea_k ed_str ea_nil))))) ?j2B ?j3B
    case j2B => rfl
    case j3B => decide
  case h0B => exact ⟨rfl, _, rfl⟩
  case hpB => exact fun _ _ _ _ => trivial
  case hsB => intro _; rfl
  case stB =>
    rintro i y ρ1 ow hy ⟨rfl, x2, rfl⟩
    have hb := badM_x (List.mem_of_getElem? hy)
    refine ⟨_, _, gt_name 2 g.nd, ?_⟩
    refine sds_one (sd_ifF (et_rng 2 17 g (compP g (it_range1 T.n_range ed_int ⟨by decide, by decide⟩) [("k", 4)] (blkOk_by (N := lN) (sc := defScope s_law) (by decide +kernel)) (List.range 17) (fun (k : Nat) => PyData.int ((k : Nat) : Int)) (rng_nat rfl) (fun _ => some (.str (askN 2))) (fun k => [.raw (.ref a), .raw (.ref d), .d y, .d (li ys), .d (.int ((k : Nat) : Int))]) [4] (by simp) (by simp) (fun _ _ => trivial)
      (fun k _ s H C cl fp g' => gt_name 4 g'.nd) (fun k hk s H C cl fp o g' => ets_nil) (fun k hk x hx s H C cl fp o g' => by cases hx; exact ed_asked (fn_law_asked T) g' (by decide) ed_int (ed_v 4) (ed_v 3) (ed_v 2) (.num (ask2_num hY hb k (List.mem_range.mp hk))))) (fun _ => rfl) (ES.is (EL.ed (el_rep (i := 17) (ed_s1 (z := "number")) ed_int .d (by decide) (by simp))) rfl)) ⟨rfl, _, rfl⟩)
  case hdB =>
  rintro ρ1 ow' ⟨rfl, x2, rfl⟩
  show SDs _ (_ :: _) _ _ _
  with_reducible refine sds_cons ?_
  with_reducible refine sd_for g (Po := fun _ => True) (ys := badD ys.length) ?itC (fun i ρ o => o = ow' ∧ ∃ x2, ρ = [.raw (.ref a), .raw (.ref d), x2, .d (li ys), .un]) ?h0C ?hpC ?stC ?hdC ?hsC
  case itC =>
    with_reducible refine it_lstE (ea_k ed_non (ea_c (s := .d (.int (ys.length : Int))) ?lenC (ea_b (ed_sub ed_int ed_int) (ea_k ed_bl (ea_k ed_str ea_nil))))) ?j2C ?j3C
    case lenC => exact ES.is (y := .int (ys.length : Int)) (ed_len T.n_len (ed_v 3) .d) (by rw [List.length_map])
    case j2C => rfl
    case j3C => simp [badD]
  case h0C => exact ⟨rfl, _, rfl⟩
  case hpC => exact fun _ _ _ _ => trivial
  case hsC => intro _; rfl
  case stC =>
    rintro i y ρ1 ow hy ⟨rfl, x2, rfl⟩
    have hb := badD_x (List.mem_of_getElem? hy)
    refine ⟨_, _, gt_name 2 g.nd, ?_⟩
    refine sds_one (sd_ifF (et_rng 1 8 g (compP g (it_range1 T.n_range ed_int ⟨by decide, by decide⟩) [("k", 4)] (blkOk_by (N := lN) (sc := defScope s_law) (by decide +kernel)) (List.range 8) (fun (k : Nat) => PyData.int ((k : Nat) : Int)) (rng_nat rfl) (fun _ => some (.str (askN 1))) (fun k => [.raw (.ref a), .raw (.ref d), .d y, .d (li ys), .d (.int ((k : Nat) : Int))]) [4] (by simp) (by simp) (fun _ _ => trivial)
      (fun k _ s H C cl fp g' => gt_name 4 g'.nd) (fun k hk s H C cl fp o g' => ets_nil) (fun k hk x hx s H C cl fp o g' => by cases hx; exact ed_asked (fn_law_asked T) g' (by decide) ed_int (ed_v 4) (ed_v 3) (ed_v 2) (.day (ask3_day hY hb k (List.mem_range.mp hk))))) (fun _ => rfl) (ES.is (EL.ed (el_rep (i := 8) (ed_s1 (z := "day")) ed_int .d (by decide) (by simp))) rfl)) ⟨rfl, _, rfl⟩)
  case hdC =>
  rintro ρ1 ow'' ⟨rfl, x2, rfl⟩
  refine sds_cons (sd_or2 (et_rng 6 13 g (compP g (it_range1 T.n_range ed_int ⟨by decide, by decide⟩) [("k", 4)] (blkOk_by (N := lN) (sc := defScope s_law) (by decide +kernel)) (List.range 13) (fun (k : Nat) => PyData.int ((k : Nat) : Int)) (rng_nat rfl) (fun _ => some (.str (askN 6))) (fun k => [.raw (.ref a), .raw (.ref d), x2, .d (li ys), .d (.int ((k : Nat) : Int))]) [4] (by simp) (by simp) (fun _ _ => trivial)
      (fun k _ s H C cl fp g' => gt_name 4 g'.nd) (fun k hk s H C cl fp o g' => ets_nil) (fun k hk x hx s H C cl fp o g' => by cases hx; exact ed_asked (fn_law_asked T) g' (by decide) ed_int (ed_v 4) (ed_v 3) ed_int (.one (ask1_ok hY k (List.mem_range.mp hk))))) (fun _ => rfl) (ES.is (EL.ed (el_rep (i := 13) (ed_s1 (z := "done")) ed_int .d (by decide) (by simp))) rfl))
    (et_rng 6 17 g (compP g (it_range1 T.n_range ed_int ⟨by decide, by decide⟩) [("k", 4)] (blkOk_by (N := lN) (sc := defScope s_law) (by decide +kernel)) (List.range 17) (fun (k : Nat) => PyData.int ((k : Nat) : Int)) (rng_nat rfl) (fun _ => some (.str (askN 6))) (fun k => [.raw (.ref a), .raw (.ref d), x2, .d (li ys), .d (.int ((k : Nat) : Int))]) [4] (by simp) (by simp) (fun _ _ => trivial)
      (fun k _ s H C cl fp g' => gt_name 4 g'.nd) (fun k hk s H C cl fp o g' => ets_nil) (fun k hk x hx s H C cl fp o g' => by cases hx; exact ed_asked (fn_law_asked T) g' (by decide) ed_int (ed_v 4) (ES.is (y := li [1, 20]) (ed_lst (ds := [.int 1, .int 20]) (ea_cons ed_int (ea_cons ed_int ea_nil))) rfl) ed_int (.num (ask2_ok y120 (m := 12) (by decide) k (List.mem_range.mp hk))))) (fun _ => rfl) (ES.is (EL.ed (el_rep (i := 17) (ed_s1 (z := "done")) ed_int .d (by decide) (by simp))) rfl)) ?_)
  refine sds_cons (sd_or2 (et_rng 6 17 g (compP g (it_range1 T.n_range ed_int ⟨by decide, by decide⟩) [("k", 4)] (blkOk_by (N := lN) (sc := defScope s_law) (by decide +kernel)) (List.range 17) (fun (k : Nat) => PyData.int ((k : Nat) : Int)) (rng_nat rfl) (fun _ => some (.str (askN 6))) (fun k => [.raw (.ref a), .raw (.ref d), x2, .d (li ys), .d (.int ((k : Nat) : Int))]) [4] (by simp) (by simp) (fun _ _ => trivial)
      (fun k _ s H C cl fp g' => gt_name 4 g'.nd) (fun k hk s H C cl fp o g' => ets_nil) (fun k hk x hx s H C cl fp o g' => by cases hx; exact ed_asked (fn_law_asked T) g' (by decide) ed_int (ed_v 4) (ed_v 3) ed_int (.num (ask2_ok hY (m := 0) (by decide) k (List.mem_range.mp hk))))) (fun _ => rfl) (ES.is (EL.ed (el_rep (i := 17) (ed_s1 (z := "done")) ed_int .d (by decide) (by simp))) rfl))
    (et_tup 6 [0, 1, 2, 3, 4, 7] g (compP g (it_tupE (ds := [.int 0, .int 1, .int 2, .int 3, .int 4, .int 7]) (ea_k ed_int (ea_k ed_int (ea_k ed_int (ea_k ed_int (ea_k ed_int (ea_k ed_int ea_nil)))))) rfl (by decide)) [("k", 4)] (blkOk_by (N := lN) (sc := defScope s_law) (by decide +kernel)) [0, 1, 2, 3, 4, 7] PyData.int rfl (fun _ => some (.str (askN 6))) (fun k => [.raw (.ref a), .raw (.ref d), x2, .d (li ys), .d (.int k)]) [4] (by simp) (by decide) (fun _ _ => trivial)
      (fun k _ s H C cl fp g' => gt_name 4 g'.nd) (fun k hk s H C cl fp o g' => ets_nil) (fun k hk x hx s H C cl fp o g' => by
        cases hx
        refine ed_asked (y := .int ((1 : Nat) : Int)) (fn_law_asked T) g' (by decide) ed_int (ed_v 4) (ed_v 3) ed_int (.day ?_)
        simp only [List.mem_cons, List.not_mem_nil, or_false] at hk
        rcases hk with rfl | rfl | rfl | rfl | rfl | rfl
        · exact .o0 ys hY 1 (by omega)
        · exact .o1 ys hY 1 (by omega)
        · exact .o2 ys hY 1 (by omega)
        · exact .o3 ys hY 1 (by omega) (by rw [g0, g1]; decide)
        · exact .o4 ys hY 1 (by omega) (by rw [g0, g1]; decide)
        · exact .o7 ys hY 1 (by omega) hwo)) (fun _ => rfl) (ES.is (EL.ed (el_rep (i := 6) (ed_s1 (z := "done")) ed_int .d (by decide) (by simp))) rfl)) ?_)
  refine sds_cons (sd_or2 (et_tup 2 [5, 6] g (compP g (it_tupE (ds := [.int 5, .int 6]) (ea_k ed_int (ea_k ed_int ea_nil)) rfl (by decide)) [("k", 4)] (blkOk_by (N := lN) (sc := defScope s_law) (by decide +kernel)) [5, 6] PyData.int rfl (fun _ => some (.str (askN 2))) (fun k => [.raw (.ref a), .raw (.ref d), x2, .d (li ys), .d (.int k)]) [4] (by simp) (by decide) (fun _ _ => trivial)
      (fun k _ s H C cl fp g' => gt_name 4 g'.nd) (fun k hk s H C cl fp o g' => ets_nil) (fun k hk x hx s H C cl fp o g' => by
        cases hx
        refine ed_asked (y := .int 1) (fn_law_asked T) g' (by decide) ed_int (ed_v 4) (ed_v 3) ed_int (.day ?_)
        simp only [List.mem_cons, List.not_mem_nil, or_false] at hk
        rcases hk with rfl | rfl
        · exact .p5 ys hY (by omega)
        · exact .p6 ys hY (by omega))) (fun _ => rfl) (ES.is (EL.ed (el_rep (i := 2) (ed_s1 (z := "number")) ed_int .d (by decide) (by simp))) rfl))
    (et_tup 5 [3, 4] g (compP g (it_tupE (ds := [.int 3, .int 4]) (ea_k ed_int (ea_k ed_int ea_nil)) rfl (by decide)) [("k", 4)] (blkOk_by (N := lN) (sc := defScope s_law) (by decide +kernel)) [3, 4] PyData.int rfl (fun _ => some (.str (askN 5))) (fun k => [.raw (.ref a), .raw (.ref d), x2, .d (li ys), .d (.int k)]) [4] (by simp) (by decide) (fun _ _ => trivial)
      (fun k _ s H C cl fp g' => gt_name 4 g'.nd) (fun k hk s H C cl fp o g' => ets_nil) (fun k hk x hx s H C cl fp o g' => by
        cases hx
        refine ed_asked (y := .int ((0 : Nat) : Int)) (fn_law_asked T) g' (by decide) ed_int (ed_v 4) (ed_v 3) ed_int (.day ?_)
        simp only [List.mem_cons, List.not_mem_nil, or_false] at hk
        rcases hk with rfl | rfl
        · exact .e3 ys hY 0 (by omega) (by rw [g0]; decide)
        · exact .e4 ys hY 0 (by omega) (by rw [g0]; decide))) (fun _ => rfl) (ES.is (EL.ed (el_rep (i := 2) (ed_s1 (z := "none")) ed_int .d (by decide) (by simp))) rfl)) ?_)
  exact sds_one (sd_retD (es_call (fn_law_shares T) g (by decide) (ea_cons (ed_v 3) ea_nil) ⟨ys, rfl, rfl, hY, rfl⟩) ⟨_, rfl⟩))
end
end Pg

namespace Pg
open PySem PySem.Spec PyProof.Rows L2 Sd
section
variable {P : Program} {w : World} {K : PySem.W.Frag} {mg : Str → Option Value} {base : Heap} {c : Cl}
theorem int_mk {h : Heap} {z : Str} {i : Int} {t : Tok} (X : K.In h) (G : h.Ns mainGlobals mg) (a : PySem.W.nsIn K mainGlobals z = some (some (.int i t))) : ∃ t, mg z = some (.int i t) := ⟨t, PySem.W.mg_of X G a⟩
theorem law_end {fa cDayError cBadYear cBadDay cBadNumber cBadShare cBadText cNotFound cCalendar : Addr} (T : Tx K mg ⟨cDayError, cBadYear, cBadDay, cBadNumber, cBadShare, cBadText, cNotFound, cCalendar⟩) (hmg : mg "law" = some (.ref fa)) : ∃ fd : FuncData, (∀ (s : Shared) (u : Value), BindsTo s fd ⟨[u], []⟩ [("script", u)]) ∧ ∀ base : Heap, K.In base → base.Ns mainGlobals mg → FnOk P w K mg base (L2.CX P w) 9 fa fd ["script"] (spG (pre_law K)) := by
  obtain ⟨f, fd, F, hm, hb⟩ := T.d_law.ex
  rw [hmg] at hm
  cases hm
  exact ⟨fd, fun s u => .of_eq (hb [u] rfl), fun base _ _ => ok_law T F⟩
end
end Pg

open PySem PySem.W PyProof.Rows
set_option maxRecDepth 100000 in
set_option maxHeartbeats 0 in
theorem PySem.Challenge.cw_samedays_k11_errors_holds : PySem.Challenge.rw_samedays_k11_errors.Holds := by
  w_on; o_law; k_head; (case hw => w_witness2)
  k_fill
  refine L2.walk_of (l := PySem.Challenge.rw_samedays_k11_errors) (n := 63) (k := 9) (x := "script") (CX := fun w => L2.CX PySem.Challenge.rw_samedays_k11_errors.prog w) (sp := fun w => Sd.spG (Sd.pre_law _)) rfl (by decide) rfl ⟨rfl, by decide, by decide⟩ (fun w h Y => PySem.W.kIn_of Y) ?F (fun _ H a ns hl hO hS => Sd.law_in hl hO hS) (fun _ _ _ _ _ h => Sd.cx_no h)
  case F =>
    intro w mg fa h KX G hmg
    refine' Pg.law_end  ⟨Sd.df_mk2 KX G Pg.pa_wall ?a0 ?l0 ?c0 ?k0, Sd.err_mk KX G ?a1 ?x1 ?k1 ?b1 ?t1, Sd.err_mk KX G ?a2 ?x2 ?k2 ?b2 ?t2, Sd.err_mk KX G ?a3 ?x3 ?k3 ?b3 ?t3, Sd.err_mk KX G ?a4 ?x4 ?k4 ?b4 ?t4, Sd.err_mk KX G ?a5 ?x5 ?k5 ?b5 ?t5, Sd.err_mk KX G ?a6 ?x6 ?k6 ?b6 ?t6, Sd.err_mk KX G ?a7 ?x7 ?k7 ?b7 ?t7, Pg.int_mk KX G ?a8, Sd.df_mk2 KX G Pg.pa_is_int ?a9 ?l9 ?c9 ?k9, Sd.df_mk2 KX G Pg.pa_common ?a10 ?l10 ?c10 ?k10, Sd.df_mk2 KX G Pg.pa_is_year ?a11 ?l11 ?c11 ?k11, Sd.df_mk2 KX G Pg.pa_is_share ?a12 ?l12 ?c12 ?k12, Sd.df_mk2 KX G Pg.pa_check_year ?a13 ?l13 ?c13 ?k13, Sd.df_mk2 KX G Pg.pa_check_day ?a14 ?l14 ?c14 ?k14, Sd.df_mk2 KX G Pg.pa_check_many ?a15 ?l15 ?c15 ?k15, Sd.df_mk2 KX G Pg.pa_check_share ?a16 ?l16 ?c16 ?k16, Sd.df_mk2 KX G Pg.pa_lowest ?a17 ?l17 ?c17 ?k17, Sd.df_mk2 KX G Pg.pa_plus ?a18 ?l18 ?c18 ?k18, Sd.df_mk2 KX G Pg.pa_minus ?a19 ?l19 ?c19 ?k19, Sd.df_mk2 KX G Pg.pa_at_most ?a20 ?l20 ?c20 ?k20, Sd.df_mk2 KX G Pg.pa_power ?a21 ?l21 ?c21 ?k21, Sd.df_mk2 KX G Pg.pa_choose ?a22 ?l22 ?c22 ?k22, Sd.df_mk2 KX G Pg.pa_ordered ?a23 ?l23 ?c23 ?k23, Sd.df_mk2 KX G Pg.pa_product_sums ?a24 ?l24 ?c24 ?k24, Sd.df_mk2 KX G Pg.pa_unlike_of ?a25 ?l25 ?c25 ?k25, Sd.df_mk2 KX G Pg.pa_all_unlike ?a26 ?l26 ?c26 ?k26, Sd.df_mk2 KX G Pg.pa_some_same ?a27 ?l27 ?c27 ?k27, Sd.df_mk2 KX G Pg.pa_first_same_at ?a28 ?l28 ?c28 ?k28, Sd.df_mk2 KX G Pg.pa_mean_until_same ?a29 ?l29 ?c29 ?k29, Sd.df_mk2 KX G Pg.pa_needed ?a30 ?l30 ?c30 ?k30, Sd.df_mk2 KX G Pg.pa_same_table ?a31 ?l31 ?c31 ?k31, Sd.df_mk2 KX G Pg.pa_crowd_of ?a32 ?l32 ?c32 ?k32, Sd.df_mk2 KX G Pg.pa_crowd_at_most ?a33 ?l33 ?c33 ?k33, Sd.df_mk2 KX G Pg.pa_crowds ?a34 ?l34 ?c34 ?k34, Sd.df_mk2 KX G Pg.pa_pair_ways ?a35 ?l35 ?c35 ?k35, Sd.df_mk2 KX G Pg.pa_pair_chances ?a36 ?l36 ?c36 ?k36, Sd.df_mk2 KX G Pg.pa_mean_pairs ?a37 ?l37 ?c37 ?k37, Sd.df_mk2 KX G Pg.pa_likeliest_pairs ?a38 ?l38 ?c38 ?k38, Sd.df_mk2 KX G Pg.pa_used_ways ?a39 ?l39 ?c39 ?k39, Sd.df_mk2 KX G Pg.pa_used_chances ?a40 ?l40 ?c40 ?k40, Sd.df_mk2 KX G Pg.pa_mean_used ?a41 ?l41 ?c41 ?k41, Sd.df_mk2 KX G Pg.pa_all_used_of ?a42 ?l42 ?c42 ?k42, Sd.df_mk2 KX G Pg.pa_all_used ?a43 ?l43 ?c43 ?k43, Sd.df_mk2 KX G Pg.pa_all_used_at ?a44 ?l44 ?c44 ?k44, Sd.df_mk2 KX G Pg.pa_mean_until_all ?a45 ?l45 ?c45 ?k45, Sd.df_mk2 KX G Pg.pa_needed_for_all ?a46 ?l46 ?c46 ?k46, Sd.df_mk2 KX G Pg.pa_new_day_at ?a47 ?l47 ?c47 ?k47, Sd.df_mk2 KX G Pg.pa_share_of ?a48 ?l48 ?c48 ?k48, Sd.df_mk2 KX G Pg.pa_on_day ?a49 ?l49 ?c49 ?k49, Sd.df_mk2 KX G Pg.pa_just_on_day ?a50 ?l50 ?c50 ?k50, Sd.df_mk2 KX G Pg.pa_likeliest_days ?a51 ?l51 ?c51 ?k51, Sd.df_mk2 KX G Pg.pa_shares_of ?a52 ?l52 ?c52 ?k52, Sd.df_mk2 KX G Pg.pa_look_alike ?a53 ?l53 ?c53 ?k53, Sd.df_mk2 KX G Pg.pa_first_unlike ?a54 ?l54 ?c54 ?k54, Sd.df_mk2 KX G Pg.pa_more_same ?a55 ?l55 ?c55 ?k55, Sd.df_mk2 KX G Pg.pa_evened ?a56 ?l56 ?c56 ?k56, Sd.df_mk2 KX G Pg.pa_evenest ?a57 ?l57 ?c57 ?k57, Sd.df_mk2 KX G Pg.pa_is_even ?a58 ?l58 ?c58 ?k58, Sd.df_mk2 KX G Pg.pa_root_of ?a59 ?l59 ?c59 ?k59, Sd.df_mk2 KX G Pg.pa_two_days ?a60 ?l60 ?c60 ?k60, Sd.df_mk2 KX G Pg.pa_equal_days ?a61 ?l61 ?c61 ?k61, Sd.df_mk2 KX G Pg.pa_checked ?a62 ?l62 ?c62 ?k62, Sd.df_mk2 KX G Pg.pa_put_together ?a63 ?l63 ?c63 ?k63, Sd.df_mk2 KX G Pg.pa_without_day ?a64 ?l64 ?c64 ?k64, Sd.df_mk2 KX G Pg.pa_plain ?a65 ?l65 ?c65 ?k65, Sd.cls_mk KX G ?aCC ?yp ?yh ?yo ?ys ?ym ?yk, ?yY, ?yL, Sd.dfm_mk (fun _ _ _ _ _ _ us hl => match us, hl with | [_, _], _ => rfl) ?a66 ?i66 ?l66 ?c66 ?k66, Sd.dfm_mk (fun _ _ _ _ _ _ us hl => match us, hl with | [_, _], _ => rfl) ?a67 ?i67 ?l67 ?c67 ?k67, Sd.dfm_mk (fun _ _ _ _ _ _ us hl => match us, hl with | [_], _ => rfl) ?a68 ?i68 ?l68 ?c68 ?k68, Sd.dfm_mk (fun _ _ _ _ _ _ us hl => match us, hl with | [_], _ => rfl) ?a69 ?i69 ?l69 ?c69 ?k69, Sd.dfm_mk (fun _ _ _ _ _ _ us hl => match us, hl with | [_], _ => rfl) ?a70 ?i70 ?l70 ?c70 ?k70, Sd.dfm_mk (fun _ _ _ _ _ _ us hl => match us, hl with | [_], _ => rfl) ?a71 ?i71 ?l71 ?c71 ?k71, Sd.dfm_mk (fun _ _ _ _ _ _ us hl => match us, hl with | [_], _ => rfl) ?a72 ?i72 ?l72 ?c72 ?k72, Sd.dfm_mk (fun _ _ _ _ _ _ us hl => match us, hl with | [_], _ => rfl) ?a73 ?i73 ?l73 ?c73 ?k73, Sd.df_mk2 KX G Pg.pa_format_year ?a74 ?l74 ?c74 ?k74, Sd.df_mk2 KX G Pg.pa_law_start ?a75 ?l75 ?c75 ?k75, Sd.df_mk2 KX G Pg.pa_law_draw ?a76 ?l76 ?c76 ?k76, Sd.df_mk2 KX G Pg.pa_law_pick ?a77 ?l77 ?c77 ?k77, Sd.df_mk2 KX G Pg.pa_law_error ?a78 ?l78 ?c78 ?k78, Sd.df_mk2 KX G Pg.pa_law_year ?a79 ?l79 ?c79 ?k79, Sd.df_mk2 KX G Pg.pa_law_one ?a80 ?l80 ?c80 ?k80, Sd.df_mk2 KX G Pg.pa_law_numbered ?a81 ?l81 ?c81 ?k81, Sd.df_mk2 KX G Pg.pa_law_dayed ?a82 ?l82 ?c82 ?k82, Sd.df_mk2 KX G Pg.pa_law_asked ?a83 ?l83 ?c83 ?k83, Sd.df_mk2 KX G Pg.pa_law_shares ?a84 ?l84 ?c84 ?k84, Sd.df_mk2 KX G Pg.pa_law ?a85 ?l85 ?c85 ?k85, ⟨⟨?kG0, ?kH0, ?kB0, ?kD0, ?kA0, ?kN, ?kT, ?kM0⟩, Sd.kit_ref ?kD0 ?kY0 ?kS0s0 ?kS0s0, Sd.kit_ref ?kD1 ?kY1 ?kS0s1 ?kS0s0, Sd.kit_ref ?kD2 ?kY2 ?kS0s2 ?kS0s0, Sd.kit_ref ?kD3 ?kY3 ?kS0s3 ?kS0s0, Sd.kit_ref ?kD4 ?kY4 ?kS0s4 ?kS0s0, Sd.kit_ref ?kD5 ?kY5 ?kS0s5 ?kS0s0, Sd.kit_ref ?kD6 ?kY6 ?kS0s6 ?kS0s0, Sd.kit_ve ?kV0, PySem.W.exm_ref ?kB6 ?kD6 ?kY6 ?kS0s6⟩, ⟨⟨?kG1, ?kH1, ?kB1, ?kD1, ?kA1, ?kN, ?kT, ?kM1⟩, Sd.kit_ref ?kD0 ?kY0 ?kS1s0 ?kS1s1, Sd.kit_ref ?kD1 ?kY1 ?kS1s1 ?kS1s1, Sd.kit_ref ?kD2 ?kY2 ?kS1s2 ?kS1s1, Sd.kit_ref ?kD3 ?kY3 ?kS1s3 ?kS1s1, Sd.kit_ref ?kD4 ?kY4 ?kS1s4 ?kS1s1, Sd.kit_ref ?kD5 ?kY5 ?kS1s5 ?kS1s1, Sd.kit_ref ?kD6 ?kY6 ?kS1s6 ?kS1s1, Sd.kit_ve ?kV1, PySem.W.exm_ref ?kB6 ?kD6 ?kY6 ?kS1s6⟩, ⟨⟨?kG2, ?kH2, ?kB2, ?kD2, ?kA2, ?kN, ?kT, ?kM2⟩, Sd.kit_ref ?kD0 ?kY0 ?kS2s0 ?kS2s2, Sd.kit_ref ?kD1 ?kY1 ?kS2s1 ?kS2s2, Sd.kit_ref ?kD2 ?kY2 ?kS2s2 ?kS2s2, Sd.kit_ref ?kD3 ?kY3 ?kS2s3 ?kS2s2, Sd.kit_ref ?kD4 ?kY4 ?kS2s4 ?kS2s2, Sd.kit_ref ?kD5 ?kY5 ?kS2s5 ?kS2s2, Sd.kit_ref ?kD6 ?kY6 ?kS2s6 ?kS2s2, Sd.kit_ve ?kV2, PySem.W.exm_ref ?kB6 ?kD6 ?kY6 ?kS2s6⟩, ⟨⟨?kG3, ?kH3, ?kB3, ?kD3, ?kA3, ?kN, ?kT, ?kM3⟩, Sd.kit_ref ?kD0 ?kY0 ?kS3s0 ?kS3s3, Sd.kit_ref ?kD1 ?kY1 ?kS3s1 ?kS3s3, Sd.kit_ref ?kD2 ?kY2 ?kS3s2 ?kS3s3, Sd.kit_ref ?kD3 ?kY3 ?kS3s3 ?kS3s3, Sd.kit_ref ?kD4 ?kY4 ?kS3s4 ?kS3s3, Sd.kit_ref ?kD5 ?kY5 ?kS3s5 ?kS3s3, Sd.kit_ref ?kD6 ?kY6 ?kS3s6 ?kS3s3, Sd.kit_ve ?kV3, PySem.W.exm_ref ?kB6 ?kD6 ?kY6 ?kS3s6⟩, ⟨⟨?kG4, ?kH4, ?kB4, ?kD4, ?kA4, ?kN, ?kT, ?kM4⟩, Sd.kit_ref ?kD0 ?kY0 ?kS4s0 ?kS4s4, Sd.kit_ref ?kD1 ?kY1 ?kS4s1 ?kS4s4, Sd.kit_ref ?kD2 ?kY2 ?kS4s2 ?kS4s4, Sd.kit_ref ?kD3 ?kY3 ?kS4s3 ?kS4s4, Sd.kit_ref ?kD4 ?kY4 ?kS4s4 ?kS4s4, Sd.kit_ref ?kD5 ?kY5 ?kS4s5 ?kS4s4, Sd.kit_ref ?kD6 ?kY6 ?kS4s6 ?kS4s4, Sd.kit_ve ?kV4, PySem.W.exm_ref ?kB6 ?kD6 ?kY6 ?kS4s6⟩, ⟨⟨?kG5, ?kH5, ?kB5, ?kD5, ?kA5, ?kN, ?kT, ?kM5⟩, Sd.kit_ref ?kD0 ?kY0 ?kS5s0 ?kS5s5, Sd.kit_ref ?kD1 ?kY1 ?kS5s1 ?kS5s5, Sd.kit_ref ?kD2 ?kY2 ?kS5s2 ?kS5s5, Sd.kit_ref ?kD3 ?kY3 ?kS5s3 ?kS5s5, Sd.kit_ref ?kD4 ?kY4 ?kS5s4 ?kS5s5, Sd.kit_ref ?kD5 ?kY5 ?kS5s5 ?kS5s5, Sd.kit_ref ?kD6 ?kY6 ?kS5s6 ?kS5s5, Sd.kit_ve ?kV5, PySem.W.exm_ref ?kB6 ?kD6 ?kY6 ?kS5s6⟩, PySem.W.mg_none_of KX G ?z86, PySem.W.mg_none_of KX G ?z87, PySem.W.mg_none_of KX G ?z88, PySem.W.mg_none_of KX G ?z89, PySem.W.mg_none_of KX G ?z90, PySem.W.mg_none_of KX G ?z91, PySem.W.mg_none_of KX G ?z92, PySem.W.mg_none_of KX G ?z93, PySem.W.mg_none_of KX G ?z94, PySem.W.mg_none_of KX G ?z95, PySem.W.mg_none_of KX G ?z96, PySem.W.mg_none_of KX G ?z97, PySem.W.mg_none_of KX G ?z98, PySem.W.mg_none_of KX G ?z99, PySem.W.mg_none_of KX G ?z100, PySem.W.mg_none_of KX G ?z101, PySem.W.mg_none_of KX G ?z102, PySem.W.mg_none_of KX G ?z103⟩ hmg
    (case a0 => k_is)
    (case a1 => k_is)
    (case a2 => k_is)
    (case a3 => k_is)
    (case a4 => k_is)
    (case a5 => k_is)
    (case a6 => k_is)
    (case a7 => k_is)
    (case a8 => k_is)
    (case a9 => k_is)
    (case a10 => k_is)
    (case a11 => k_is)
    (case a12 => k_is)
    (case a13 => k_is)
    (case a14 => k_is)
    (case a15 => k_is)
    (case a16 => k_is)
    (case a17 => k_is)
    (case a18 => k_is)
    (case a19 => k_is)
    (case a20 => k_is)
    (case a21 => k_is)
    (case a22 => k_is)
    (case a23 => k_is)
    (case a24 => k_is)
    (case a25 => k_is)
    (case a26 => k_is)
    (case a27 => k_is)
    (case a28 => k_is)
    (case a29 => k_is)
    (case a30 => k_is)
    (case a31 => k_is)
    (case a32 => k_is)
    (case a33 => k_is)
    (case a34 => k_is)
    (case a35 => k_is)
    (case a36 => k_is)
    (case a37 => k_is)
    (case a38 => k_is)
    (case a39 => k_is)
    (case a40 => k_is)
    (case a41 => k_is)
    (case a42 => k_is)
    (case a43 => k_is)
    (case a44 => k_is)
    (case a45 => k_is)
    (case a46 => k_is)
    (case a47 => k_is)
    (case a48 => k_is)
    (case a49 => k_is)
    (case a50 => k_is)
    (case a51 => k_is)
    (case a52 => k_is)
    (case a53 => k_is)
    (case a54 => k_is)
    (case a55 => k_is)
    (case a56 => k_is)
    (case a57 => k_is)
    (case a58 => k_is)
    (case a59 => k_is)
    (case a60 => k_is)
    (case a61 => k_is)
    (case a62 => k_is)
    (case a63 => k_is)
    (case a64 => k_is)
    (case a65 => k_is)
    (case aCC => k_is)
    (case a66 => k_is)
    (case a67 => k_is)
    (case a68 => k_is)
    (case a69 => k_is)
    (case a70 => k_is)
    (case a71 => k_is)
    (case a72 => k_is)
    (case a73 => k_is)
    (case a74 => k_is)
    (case a75 => k_is)
    (case a76 => k_is)
    (case a77 => k_is)
    (case a78 => k_is)
    (case a79 => k_is)
    (case a80 => k_is)
    (case a81 => k_is)
    (case a82 => k_is)
    (case a83 => k_is)
    (case a84 => k_is)
    (case a85 => k_is)
    (case l0 => k_is)
    (case c0 => k_is)
    (case k0 => k_is)
    (case x1 => k_exc)
    (case k1 => k_is)
    (case b1 => k_is)
    (case t1 => k_is)
    (case x2 => k_exc)
    (case k2 => k_is)
    (case b2 => k_is)
    (case t2 => k_is)
    (case x3 => k_exc)
    (case k3 => k_is)
    (case b3 => k_is)
    (case t3 => k_is)
    (case x4 => k_exc)
    (case k4 => k_is)
    (case b4 => k_is)
    (case t4 => k_is)
    (case x5 => k_exc)
    (case k5 => k_is)
    (case b5 => k_is)
    (case t5 => k_is)
    (case x6 => k_exc)
    (case k6 => k_is)
    (case b6 => k_is)
    (case t6 => k_is)
    (case x7 => k_exc)
    (case k7 => k_is)
    (case b7 => k_is)
    (case t7 => k_is)
    (case l9 => k_is)
    (case c9 => k_is)
    (case k9 => k_is)
    (case l10 => k_is)
    (case c10 => k_is)
    (case k10 => k_is)
    (case l11 => k_is)
    (case c11 => k_is)
    (case k11 => k_is)
    (case l12 => k_is)
    (case c12 => k_is)
    (case k12 => k_is)
    (case l13 => k_is)
    (case c13 => k_is)
    (case k13 => k_is)
    (case l14 => k_is)
    (case c14 => k_is)
    (case k14 => k_is)
    (case l15 => k_is)
    (case c15 => k_is)
    (case k15 => k_is)
    (case l16 => k_is)
    (case c16 => k_is)
    (case k16 => k_is)
    (case l17 => k_is)
    (case c17 => k_is)
    (case k17 => k_is)
    (case l18 => k_is)
    (case c18 => k_is)
    (case k18 => k_is)
    (case l19 => k_is)
    (case c19 => k_is)
    (case k19 => k_is)
    (case l20 => k_is)
    (case c20 => k_is)
    (case k20 => k_is)
    (case l21 => k_is)
    (case c21 => k_is)
    (case k21 => k_is)
    (case l22 => k_is)
    (case c22 => k_is)
    (case k22 => k_is)
    (case l23 => k_is)
    (case c23 => k_is)
    (case k23 => k_is)
    (case l24 => k_is)
    (case c24 => k_is)
    (case k24 => k_is)
    (case l25 => k_is)
    (case c25 => k_is)
    (case k25 => k_is)
    (case l26 => k_is)
    (case c26 => k_is)
    (case k26 => k_is)
    (case l27 => k_is)
    (case c27 => k_is)
    (case k27 => k_is)
    (case l28 => k_is)
    (case c28 => k_is)
    (case k28 => k_is)
    (case l29 => k_is)
    (case c29 => k_is)
    (case k29 => k_is)
    (case l30 => k_is)
    (case c30 => k_is)
    (case k30 => k_is)
    (case l31 => k_is)
    (case c31 => k_is)
    (case k31 => k_is)
    (case l32 => k_is)
    (case c32 => k_is)
    (case k32 => k_is)
    (case l33 => k_is)
    (case c33 => k_is)
    (case k33 => k_is)
    (case l34 => k_is)
    (case c34 => k_is)
    (case k34 => k_is)
    (case l35 => k_is)
    (case c35 => k_is)
    (case k35 => k_is)
    (case l36 => k_is)
    (case c36 => k_is)
    (case k36 => k_is)
    (case l37 => k_is)
    (case c37 => k_is)
    (case k37 => k_is)
    (case l38 => k_is)
    (case c38 => k_is)
    (case k38 => k_is)
    (case l39 => k_is)
    (case c39 => k_is)
    (case k39 => k_is)
    (case l40 => k_is)
    (case c40 => k_is)
    (case k40 => k_is)
    (case l41 => k_is)
    (case c41 => k_is)
    (case k41 => k_is)
    (case l42 => k_is)
    (case c42 => k_is)
    (case k42 => k_is)
    (case l43 => k_is)
    (case c43 => k_is)
    (case k43 => k_is)
    (case l44 => k_is)
    (case c44 => k_is)
    (case k44 => k_is)
    (case l45 => k_is)
    (case c45 => k_is)
    (case k45 => k_is)
    (case l46 => k_is)
    (case c46 => k_is)
    (case k46 => k_is)
    (case l47 => k_is)
    (case c47 => k_is)
    (case k47 => k_is)
    (case l48 => k_is)
    (case c48 => k_is)
    (case k48 => k_is)
    (case l49 => k_is)
    (case c49 => k_is)
    (case k49 => k_is)
    (case l50 => k_is)
    (case c50 => k_is)
    (case k50 => k_is)
    (case l51 => k_is)
    (case c51 => k_is)
    (case k51 => k_is)
    (case l52 => k_is)
    (case c52 => k_is)
    (case k52 => k_is)
    (case l53 => k_is)
    (case c53 => k_is)
    (case k53 => k_is)
    (case l54 => k_is)
    (case c54 => k_is)
    (case k54 => k_is)
    (case l55 => k_is)
    (case c55 => k_is)
    (case k55 => k_is)
    (case l56 => k_is)
    (case c56 => k_is)
    (case k56 => k_is)
    (case l57 => k_is)
    (case c57 => k_is)
    (case k57 => k_is)
    (case l58 => k_is)
    (case c58 => k_is)
    (case k58 => k_is)
    (case l59 => k_is)
    (case c59 => k_is)
    (case k59 => k_is)
    (case l60 => k_is)
    (case c60 => k_is)
    (case k60 => k_is)
    (case l61 => k_is)
    (case c61 => k_is)
    (case k61 => k_is)
    (case l62 => k_is)
    (case c62 => k_is)
    (case k62 => k_is)
    (case l63 => k_is)
    (case c63 => k_is)
    (case k63 => k_is)
    (case l64 => k_is)
    (case c64 => k_is)
    (case k64 => k_is)
    (case l65 => k_is)
    (case c65 => k_is)
    (case k65 => k_is)
    (case yp => k_is)
    (case yh => k_is)
    (case yo => k_is)
    (case ys => k_is)
    (case ym => k_is)
    (case yk => k_is)
    (case yY => (unfold L2.NoAttr; k_is))
    (case yL => (unfold L2.NoAttr; k_is))
    (case i66 => k_is)
    (case l66 => k_is)
    (case c66 => k_is)
    (case k66 => k_is)
    (case i67 => k_is)
    (case l67 => k_is)
    (case c67 => k_is)
    (case k67 => k_is)
    (case i68 => k_is)
    (case l68 => k_is)
    (case c68 => k_is)
    (case k68 => k_is)
    (case i69 => k_is)
    (case l69 => k_is)
    (case c69 => k_is)
    (case k69 => k_is)
    (case i70 => k_is)
    (case l70 => k_is)
    (case c70 => k_is)
    (case k70 => k_is)
    (case i71 => k_is)
    (case l71 => k_is)
    (case c71 => k_is)
    (case k71 => k_is)
    (case i72 => k_is)
    (case l72 => k_is)
    (case c72 => k_is)
    (case k72 => k_is)
    (case i73 => k_is)
    (case l73 => k_is)
    (case c73 => k_is)
    (case k73 => k_is)
    (case l74 => k_is)
    (case c74 => k_is)
    (case k74 => k_is)
    (case l75 => k_is)
    (case c75 => k_is)
    (case k75 => k_is)
    (case l76 => k_is)
    (case c76 => k_is)
    (case k76 => k_is)
    (case l77 => k_is)
    (case c77 => k_is)
    (case k77 => k_is)
    (case l78 => k_is)
    (case c78 => k_is)
    (case k78 => k_is)
    (case l79 => k_is)
    (case c79 => k_is)
    (case k79 => k_is)
    (case l80 => k_is)
    (case c80 => k_is)
    (case k80 => k_is)
    (case l81 => k_is)
    (case c81 => k_is)
    (case k81 => k_is)
    (case l82 => k_is)
    (case c82 => k_is)
    (case k82 => k_is)
    (case l83 => k_is)
    (case c83 => k_is)
    (case k83 => k_is)
    (case l84 => k_is)
    (case c84 => k_is)
    (case k84 => k_is)
    (case l85 => k_is)
    (case c85 => k_is)
    (case k85 => k_is)
    (case kG0 => k_is)
    (case kH0 => k_is)
    (case kA0 => k_is)
    (case kM0 => k_is)
    (case kV0 => k_is)
    (case kS0s0 => k_is)
    (case kS0s1 => k_is)
    (case kS0s2 => k_is)
    (case kS0s3 => k_is)
    (case kS0s4 => k_is)
    (case kS0s5 => k_is)
    (case kS0s6 => k_is)
    (case kG1 => k_is)
    (case kH1 => k_is)
    (case kA1 => k_is)
    (case kM1 => k_is)
    (case kV1 => k_is)
    (case kS1s0 => k_is)
    (case kS1s1 => k_is)
    (case kS1s2 => k_is)
    (case kS1s3 => k_is)
    (case kS1s4 => k_is)
    (case kS1s5 => k_is)
    (case kS1s6 => k_is)
    (case kG2 => k_is)
    (case kH2 => k_is)
    (case kA2 => k_is)
    (case kM2 => k_is)
    (case kV2 => k_is)
    (case kS2s0 => k_is)
    (case kS2s1 => k_is)
    (case kS2s2 => k_is)
    (case kS2s3 => k_is)
    (case kS2s4 => k_is)
    (case kS2s5 => k_is)
    (case kS2s6 => k_is)
    (case kG3 => k_is)
    (case kH3 => k_is)
    (case kA3 => k_is)
    (case kM3 => k_is)
    (case kV3 => k_is)
    (case kS3s0 => k_is)
    (case kS3s1 => k_is)
    (case kS3s2 => k_is)
    (case kS3s3 => k_is)
    (case kS3s4 => k_is)
    (case kS3s5 => k_is)
    (case kS3s6 => k_is)
    (case kG4 => k_is)
    (case kH4 => k_is)
    (case kA4 => k_is)
    (case kM4 => k_is)
    (case kV4 => k_is)
    (case kS4s0 => k_is)
    (case kS4s1 => k_is)
    (case kS4s2 => k_is)
    (case kS4s3 => k_is)
    (case kS4s4 => k_is)
    (case kS4s5 => k_is)
    (case kS4s6 => k_is)
    (case kG5 => k_is)
    (case kH5 => k_is)
    (case kA5 => k_is)
    (case kM5 => k_is)
    (case kV5 => k_is)
    (case kS5s0 => k_is)
    (case kS5s1 => k_is)
    (case kS5s2 => k_is)
    (case kS5s3 => k_is)
    (case kS5s4 => k_is)
    (case kS5s5 => k_is)
    (case kS5s6 => k_is)
    (case kN => k_is)
    (case kT => k_is)
    (case kB0 => k_is)
    (case kB1 => k_is)
    (case kB2 => k_is)
    (case kB3 => k_is)
    (case kB4 => k_is)
    (case kB5 => k_is)
    (case kB6 => k_is)
    (case kD0 => k_is)
    (case kD1 => k_is)
    (case kD2 => k_is)
    (case kD3 => k_is)
    (case kD4 => k_is)
    (case kD5 => k_is)
    (case kD6 => k_is)
    (case kY0 => k_is)
    (case kY1 => k_is)
    (case kY2 => k_is)
    (case kY3 => k_is)
    (case kY4 => k_is)
    (case kY5 => k_is)
    (case kY6 => k_is)
    (case z86 => k_is)
    (case z87 => k_is)
    (case z88 => k_is)
    (case z89 => k_is)
    (case z90 => k_is)
    (case z91 => k_is)
    (case z92 => k_is)
    (case z93 => k_is)
    (case z94 => k_is)
    (case z95 => k_is)
    (case z96 => k_is)
    (case z97 => k_is)
    (case z98 => k_is)
    (case z99 => k_is)
    (case z100 => k_is)
    (case z101 => k_is)
    (case z102 => k_is)
    (case z103 => k_is)
