import PyProof.Rows.All
import Wide.All
import OpenK.AllK
import Wide.FinOn
import HandS.ForMost
import HandS.Flow
import HandS.Style
import HandS.IsInst
import HandS.Star
import HandS.Defaults
import HandS.ClsMeth
import HandS.Deep
import HandS.TupAny
import HandS.Zip
import HandS.Walk
import HandS.More
import HandS.Wide
import HandS.Set
import HandS.RaiseMore
import HandS.HeadHook1
import HandS.HeadHook2
import KE.KDictZip
import KE.GoesZip
import KE.GoesMore
import KE.GoesEnum
import PySem.Challenge.RW_mostcrowds_k22_whole_crowds_of_the_fewes
import HandS.SetTxt0
import HandS.TupSets
import HandS.SetBool
import HandS.Strs
import KE.KStar
import KE.KDictPairs
import HandS.Dict
import HandS.Text
import KE.BitLaws
import PyProof.NeKinds
import PyProof.WalksMore
import PyProof.Rows.SumAny
import HandS.Head0
import HandS.Head1
import HandS.Head2
import HandS.HeadEnd
import HandS.HeadHook3
import HandS.HeadNt
set_option Elab.async false
set_option linter.all false
set_option maxRecDepth 100000
set_option maxHeartbeats 0
/-! The base: the text by places, callables, data by value, comprehensions. -/
namespace Mc
open PySem PySem.Spec PyProof.Rows L2

/-! ### the text -/
def top (i : Nat) : Stmt := PySem.Challenge.pw_mostcrowds_k22_whole_crowds_of_the_fewes.main.body.getD i (.Pass ⟨0, 0, 0, 0⟩)

/-! ### callables -/
/-- the world of one proof: program, world, written part, globals, base heap -/
structure Gd where
  P : Program
  w : World
  K : PySem.W.Frag
  mg : Str → Option Value
  base : Heap
/-- the module's name x is a def that keeps sp, by at most level k -/
structure Cal (G : Gd) (k : Nat) (x : Str) (ps : List Str) (sp : Sp) : Prop where
  ex : ∃ f fd, FnOk G.P G.w G.K G.mg G.base CX0 k f fd ps sp ∧ G.mg x = some (.ref f) ∧ PySem.W.keepIn G.K (.ref f) = true ∧ Binds G.K fd ps []
theorem Cal.mono {G : Gd} {j k : Nat} {x : Str} {ps : List Str} {sp : Sp} (c : Cal G j x ps sp) (h : j ≤ k) : Cal G k x ps sp := by
  obtain ⟨f, fd, F, a, b, d⟩ := c.ex
  exact ⟨f, fd, F.mono h, a, b, d⟩
theorem Cal.imp {G : Gd} {k : Nat} {x : Str} {ps : List Str} {sp sp' : Sp} (c : Cal G k x ps sp) (h : ∀ vs H Q E, sp' vs H Q E → sp vs H Q E) : Cal G k x ps sp' := by
  obtain ⟨f, fd, F, a, b, d⟩ := c.ex
  exact ⟨f, fd, F.imp h, a, b, d⟩
abbrev gd (X : Cx) : Gd := ⟨X.prog, X.w, X.K, X.mg, X.base⟩
section
variable {X : Cx}
theorem pe_cal {k : Nat} {x : Str} {ps : List Str} {sp : Sp} {p pos : Pos} {e : Expr} {es : List Expr} {t : TA} (c : Cal (gd X) k x ps sp) (hr : Room k X.A) (hg : Gl X x) (ha : PA X (e :: es) t)
    (hdb : (x == ("__debug__" : Str)) = false := by decide) (he : starEach (e :: es) X.env = (false, eval e X.env) :: starEach es X.env := by rfl) (hpl : (backTo pos (starEach es X.env)).any (·.1) = false := by rfl) :
    PE X (.Call (.Name x p) (e :: es) [] pos) (tCall sp [] E0 t) := by
  obtain ⟨f, fd, F, a, b, d⟩ := c.ex
  exact pe_call F hr hg a b d .nil pass0 ha hdb he hpl
end
/-- the class at C has the def of method m that keeps sp -/
structure CalM (G : Gd) (k : Nat) (C : Addr) (m : Str) (ps : List Str) (sp : Sp) : Prop where
  ex : ∃ f fd, FnOk G.P G.w G.K G.mg G.base CX0 k f fd ps sp ∧ Meth G.K C m f ∧ Binds G.K fd ps []
section
variable {X : Cx}
theorem pe_calm {k : Nat} {C : Addr} {m : Str} {ps : List Str} {sp : Sp} {pos apos : Pos} {o e : Expr} {es : List Expr} {ta : TE} {t : TA} {pl : Sem Bool} (c : CalM (gd X) k C m ps sp) (cl : Cls X.K C) (hr : Room k X.A) (he : PE X o ta) (ha : PA X (e :: es) t)
    (hst : starEach (e :: es) X.env = (false, eval e X.env) :: starEach es X.env := by rfl) (hpl : (backTo pos (starEach es X.env)).any (·.1) = false := by rfl)
    (ht : eval (.Call (.Attribute o m apos) (e :: es) [] pos) X.env = (do
      let ov ← eval o X.env
      standAt apos.atName
      let (f, first) ← holding [ov] (getMethod ov m pl)
      callWith pos f first (backTo pos (starEach (e :: es) X.env)) (backToKw pos (keywordEach [] X.env))) := by rfl) :
    PE X (.Call (.Attribute o m apos) (e :: es) [] pos) (tMeth C m sp [] E0 ta t) := by
  obtain ⟨f, fd, F, a, d⟩ := c.ex
  exact pe_meth he cl a F hr d .nil pass0 ha hst hpl ht
theorem pe_calm0 {k : Nat} {C : Addr} {m : Str} {ps : List Str} {sp : Sp} {pos apos : Pos} {o : Expr} {ta : TE} {pl : Sem Bool} (c : CalM (gd X) k C m ps sp) (cl : Cls X.K C) (hr : Room k X.A) (he : PE X o ta)
    (ht : eval (.Call (.Attribute o m apos) [] [] pos) X.env = (do
      let ov ← eval o X.env
      standAt apos.atName
      let (f, first) ← holding [ov] (getMethod ov m pl)
      callWith pos f first (backTo pos (starEach [] X.env)) (backToKw pos (keywordEach [] X.env))) := by rfl) :
    PE X (.Call (.Attribute o m apos) [] [] pos) (tMeth C m sp [] E0 ta tNil) := by
  obtain ⟨f, fd, F, a, d⟩ := c.ex
  exact pe_meth0 he cl a F hr d .nil pass0 ht
end
/-- the class at C can be made by so many values, dvs filling up; its __init__ keeps sp -/
structure CalC (G : Gd) (k : Nat) (C : Addr) (ps : List Str) (dvs : List V) (sp : Sp) : Prop where
  ex : ∃ f fd ds, FnOk G.P G.w G.K G.mg G.base CX0 k f fd ps sp ∧ Mk G.K C f ∧ Binds G.K fd ps ds ∧ Vals dvs ds
section
variable {X : Cx}
theorem pe_calc {k : Nat} {C : Addr} {x : Str} {ps : List Str} {dvs : List V} {sp : Sp} {p pos : Pos} {e : Expr} {es : List Expr} {t : TA} (c : CalC (gd X) k C ps dvs sp) (hr : Room (k + 1) X.A) (hg : Gl X x) (hm : X.mg x = some (.ref C)) (ha : PA X (e :: es) t)
    (hdb : (x == ("__debug__" : Str)) = false := by decide) (he : starEach (e :: es) X.env = (false, eval e X.env) :: starEach es X.env := by rfl) (hpl : (backTo pos (starEach es X.env)).any (·.1) = false := by rfl) :
    PE X (.Call (.Name x p) (e :: es) [] pos) (tMake C sp dvs E0 t) := by
  obtain ⟨f, fd, ds, F, a, b, d⟩ := c.ex
  exact pe_make a F hr hg hm b d pass0 ha hdb he hpl
/-- cls(e, ..), cls a local name that holds the class -/
def tMakeL (i : Nat) (C : Addr) (sp : Sp) (dvs : List V) (E : XK) (t : TA) : TE := fun σ H Q => σ[i]? = some (some (.ref C)) ∧ tMake C sp dvs E t σ H Q
theorem pe_calcL {k i : Nat} {C : Addr} {x : Str} {ps : List Str} {dvs : List V} {sp : Sp} {p pos : Pos} {e : Expr} {es : List Expr} {t : TA} (c : CalC (gd X) k C ps dvs sp) (hr : Room (k + 1) X.A) (hN : X.N[i]? = some x) (hv : Vis X.env.scope x) (ha : PA X (e :: es) t)
    (hd : (x == ("__debug__" : Str)) = false := by decide) (hcd : (x == ("__classdict__" : Str)) = false := by decide) (he : starEach (e :: es) X.env = (false, eval e X.env) :: starEach es X.env := by rfl) (hpl : (backTo pos (starEach es X.env)).any (·.1) = false := by rfl) :
    PE X (.Call (.Name x p) (e :: es) [] pos) (tMakeL i C sp dvs E0 t) := by
  obtain ⟨f, fd, ds, F, M, b, d⟩ := c.ex
  refine ⟨fun pins s σ H Q I h => ?_⟩
  obtain ⟨hi, h⟩ := h
  have hn : PE X (.Name x p) (tVar i) := pe_var hN hv hd hcd
  refine wpAny_Call_Name_kw (thn (hn.run pins s σ H (fun v H' => v = .ref C ∧ H' = H) I ⟨_, hi, rfl, rfl⟩) fun u s1 ⟨v, H1, I1, rv, ev, eH⟩ => ?_)
  subst ev eH
  obtain rfl : u = Value.ref C := rv
  refine PySem.W.callWith_K (h₀ := X.base) I1.ok.mod.kin M.kp (thn (ha.run pos pins s1 σ H1 _ I1 h) fun us s2 ⟨vs, H2, I2, r, q⟩ => ⟨I2.kIn, ?_⟩) he hpl
  exact run_make M F hr b d pass0 I2 r q
end

/-! ### data by value -/
theorem _root_.L2.Same.tup {K : PySem.W.Frag} {H H' : Hp} {a : Addr} {xs : List V} (e : Same H H') (h : SqT K H a xs) : SqT K H' a xs := by
  rcases h with (h | ⟨o, h⟩) | h
  · exact .inl (.inl (e _ _ h))
  · exact .inl (.inr ⟨o, e _ _ h⟩)
  · exact .inr h
theorem same_upd {H : Hp} {p : Addr} {o : HO} (h : H p = none) : Same H (upd H p o) := fun b u e => by rw [upd_ne (ne_of_none e h)]; exact e
theorem _root_.L2.Same.upd {H H1 : Hp} {p : Addr} {o : HO} (e : Same H H1) (h : H1 p = none) : Same H (L2.upd H1 p o) := e.trans (same_upd h)

/-! ### comprehensions -/
theorem paired_snoc {α β : Type} {F : α → β → Prop} : ∀ {xs : List α} {ys : List β} {x : α} {y : β}, Paired F xs ys → F x y → Paired F (xs ++ [x]) (ys ++ [y])
  | _, _, _, _, .nil, h => .cons h .nil
  | _, _, _, _, .cons r t, h => .cons r (paired_snoc t h)
theorem paired_map_eq {α β : Type} {f : α → β} : ∀ {xs : List α} {ys : List β}, Paired (fun x y => y = f x) xs ys → ys = xs.map f
  | _, _, .nil => rfl
  | _, _, .cons h t => by rw [List.map_cons, ← paired_map_eq t, h]
theorem paired_app {α β : Type} {F : α → β → Prop} : ∀ {xs xs' : List α} {ys ys' : List β}, Paired F xs ys → Paired F xs' ys' → Paired F (xs ++ xs') (ys ++ ys')
  | _, _, _, _, .nil, h => h
  | _, _, _, _, .cons r t, h => .cons r (paired_app t h)
theorem paired_get {α β : Type} {F : α → β → Prop} : ∀ {xs : List α} {ys : List β} {i : Nat} {x : α}, Paired F xs ys → xs[i]? = some x → ∃ y, ys[i]? = some y ∧ F x y
  | _, _, _, _, .nil, e => by simp at e
  | _, _, 0, _, .cons r _, e => by simp at e; subst e; exact ⟨_, rfl, r⟩
  | _, _, i + 1, _, .cons _ t, e => by
    obtain ⟨u, h1, h2⟩ := paired_get (i := i) t (by simpa using e)
    exact ⟨u, by simpa using h1, h2⟩
theorem paired_len {α β : Type} {F : α → β → Prop} : ∀ {xs : List α} {ys : List β}, Paired F xs ys → xs.length = ys.length
  | _, _, .nil => rfl
  | _, _, .cons _ t => by simp [paired_len t]
theorem paired_of_map {α β γ : Type} {F : α → β → Prop} {f : γ → α} : ∀ {xs : List γ} {ys : List β}, Paired F (xs.map f) ys → Paired (fun x y => F (f x) y) xs ys
  | [], _, .nil => .nil
  | _ :: _, _, .cons h t => .cons h (paired_of_map t)
theorem paired_to_map {α β γ : Type} {F : α → β → Prop} {f : γ → α} : ∀ {xs : List γ} {ys : List β}, Paired (fun x y => F (f x) y) xs ys → Paired F (xs.map f) ys
  | [], _, .nil => .nil
  | _ :: _, _, .cons h t => .cons h (paired_to_map t)
/-- pairs by the place -/
theorem paired_range {α β : Type} {F : α → β → Prop} {xs : List α} {ys : List β} (h : Paired (fun i y => ∃ x, xs[i]? = some x ∧ F x y) (List.range xs.length) ys) : Paired F xs ys := by
  induction xs generalizing ys with
  | nil => simp at h; cases h; exact .nil
  | cons x xs ih =>
    rw [List.length_cons, List.range_succ_eq_map] at h
    cases h with
    | cons h0 ht =>
      obtain ⟨x', e, f⟩ := h0
      simp at e
      subst e
      refine .cons f (ih ?_)
      have := paired_of_map ht
      exact Paired.mapP this fun i y ⟨x', e, f⟩ => ⟨x', by simpa using e, f⟩
/-- what stands, but at D -/
def SameX (D : Addr) (H H' : Hp) : Prop := ∀ b o, H b = some o → b ≠ D → H' b = some o
theorem _root_.L2.Same.x {D : Addr} {H H' : Hp} (h : Same H H') : SameX D H H' := fun b o e _ => h b o e
theorem SameX.trans {D : Addr} {H H1 H2 : Hp} (a : SameX D H H1) (b : SameX D H1 H2) : SameX D H H2 := fun c o e n => b c o (a c o e n) n
theorem samex_upd {D : Addr} {H : Hp} {o : HO} : SameX D H (L2.upd H D o) := fun b u e n => by rw [upd_ne n]; exact e
/-- what a list at D says nothing of -/
def Far (D : Addr) (R : Hp → Prop) : Prop := ∀ H H' xs, H D = some (.lst xs) → SameX D H H' → R H → R H'
section
variable {J : It} {n : Nat} {Gp : Hp → Prop} {Y : Nat → Hp → V → Hp → Prop}
/-- [e for x in .. if t]: sel says which turns give an item, R what it is -/
theorem lc_sel (w : Walk J n Gp Y) {g : TG} {tt : TT} {te : TE} {vs : List Nat} {σ : L2.St} {H1 : Hp} {D : Addr} {Qd : Hp → Prop} (sel : Nat → Bool) (R : Nat → V → Hp → Prop) (hn : n < sizeLine) (hD : H1 D = none) (hG : ∀ H, Same H1 H → Gp H) (hm : ∀ j y, Far D (R j y))
    (hs : ∀ i x H H' (Qy : V → Hp → Prop) (Qn : Hp → Prop), i < n → Same H1 H → H D ≠ none → Y i H x H' → (sel i = true → ∀ y H4, Same H H4 → R i y H4 → Qy y H4) → (sel i = false → ∀ H3, Same H H3 → Qn H3) →
      g x (wipe σ vs) H' fun σ2 H2 => wipe σ2 vs = wipe σ vs ∧ tt σ2 H2 fun b H3 => if b = true then te σ2 H3 Qy else Qn H3)
    (hd : ∀ H acc, Same H1 H → H D = some (.lst acc) → Paired (fun i y => R i y H) ((List.range n).filter sel) acc → Qd H) :
    ∃ W : Nat → Nat → Hp → Prop, (∃ m, W 0 m (L2.upd H1 D (.lst []))) ∧ ∀ i m H, W i m H →
      (J.stop i H ∧ Qd H) ∨ (J.go i H ∧ ∃ Nx : Hp → Prop, (∀ H', Nx H' → ∃ m', m' < m ∧ W (i + 1) m' H') ∧ ∀ x H', J.yld i H x H' → g x (wipe σ vs) H' fun σ2 H2 => wipe σ2 vs = wipe σ vs ∧ tt σ2 H2 fun b H3 =>
        if b = true then te σ2 H3 fun y H4 => ∃ acc, H4 D = some (.lst acc) ∧ acc.length < sizeLine ∧ Nx (L2.upd H4 D (.lst (acc ++ [y]))) else Nx H3) := by
  refine lc_it w (fun i H => Same H1 H ∧ ∃ acc, H D = some (.lst acc) ∧ acc.length ≤ i ∧ Paired (fun i y => R i y H) ((List.range i).filter sel) acc) ⟨same_upd hD, [], upd_same, Nat.le_refl _, .nil⟩ (fun i H hi p => hG H p.1) ?_ ?_
  · rintro i x H H' hi ⟨s1, acc, eD, hl, pr⟩ y
    refine hs i x H H' _ _ hi s1 (by rw [eD]; simp) y ?_ ?_
    · intro hsel y H4 s4 r
      refine ⟨acc, s4 _ _ eD, by omega, fun b o e => ?_, acc ++ [y], upd_same, by simp; omega, ?_⟩
      · rw [upd_ne (ne_of_none e hD)]; exact s4 _ _ (s1 _ _ e)
      · rw [List.range_succ, List.filter_append]
        have e1 : [i].filter sel = [i] := by simp [hsel]
        rw [e1]
        refine paired_snoc (Paired.mapP pr fun j z rj => ?_) ?_
        · exact hm j z H _ acc eD (s4.x.trans samex_upd) rj
        · exact hm i y H4 _ acc (s4 _ _ eD) samex_upd r
    · intro hsel H3 s3
      refine ⟨s1.trans s3, acc, s3 _ _ eD, by omega, ?_⟩
      rw [List.range_succ, List.filter_append]
      have e1 : [i].filter sel = [] := by simp [hsel]
      rw [e1, List.append_nil]
      exact Paired.mapP pr fun j z rj => hm j z H _ acc eD s3.x rj
  · rintro H ⟨s1, acc, eD, _, pr⟩
    exact hd H acc s1 eD pr
/-- [e for x in ..] -/
theorem lc_map (w : Walk J n Gp Y) {g : TG} {te : TE} {vs : List Nat} {σ : L2.St} {H1 : Hp} {D : Addr} {Qd : Hp → Prop} (R : Nat → V → Hp → Prop) (hn : n < sizeLine) (hD : H1 D = none) (hG : ∀ H, Same H1 H → Gp H) (hm : ∀ j y, Far D (R j y))
    (hs : ∀ i x H H' (Qy : V → Hp → Prop), i < n → Same H1 H → H D ≠ none → Y i H x H' → (∀ y H4, Same H H4 → R i y H4 → Qy y H4) →
      g x (wipe σ vs) H' fun σ2 H2 => wipe σ2 vs = wipe σ vs ∧ te σ2 H2 Qy)
    (hd : ∀ H acc, Same H1 H → H D = some (.lst acc) → Paired (fun i y => R i y H) (List.range n) acc → Qd H) :
    ∃ W : Nat → Nat → Hp → Prop, (∃ m, W 0 m (L2.upd H1 D (.lst []))) ∧ ∀ i m H, W i m H →
      (J.stop i H ∧ Qd H) ∨ (J.go i H ∧ ∃ Nx : Hp → Prop, (∀ H', Nx H' → ∃ m', m' < m ∧ W (i + 1) m' H') ∧ ∀ x H', J.yld i H x H' → g x (wipe σ vs) H' fun σ2 H2 => wipe σ2 vs = wipe σ vs ∧ tYes σ2 H2 fun b H3 =>
        if b = true then te σ2 H3 fun y H4 => ∃ acc, H4 D = some (.lst acc) ∧ acc.length < sizeLine ∧ Nx (L2.upd H4 D (.lst (acc ++ [y]))) else Nx H3) :=
  lc_sel w (fun _ => true) R hn hD hG hm (fun i x H H' Qy Qn hi s nd y cy _ => by
    have h := hs i x H H' Qy hi s nd y (cy rfl)
    simp only [tYes, if_true]
    exact h) fun H acc s e p => hd H acc s e (by rwa [List.filter_eq_self.mpr (fun _ _ => rfl)] at p)
end

/-! ### defs of the text -/
/-- the global name y holds the def x of the text, that stands at st -/
structure Df (G : Gd) (y x : Str) (st : Stmt) : Prop where
  ex : ∃ f fd, FunD G.K x x (defArgs st) (defBody st) (defScope st) [] [] f fd ∧ G.mg y = some (.ref f)
theorem Df.cal {G : Gd} {y x : Str} {st : Stmt} {N ps : List Str} {k : Nat} {sp : Sp} (F : Df G y x st) (S : FnScope N ps (defScope st))
    (hb : ∀ (kV doc pm : Value) (an : Option Addr) (cdv ct : Value) (us : List Value), us.length = ps.length → bindArgs (PySem.W.fnOf x x (defArgs st) (defBody st) (defScope st) .none kV doc pm an cdv ct) ⟨us, []⟩ = pure (ps.zip us))
    (len : ∀ vs H Q E, sp vs H Q E → vs.length = ps.length)
    (body : ∀ (f : Addr) (cdv : Value) (A : Around) (outer : List Env) (s : Shared) (H : Hp) (vs : List V) (Q : VK) (E : XK), Room k (A.deeper (envOfC x (defScope st) s.heap.objs.size f cdv)) → sp vs H Q E →
      ∃ t, PSs (cxOf CX0 G.P G.w G.K G.mg G.base N x (defScope st) f cdv A outer s H E).nox (defBody st) t ∧ t { nx := fun _ H' => Q .non H', rt := Q } (start N vs) H) : Cal G (k + 1) y ps sp := by
  obtain ⟨f, fd, D, hm⟩ := F.ex
  refine ⟨f, fd, FunD.ok D S len fun cdv A outer s H vs Q E hr h => ?_, hm, D.kp, FunD.bindsN D hb⟩
  obtain ⟨t, a, b⟩ := body f cdv A outer s H vs Q E hr h
  exact ⟨t, PSs.nox a, b⟩
/-- a promise: n arguments; what they are, and what comes back; the heap grows -/
def spF {α : Type} (n : Nat) (pre : α → List V → Hp → Prop) (post : α → V → Hp → Prop) : Sp := fun vs H Q _ => vs.length = n ∧ ∃ a, pre a vs H ∧ ∀ v H', Same H H' → post a v H' → Q v H'
theorem spF_len {α : Type} {n : Nat} {pre : α → List V → Hp → Prop} {post : α → V → Hp → Prop} (vs : List V) (H : Hp) (Q : VK) (E : XK) (h : spF n pre post vs H Q E) : vs.length = n := h.1
/-- the built-ins' names are free -/
structure Bl (mg : Str → Option Value) : Prop where
  isinstance : mg "isinstance" = none
  int : mg "int" = none
  bool : mg "bool" = none
  list : mg "list" = none
  tuple : mg "tuple" = none
  str : mg "str" = none
  set : mg "set" = none
  dict : mg "dict" = none
  len : mg "len" = none
  sum : mg "sum" = none
  all : mg "all" = none
  abs : mg "abs" = none
  min : mg "min" = none
  sorted : mg "sorted" = none
  enumerate : mg "enumerate" = none
  range : mg "range" = none
  zip : mg "zip" = none
def letters : Str := "abcdefghijklmnopqrstuvwxyz"
def barred : List Str := ["all", "none", "at", "if", "else", "end", "say", "stop"]
def sorts3 : List Str := ["least", "more", "even"]
/-- the module's constants -/
structure Ct (G : Gd) : Prop where
  LETTERS : ∃ t, G.mg "LETTERS" = some (.str letters t)
  MOST_LETTERS : ∃ t, G.mg "MOST_LETTERS" = some (.int 4 t)
  BARRED : ∃ a, G.mg "BARRED" = some (.ref a) ∧ ∀ H, SqT G.K H a (barred.map V.str)
  SORTS : ∃ a, G.mg "SORTS" = some (.ref a) ∧ ∀ H, SqT G.K H a (sorts3.map V.str)
theorem strs_get {zs : List Str} {i : Nat} {x : V} (h : (zs.map V.str)[i]? = some x) : ∃ z, zs[i]? = some z ∧ x = .str z := by
  rw [List.getElem?_map] at h
  cases e : zs[i]? with
  | none => rw [e] at h; cases h
  | some z => rw [e] at h; exact ⟨z, rfl, (Option.some.inj h).symm⟩
theorem ints_get {zs : List Int} {i : Nat} {x : V} (h : (zs.map V.int)[i]? = some x) : ∃ z, zs[i]? = some z ∧ x = .int z := by
  rw [List.getElem?_map] at h
  cases e : zs[i]? with
  | none => rw [e] at h; cases h
  | some z => rw [e] at h; exact ⟨z, rfl, (Option.some.inj h).symm⟩
theorem flat_str (ys : List Str) : (ys.map V.str).all flatV = true := by
  rw [List.all_eq_true]
  intro x hx
  obtain ⟨z, _, rfl⟩ := List.mem_map.mp hx
  rfl
end Mc
namespace Mc
open PySem PySem.Spec PyProof.Rows L2
abbrev s_is_integer : Stmt := top 15
abbrev s_is_sequence : Stmt := top 16
abbrev s_is_name : Stmt := top 17
abbrev s_ascending : Stmt := top 21
abbrev s_kind_at : Stmt := top 22
abbrev s_kinds : Stmt := top 23
abbrev s_names_of : Stmt := top 24
abbrev s_is_kind : Stmt := top 26
abbrev s_name_mask : Stmt := top 31
abbrev s_many_mask : Stmt := top 32
abbrev s_mask_of : Stmt := top 33
abbrev s_script_of : Stmt := top 34
abbrev s_Group___init__ : Stmt := inClass (top 38) 0
abbrev s_Group_named : Stmt := inClass (top 38) 1
abbrev s_Group_every : Stmt := inClass (top 38) 2
abbrev s_Group_nothing : Stmt := inClass (top 38) 3
abbrev s_Group_at_least : Stmt := inClass (top 38) 4
abbrev s_Group___and__ : Stmt := inClass (top 38) 8
abbrev s_Group___or__ : Stmt := inClass (top 38) 9
abbrev s_Group___sub__ : Stmt := inClass (top 38) 10
abbrev s_Group___xor__ : Stmt := inClass (top 38) 11
abbrev s_Group___invert__ : Stmt := inClass (top 38) 12
abbrev s_is_term : Stmt := top 41
abbrev s_row_of : Stmt := top 42
abbrev s_term_script : Stmt := top 47
abbrev s_Tally___init__ : Stmt := inClass (top 48) 0
abbrev s_Claim___init__ : Stmt := inClass (top 53) 0
abbrev s_is_part : Stmt := top 58
abbrev s_added : Stmt := top 59
abbrev s_Crowd___init__ : Stmt := inClass (top 61) 0
abbrev s_Crowd___len__ : Stmt := inClass (top 61) 4
abbrev s_common_part : Stmt := top 63
abbrev s_lowest : Stmt := top 64
abbrev s_Table_turn : Stmt := inClass (top 65) 1
abbrev s_Table_cleared : Stmt := inClass (top 65) 2
abbrev s_Table_leaving : Stmt := inClass (top 65) 3
abbrev s_Table_is_nearer : Stmt := inClass (top 65) 4
abbrev s_Table_lessened : Stmt := inClass (top 65) 5
abbrev s_Table_held_at : Stmt := inClass (top 65) 8
abbrev s_Table___init__ : Stmt := inClass (top 65) 0
abbrev s_table_of : Stmt := top 66
abbrev s_gone_through : Stmt := top 67
abbrev s_solved : Stmt := top 68
abbrev s_barred : Stmt := top 69
abbrev s_Table_helped : Stmt := inClass (top 65) 6
abbrev s_names_of_2 : Stmt := top 71
abbrev s_rows_of_2 : Stmt := top 73
abbrev s_sorts_of : Stmt := top 75
abbrev s_counts_for : Stmt := top 77
abbrev s_possible : Stmt := top 78
abbrev s_paper : Stmt := top 82
abbrev s_Crowd___getitem__ : Stmt := inClass (top 61) 6
abbrev s_counted : Stmt := top 76
abbrev s_some_of : Stmt := top 79
abbrev s_fewest : Stmt := top 80
abbrev s__law_cells : Stmt := top 91
abbrev s__law_next : Stmt := top 104
abbrev s__law_sets : Stmt := top 103
abbrev s__law_only : Stmt := top 102
abbrev s__law_few : Stmt := top 105
abbrev s__law_has : Stmt := top 89
abbrev s__law_row : Stmt := top 95
abbrev s__law_group : Stmt := top 90
abbrev s__law_made : Stmt := top 96
abbrev s__law_all_made : Stmt := top 97
abbrev s__law_counts : Stmt := top 98
abbrev s__law_value : Stmt := top 99
abbrev s__law_keeps : Stmt := top 100
abbrev s__law_bars : Stmt := top 101
abbrev s__law_deal : Stmt := top 84
abbrev s__law_draw : Stmt := top 85
abbrev s__law_pick : Stmt := top 86
abbrev s__law_words : Stmt := top 87
abbrev s__law_form : Stmt := top 88
abbrev s__law_terms : Stmt := top 92
abbrev s__law_claim : Stmt := top 93
abbrev s_law : Stmt := top 106
end Mc
/-! The head: what is told of the defs and classes, once the top has run. -/
namespace Mc
open PySem PySem.Spec PyProof.Rows L2
def hFa : List He.Fa := [.free "isinstance", .free "int", .free "bool", .free "list", .free "tuple", .free "str", .free "set", .free "dict", .free "len", .free "sum", .free "all", .free "abs", .free "min", .free "sorted", .free "enumerate", .free "range", .free "zip", .str "LETTERS" letters, .int "MOST_LETTERS" 4, .glo "is_integer", .glo "is_sequence", .glo "is_name", .glo "ascending", .glo "kind_at", .glo "kinds", .glo "names_of_kinds", .glo "is_kind", .glo "name_mask", .glo "many_mask", .glo "mask_of", .glo "script_of", .glo "is_term", .glo "row_of", .glo "term_script", .glo "is_part", .glo "added", .glo "common_part", .glo "lowest", .glo "table_of", .glo "gone_through", .glo "solved", .glo "barred", .glo "names_of_deciding", .glo "rows_of_deciding", .glo "sorts_of", .glo "counted", .glo "counts_for", .glo "possible", .glo "some_of", .glo "fewest", .glo "paper", .glo "_law_deal", .glo "_law_draw", .glo "_law_pick", .glo "_law_words", .glo "_law_form", .glo "_law_has", .glo "_law_group", .glo "_law_cells", .glo "_law_terms", .glo "_law_claim", .glo "_law_row", .glo "_law_made", .glo "_law_all_made", .glo "_law_counts", .glo "_law_value", .glo "_law_keeps", .glo "_law_bars", .glo "_law_only", .glo "_law_sets", .glo "_law_next", .glo "_law_few", .glo "law", .glo "BARRED", .glo "SORTS", .glo "Group", .glo "Tally", .glo "Claim", .glo "Table", .glo "Crowd", .cls "Group", .mkr "Group", .cls "Tally", .mkr "Tally", .cls "Claim", .mkr "Claim", .cls "Table", .mkr "Table", .cls "Crowd", .mkr "Crowd", .noat "Group" "sign", .noat "Group" "parts", .noat "Group" "word", .noat "Group" "number", .noat "Group" "names", .noat "Group" "script", .noat "Tally" "terms", .noat "Tally" "names", .noat "Tally" "script", .noat "Claim" "word", .noat "Claim" "tally", .noat "Claim" "names", .noat "Claim" "script", .noat "Crowd" "parts", .noat "Crowd" "script", .noat "Crowd" "size", .noat "Table" "rows", .noat "Table" "many", .noat "Table" "under", .noat "Table" "basis", .meth "Table" "turn", .meth "Table" "cleared", .meth "Table" "leaving", .meth "Table" "is_nearer", .meth "Table" "lessened", .meth "Table" "helped", .meth "Table" "held_at"]
def hD0 : He5.DefA := ⟨fun K => He.ga K "is_integer", "is_integer", "is_integer", defArgs s_is_integer, defBody s_is_integer, defScope s_is_integer, [], []⟩
def hD1 : He5.DefA := ⟨fun K => He.ga K "is_sequence", "is_sequence", "is_sequence", defArgs s_is_sequence, defBody s_is_sequence, defScope s_is_sequence, [], []⟩
def hD2 : He5.DefA := ⟨fun K => He.ga K "is_name", "is_name", "is_name", defArgs s_is_name, defBody s_is_name, defScope s_is_name, [], []⟩
def hD3 : He5.DefA := ⟨fun K => He.ga K "ascending", "ascending", "ascending", defArgs s_ascending, defBody s_ascending, defScope s_ascending, [], []⟩
def hD4 : He5.DefA := ⟨fun K => He.ga K "kind_at", "kind_at", "kind_at", defArgs s_kind_at, defBody s_kind_at, defScope s_kind_at, [], []⟩
def hD5 : He5.DefA := ⟨fun K => He.ga K "kinds", "kinds", "kinds", defArgs s_kinds, defBody s_kinds, defScope s_kinds, [], []⟩
def hD6 : He5.DefA := ⟨fun K => He.ga K "names_of_kinds", "names_of", "names_of", defArgs s_names_of, defBody s_names_of, defScope s_names_of, [], []⟩
def hD7 : He5.DefA := ⟨fun K => He.ga K "is_kind", "is_kind", "is_kind", defArgs s_is_kind, defBody s_is_kind, defScope s_is_kind, [], []⟩
def hD8 : He5.DefA := ⟨fun K => He.ga K "name_mask", "name_mask", "name_mask", defArgs s_name_mask, defBody s_name_mask, defScope s_name_mask, [], []⟩
def hD9 : He5.DefA := ⟨fun K => He.ga K "many_mask", "many_mask", "many_mask", defArgs s_many_mask, defBody s_many_mask, defScope s_many_mask, [], []⟩
def hD10 : He5.DefA := ⟨fun K => He.ga K "mask_of", "mask_of", "mask_of", defArgs s_mask_of, defBody s_mask_of, defScope s_mask_of, [], []⟩
def hD11 : He5.DefA := ⟨fun K => He.ga K "script_of", "script_of", "script_of", defArgs s_script_of, defBody s_script_of, defScope s_script_of, [], []⟩
def hD12 : He5.DefA := ⟨fun K => He.ga K "is_term", "is_term", "is_term", defArgs s_is_term, defBody s_is_term, defScope s_is_term, [], []⟩
def hD13 : He5.DefA := ⟨fun K => He.ga K "row_of", "row_of", "row_of", defArgs s_row_of, defBody s_row_of, defScope s_row_of, [], []⟩
def hD14 : He5.DefA := ⟨fun K => He.ga K "term_script", "term_script", "term_script", defArgs s_term_script, defBody s_term_script, defScope s_term_script, [], []⟩
def hD15 : He5.DefA := ⟨fun K => He.ga K "is_part", "is_part", "is_part", defArgs s_is_part, defBody s_is_part, defScope s_is_part, [], []⟩
def hD16 : He5.DefA := ⟨fun K => He.ga K "added", "added", "added", defArgs s_added, defBody s_added, defScope s_added, [], []⟩
def hD17 : He5.DefA := ⟨fun K => He.ga K "common_part", "common_part", "common_part", defArgs s_common_part, defBody s_common_part, defScope s_common_part, [], []⟩
def hD18 : He5.DefA := ⟨fun K => He.ga K "lowest", "lowest", "lowest", defArgs s_lowest, defBody s_lowest, defScope s_lowest, [], []⟩
def hD19 : He5.DefA := ⟨fun K => He.ga K "table_of", "table_of", "table_of", defArgs s_table_of, defBody s_table_of, defScope s_table_of, [], []⟩
def hD20 : He5.DefA := ⟨fun K => He.ga K "gone_through", "gone_through", "gone_through", defArgs s_gone_through, defBody s_gone_through, defScope s_gone_through, [], []⟩
def hD21 : He5.DefA := ⟨fun K => He.ga K "solved", "solved", "solved", defArgs s_solved, defBody s_solved, defScope s_solved, [], []⟩
def hD22 : He5.DefA := ⟨fun K => He.ga K "barred", "barred", "barred", defArgs s_barred, defBody s_barred, defScope s_barred, [], []⟩
def hD23 : He5.DefA := ⟨fun K => He.ga K "names_of_deciding", "names_of", "names_of", defArgs s_names_of_2, defBody s_names_of_2, defScope s_names_of_2, [], []⟩
def hD24 : He5.DefA := ⟨fun K => He.ga K "rows_of_deciding", "rows_of", "rows_of", defArgs s_rows_of_2, defBody s_rows_of_2, defScope s_rows_of_2, [], []⟩
def hD25 : He5.DefA := ⟨fun K => He.ga K "sorts_of", "sorts_of", "sorts_of", defArgs s_sorts_of, defBody s_sorts_of, defScope s_sorts_of, [], []⟩
def hD26 : He5.DefA := ⟨fun K => He.ga K "counted", "counted", "counted", defArgs s_counted, defBody s_counted, defScope s_counted, [], []⟩
def hD27 : He5.DefA := ⟨fun K => He.ga K "counts_for", "counts_for", "counts_for", defArgs s_counts_for, defBody s_counts_for, defScope s_counts_for, [], []⟩
def hD28 : He5.DefA := ⟨fun K => He.ga K "possible", "possible", "possible", defArgs s_possible, defBody s_possible, defScope s_possible, [], []⟩
def hD29 : He5.DefA := ⟨fun K => He.ga K "some_of", "some_of", "some_of", defArgs s_some_of, defBody s_some_of, defScope s_some_of, [], []⟩
def hD30 : He5.DefA := ⟨fun K => He.ga K "fewest", "fewest", "fewest", defArgs s_fewest, defBody s_fewest, defScope s_fewest, [], []⟩
def hD31 : He5.DefA := ⟨fun K => He.ga K "paper", "paper", "paper", defArgs s_paper, defBody s_paper, defScope s_paper, [], []⟩
def hD32 : He5.DefA := ⟨fun K => He.ga K "_law_deal", "_law_deal", "_law_deal", defArgs s__law_deal, defBody s__law_deal, defScope s__law_deal, [], []⟩
def hD33 : He5.DefA := ⟨fun K => He.ga K "_law_draw", "_law_draw", "_law_draw", defArgs s__law_draw, defBody s__law_draw, defScope s__law_draw, [], []⟩
def hD34 : He5.DefA := ⟨fun K => He.ga K "_law_pick", "_law_pick", "_law_pick", defArgs s__law_pick, defBody s__law_pick, defScope s__law_pick, [], []⟩
def hD35 : He5.DefA := ⟨fun K => He.ga K "_law_words", "_law_words", "_law_words", defArgs s__law_words, defBody s__law_words, defScope s__law_words, [], []⟩
def hD36 : He5.DefA := ⟨fun K => He.ga K "_law_form", "_law_form", "_law_form", defArgs s__law_form, defBody s__law_form, defScope s__law_form, [], []⟩
def hD37 : He5.DefA := ⟨fun K => He.ga K "_law_has", "_law_has", "_law_has", defArgs s__law_has, defBody s__law_has, defScope s__law_has, [], []⟩
def hD38 : He5.DefA := ⟨fun K => He.ga K "_law_group", "_law_group", "_law_group", defArgs s__law_group, defBody s__law_group, defScope s__law_group, [], []⟩
def hD39 : He5.DefA := ⟨fun K => He.ga K "_law_cells", "_law_cells", "_law_cells", defArgs s__law_cells, defBody s__law_cells, defScope s__law_cells, [], []⟩
def hD40 : He5.DefA := ⟨fun K => He.ga K "_law_terms", "_law_terms", "_law_terms", defArgs s__law_terms, defBody s__law_terms, defScope s__law_terms, [], []⟩
def hD41 : He5.DefA := ⟨fun K => He.ga K "_law_claim", "_law_claim", "_law_claim", defArgs s__law_claim, defBody s__law_claim, defScope s__law_claim, [], []⟩
def hD42 : He5.DefA := ⟨fun K => He.ga K "_law_row", "_law_row", "_law_row", defArgs s__law_row, defBody s__law_row, defScope s__law_row, [], []⟩
def hD43 : He5.DefA := ⟨fun K => He.ga K "_law_made", "_law_made", "_law_made", defArgs s__law_made, defBody s__law_made, defScope s__law_made, [], []⟩
def hD44 : He5.DefA := ⟨fun K => He.ga K "_law_all_made", "_law_all_made", "_law_all_made", defArgs s__law_all_made, defBody s__law_all_made, defScope s__law_all_made, [], []⟩
def hD45 : He5.DefA := ⟨fun K => He.ga K "_law_counts", "_law_counts", "_law_counts", defArgs s__law_counts, defBody s__law_counts, defScope s__law_counts, [], []⟩
def hD46 : He5.DefA := ⟨fun K => He.ga K "_law_value", "_law_value", "_law_value", defArgs s__law_value, defBody s__law_value, defScope s__law_value, [], []⟩
def hD47 : He5.DefA := ⟨fun K => He.ga K "_law_keeps", "_law_keeps", "_law_keeps", defArgs s__law_keeps, defBody s__law_keeps, defScope s__law_keeps, [], []⟩
def hD48 : He5.DefA := ⟨fun K => He.ga K "_law_bars", "_law_bars", "_law_bars", defArgs s__law_bars, defBody s__law_bars, defScope s__law_bars, [], []⟩
def hD49 : He5.DefA := ⟨fun K => He.ga K "_law_only", "_law_only", "_law_only", defArgs s__law_only, defBody s__law_only, defScope s__law_only, [], []⟩
def hD50 : He5.DefA := ⟨fun K => He.ga K "_law_sets", "_law_sets", "_law_sets", defArgs s__law_sets, defBody s__law_sets, defScope s__law_sets, [], []⟩
def hD51 : He5.DefA := ⟨fun K => He.ga K "_law_next", "_law_next", "_law_next", defArgs s__law_next, defBody s__law_next, defScope s__law_next, [], []⟩
def hD52 : He5.DefA := ⟨fun K => He.ga K "_law_few", "_law_few", "_law_few", defArgs s__law_few, defBody s__law_few, defScope s__law_few, [], []⟩
def hD53 : He5.DefA := ⟨fun K => He.ga K "law", "law", "law", defArgs s_law, defBody s_law, defScope s_law, [], []⟩
def hD54 : He5.DefA := ⟨fun K => He.ma K (He.ga K "Group") "__init__", "__init__", "Group.__init__", defArgs s_Group___init__, defBody s_Group___init__, defScope s_Group___init__, [.str "", .int 0], []⟩
def hD55 : He5.DefA := ⟨fun K => He.ma K (He.ga K "Tally") "__init__", "__init__", "Tally.__init__", defArgs s_Tally___init__, defBody s_Tally___init__, defScope s_Tally___init__, [.adr (He.dflAt ("Tally", some "__init__") 0)], []⟩
def hD56 : He5.DefA := ⟨fun K => He.ma K (He.ga K "Claim") "__init__", "__init__", "Claim.__init__", defArgs s_Claim___init__, defBody s_Claim___init__, defScope s_Claim___init__, [], []⟩
def hD57 : He5.DefA := ⟨fun K => He.ma K (He.ga K "Table") "__init__", "__init__", "Table.__init__", defArgs s_Table___init__, defBody s_Table___init__, defScope s_Table___init__, [], []⟩
def hD58 : He5.DefA := ⟨fun K => He.ma K (He.ga K "Crowd") "__init__", "__init__", "Crowd.__init__", defArgs s_Crowd___init__, defBody s_Crowd___init__, defScope s_Crowd___init__, [.adr (He.dflAt ("Crowd", some "__init__") 0)], []⟩
def hD59 : He5.DefA := ⟨fun K => He.ma K (He.ga K "Table") "turn", "turn", "Table.turn", defArgs s_Table_turn, defBody s_Table_turn, defScope s_Table_turn, [], []⟩
def hD60 : He5.DefA := ⟨fun K => He.ma K (He.ga K "Table") "cleared", "cleared", "Table.cleared", defArgs s_Table_cleared, defBody s_Table_cleared, defScope s_Table_cleared, [], []⟩
def hD61 : He5.DefA := ⟨fun K => He.ma K (He.ga K "Table") "leaving", "leaving", "Table.leaving", defArgs s_Table_leaving, defBody s_Table_leaving, defScope s_Table_leaving, [], []⟩
def hD62 : He5.DefA := ⟨fun K => He.ma K (He.ga K "Table") "is_nearer", "is_nearer", "Table.is_nearer", defArgs s_Table_is_nearer, defBody s_Table_is_nearer, defScope s_Table_is_nearer, [], []⟩
def hD63 : He5.DefA := ⟨fun K => He.ma K (He.ga K "Table") "lessened", "lessened", "Table.lessened", defArgs s_Table_lessened, defBody s_Table_lessened, defScope s_Table_lessened, [], []⟩
def hD64 : He5.DefA := ⟨fun K => He.ma K (He.ga K "Table") "helped", "helped", "Table.helped", defArgs s_Table_helped, defBody s_Table_helped, defScope s_Table_helped, [], []⟩
def hD65 : He5.DefA := ⟨fun K => He.ma K (He.ga K "Table") "held_at", "held_at", "Table.held_at", defArgs s_Table_held_at, defBody s_Table_held_at, defScope s_Table_held_at, [], []⟩
def hD66 : He5.DefA := ⟨fun K => He.ma K (He.ga K "Group") "__and__", "__and__", "Group.__and__", defArgs s_Group___and__, defBody s_Group___and__, defScope s_Group___and__, [], []⟩
def hD67 : He5.DefA := ⟨fun K => He.ma K (He.ga K "Group") "__or__", "__or__", "Group.__or__", defArgs s_Group___or__, defBody s_Group___or__, defScope s_Group___or__, [], []⟩
def hD68 : He5.DefA := ⟨fun K => He.ma K (He.ga K "Group") "__sub__", "__sub__", "Group.__sub__", defArgs s_Group___sub__, defBody s_Group___sub__, defScope s_Group___sub__, [], []⟩
def hD69 : He5.DefA := ⟨fun K => He.ma K (He.ga K "Group") "__xor__", "__xor__", "Group.__xor__", defArgs s_Group___xor__, defBody s_Group___xor__, defScope s_Group___xor__, [], []⟩
def hD70 : He5.DefA := ⟨fun K => He.ma K (He.ga K "Group") "__invert__", "__invert__", "Group.__invert__", defArgs s_Group___invert__, defBody s_Group___invert__, defScope s_Group___invert__, [], []⟩
def hD71 : He5.DefA := ⟨fun K => He.ma K (He.ga K "Crowd") "__len__", "__len__", "Crowd.__len__", defArgs s_Crowd___len__, defBody s_Crowd___len__, defScope s_Crowd___len__, [], []⟩
def hD72 : He5.DefA := ⟨fun K => He.ma K (He.ga K "Crowd") "__getitem__", "__getitem__", "Crowd.__getitem__", defArgs s_Crowd___getitem__, defBody s_Crowd___getitem__, defScope s_Crowd___getitem__, [], []⟩
def hD73 : He5.DefA := ⟨fun K => He5.wf K (He.ga K "Group") "classmethod" "named", "named", "Group.named", defArgs s_Group_named, defBody s_Group_named, defScope s_Group_named, [], []⟩
def hD74 : He5.DefA := ⟨fun K => He5.wf K (He.ga K "Group") "classmethod" "every", "every", "Group.every", defArgs s_Group_every, defBody s_Group_every, defScope s_Group_every, [], []⟩
def hD75 : He5.DefA := ⟨fun K => He5.wf K (He.ga K "Group") "classmethod" "nothing", "nothing", "Group.nothing", defArgs s_Group_nothing, defBody s_Group_nothing, defScope s_Group_nothing, [], []⟩
def hD76 : He5.DefA := ⟨fun K => He5.wf K (He.ga K "Group") "classmethod" "at_least", "at_least", "Group.at_least", defArgs s_Group_at_least, defBody s_Group_at_least, defScope s_Group_at_least, [], []⟩
def hFnA : List He5.DefA := [hD0, hD1, hD2, hD3, hD4, hD5, hD6, hD7, hD8, hD9, hD10, hD11, hD12, hD13, hD14, hD15, hD16, hD17, hD18, hD19, hD20, hD21, hD22, hD23, hD24, hD25, hD26, hD27, hD28, hD29, hD30, hD31, hD32, hD33, hD34, hD35, hD36, hD37, hD38, hD39]
def hFnB : List He5.DefA := [hD40, hD41, hD42, hD43, hD44, hD45, hD46, hD47, hD48, hD49, hD50, hD51, hD52, hD53, hD54, hD55, hD56, hD57, hD58, hD59, hD60, hD61, hD62, hD63, hD64, hD65, hD66, hD67, hD68, hD69, hD70, hD71, hD72, hD73, hD74, hD75, hD76]
def hFn : List He5.DefA := hFnA ++ hFnB
def hBarred : List He.Dv := barred.map He.Dv.str
def hSorts : List He.Dv := sorts3.map He.Dv.str
/-- a special method stands -/
def hDun (K : PySem.W.Frag) (c m : Str) : Bool := He.eqO (PySem.W.findIn K (.ref (He.ga K c)) m) (some (some (.ref (He.ma K (He.ga K c) m)))) && (PySem.W.isFn K (.ref (He.ma K (He.ga K c) m)) && PySem.W.fnIn K (He.ma K (He.ga K c) m))
/-- a classmethod stands -/
def hClm (K : PySem.W.Frag) (c m : Str) : Bool := He5.wrapB K (He.ga K c) "classmethod" "classmethod.__get__" m && PySem.W.fnIn K (He5.wf K (He.ga K c) "classmethod" m)
/-- isinstance finds the class -/
def hIs (K : PySem.W.Frag) (c : Str) : Bool := He.eqO (PySem.W.findIn K (.ref (He.ga K c)) "__class__") (some (some (.builtin "object.__class__"))) && (decide (PySem.W.mroIn K (He.ga K c) (.type "object") = some true) && decide (PySem.W.kitOne K (.ref (He.ga K c)) (.ref (He.ga K c)) = some true))
def hOb (K : PySem.W.Frag) : Bool := He.eqO (PySem.W.specialIn K (.builtin "object.__class__") "__get__") (some (some (.builtin "getset_descriptor.__get__"))) && decide (PySem.W.takesIn K (.builtin "object.__class__") = some true)
def hRd (K : PySem.W.Frag) (c : Str) : Bool := PySem.W.readsIn K (He.ga K c) (.type "type") && He.eqO (PySem.W.specialIn K (.ref (He.ga K c)) "__getattribute__") (some (some (.builtin "type.__getattribute__")))
def hEx : List (PySem.W.Frag → Bool) := [fun K => He.tupB K "BARRED" hBarred, fun K => He.tupB K "SORTS" hSorts, fun K => PySem.W.selfFirst K (He.ga K "Group"), fun K => hOb K, fun K => hIs K "Group", fun K => hIs K "Tally", fun K => hRd K "Group", fun K => hDun K "Group" "__and__", fun K => hDun K "Group" "__or__", fun K => hDun K "Group" "__sub__", fun K => hDun K "Group" "__xor__", fun K => hDun K "Group" "__invert__", fun K => hDun K "Crowd" "__len__", fun K => hDun K "Crowd" "__getitem__", fun K => hClm K "Group" "named", fun K => hClm K "Group" "every", fun K => hClm K "Group" "nothing", fun K => hClm K "Group" "at_least"]
abbrev HD : Type := Bool × List He5.FnW
abbrev HAl : Type := (Bool × List Bool) × HD × HD
def hOF (K : PySem.W.Frag) : Bool × List Bool := (hFa.all fun x => x.ok K, hEx.map fun x => x K)
def hOD (ds : List He5.DefA) (K : PySem.W.Frag) : HD := (ds.all fun x => x.ok K, ds.map fun x => He5.fnA K (x.at_ K))
def hVF : Bool × List Bool := (true, hEx.map fun _ => true)
def hVD (ds : List He5.DefA) : HD := (true, ds.map He5.DefA.val)
def hObs (K : PySem.W.Frag) : HAl := (hOF K, hOD hFnA K, hOD hFnB K)
def hVal : HAl := (hVF, hVD hFnA, hVD hFnB)
theorem hTell {K : PySem.W.Frag} (c : hObs K = hVal) : He5.SaysA hFa hFn K ∧ (hEx.map fun x => x K) = hEx.map fun _ => true := by
  have c1 : hOF K = hVF := congrArg (fun z : HAl => z.1) c
  have c2 : hOD hFnA K = hVD hFnA := congrArg (fun z : HAl => z.2.1) c
  have c3 : hOD hFnB K = hVD hFnB := congrArg (fun z : HAl => z.2.2) c
  have a1 : (hFa.all fun x => x.ok K) = true := congrArg (fun z : Bool × List Bool => z.1) c1
  have a2 : (hFnA.all fun x => x.ok K) = true := congrArg (fun z : HD => z.1) c2
  have a3 : (hFnB.all fun x => x.ok K) = true := congrArg (fun z : HD => z.1) c3
  have b2 : (hFnA.map fun x => He5.fnA K (x.at_ K)) = hFnA.map He5.DefA.val := congrArg (fun z : HD => z.2) c2
  have b3 : (hFnB.map fun x => He5.fnA K (x.at_ K)) = hFnB.map He5.DefA.val := congrArg (fun z : HD => z.2) c3
  refine ⟨?_, congrArg (fun z : Bool × List Bool => z.2) c1⟩
  show ((hFa.all fun x => x.ok K) && (hFnA ++ hFnB).all fun x => x.ok K, (hFnA ++ hFnB).map fun x => He5.fnA K (x.at_ K)) = (true, (hFnA ++ hFnB).map He5.DefA.val)
  rw [List.all_append, List.map_append, List.map_append, a1, a2, a3, b2, b3]
  rfl
/-- what an object leads to: a dict's values, a def's code and defaults, a class's names, a record's fields -/
def hRef (o : Obj) : List Addr := (match o.dict with
  | some d => [d]
  | none => []) ++ match o.data with
  | .dict es _ => es.toList.flatMap fun e => He.refV e.val
  | .func fd => He.refV fd.code ++ He.refV fd.defaults
  | .cls cd => [cd.ns]
  | .fields vs => vs.toList.flatMap He.refV
  | _ => []
def hStep (g : Addr → Option Obj) (as : List Addr) : List Addr := as.flatMap fun a => match g a with
  | some o => hRef o
  | none => []
/-- layer by layer -/
def hLay (g : Addr → Option Obj) : Nat → List Addr → List Addr
  | 0, as => as
  | n + 1, as => as ++ hLay g n (hStep g as)
def hFr (n : Nat) (g : Addr → Option Obj) : PySem.W.Frag := He.frG g (PySem.cStatics :: hLay g n [mainGlobals])
def hObsG (n : Nat) (g : Addr → Option Obj) : HAl := hObs (hFr n g)
def hHook (n : Nat) : PySem.W.Hook where
  α := HAl
  obs s := hObsG n s.heap.get?
  val _ := hVal
  says _ h := ∃ K : PySem.W.Frag, K.In h ∧ hObs K = hVal
  of _ _ e := ⟨_, He.frG_in, e⟩
  keeps _ _ _ k h := ⟨k.choose, PySem.W.Frag.In.keeps k.choose_spec.1 h, k.choose_spec.2⟩
abbrev HR : PySem.W.OpenRow := PySem.W.OpenLaw.row PySem.Challenge.rw_mostcrowds_k22_whole_crowds_of_the_fewes
def hOb2 (s : PySem.W.SharedT) : HAl := hObsG 5 (HandSHeadRun.getT s)
theorem hOb2_eq (s : PySem.W.SharedT) : hOb2 s = (hHook 5).obs s.abs := by
  have e : HandSHeadRun.getT s = s.abs.heap.get? := funext fun a => HandSHeadRun.getT_eq s a
  show hObsG 5 (HandSHeadRun.getT s) = hObsG 5 s.abs.heap.get?
  rw [e]

def hL0 : List Str := ["_wall", "CrowdError", "InvalidName", "InvalidGroup", "InvalidTally", "InvalidClaim", "InvalidCrowd", "InvalidText", "LETTERS", "DIGITS", "BARRED", "MOST_LETTERS", "MOST_DIGITS", "is_integer", "is_sequence", "is_name", "number_of", "Words", "ascending", "kind_at", "kinds", "names_of", "names_of_kinds", "is_kind", "PAIRED"]
def hL1 : List Str := ["PLAIN", "is_held", "name_mask", "many_mask", "mask_of", "script_of", "Half", "begun", "read_group", "Group", "SIGNS", "is_term", "row_of", "rows_of", "rows_of_tallies", "read_term", "read_tally", "term_script", "Tally", "SORTS", "is_right", "are_alike", "Claim", "NOBODY", "MOST_COPIES"]
def hL2 : List Str := ["MOST_FIGURES", "is_part", "added", "part_of", "Crowd", "common_part", "lowest", "Table", "table_of", "gone_through", "solved", "barred", "names_of_deciding", "rows_of_deciding", "sorts_of", "counted", "counts_for", "possible", "some_of", "fewest", "paper", "_law_deal", "_law_draw", "_law_pick", "_law_words"]
def hL3 : List Str := ["_law_form", "_law_has", "_law_group", "_law_cells", "_law_terms", "_law_claim", "_law_contrary", "_law_row", "_law_made", "_law_all_made", "_law_counts", "_law_value", "_law_keeps", "_law_bars", "_law_only", "_law_sets", "_law_next", "_law_few"]
def hLoose : List Str := hL0 ++ hL1 ++ hL2 ++ hL3
section
open PySem.W PySem.Calls HandSHeadRun
noncomputable abbrev hEnd (w : World) (os : OsState) : Option PySem.W.SharedT := endF (stepQ (denQ tabQ) HR.prog w) 15000 HR.prog w os
abbrev hQ : Program := PySem.W.view HR.prog [106]
theorem hRun1 (w : World) (os : OsState) : (hEnd w os).map (fun s => (HandSHeadRun.looksF HR.prog (boot_heap w.params) s.abs, HandSHeadRun.seenQ hQ hLoose (importedModules HR.prog.main.body) (fun s => PySem.W.xlAt hQ [] s && PySem.W.recOk HR.toRowW.records s) s.abs, hOF (hFr 5 (HandSHeadRun.getT s)))) = some (true, PySem.W.openGood hQ hLoose, hVF) := by
  kernel_rfl
theorem hRun2 (w : World) (os : OsState) : (hEnd w os).map (fun s => hOD hFnA (hFr 5 (HandSHeadRun.getT s))) = some (hVD hFnA) := by
  kernel_rfl
theorem hRun3 (w : World) (os : OsState) : (hEnd w os).map (fun s => hOD hFnB (hFr 5 (HandSHeadRun.getT s))) = some (hVD hFnB) := by
  kernel_rfl
end
theorem hRun (w : World) : HandSHeadRun.RunEq HR hQ (hHook 5) hOb2 15000 hLoose w := by
  intro os
  have r1 := hRun1 w os
  have r2 := hRun2 w os
  have r3 := hRun3 w os
  show (hEnd w os).map _ = _
  generalize hEnd w os = o at r1 r2 r3 ⊢
  cases o with
  | none => cases r1
  | some s =>
    have e1 := Option.some.inj r1
    have e2 := Option.some.inj r2
    have e3 := Option.some.inj r3
    refine congrArg some ?_
    refine Prod.ext (congrArg (fun z => z.1) e1) (Prod.ext (congrArg (fun z => z.2.1) e1) ?_)
    exact Prod.ext (congrArg (fun z => z.2.2) e1) (Prod.ext e2 e3)
end Mc
section
open PySem PySem.W PySem.Calls PyProof.Rows
/-- the law holds, if its def does -/
theorem Mc.hLaw (F : ∀ (w : World) (K : Frag) (h : Heap) (mg : PySem.Str → Option Value) (fa : Addr), K.In h → h.Ns mainGlobals mg → mg ("law" : PySem.Str) = some (.ref fa) → Mc.hObs K = Mc.hVal →
    ∃ (fd : FuncData) (sp : L2.Sp), (∀ (s : Shared) (u : Value), BindsTo s fd ⟨[u], []⟩ [("_law_script", u)]) ∧ (∀ (H : L2.Hp) (a : Addr) (ns : List Int), ns.length ≤ 63 → L2.SqL K H a (ns.map L2.V.int) → sp [.ref a] H (fun v _ => v = .bl true) fun _ _ _ => False) ∧
      ∀ base : Heap, K.In base → base.Ns mainGlobals mg → L2.FnOk (PySem.Challenge.rw_mostcrowds_k22_whole_crowds_of_the_fewes).prog w K mg base L2.CX0 14 fa fd ["_law_script"] sp) : PySem.Challenge.rw_mostcrowds_k22_whole_crowds_of_the_fewes.Holds := by
  w_on; o_law
  refine HandSHeadRun.head_any (r := Mc.HR) (q := view Mc.HR.prog [106]) (H := Mc.hHook 5) (ob := Mc.hOb2) (M := 15000) (loose := Mc.hLoose) (d := HandSHeadRun.topDef Mc.HR.prog 106) (kwd := []) Mc.hOb2_eq
    (by kernel_rfl) (fun s => by kernel_rfl) Mc.hRun (by kernel_rfl) (by kernel_rfl) (by kernel_rfl) (by rfl) (by first | assumption | decide +kernel) (by decide +kernel) ⟨rfl, rfl, rfl, rfl, rfl, by decide +kernel⟩ ?hw ?hc
  case hw => w_witness2
  case hc =>
    refine L2.walk_ofE (l := PySem.Challenge.rw_mostcrowds_k22_whole_crowds_of_the_fewes) (n := 63) (k := 14) (x := "_law_script") (CX := L2.CX0) rfl (by decide) (by kernel_rfl) ⟨rfl, by decide, by decide⟩ ?F (fun _ _ _ _ z => z)
    intro w mg fa h Y N hmg0
    obtain ⟨K, KX, c⟩ := Y
    have hmg : mg ("law" : PySem.Str) = some (.ref fa) := by
      have e : (HandSHeadRun.topDef Mc.HR.prog 106).name = ("law" : PySem.Str) := by kernel_rfl
      rw [← e]
      exact hmg0
    obtain ⟨fd, sp, hb, hs, hF⟩ := F w K h mg fa KX N hmg c
    exact ⟨K, fd, sp, KX, hb, fun H a ns hl _ hS => hs H a ns hl hS, hF⟩
end
/-! Rules of one's own: match on texts; enumerate of a tuple; operators of own classes; len, an item of an own instance. -/
namespace Mc
open PySem PySem.Spec PyProof.Rows L2
section
variable {X : Cx}
/-! ### match on a text -/
/-- the cases of a match on the text z -/
structure PMs (X : Cx) (cs : List MatchCase) (t : Str → TS) : Prop where
  run : ∀ (first : Bool) (z : Str) (tk : Tok) (pins : List (Addr × Obj)) (s : Shared) (σ : L2.St) (H : Hp) (D : Ends), Inv X pins σ H s → t z D σ H → wpAny (model X.prog X.w) X.A (matchCases cs X.env (.str z tk) first) (SP X pins D) X.xe s
theorem pms_nil : PMs X [] (fun _ D σ H => D.nx σ H) := ⟨fun _ _ _ pins s σ H D I h => wpAny_matchCases_nil ⟨σ, H, I, h⟩⟩
theorem pms_cons {x : Str} {j : Nat} {p1 p2 : Pos} {body : List Stmt} {cs : List MatchCase} {tb : TS} {t : Str → TS} (hb : PSs X body tb) (hr : PMs X cs t) :
    PMs X (⟨.MatchValue (.Constant (.str x) j p1) p2, none, body⟩ :: cs) (fun z D σ H => if z = x then tb D σ H else t z D σ H) := by
  refine ⟨fun first z tk pins s σ H D I h => ?_⟩
  refine wpAny_matchCases_cons (wpAny_matchPattern_Value (Calls.Constant_str (eq_str ?_)))
  refine wpAny_truthy_bool ?_
  by_cases e : z = x
  · rw [if_pos e] at h
    have q : (z == x) = true := by rw [e]; exact beq_self_eq_true _
    rw [q]
    simp only [if_true]
    exact wpAny_assignInOrder_none (hb.run pins _ σ H D (I.tok _) h)
  · rw [if_neg e] at h
    have q : (z == x) = false := beq_eq_false_iff_ne.mpr e
    rw [q]
    simp only [Bool.false_eq_true, if_false]
    exact hr.run false z tk pins _ σ H D (I.tok _) h
theorem ps_match {e : Expr} {te : TE} {cs : List MatchCase} {t : Str → TS} {pos : Pos} (he : PE X e te) (hc : PMs X cs t) : PS X (.Match e cs pos) (fun D σ H => te σ H fun x H1 => ∃ z, x = .str z ∧ t z D σ H1) := by
  refine ⟨fun pins s σ H D I h => ?_⟩
  refine wpAny_Match (thn (he.run pins s σ H _ I h) fun u s1 ⟨x, H1, I1, rx, z, ex, q⟩ => ?_)
  subst ex
  obtain ⟨tk, eu⟩ := (show ∃ t, u = Value.str z t from rx)
  subst eu
  exact hc.run true z tk pins s1 σ H1 D I1 q
end

/-! ### the text's own special methods -/
structure CalD (G : Gd) (k : Nat) (C : Addr) (m : Str) (ps : List Str) (sp : Sp) : Prop where
  ex : ∃ f fd, FnOk G.P G.w G.K G.mg G.base CX0 k f fd ps sp ∧ PySem.W.findIn G.K (.ref C) m = some (some (.ref f)) ∧ PySem.W.isFn G.K (.ref f) = true ∧ PySem.W.fnIn G.K f = true ∧ Binds G.K fd ps []
theorem CalD.mono {G : Gd} {j k : Nat} {C : Addr} {m : Str} {ps : List Str} {sp : Sp} (c : CalD G j C m ps sp) (h : j ≤ k) : CalD G k C m ps sp := by
  obtain ⟨f, fd, F, a⟩ := c.ex
  exact ⟨f, fd, F.mono h, a⟩
theorem CalM.mono {G : Gd} {j k : Nat} {C : Addr} {m : Str} {ps : List Str} {sp : Sp} (c : CalM G j C m ps sp) (h : j ≤ k) : CalM G k C m ps sp := by
  obtain ⟨f, fd, F, a⟩ := c.ex
  exact ⟨f, fd, F.mono h, a⟩
theorem CalC.mono {G : Gd} {j k : Nat} {C : Addr} {ps : List Str} {dvs : List V} {sp : Sp} (c : CalC G j C ps dvs sp) (h : j ≤ k) : CalC G k C ps dvs sp := by
  obtain ⟨f, fd, ds, F, a⟩ := c.ex
  exact ⟨f, fd, ds, F.mono h, a⟩
section
variable {X : Cx} {pins : List (Addr × Obj)} {σ : L2.St} {H : Hp} {s : Shared}
/-- a def runs, somewhere below -/
theorem run_at {k : Nat} {f : Addr} {fd : FuncData} {ps : List Str} {sp : Sp} {A : Around} {us : List Value} {vs : List V} {Q : VK} (F : FnOk X.prog X.w X.K X.mg X.base CX0 k f fd ps sp) (hb : Binds X.K fd ps []) (hr : Room k A)
    (he : Env0 X.prog X.w X.K X.mg X.base A X.stack s H) (I : Inv X pins σ H s) (r : Vals vs us) (h : sp vs H Q E0) : wpAny (model X.prog X.w) A (call (.ref f) us) (EP X pins σ Q) X.xe s := by
  have hl : (us ++ []).length = ps.length := by rw [List.append_nil, ← r.length]; exact F.len _ _ _ _ h
  have b := hb s us I.kIn hl
  rw [List.append_nil] at b
  refine wpAny_call (codeAny_mono (F.run A X.stack s H ⟨us, []⟩ us vs Q E0 hr he b r h) fun r s' hq => ?_)
  cases r with
  | error e => exact False.elim hq
  | ok fl =>
    cases fl with
    | ret u => exact I.after hq
    | next => exact False.elim hq
    | brk => exact False.elim hq
    | cont => exact False.elim hq
theorem cmpBack_of {Q : VK} {u : Value} {s' : Shared} (h : EP X pins σ Q u s') : PySem.W.CmpBack (EP X pins σ Q) u s' := by
  obtain ⟨v, H', I, r, q⟩ := h
  cases v with
  | non => obtain rfl : u = Value.none := r; exact ⟨.non, H', I, rfl, q⟩
  | bl b => obtain rfl : u = Value.bool b := r; exact ⟨.bl b, H', I, rfl, q⟩
  | int i => obtain ⟨t, rfl⟩ := (show ∃ t, u = Value.int i t from r); exact ⟨.int i, H', I, ⟨t, rfl⟩, q⟩
  | str z => obtain ⟨t, rfl⟩ := (show ∃ t, u = Value.str z t from r); exact ⟨.str z, H', I, ⟨t, rfl⟩, q⟩
  | byt z => obtain ⟨t, rfl⟩ := (show ∃ t, u = Value.bytes z t from r); exact ⟨.byt z, H', I, ⟨t, rfl⟩, q⟩
  | flt z => obtain ⟨t, rfl⟩ := (show ∃ t, u = Value.float z t from r); exact ⟨.flt z, H', I, ⟨t, rfl⟩, q⟩
  | ref a => obtain rfl : u = Value.ref a := r; exact ⟨.ref a, H', I, rfl, q⟩
  | ty n => obtain rfl : u = Value.type n := r; exact ⟨.ty n, H', I, rfl, q⟩
/-- x op y, both instances of C -/
def rOwn (C : Addr) (sp : Sp) : R2 := fun x y H Q => ∃ a b dx dy fs gs, x = .ref a ∧ y = .ref b ∧ H a = some (.ins C dx fs) ∧ H b = some (.ins C dy gs) ∧ sp [.ref a, .ref b] H Q E0
theorem op_own {op : Operator} {k : Nat} {C : Addr} {ps : List Str} {sp : Sp} (c : CalD (gd X) k C (PySem.dunder op.info.2) ps sp) (hf : PySem.W.selfFirst X.K C = true) (hr : Room k X.A) : OpR X (binaryOp op) (rOwn C sp) := by
  intro pins s σ H x y v u Q I rx ry h
  obtain ⟨a, b, dx, dy, fs, gs, rfl, rfl, ha, hb, q⟩ := h
  obtain ⟨f, fd, F, fi, fn, _, bi⟩ := c.ex
  cases rx
  cases ry
  obtain ⟨_, J, _⟩ := ins_get I.hok ha
  obtain ⟨_, J', _⟩ := ins_get I.hok hb
  obtain ⟨od, J, _⟩ := J.look
  obtain ⟨od', J', _⟩ := J'.look
  obtain ⟨m, hF⟩ := I.fr
  refine PySem.W.binop_K hF I.ok.mod.kin J J'.type hf fi fn ?_
  exact thn (run_at (vs := [.ref a, .ref b]) F bi hr I.env0 I (.cons rfl (.cons rfl .nil)) q) fun u s' h => cmpBack_of h
/-- ~x -/
theorem un_own {k : Nat} {C : Addr} {ps : List Str} {sp : Sp} (c : CalD (gd X) k C "__invert__" ps sp) (hr : Room k X.A) : UnR X (unaryOp .Invert) (fun x H Q => ∃ a dx fs, x = .ref a ∧ H a = some (.ins C dx fs) ∧ sp [.ref a] H Q E0) := by
  intro pins s σ H x v Q I rx h
  obtain ⟨a, dx, fs, rfl, ha, q⟩ := h
  obtain ⟨f, fd, F, fi, fn, _, bi⟩ := c.ex
  cases rx
  obtain ⟨_, J, _⟩ := ins_get I.hok ha
  obtain ⟨od, J, _⟩ := J.look
  obtain ⟨m, hF⟩ := I.fr
  exact PySem.W.ksp_inv hF I.ok.mod.kin J fi fn (run_at (vs := [.ref a]) F bi hr I.env0 I (.cons rfl .nil) q)
/-- len(x) -/
theorem call_lenOwn {k : Nat} {C : Addr} {ps : List Str} {sp : Sp} (c : CalD (gd X) k C "__len__" ps sp) (hr : Room (k + 1) X.A) :
    CallR X (.builtin "len") (fun xs H Q => ∃ a dx fs, xs = [.ref a] ∧ H a = some (.ins C dx fs) ∧ sp [.ref a] H (fun v H' => ∃ n : Nat, v = .int n ∧ n < 1000000 ∧ Q (.int n) H') E0) := by
  intro pins s σ H xs us Q I r h
  obtain ⟨a, dx, fs, rfl, ha, q⟩ := h
  obtain ⟨f, fd, F, fi, fn, _, bi⟩ := c.ex
  obtain ⟨u, rfl, rx⟩ := vals1 r
  cases rx
  obtain ⟨_, J, _⟩ := ins_get I.hok ha
  obtain ⟨od, J, _⟩ := J.look
  obtain ⟨m, hF⟩ := I.fr
  refine PySem.W.len_K hF I.ok.mod.kin J fi fn ?_
  refine thn (run_at (A := X.A.in1) (vs := [.ref a]) F bi hr.in1 I.env0.in1 I (.cons rfl .nil) q) fun u s' ⟨v, H', I', rv, n, ev, hn, q'⟩ => ?_
  subst ev
  obtain ⟨t, rfl⟩ := (show ∃ t, u = Value.int n t from rv)
  exact ⟨⟨by omega, by omega⟩, .int n, H', I'.tok _, ⟨_, rfl⟩, q'⟩
/-- x[y], x an instance of C -/
def PlainIxD (b : Expr) : Prop := ∀ o i, subscripted b true o i = runValue (.builtin "lifetime.subscript" ⟨[o, i], []⟩)
theorem pe_itemOwn {k : Nat} {C : Addr} {ps : List Str} {sp : Sp} {a b : Expr} {ta tb : TE} {pos : Pos} (c : CalD (gd X) k C "__getitem__" ps sp) (hr : Room (k + 1) X.A) (ha : PE X a ta) (hb : PE X b tb) (hs : PlainIxD b) :
    PE X (.Subscript a b pos) (tOp (fun x y H Q => ∃ a dx fs, x = .ref a ∧ H a = some (.ins C dx fs) ∧ sp [.ref a, y] H Q E0) ta tb) := by
  refine ⟨fun pins s σ H Q I h => ?_⟩
  refine Subscript_ (binT ha hb I h fun v u s2 x y H2 I2 rx ry q => ?_)
  obtain ⟨p, dx, fs, rfl, hp, q⟩ := q
  obtain ⟨f, fd, F, fi, fn, fn', bi⟩ := c.ex
  cases rx
  obtain ⟨_, J, _⟩ := ins_get I2.hok hp
  obtain ⟨od, J, _⟩ := J.look
  obtain ⟨m, hF⟩ := I2.fr
  exact PySem.W.sub_K hF I2.ok.mod.kin J fi fn' fn (run_at (A := X.A.in1) (vs := [.ref p, y]) F bi hr.in1 I2.env0.in1 I2 (.cons rfl (.cons ry .nil)) q) (hs _ _)
end
end Mc
/-! Walks of one's own: enumerate of a tuple; zip of a tuple and a list. -/
namespace Mc
open PySem PySem.Spec PyProof.Rows L2

/-! ### enumerate(tuple) -/
section
variable {prog : Program} {w : World} {A : Around} {E : Value → Shared → Prop} {s : Shared}
theorem meets_enumB {v : Value} {o : Obj} {Hv : Heap → Prop} (B : Begins v o Hv) :
    Meets (Builtin.«enumerate.__new__» ⟨[.type "enumerate", v], []⟩) (fun _ R s => Hv s.heap ∧
      R (.ok (.ret (.ref (s.heap.push o).objs.size))) { s with heap := (s.heap.push o).push { cls := .type "enumerate", data := .fields #[.none, .bool false, .ref s.heap.objs.size, rawInt 0, .none, .none] } }) :=
  .of_wp fun prog w A R s h => by
    obtain ⟨hp, g, d, tk, os⟩ := s
    obtain ⟨h1, h⟩ := h
    have hsub := sub_enumerate
    have q1 : ∀ {A' : Around} {E : Value → Shared → Prop} {Q : Value → Shared → Prop}, Q (.ref hp.objs.size) ⟨hp.push o, g, d, tk, os⟩ → wpAny (model prog w) A' (pyIter v) Q E ⟨hp, g, d, tk, os⟩ :=
      fun q => B.iter prog w _ _ ⟨hp, g, d, tk, os⟩ _ h1 q
    wp_walk using q1
    refine wpAny_stack_any fun st => wpAny_pure ?_
    split
    · rename_i c _ _ _ _ _
      cases (c == Value.type "enumerate") <;> (wp_walk using q1; exact ⟨_, rfl, h⟩)
    · wp_walk using q1
      exact ⟨_, rfl, h⟩
theorem call_enumB {v : Value} {o : Obj} {Hv : Heap → Prop} {Q : Value → Shared → Prop} (B : Begins v o Hv) (h1 : Hv s.heap)
    (h : ∀ h', IsEnum h' (s.heap.objs.size + 1) s.heap.objs.size 0 .none → h'.get? s.heap.objs.size = some o → (∀ b u, s.heap.get? b = some u → h'.get? b = some u) → Q (.ref (s.heap.objs.size + 1)) { s with heap := h' }) :
    wpAny (model prog w) A (call (.type "enumerate") [v]) Q E s := by
  refine callType_new F.called_enumerate (by decide) (F.typeCall_enumerate_1 _) (F.newCall_enumerate_1 _) (fun obj => F.args_object_init_2 obj _) F.entry_enumerate_new (meets_enumB B) ⟨h1, ?_⟩
  have hz : (s.heap.push o).objs.size = s.heap.objs.size + 1 := Heap.size_push ..
  have he := Heap.get?_push_size (s.heap.push o) (o := { cls := .type "enumerate", data := .fields #[.none, .bool false, .ref s.heap.objs.size, rawInt 0, .none, .none] }) rfl
  show _ ∧ _
  rw [hz] at he ⊢
  exact ⟨⟨_, he, rfl⟩, h _ he (Heap.get?_push_of_some _ (Heap.get?_push_size _ B.free)) fun b u x => Heap.get?_push_of_some _ (Heap.get?_push_of_some _ x)⟩
end
/-- the tuple at a, each item in a new pair -/
def IteT (K : PySem.W.Frag) (a : Addr) : It :=
  ⟨fun i H => ∃ (xs : List V) (x : V), SqT K H a xs ∧ xs[i]? = some x, fun i H v H' => ∃ T x, v = .ref T ∧ H T = none ∧ H' = upd H T (.tup [.int (i : Nat), x]) ∧ ∀ xs, SqT K H a xs → xs[i]? = some x, fun i H => ∃ xs : List V, SqT K H a xs ∧ xs.length = i⟩
theorem turn_enumT {P : Program} {w : World} {K : PySem.W.Frag} {elts : List Expr} {kk : Nat} {tpos : Pos} (a e it : Addr) :
    L2.Turn P w K (.Tuple elts kk tpos) (IteT K a) [e, it] e (fun i h => (∃ old, IsEnum h e it ((i : Nat) : Int) old) ∧ h.IsTupleIter it a i ∧ e ≠ it ∧ a ≠ it ∧ a ≠ e) where
  mem := by simp
  obj := fun i h st b hb => by
    obtain ⟨⟨old, he⟩, ⟨o, ho, hc, hd⟩, _⟩ := st
    rcases (show b = e ∨ b = it by simpa using hb) with z | z
    · rw [z]; exact ⟨_, he, fun v q => nomatch q⟩
    · rw [z]; exact ⟨o, ho, fun v q => by rw [hd] at q; cases q⟩
  keep := fun i h h' st k => let ⟨⟨old, he⟩, hi, hne⟩ := st; ⟨⟨old, k e (by simp) _ he⟩, hi.at fun o q => k it (by simp) o q, hne⟩
  item := by
    intro X hP hw hK hc i pins s σ H E I hf st hg
    subst hP hw hK
    obtain ⟨⟨old, he⟩, hit, hne, hai, hae⟩ := st
    obtain ⟨xs, x, hq, hx⟩ := hg
    obtain ⟨its, rv, p, hz⟩ := I.tuple hq
    obtain ⟨u, hu, ru⟩ := rv.get hx
    have hel : e < s.heap.objs.size := Heap.lt_size he
    have hil : it < s.heap.objs.size := by obtain ⟨_, q, _⟩ := hit; exact Heap.lt_size q
    have hlt : i < its.toArray.size := by
      have := (List.getElem?_eq_some_iff.mp hu).1
      simpa using this
    refine wpAny_pyNext_enum_itemC (Draws.tuple (prog := X.prog) (w := X.w) (A := X.A.in1) (by simp [I.ok.hd hc]) it a hai its.toArray) he ⟨hit, p⟩ hlt hne (by simp [hne, Ne.symm hae]) fun x' h' tk px ho hit' hT hsz hk => ?_
    have ex : x' = u := by
      rw [show its.toArray[i]? = some u by simpa using hu] at px
      exact (Option.some.inj px).symm
    subst ex
    refine ⟨_, rfl, wpAny_letOwnedTupleGo_enum (s := { s with heap := h', toks := tk + 1 }) ho fun h'' he' sb => ?_⟩
    have hT2 : h''.get? s.heap.objs.size = some { cls := .type "tuple", data := .seq #[.int i tk, x'] } := (sb.2 _ (Nat.ne_of_gt hel)).trans hT
    have new : ObjOk X.prog X.w (upd H s.heap.objs.size (.tup [.int (i : Nat), x])) h'' s.heap.objs.size (.tup [.int (i : Nat), x]) :=
      ⟨by show 2 ≤ sizeLine; decide, [.int i tk, x'], .cons ⟨_, rfl⟩ (.cons ru .nil), ⟨_, hT2, rfl, _, rfl⟩⟩
    have I1 : Inv X pins σ (upd H s.heap.objs.size (.tup [.int (i : Nat), x])) { s with heap := h'', toks := tk + 1 } :=
      I.turnedNew (ch := [e, it]) (fun b ob hb q => (sb.2 b (fun z => hb (by simp [z]))).trans (hk b ob (fun z => hb (by simp [z])) (fun z => hb (by simp [z])) q)) hf (Nat.le_refl _) new
    refine ⟨.ref s.heap.objs.size, _, I1, rfl, ⟨_, x, rfl, I.hok.fresh (Nat.le_refl _), rfl, fun ys hy => by rw [I.tuple_inj hy hq]; exact hx⟩, ⟨⟨x', ?_⟩, hit'.1.at fun o q => (sb.2 it (Ne.symm hne)).trans q, hne, hai, hae⟩, fun b hb => ?_⟩
    · rw [show ((i + 1 : Nat) : Int) = (i : Int) + 1 by omega]; exact he'
    · have hb' : b < s.heap.objs.size := by
        rcases (show b = e ∨ b = it by simpa using hb) with z | z
        · rw [z]; exact hel
        · rw [z]; exact hil
      rw [upd_ne (Nat.ne_of_lt hb')]
      exact (hf b hb).1
  done := by
    intro X hP hw hK hc i pins s σ H E I hf st hg
    subst hP hw hK
    obtain ⟨⟨old, he⟩, hit, hne, hai, hae⟩ := st
    obtain ⟨xs, hq, hx⟩ := hg
    obtain ⟨its, rv, p, hz⟩ := I.tuple hq
    obtain ⟨f0, f1, f2, f3, f4, f5⟩ := hf it (by simp)
    have hl := rv.length
    have ei : its.toArray.size = i := by simp; omega
    have st' : s.heap.IsTupleIter it a its.toArray.size ∧ s.heap.IsTuple a its.toArray := by rw [ei]; exact ⟨hit, p⟩
    refine wpAny_pyNext_enum_endD (Draws.tuple (prog := X.prog) (w := X.w) (A := X.A.in1) (by simp [I.ok.hd hc]) it a hai its.toArray) he st' fun h' eb => ⟨rfl, I.turned (t' := s.toks) (fun b o hb q => eb b o hb q) f0 f1 f3 f4 f5⟩
  self := fun A i s Q E st h => let ⟨⟨_, he⟩, _⟩ := st; wpAny_pyIter_enum he h
def iEnumT (K : PySem.W.Frag) (ta : TA) : TI := fun σ H R => ta σ H fun vs H1 => ∃ a xs, vs = [.ref a] ∧ SqT K H1 a xs ∧ R (IteT K a) H1
theorem pi_enumT {X : Cx} {e : Expr} {ta : TA} {p pos tpos : Pos} {elts : List Expr} {kk : Nat} (hg : Gl X "enumerate") (hm : X.mg "enumerate" = none) (ha : PA X [e] ta) (hs : starEach [e] X.env = [(false, eval e X.env)] := by rfl) :
    PI X (.Tuple elts kk tpos) (.Call (.Name "enumerate" p) [e] [] pos) (iEnumT X.K ta) := by
  refine ⟨fun pins s σ H R I h => ?_⟩
  refine Call_ (ld_blt I hg hm boot_enumerate (PyProof.Rows.callWith_type1 (thn (ha.run pos pins s σ H _ I h) fun us s1 ⟨vs, H1, I1, r1, q1⟩ => ?_) hs rfl))
  obtain ⟨a, xs, ex, hq, q⟩ := q1
  subst ex
  cases r1 with
  | cons r rr =>
    cases rr
    cases r
    obtain ⟨its, rv, p', hz⟩ := I1.tuple hq
    have al : a < s1.heap.objs.size := p'.lt
    refine call_enumB (begins_tuple a its.toArray) p' fun h' he hit hk => wpAny_pyIter_enum he ?_
    have I2 : Inv X pins σ H1 { s1 with heap := h' } := I1.kept (t' := s1.toks) hk
    refine ⟨s1.heap.objs.size + 1, [s1.heap.objs.size + 1, s1.heap.objs.size], _, _, H1, rfl, I2, turn_enumT a (s1.heap.objs.size + 1) s1.heap.objs.size, ⟨⟨.none, he⟩, ⟨_, hit, rfl, rfl⟩, Nat.succ_ne_self _, Nat.ne_of_lt al, Nat.ne_of_lt (Nat.lt_succ_of_lt al)⟩, fun b hb => ?_, q⟩
    have hle : s1.heap.objs.size ≤ b := by
      rcases (show b = s1.heap.objs.size + 1 ∨ b = s1.heap.objs.size by simpa using hb) with z | z
      · rw [z]; exact Nat.le_add_right _ _
      · rw [z]; exact Nat.le_refl _
    exact I1.fpOk hle (I1.hok.fresh hle)
theorem walk_enumT {K : PySem.W.Frag} {a : Addr} {xs : List V} : Walk (IteT K a) xs.length (fun H => SqT K H a xs) (YPair (fun i => some (.int (i : Nat))) (fun i => xs[i]?)) := by
  refine ⟨fun i _ hi q => ⟨xs, xs[i], q, by simp [hi]⟩, fun _ q => ⟨xs, q, rfl⟩, fun i H v H' _ q y => ?_⟩
  obtain ⟨T, x, h1, h2, h3, h4⟩ := y
  exact ⟨T, .int (i : Nat), x, h1, h2, h3, rfl, h4 xs q⟩
end Mc
/-! Sets of texts: made by a comprehension or of a list, and sorted. -/
namespace Mc
open PySem PySem.Spec PyProof.Rows L2 PySem.Froz

/-- the set of the texts l at a -/
def SetHas (P : Program) (w : World) (h : Heap) (a : Addr) (l : List Str) : Prop :=
  ∃ D : SD, h.get? a = some (sObj "set" D) ∧ TxOk P w D l ∧ Ris D.2.2.place.toList ∧ (w.params.followText "set-order" = true ∨ D.2.2.led = true) ∧ l.Nodup ∧ l.length < 64
section
variable {P : Program} {w : World} {A : Around} {E : Value → Shared → Prop} {s : Shared} {a : Addr} {l : List Str} {h h' : Heap}
theorem SetHas.at (R : SetHas P w h a l) (k : ∀ o, h.get? a = some o → h'.get? a = some o) : SetHas P w h' a l := by
  obtain ⟨D, g, r⟩ := R
  exact ⟨D, k _ g, r⟩
theorem SetHas.lt (R : SetHas P w h a l) : a < h.objs.size := by
  obtain ⟨D, g, _⟩ := R
  exact Heap.lt_size g
abbrev newS (w : World) : Obj := { cls := .type "set", dict := none, data := .set #[] 0 (.fresh 0 0 (!w.params.followText "set-order")) }
theorem setHas_new (g : h.get? a = some (newS w)) : SetHas P w h a [] := by
  refine ⟨(#[], 0, .fresh 0 0 (!w.params.followText "set-order")), g, TxOk.nil (by rfl), List.Pairwise.nil, ?_, List.nodup_nil, by decide⟩
  show _ ∨ (!w.params.followText "set-order") = true
  cases w.params.followText "set-order"
  · exact .inr rfl
  · exact .inl rfl
theorem line64 : 64 < scanBound := by decide
/-- the table behind an add: it rises, it is led as before -/
theorem rises_add {D : SD} {k : Str} {u : Tok} (r : Ris D.2.2.place.toList) : Ris (addTx (hashStr w k) (.str k u) D).2.2.place.toList ∧ (addTx (hashStr w k) (.str k u) D).2.2.led = D.2.2.led := by
  obtain ⟨es, ep, t⟩ := D
  have r1 := layNew_ris t es (hashStr w k) (.str k u) r
  have l1 := layNew_led t es (hashStr w k) (.str k u)
  unfold addTx tailTx
  dsimp only
  generalize layNew t es (hashStr w k) (.str k u) = Z at r1 l1 ⊢
  obtain ⟨e1, t1, b, c⟩ := Z
  dsimp only at r1 l1 ⊢
  have key : ∀ t2 : SetTable, Ris t2.place.toList → t2.led = t.led → Ris (if (!b && t2.tooFull) = true then ((relayAll t2 e1 (SetTable.grown e1.size)).1, ep + 2, (relayAll t2 e1 (SetTable.grown e1.size)).2.1) else ((e1, ep + 1, t2) : SD)).2.2.place.toList ∧
      (if (!b && t2.tooFull) = true then ((relayAll t2 e1 (SetTable.grown e1.size)).1, ep + 2, (relayAll t2 e1 (SetTable.grown e1.size)).2.1) else ((e1, ep + 1, t2) : SD)).2.2.led = t.led := fun t2 r2 l2 => by
    split
    · exact ⟨relayAll_ris t2 e1 _, (relayAll_led t2 e1 _).trans l2⟩
    · exact ⟨r2, l2⟩
  split
  · exact key _ r1 l1
  · exact key _ r1 l1
/-- adding -/
theorem setHas_add {k : Str} {u : Tok} {Q : Bool → Shared → Prop} (R : SetHas P w s.heap a l) (room : l.length + 1 < 64)
    (hold : k ∈ l → Q false s) (hnew : ∀ g', Heap.SameBut a s.heap g' → k ∉ l → SetHas P w g' a (k :: l) → Q true { s with heap := g' }) : wpAny (model P w) A (setAddHashed a (.str k u) (hashStr w k)) Q E s := by
  obtain ⟨D, g, T, ri, le, nd, sz⟩ := R
  have lb := line64
  by_cases hk : k ∈ l
  · obtain ⟨es, ep, t⟩ := D
    have is := is_str (P := P) (w := w) k u
    have esz : es.size = l.length := T.sz
    unfold setAddHashed setAddHashedIn
    refine wpAny_holding (wpAny_bind (wpAny_setState_of g rfl T.fit ?_))
    dsimp only
    rw [byScan_of rfl (by show es.size < scanBound; omega) T.el]
    simp only [↓reduceIte]
    unfold setAddByScan
    refine wpAny_bind (wpAny_bind (wpAny_rule (wpAny_bind (wpAny_setScan_of (knd := strKind P w) (k := k) is g rfl T.fit T.el ?_))))
    cases c : List.findIdx? (fun e => (strKind P w).is k e.2) es.toList with
    | some j => exact wpAny_pure (wpAny_pure (hold hk))
    | none =>
      obtain ⟨e, he, z⟩ := (T.mem k).mp hk
      have := List.findIdx?_eq_none_iff.mp c e he
      rw [z] at this
      cases this
  · refine add_x g T hk (by omega) ?_
    have rl := rises_add (w := w) (k := k) (u := u) ri
    exact hnew _ (Heap.SameBut.update s.heap a _) hk ⟨_, get_upd _ g rfl, add_ok u T, rl.1, le.imp id fun z => rl.2.trans z, List.nodup_cons.mpr ⟨hk, nd⟩, by simpa using room⟩
/-- found.add(k) -/
theorem setHas_call {k : Str} {u : Tok} {Q : Value → Shared → Prop} (R : SetHas P w s.heap a l) (room : l.length + 1 < 64)
    (hold : k ∈ l → Q .none { s with toks := s.toks + 1 }) (hnew : ∀ g', Heap.SameBut a s.heap g' → k ∉ l → SetHas P w g' a (k :: l) → Q .none { s with heap := g', toks := s.toks + 1 }) :
    wpAny (model P w) A (call (.builtin "set.add") [.ref a, .str k u]) Q E s := by
  obtain ⟨D, g, _⟩ := id R
  have ty : s.TypeIs (.ref a) "set" := ⟨_, g, rfl⟩
  refine wpAny_call_entry F.slot_set_add ty F.entry_set_add ?_ (F.args_set_add_2 _ _)
  unfold Builtin.«set.add» Builtin.Frozenset.oneOther
  simp only [List.isEmpty_nil, bind_assoc]
  unfold Builtin.Frozenset.addrOf setAdd
  refine wpAny_bind (wpAny_pure ?_)
  try dsimp only
  refine wpAny_bind (wpAny_pure ?_)
  try dsimp only
  refine wpAny_bind (wpAny_holding (wpAny_bind ((strKind P w).pyHash (is_str k u) ?_)))
  refine setHas_add (s := { s with toks := s.toks + 1 }) R room (fun hk => ?_) fun g' sb hk R' => ?_
  · exact wpAny_pure ⟨_, rfl, hold hk⟩
  · exact wpAny_pure ⟨_, rfl, hnew g' sb hk R'⟩
theorem perm_of_sub {l : List Str} : ∀ {zs : List Str}, l.Nodup → (∀ k ∈ l, k ∈ zs) → zs.length = l.length → l.Perm zs := by
  induction l with
  | nil =>
    intro zs _ _ hl
    have : zs = [] := List.length_eq_zero_iff.mp hl
    rw [this]
  | cons x l ih =>
    intro zs nd sub hl
    obtain ⟨n1, n2⟩ := List.nodup_cons.mp nd
    have hx := sub x List.mem_cons_self
    have pe := List.perm_cons_erase hx
    have le := pe.length_eq
    refine List.Perm.trans (List.Perm.cons x (ih n2 (fun k hk => ?_) (by simp at le hl; omega))) pe.symm
    have ne : k ≠ x := fun z => n1 (z ▸ hk)
    rcases List.mem_cons.mp (pe.mem_iff.mp (sub k (List.mem_cons_of_mem _ hk))) with z | z
    · exact absurd z ne
    · exact z
/-- the members as values -/
theorem setHas_vals {D : SD} {ys : List Value} (T : TxOk P w D l) (nd : l.Nodup) (pm : ys.Perm (D.1.toList.map (·.2))) : ∃ zs : List Str, StrsAre ys zs ∧ zs.Perm l := by
  have key : ∀ v ∈ ys, ∃ (k : Str) (t : Tok), v = .str k t ∧ k ∈ l := fun v hv => by
    obtain ⟨e, he, q⟩ := List.mem_map.mp (pm.mem_iff.mp hv)
    obtain ⟨⟨k, hk, _⟩, _⟩ := T.el e he
    obtain ⟨t, ev⟩ := Value.isStrOf_shape (x := k) (v := e.2) hk
    exact ⟨k, t, q.symm.trans ev, (T.mem k).mpr ⟨e, he, hk⟩⟩
  have mk : ∀ ys : List Value, (∀ v ∈ ys, ∃ (k : Str) (t : Tok), v = .str k t ∧ k ∈ l) → ∃ zs : List Str, StrsAre ys zs ∧ (∀ z ∈ zs, z ∈ l) ∧ ∀ v ∈ ys, ∃ z ∈ zs, ∃ t, v = .str z t := by
    intro ys
    induction ys with
    | nil => exact fun _ => ⟨[], .nil, (fun z hz => by cases hz), (fun v hv => by cases hv)⟩
    | cons v ys ih =>
      intro h
      obtain ⟨k, t, rfl, hk⟩ := h v List.mem_cons_self
      obtain ⟨zs, h1, h2, h3⟩ := ih fun v hv => h v (List.mem_cons_of_mem _ hv)
      refine ⟨k :: zs, .cons _ _ h1, fun z hz => ?_, fun v hv => ?_⟩
      · rcases List.mem_cons.mp hz with e | e
        · rw [e]; exact hk
        · exact h2 z e
      · rcases List.mem_cons.mp hv with e | e
        · exact ⟨k, List.mem_cons_self, t, e⟩
        · obtain ⟨z, hz, q⟩ := h3 v e
          exact ⟨z, List.mem_cons_of_mem _ hz, q⟩
  obtain ⟨zs, h1, h2, h3⟩ := mk ys key
  have len : zs.length = l.length := by
    rw [← h1.length, pm.length_eq, List.length_map, Array.length_toList]; exact T.sz
  have sub : ∀ k ∈ l, k ∈ zs := fun k hk => by
    obtain ⟨e, he, q⟩ := (T.mem k).mp hk
    obtain ⟨t, ev⟩ := Value.isStrOf_shape (x := k) (v := e.2) q
    obtain ⟨z, hz, t', e'⟩ := h3 e.2 (pm.mem_iff.mpr (List.mem_map.mpr ⟨e, he, rfl⟩))
    rw [ev] at e'
    cases e'
    exact hz
  exact ⟨zs, h1, (perm_of_sub nd sub len).symm⟩
/-- sorted(found) -/
theorem setHas_sorted {Q : Value → Shared → Prop} (R : SetHas P w s.heap a l) (hh : A.handled = none)
    (hQ : ∀ s' p (out : Array Value) (c : Nat) (ys : List Str), (∀ b o, s.heap.get? b = some o → s'.heap.get? b = some o) → s'.gens = s.gens → s'.os = s.os → s.heap.objs.size ≤ p →
      s'.heap.get? p = some (seqObj "list" out c) → StrsAre out.toList ys → ys.Perm l → sortedS ys = true → Q (.ref p) s') :
    wpAny (model P w) A (call (.builtin "sorted") [.ref a]) Q E s := by
  obtain ⟨D, g, T, ri, le, nd, sz⟩ := R
  have lb := line64
  refine Calls.call_function_entry kind_sorted plain_sorted entry_sorted (args_sorted1 _) ?_
  unfold Builtin.«sorted»
  refine wpAny_bind (m := checkCount "sorted" 1 1 _) (wpAny_pure (wpAny_bind ?_))
  have esz : D.1.size = l.length := T.sz
  refine collect_set (A := A.in1) hh ⟨_, g, rfl, rfl⟩ T.fit (by omega) ri le fun s1 vs k1 hz g1 o1 pm => ?_
  obtain ⟨zs, hv, hp⟩ := setHas_vals T nd pm
  have vl : vs.length = l.length := by rw [hv.length, hp.length_eq]
  refine wpAny_bind (wpAny_newList ?_ (by rw [vl, sizeLine_eq]; omega))
  have hL : (s1.heap.push (seqObj "list" vs.toArray 0)).get? s1.heap.objs.size = some (seqObj "list" vs.toArray 0) := Heap.get?_push_size _ rfl
  refine wpAny_bind (wpAny_holding (wpAny_call_entry slot_list_sort ⟨_, hL, rfl⟩ entry_list_sort
    (list_sort_treeK strKind_oneLt hL hv.keysOf (fun v1 v2 rest e => keyKind_strs (by rw [← e]; exact hv)) (by rw [vl]; exact sz) fun st hp' hs => ?_) (args_list_sort _)))
  obtain ⟨ys, q1, q2, q3⟩ := sorted_out_str hv hp' hs
  obtain ⟨c, hc⟩ := sortedHeap_at (vs := vs) (out := (arrOf st).map (·.2)) hL
  refine ⟨.none, rfl, wpAny_pure ⟨_, rfl, hQ _ s1.heap.objs.size _ c ys (fun b u e => ?_) g1 o1 hz hc q1 (q2.trans hp) q3⟩⟩
  have q := k1 b u e
  have lt := Heap.lt_size q
  show (sortedHeap (s1.heap.push (seqObj "list" vs.toArray 0)) s1.heap.objs.size vs ((arrOf st).map (·.2))).get? b = some u
  rw [sortedHeap_old (Nat.ne_of_lt lt) (by rw [Heap.size_push]; exact Nat.lt_succ_of_lt lt)]
  exact Heap.get?_push_of_some _ q
end

/-! ### as a tracked thing -/
def SetO (P : Program) (w : World) (a : Addr) (l : List Str) : HO := .ext fun h => SetHas P w h a l
theorem setO_ok {w : World} {P : Program} {H : Hp} {h : Heap} {a : Addr} {l : List Str} (R : SetHas P w h a l) : ObjOk P w H h a (SetO P w a l) := by
  have ⟨_, g, _⟩ := R
  exact ⟨R, ⟨_, g⟩, fun h1 h2 p k => SetHas.at p k⟩
section
variable {X : Cx} {pins : List (Addr × Obj)} {σ : L2.St} {H : Hp} {s : Shared}
theorem setO_is {a : Addr} {l : List Str} (I : Inv X pins σ H s) (ha : H a = some (SetO X.prog X.w a l)) : SetHas X.prog X.w s.heap a l := (I.hok a _ ha).1
theorem setO_add {E : Value → Shared → Prop} {D : Addr} {l : List Str} {k : Str} {u : Tok} {Q : Value → Shared → Prop} (I : Inv X pins σ H s) (hD : H D = some (SetO X.prog X.w D l)) (room : l.length + 1 < 64)
    (h : ∀ s' l', (k ∈ l → l' = l) → (k ∉ l → l' = k :: l) → Inv X pins σ (upd H D (SetO X.prog X.w D l')) s' → Q .none s') : wpAny (model X.prog X.w) X.A (call (.builtin "set.add") [.ref D, .str k u]) Q E s := by
  have R := setO_is I hD
  refine setHas_call R room (fun hk => ?_) fun g' sb hk R' => ?_
  · refine h _ l (fun _ => rfl) (fun n => absurd hk n) ?_
    have e : upd H D (SetO X.prog X.w D l) = H := by
      funext b
      by_cases hb : b = D
      · rw [hb, upd_same, hD]
      · rw [upd_ne hb]
    rw [e]
    exact I.tok _
  · have he : ∃ u, g'.get? D = some u := by
      obtain ⟨_, g, _⟩ := R'
      exact ⟨_, g⟩
    exact h _ (k :: l) (fun z => absurd z hk) (fun _ => rfl) (I.write (e := D) (t' := s.toks + 1) (by rw [hD]; trivial) (.inl rfl) (fun b u hb hu => (sb.2 b hb).trans hu) he (setO_ok R'))
/-- sorted(set) -/
def rSortSet (P : Program) (w : World) : List V → Hp → VK → Prop := fun vs H Q => ∃ (a : Addr) (l : List Str), vs = [V.ref a] ∧ H a = some (SetO P w a l) ∧
  ∀ (ys : List Str) (p : Addr), ys.Perm l → sortedS ys = true → H p = none → Q (.ref p) (upd H p (.lst (ys.map V.str)))
theorem cr_sortSet (hc : X.calm = true) : CallR X (.builtin "sorted") (rSortSet X.prog X.w) := by
  intro pins s σ H vs us Q I r h
  obtain ⟨a, l, rfl, ha, q⟩ := h
  have R := setO_is I ha
  have sz : l.length < 64 := by
    obtain ⟨_, _, _, _, _, _, z⟩ := R
    exact z
  rw [Vals.ref1 r]
  refine setHas_sorted R (I.ok.hd hc) fun s' p out c ys k g o hp hg hi hm hs => ?_
  have hlen : (ys.map V.str).length ≤ sizeLine := by rw [List.length_map, hm.length_eq, sizeLine_eq]; omega
  have hn : H p = none := I.hok.fresh hp
  have J : Inv X pins σ (upd H p (.lst (ys.map V.str))) { s with heap := s'.heap, gens := s'.gens, drawn := s'.drawn, toks := s'.toks } :=
    I.call (ch := []) (Un.laid k hp hn) (I.hok.laid k hp ⟨hlen, out.toList, c, vals_of_strs hi, hg⟩) (by rw [g]; exact I.bare) (fun _ z => nomatch z)
  have e : s' = { s with heap := s'.heap, gens := s'.gens, drawn := s'.drawn, toks := s'.toks } := by
    cases s'; cases s; cases o; rfl
  rw [e]
  exact ⟨.ref p, _, J, rfl, q ys p hm hs hn⟩
end
end Mc
/-! {e for x in ..} of texts; set(list of texts). -/
namespace Mc
open PySem PySem.Spec PyProof.Rows L2 PySem.Froz
section
variable {X : Cx}
/-- {elt for target in iter if ..}, elt a text: D the new set, l its members so far -/
def tScT (P : Program) (w : World) (wi : TI) (g : TG) (tt : TT) (te : TE) (vs : List Nat) : TE := fun σ H Q => wi σ H fun J H1 => ∀ D, H1 D = none →
  ∃ W : Nat → Nat → Hp → Prop, (∃ m, W 0 m (upd H1 D (SetO P w D []))) ∧ ∀ i m H, W i m H →
    (J.stop i H ∧ Q (.ref D) H) ∨ (J.go i H ∧ ∃ Nx : Hp → Prop, (∀ H', Nx H' → ∃ m', m' < m ∧ W (i + 1) m' H') ∧ ∀ x H', J.yld i H x H' →
      g x (wipe σ vs) H' fun σ2 H2 => wipe σ2 vs = wipe σ vs ∧ tt σ2 H2 fun b H3 => if b = true then te σ2 H3 fun y H4 =>
        ∃ (k : Str) (l : List Str), y = .str k ∧ H4 D = some (SetO P w D l) ∧ l.length + 1 < 64 ∧ ∀ l' : List Str, (k ∈ l → l' = l) → (k ∉ l → l' = k :: l) → Nx (upd H4 D (SetO P w D l')) else Nx H3)
theorem pe_scT {elt tg iter : Expr} {ifs : List Expr} {scope : Scope} {own : List (PySem.Str × Nat)} {pos : Pos} {wi : TI} {g : TG} {tt : TT} {te : TE} (hc : X.calm = true) (hN : X.N.Nodup) (hi : PI X tg iter wi) (ok : BlkOk X.N X.env.scope scope own)
    (hg : ∀ (s : Shared) (H : Hp) (C : Addr) (cl : List (PySem.Str × Addr)) (fp : List Addr), PG (X.blk s H scope (compEnvC scope cl C X.env) fp) tg g) (ht : ∀ (s : Shared) (H : Hp) (C : Addr) (cl : List (PySem.Str × Addr)) (fp : List Addr), PTs (X.blk s H scope (compEnvC scope cl C X.env) fp) ifs tt)
    (he : ∀ (s : Shared) (H : Hp) (C : Addr) (cl : List (PySem.Str × Addr)) (fp : List Addr), PE (X.blk s H scope (compEnvC scope cl C X.env) fp) elt te) (hs : ∀ x, foldedSetIterable iter X.env x = pure x := by intro _; rfl) :
    PE X (.SetComp elt [⟨tg, iter, ifs, 0⟩] scope pos) (tScT X.prog X.w wi g tt te (own.map (·.2))) := by
  refine ⟨fun pins s σ H Q I h => ?_⟩
  rw [PpSet.eval_SetComp]
  have free : ∀ y ∈ scope.names, y.2 = .free → ∃ c, X.env.cells.lookup y.1 = some c := fun y hy e => by
    rcases ok.free y hy e with k | k
    · exact I.ok.has _ (.inl k)
    · exact I.ok.has _ (.inr k)
  -- what is walked
  refine wpAny_comprehension_free (use := none) rfl hs (closure_ok free) ok.kind (fun y hy e => by rw [ok.uniq y hy, e]) (thn (hi.run pins s σ H _ I h) fun xv s1 hx => thn hx fun itv s2 h2 => ?_)
  obtain ⟨it, fp, tn, J, H2, ei, I2, tr, st2, f2, q⟩ := h2
  subst ei
  -- the new set
  refine PpSet.newSet_ok (newEnv_comp ?_)
  obtain ⟨D, eD⟩ : ∃ D, s2.heap.objs.size = D := ⟨_, rfl⟩
  have nD : H2 D = none := I2.hok.fresh (Nat.le_of_eq eD)
  obtain ⟨W, ⟨m0, w0⟩, turn⟩ := q D nD
  obtain ⟨s3, es3⟩ : ∃ s3 : Shared, ({ s2 with heap := s2.heap.push (newS X.w) } : Shared) = s3 := ⟨_, rfl⟩
  have eh3 : s3.heap = s2.heap.push (newS X.w) := by rw [← es3]
  obtain ⟨H3, eH3⟩ : ∃ H3, upd H2 D (SetO X.prog X.w D []) = H3 := ⟨_, rfl⟩
  have I3 : Inv X pins σ H3 s3 := by
    rw [← es3, ← eH3]
    refine I2.laid (t' := s2.toks) (fun b o e => Heap.get?_push_of_some _ e) (Nat.le_of_eq eD) (setO_ok (setHas_new ?_))
    rw [← eD]
    exact Heap.get?_push_size _ rfl
  have below : ∀ b ∈ fp, b < s2.heap.objs.size := fun b hb => by
    obtain ⟨o, e, _⟩ := tr.obj _ _ st2 b hb
    exact Heap.lt_size e
  have f3 : ∀ b ∈ fp, FpOk X pins H3 b ∧ b < s3.heap.objs.size := fun b hb => by
    have lt := below b hb
    refine ⟨⟨?_, (f2 b hb).2⟩, by rw [eh3, Heap.size_push]; exact Nat.lt_succ_of_lt lt⟩
    rw [← eH3, upd_ne (by rw [← eD]; exact Nat.ne_of_lt lt)]
    exact (f2 b hb).1
  have st3 : tn 0 s3.heap := tr.keep _ _ _ st2 fun b _ o e => by rw [eh3]; exact Heap.get?_push_of_some _ e
  have I4 := block_start I3 ok hN f3
  have pg := hg s3 H3 s3.heap.objs.size (cellsFrom (s3.heap.objs.size + 1) scope.names (cloFrom X.env.cells scope.names [])) fp
  have pt := ht s3 H3 s3.heap.objs.size (cellsFrom (s3.heap.objs.size + 1) scope.names (cloFrom X.env.cells scope.names [])) fp
  have pe := he s3 H3 s3.heap.objs.size (cellsFrom (s3.heap.objs.size + 1) scope.names (cloFrom X.env.cells scope.names [])) fp
  rw [eD]
  rw [show ({ s2 with heap := s2.heap.push (newS X.w) } : Shared) = s3 from es3]
  have nfp : ∀ b ∈ fp, H3 b = none := fun b hb => (f3 b hb).1.1
  show codeAny _ _ (.compStart (.SetComp elt [⟨tg, iter, ifs, 0⟩] scope pos) 0 (.ref it) (.ref D) (compEnvC scope (cellsFrom (s3.heap.objs.size + 1) scope.names (cloFrom X.env.cells scope.names [])) s3.heap.objs.size X.env)) (compPost (model X.prog X.w) X.A X.xe none (EP X pins σ Q) (.ref D) s3.heap.objs.size)
    { s3 with heap := pushCells (s3.heap.push { cls := .type "dict", data := .dict #[] }) scope.names }
  generalize hce : compEnvC scope (cellsFrom (s3.heap.objs.size + 1) scope.names (cloFrom X.env.cells scope.names [])) s3.heap.objs.size X.env = ce at I4 pg pt pe ⊢
  have cL : ce.locals = s3.heap.objs.size := by subst hce; rfl
  rw [eH3] at w0
  generalize hs4 : ({ s3 with heap := pushCells (s3.heap.push { cls := .type "dict", data := .dict #[] }) scope.names } : Shared) = s4 at I4 ⊢
  have st4 : tn 0 s4.heap := tr.keep _ _ _ st3 fun b _ o e => by rw [← hs4]; exact pushCells_keeps _ _ _ _ (Heap.get?_push_of_some _ e)
  have stat : ∀ {σ' : L2.St} {H' : Hp} {s' : Shared}, Inv (X.blk s3 H3 scope ce fp) [] σ' H' s' → (∀ b ∈ fp, H' b = none) → ∀ b ∈ fp, FpOk (X.blk s3 H3 scope ce fp) [] H' b := fun {σ' H' s'} I' hn b hb =>
    ⟨hn b hb, (I'.ok.exf b hb).1, I'.ok.exfs b hb, .inl hb, fun x c e => (I'.ok.exf b hb).2 x c e, fun p hp => absurd (show p ∈ ([] : List (Addr × Obj)) ++ [] from hp) (by simp)⟩
  have loop : codeAny (model X.prog X.w) X.A (.compLoop (.SetComp elt [⟨tg, iter, ifs, 0⟩] scope pos) 0 (.ref it) (.ref D) ce) (compPost (model X.prog X.w) X.A X.xe none (EP X pins σ Q) (.ref D) s3.heap.objs.size) s4 := by
    refine PpSet.compLoopS_any (fun n s' => ∃ i H', Inv (X.blk s3 H3 scope ce fp) [] (wipe σ (own.map (·.2))) H' s' ∧ tn i s'.heap ∧ (∀ b ∈ fp, H' b = none) ∧ W i n H') ?_ m0 ⟨0, H3, I4, st4, nfp, w0⟩
    rintro n s5 ⟨i, H5, I5, st5, n5, w5⟩
    rcases turn i n H5 w5 with ⟨stop, qq⟩ | ⟨go, Nx, hNx, step⟩
    · refine thnF (tr.done (X.blk s3 H3 scope ce fp) rfl rfl rfl hc i [] s5 _ H5 (fun _ _ => False) I5 (stat I5 n5) st5 stop) fun r s6 ⟨hr, I6⟩ => ?_
      subst hr
      have I7 : Inv X pins σ H5 s6 := I3.call' (ch := fp) I6.os I6.base I6.hok I6.bare fun b hb => ⟨(f3 b hb).1.2.2.2.1, (f3 b hb).1.2.1, (f3 b hb).1.2.2.2.2.1, (f3 b hb).1.2.2.2.2.2⟩
      have nC : H5 s3.heap.objs.size = none := by
        have z : H5 ce.locals = none := I6.free
        rwa [cL] at z
      obtain ⟨m, hn, _⟩ := I6.loc
      have hn : s6.heap.Ns ce.locals m := hn
      rw [cL] at hn
      obtain ⟨f0, f1, _, f3', f4, f5⟩ := I3.fpOk (Nat.le_refl _) nC
      exact ⟨m, hn, fun h'' sb => ⟨.ref D, H5, I7.turned (t' := s6.toks) (fun b o hb e => (sb.2 b hb).trans e) f0 f1 f3' f4 f5, rfl, qq⟩⟩
    · refine thnF (tr.item (X.blk s3 H3 scope ce fp) rfl rfl rfl hc i [] s5 _ H5 (fun _ _ => False) I5 (stat I5 n5) st5 go) fun r s6 ⟨u, hr, h6⟩ => ?_
      subst hr
      refine thnF h6 fun _ s7 ⟨x, H7, I7, r7, y7, st7, n7⟩ => ?_
      have I7' := I7.pinned (stat I7 n7) (tr.obj _ _ st7)
      refine thnF (pg.run _ s7 _ H7 x u _ I7' r7 (step x H7 y7)) fun _ s8 ⟨σ8, H8, I8, hw8, q8⟩ => ?_
      refine thnF (pt.run _ s8 σ8 H8 _ I8 q8) fun b s9 ⟨H9, I9, q9⟩ => ?_
      have fin : ∀ {s' : Shared} {H' : Hp}, Inv (X.blk s3 H3 scope ce fp) ([] ++ pinsAt fp s7.heap) σ8 H' s' → Nx H' → ∃ m, m < n ∧ ∃ i H', Inv (X.blk s3 H3 scope ce fp) [] (wipe σ (own.map (·.2))) H' s' ∧ tn i s'.heap ∧ (∀ b ∈ fp, H' b = none) ∧ W i m H' := fun {s' H'} I' nx => by
        obtain ⟨m', hm, w'⟩ := hNx H' nx
        have still : ∀ b ∈ fp, ∀ o, s7.heap.get? b = some o → s'.heap.get? b = some o ∧ H' b = none := fun b hb o e =>
          let z := I'.pin (b, o) (List.mem_append_right _ (List.mem_append_right _ (mem_pinsAt hb e)))
          ⟨z.1, z.2.1⟩
        have hl : (wipe σ (own.map (·.2))).length = σ8.length := by rw [← hw8, wipe_length]
        refine ⟨m', hm, i + 1, H', (I'.unpinned (pins := [])).weak hl (fun j v e => ?_), tr.keep _ _ _ st7 fun b hb o e => (still b hb o e).1, fun b hb => ?_, w'⟩
        · rw [← hw8] at e
          exact (wipe_some e).1
        · obtain ⟨o, e, _⟩ := tr.obj _ _ st7 b hb
          exact (still b hb o e).2
      cases b with
      | false =>
        simp only [Bool.false_eq_true, if_false] at q9 ⊢
        exact fin I9 q9
      | true =>
        simp only [if_true] at q9 ⊢
        refine thnF (pe.run _ s9 σ8 H9 _ I9 q9) fun z s10 ⟨yv, H10, I10, r10, k, l, ey, hD10, hz10, nx⟩ => ?_
        subst ey
        obtain ⟨tk, ez⟩ := (show ∃ t, z = Value.str k t from r10)
        subst ez
        exact setO_add (X := X.blk s3 H3 scope ce fp) I10 hD10 hz10 fun s11 l' a1 a2 I11 => fin I11 (nx l' a1 a2)
  exact PpSet.codeAny_compStart_set loop (tr.self X.A 0 _ _ _ st4 loop)
/-- over anything that is walked: f the texts in turn -/
theorem sc_map {J : It} {n : Nat} {Gp : Hp → Prop} {Y : Nat → Hp → V → Hp → Prop} {P : Program} {w : World} (wk : Walk J n Gp Y) {g : TG} {te : TE} {vs : List Nat} {σ : L2.St} {H1 : Hp} {D : Addr} {Qd : Hp → Prop} (f : Nat → Str) (hn : n < 60) (hD : H1 D = none) (hG : ∀ H, Same H1 H → Gp H)
    (hs : ∀ i x H H' (Qy : V → Hp → Prop), i < n → Same H1 H → Y i H x H' → (∀ H4, Same H H4 → Qy (.str (f i)) H4) → g x (wipe σ vs) H' fun σ2 H2 => wipe σ2 vs = wipe σ vs ∧ te σ2 H2 Qy)
    (hd : ∀ H l, Same H1 H → H D = some (SetO P w D l) → (∀ k, k ∈ l ↔ ∃ i, i < n ∧ f i = k) → l.Nodup → Qd H) :
    ∃ W : Nat → Nat → Hp → Prop, (∃ m, W 0 m (upd H1 D (SetO P w D []))) ∧ ∀ i m H, W i m H →
      (J.stop i H ∧ Qd H) ∨ (J.go i H ∧ ∃ Nx : Hp → Prop, (∀ H', Nx H' → ∃ m', m' < m ∧ W (i + 1) m' H') ∧ ∀ x H', J.yld i H x H' →
        g x (wipe σ vs) H' fun σ2 H2 => wipe σ2 vs = wipe σ vs ∧ tYes σ2 H2 fun b H3 => if b = true then te σ2 H3 fun y H4 =>
          ∃ (k : Str) (l : List Str), y = .str k ∧ H4 D = some (SetO P w D l) ∧ l.length + 1 < 64 ∧ ∀ l' : List Str, (k ∈ l → l' = l) → (k ∉ l → l' = k :: l) → Nx (upd H4 D (SetO P w D l')) else Nx H3) := by
  refine ⟨fun i m H => m = n - i ∧ i ≤ n ∧ Same H1 H ∧ ∃ l : List Str, H D = some (SetO P w D l) ∧ l.length ≤ i ∧ l.Nodup ∧ ∀ k, k ∈ l ↔ ∃ j, j < i ∧ f j = k, ⟨n, by simp, Nat.zero_le _, same_upd hD, [], upd_same, Nat.le_refl _, List.nodup_nil, fun k => ⟨(by intro h; cases h), fun ⟨j, hj, _⟩ => by omega⟩⟩, ?_⟩
  rintro i m H ⟨rfl, hi, s1, l, eD, hl, nd, hm⟩
  by_cases lt : i < n
  · refine .inr ⟨wk.goes i H lt (hG H s1), fun H' => Same H1 H' ∧ ∃ l : List Str, H' D = some (SetO P w D l) ∧ l.length ≤ i + 1 ∧ l.Nodup ∧ ∀ k, k ∈ l ↔ ∃ j, j < i + 1 ∧ f j = k, fun H' p => ⟨n - (i + 1), by omega, rfl, lt, p⟩, fun x H' y => ?_⟩
    have h := hs i x H H' (fun y H4 => ∃ (k : Str) (l : List Str), y = .str k ∧ H4 D = some (SetO P w D l) ∧ l.length + 1 < 64 ∧ ∀ l' : List Str, (k ∈ l → l' = l) → (k ∉ l → l' = k :: l) →
      (Same H1 (upd H4 D (SetO P w D l')) ∧ ∃ l2 : List Str, (upd H4 D (SetO P w D l')) D = some (SetO P w D l2) ∧ l2.length ≤ i + 1 ∧ l2.Nodup ∧ ∀ k, k ∈ l2 ↔ ∃ j, j < i + 1 ∧ f j = k)) lt s1 (wk.yields i H x H' lt (hG H s1) y) fun H4 s4 => ?_
    · simp only [tYes, if_true]
      exact h
    · refine ⟨f i, l, rfl, s4 _ _ eD, by omega, fun l' a1 a2 => ⟨fun b o e => ?_, l', upd_same, ?_⟩⟩
      · rw [upd_ne (ne_of_none e hD)]; exact s4 _ _ (s1 _ _ e)
      · by_cases hk : f i ∈ l
        · rw [a1 hk]
          refine ⟨by omega, nd, fun k => (hm k).trans ⟨fun ⟨j, hj, e⟩ => ⟨j, by omega, e⟩, fun ⟨j, hj, e⟩ => ?_⟩⟩
          by_cases q : j = i
          · subst q; rw [e] at hk; exact (hm k).mp hk
          · exact ⟨j, by omega, e⟩
        · rw [a2 hk]
          refine ⟨by simp; omega, List.nodup_cons.mpr ⟨hk, nd⟩, fun k => ?_⟩
          rw [List.mem_cons, hm k]
          constructor
          · rintro (e | ⟨j, hj, e⟩)
            · exact ⟨i, by omega, e.symm⟩
            · exact ⟨j, by omega, e⟩
          · rintro ⟨j, hj, e⟩
            by_cases q : j = i
            · subst q; exact .inl e.symm
            · exact .inr ⟨j, by omega, e⟩
  · have e : i = n := by omega
    subst e
    exact .inl ⟨wk.stops H (hG H s1), hd H l s1 eD hm nd⟩
end
end Mc
/-! The walk, 1: words and kinds. -/
namespace Mc
open PySem PySem.Spec PyProof.Rows L2
abbrev N_is_integer : List Str := ["value"]
abbrev P_is_integer : List Str := ["value"]
theorem sc_is_integer : FnScope N_is_integer P_is_integer (defScope s_is_integer) := ⟨rfl, rfl, rfl, by decide +kernel, rfl, by decide +kernel, by decide +kernel⟩

abbrev N_is_sequence : List Str := ["value"]
abbrev P_is_sequence : List Str := ["value"]
theorem sc_is_sequence : FnScope N_is_sequence P_is_sequence (defScope s_is_sequence) := ⟨rfl, rfl, rfl, by decide +kernel, rfl, by decide +kernel, by decide +kernel⟩

abbrev N_is_name : List Str := ["value", "letter"]
abbrev P_is_name : List Str := ["value"]
theorem sc_is_name : FnScope N_is_name P_is_name (defScope s_is_name) := ⟨rfl, rfl, rfl, by decide +kernel, rfl, by decide +kernel, by decide +kernel⟩

abbrev N_ascending : List Str := ["names", "name"]
abbrev P_ascending : List Str := ["names"]
theorem sc_ascending : FnScope N_ascending P_ascending (defScope s_ascending) := ⟨rfl, rfl, rfl, by decide +kernel, rfl, by decide +kernel, by decide +kernel⟩

section
variable {G : Gd} (B : Bl G.mg)
include B
def spIsInt : Sp := fun vs H Q _ => ∃ i, vs = [.int i] ∧ Q (.bl true) H
theorem ok_is_integer (F : Df G "is_integer" "is_integer" s_is_integer) : Cal G 1 "is_integer" P_is_integer spIsInt := by
  refine F.cal (N := N_is_integer) sc_is_integer (fun _ _ _ _ _ _ us hl => match us, hl with | [_], _ => rfl) (fun vs H Q E h => by obtain ⟨_, rfl, _⟩ := h; rfl) fun f cdv A outer s H vs Q E hr h => ?_
  obtain ⟨i, rfl, k⟩ := h
  have S := sc_is_integer
  refine ⟨_, (pss_one (ps_ret (pe_and (pe_callB call_isi rfl B.isinstance (by decide +kernel) (pa_cons (pv 0) (pa_cons (pe_bltn (v := .ty "int") rfl B.int (by decide +kernel) rfl) pa_nil))) (pe_one (pe_not (pe_callB call_isi rfl B.isinstance (by decide +kernel) (pa_cons (pv 0) (pa_cons (pe_bltn (v := .ty "bool") rfl B.bool (by decide +kernel) rfl) pa_nil)))))))), ?_⟩
  refine ⟨_, rfl, _, _, _, _, true, rfl, .ty "int", .base (.int i), kit_ty (by decide +kernel), true, rfl, iteT ?_⟩
  exact ⟨_, rfl, _, _, _, _, false, rfl, .ty "bool", .base (.int i), kit_ty (by decide +kernel), false, rfl, k⟩
/-- a list or a tuple -/
def spIsSeq (K : PySem.W.Frag) : Sp := fun vs H Q _ => ∃ a xs, vs = [.ref a] ∧ ((H a = some (.lst xs)) ∨ (H a = some (.tup xs))) ∧ ∀ H', Same H H' → Q (.bl true) H'
theorem ok_is_sequence (F : Df G "is_sequence" "is_sequence" s_is_sequence) : Cal G 1 "is_sequence" P_is_sequence (spIsSeq G.K) := by
  refine F.cal (N := N_is_sequence) sc_is_sequence (fun _ _ _ _ _ _ us hl => match us, hl with | [_], _ => rfl) (fun vs H Q E h => by obtain ⟨_, _, rfl, _⟩ := h; rfl) fun f cdv A outer s H vs Q E hr h => ?_
  obtain ⟨a, xs, rfl, ha, k⟩ := h
  have S := sc_is_sequence
  refine ⟨_, (pss_one (ps_ret (pe_callB call_isiT rfl B.isinstance (by decide +kernel) (pa_cons (pv 0) (pa_cons (pe_tup (pa_cons (pe_bltn (v := .ty "list") rfl B.list (by decide +kernel) rfl) (pa_cons (pe_bltn (v := .ty "tuple") rfl B.tuple (by decide +kernel) rfl) pa_nil))) pa_nil))))), ?_⟩
  refine ⟨_, rfl, by show 2 ≤ sizeLine; decide, fun p hp => ?_⟩
  rcases ha with ha | ha
  · exact ⟨_, p, _, .type "list", _, true, rfl, upd_same, .cons (.ty "list") (.cons (.ty "tuple") .nil), .base (.lst (by rw [upd_ne (ne_of_none ha hp)]; exact ha)), kitAny_cons (b := true) (kit_ty (by decide +kernel)) (fun z => by cases z) (fun _ => rfl), k _ (same_upd hp)⟩
  · exact ⟨_, p, _, .type "tuple", _, true, rfl, upd_same, .cons (.ty "list") (.cons (.ty "tuple") .nil), .base (.tup (by rw [upd_ne (ne_of_none ha hp)]; exact ha)), kitAny_cons (b := false) (kit_ty (by decide +kernel)) (fun _ => kitAny_cons (b := true) (r := true) (kit_ty (by decide +kernel)) (fun z => by cases z) fun _ => rfl) (fun z => by cases z), k _ (same_upd hp)⟩
/-- a name -/
def Nm (z : Str) : Prop := 1 ≤ z.length ∧ z.length ≤ 4 ∧ z ∉ barred ∧ ∀ c ∈ z.cps.toList, c ∈ letters.cps.toList
omit B in
theorem inV_str {z : Str} {zs : List Str} : inV (.str z) (zs.map V.str) = decide (z ∈ zs) := by
  unfold inV
  rw [List.any_map]
  induction zs with
  | nil => rfl
  | cons y ys ih =>
    rw [List.any_cons, ih]
    show (y == z || decide (z ∈ ys)) = _
    by_cases e : z = y
    · subst e; simp
    · have : (y == z) = false := beq_eq_false_iff_ne.mpr (Ne.symm e)
      simp [this, e]
def spIsName : Sp := fun vs H Q _ => ∃ z, vs = [.str z] ∧ Nm z ∧ ∀ H', Same H H' → Q (.bl true) H'
theorem ok_is_name (T : Ct G) (F : Df G "is_name" "is_name" s_is_name) : Cal G 1 "is_name" P_is_name spIsName := by
  refine F.cal (N := N_is_name) sc_is_name (fun _ _ _ _ _ _ us hl => match us, hl with | [_], _ => rfl) (fun vs H Q E h => by obtain ⟨_, rfl, _⟩ := h; rfl) fun f cdv A outer s H vs Q E hr h => ?_
  obtain ⟨z, rfl, ⟨n1, n2, n3, n4⟩, k⟩ := h
  obtain ⟨tL, g_LETTERS⟩ := T.LETTERS
  obtain ⟨tM, g_MOST_LETTERS⟩ := T.MOST_LETTERS
  obtain ⟨a_BARRED, g_BARRED, hB⟩ := T.BARRED
  have S := sc_is_name
  have line : z.length ≤ sizeLine := Nat.le_trans n2 (by decide)
  refine ⟨_, (pss_cons (ps_if (PW.pt (pw_or (pt_not (pt_val (pe_callB call_isi rfl B.isinstance (by decide +kernel) (pa_cons (pv 0) (pa_cons (pe_bltn (v := .ty "str") rfl B.str (by decide +kernel) rfl) pa_nil))))) (pw_or (pt_not (pt_chain op_le op_le pe_int (pe_callB call_len_str rfl B.len (by decide +kernel) (pa_cons (pv 0) pa_nil)) (pe_glob (v := .int 4) rfl g_MOST_LETTERS ⟨_, rfl⟩))) (pw_or1 (pt_cmpR op_in_seq (pv 0) (pe_glob (v := .ref a_BARRED) rfl g_BARRED rfl) rfl))))) (pss_one (ps_ret pe_bl)) pss_nil)
    (pss_one (ps_ret (pe_callB (cr_all rfl) rfl B.all (by decide +kernel) (pa_cons (pe_lc (own := [("letter", 1)]) rfl S.nd (pi_str (pv 0)) (blkOk_by (own := [("letter", 1)]) (N := N_is_name) (sc := defScope s_is_name) (by decide +kernel)) (fun _ _ _ _ _ => (pg_name (i := 1) S.nd rfl (by first | exact Or.inl rfl | exact Or.inr rfl))) (fun _ _ _ _ _ => pts_nil) (fun _ _ _ _ _ => (pe_cmpR op_in_sign (pv 1) (pe_glob (v := .str letters) rfl g_LETTERS ⟨_, rfl⟩) rfl))) pa_nil))))), ?_⟩
  refine ⟨_, rfl, _, _, _, _, true, rfl, .ty "str", .base (.str z), kit_ty (by decide +kernel), true, rfl, iteF ?_⟩
  refine ⟨_, rfl, _, rfl, line, _, _, rfl, rfl, _, rfl, ?_⟩
  refine ite2 (fun _ => ?_) (fun c => absurd (decide_eq_true (show (1 : Int) ≤ (z.length : Int) by omega)) c)
  refine ⟨_, _, rfl, rfl, _, rfl, ?_⟩
  rw [show decide ((z.length : Int) ≤ 4) = true from decide_eq_true (by omega)]
  refine iteF ?_
  refine ⟨_, rfl, _, _, rfl, .inr (hB _), rfl, flat_str barred, _, rfl, ?_⟩
  rw [show (if false = true then !inV (V.str z) (barred.map V.str) else inV (V.str z) (barred.map V.str)) = false by
    rw [if_neg (by decide), inV_str]; exact decide_eq_false n3]
  refine iteF ?_
  refine ⟨_, rfl, z, rfl, fun D hD => ?_⟩
  have sz : z.cps.size < sizeLine := Nat.lt_of_le_of_lt n2 (by decide)
  refine lc_map (walk_str (z := z)) (fun _ y _ => y = .bl true) sz hD (fun _ _ => trivial) (fun _ _ _ _ _ _ _ h => h) ?_ ?_
  · rintro i x H1 H2 Qy hi s1 nd ⟨rfl, c, hc, rfl⟩ cont
    refine ⟨rfl, _, rfl, c, letters, rfl, rfl, cont _ _ (Same.refl _) (congrArg V.bl (decide_eq_true (n4 c ?_)))⟩
    exact List.mem_of_getElem? (by rw [Array.getElem?_toList]; exact hc)
  · intro H1 acc s1 hD1 hp
    have ea : acc = (List.range z.cps.size).map (fun _ => V.bl true) := paired_map_eq hp
    refine ⟨_, (List.range z.cps.size).map (fun _ => true), rfl, SqL.of (by rw [hD1, ea, List.map_map]; rfl), ?_⟩
    rw [show ((List.range z.cps.size).map fun _ => true).all id = true by simp]
    exact k _ s1
/-- ascending, each once -/
def Asc (zs ys : List Str) : Prop := sortedS ys = true ∧ ys.Nodup ∧ ∀ k, k ∈ ys ↔ k ∈ zs
def spAsc (K : PySem.W.Frag) : Sp := fun vs H Q _ => ∃ (a : Addr) (zs : List Str), vs = [.ref a] ∧ (SqL K H a (zs.map V.str) ∨ SqT K H a (zs.map V.str)) ∧ zs.length < 60 ∧
  ∀ p ys H', Same H H' → Asc zs ys → H' p = some (.tup (ys.map V.str)) → Q (.ref p) H'
theorem ok_ascending {y : Str} (F : Df G y "ascending" s_ascending) : Cal G 1 y P_ascending (spAsc G.K) := by
  refine F.cal (N := N_ascending) sc_ascending (fun _ _ _ _ _ _ us hl => match us, hl with | [_], _ => rfl) (fun vs H Q E h => by obtain ⟨_, _, rfl, _⟩ := h; rfl) fun f cdv A outer s H vs Q E hr h => ?_
  obtain ⟨a, zs, rfl, ha, few, k⟩ := h
  have S := sc_ascending
  have out : ∀ D H1 l, Same H H1 → H1 D = some (SetO G.P G.w D l) → (∀ k, k ∈ l ↔ ∃ i, i < (zs.map V.str).length ∧ zs.getD i Str.empty = k) → l.Nodup →
      ∃ (a : Addr) (l : List Str), [V.ref D] = [V.ref a] ∧ H1 a = some (SetO G.P G.w a l) ∧ ∀ (ys : List Str) (p : Addr), ys.Perm l → sortedS ys = true → H1 p = none →
        ∃ q ws, [V.ref p] = [V.ref q] ∧ ((SqL G.K (upd H1 p (.lst (ys.map V.str))) q ws ∧ ∀ l, (upd H1 p (.lst (ys.map V.str))) l = none → Q (.ref l) (upd (upd H1 p (.lst (ys.map V.str))) l (.tup ws))) ∨ (SqT G.K (upd H1 p (.lst (ys.map V.str))) q ws ∧ Q (.ref q) (upd H1 p (.lst (ys.map V.str))))) := by
    intro D H1 l s1 hD hl nd
    refine ⟨D, l, rfl, hD, fun ys p pm so hp => ⟨p, _, rfl, .inl ⟨SqL.of upd_same, fun t ht => ?_⟩⟩⟩
    refine k t ys _ ((s1.upd hp).upd ht) ⟨so, pm.nodup_iff.mpr nd, fun x => ?_⟩ upd_same
    rw [pm.mem_iff, hl x]
    constructor
    · rintro ⟨i, hi, e⟩
      rw [List.length_map] at hi
      rw [← e, List.getD_eq_getElem?_getD, List.getElem?_eq_getElem hi]
      exact List.getElem_mem hi
    · intro hx
      obtain ⟨i, hi, e⟩ := List.mem_iff_getElem.mp hx
      exact ⟨i, by rw [List.length_map]; exact hi, by rw [List.getD_eq_getElem?_getD, List.getElem?_eq_getElem hi]; exact e⟩
  have step : ∀ (i : Nat) (x : V), (zs.map V.str)[i]? = some x → x = .str (zs.getD i Str.empty) := fun i x hx => by
    obtain ⟨z, hz, e⟩ := strs_get hx
    rw [e, List.getD_eq_getElem?_getD, hz]; rfl
  rcases ha with ha | ha
  · refine ⟨_, (pss_one (ps_ret (pe_callTy call_tuple_of rfl B.tuple (by decide +kernel) (pa_cons (pe_callB (cr_sortSet rfl) rfl B.sorted (by decide +kernel) (pa_cons (pe_scT (own := [("name", 1)]) rfl S.nd (pi_list (pv 0)) (blkOk_by (own := [("name", 1)]) (N := N_ascending) (sc := defScope s_ascending) (by decide +kernel)) (fun _ _ _ _ _ => (pg_name (i := 1) S.nd rfl (by first | exact Or.inl rfl | exact Or.inr rfl))) (fun _ _ _ _ _ => pts_nil) (fun _ _ _ _ _ => (pe_callTy SkE.call_str_str rfl B.str (by decide +kernel) (pa_cons (pv 1) pa_nil)))) pa_nil)) pa_nil)))), ?_⟩
    refine ⟨_, rfl, a, rfl, ⟨_, ha⟩, fun D hD => ?_⟩
    refine sc_map walk_list (fun i => zs.getD i Str.empty) (by rw [List.length_map]; exact few) hD (fun H1 s1 => s1.seq ha) ?_ fun H1 l s1 e hl nd => out D H1 l s1 e hl nd
    rintro i x H1 H2 Qy hi s1 ⟨rfl, hx⟩ cont
    exact ⟨rfl, _, rfl, _, congrArg (fun z => [z]) (step i x hx), cont _ (Same.refl _)⟩
  · refine ⟨_, (pss_one (ps_ret (pe_callTy call_tuple_of rfl B.tuple (by decide +kernel) (pa_cons (pe_callB (cr_sortSet rfl) rfl B.sorted (by decide +kernel) (pa_cons (pe_scT (own := [("name", 1)]) rfl S.nd (pi_tup (pv 0)) (blkOk_by (own := [("name", 1)]) (N := N_ascending) (sc := defScope s_ascending) (by decide +kernel)) (fun _ _ _ _ _ => (pg_name (i := 1) S.nd rfl (by first | exact Or.inl rfl | exact Or.inr rfl))) (fun _ _ _ _ _ => pts_nil) (fun _ _ _ _ _ => (pe_callTy SkE.call_str_str rfl B.str (by decide +kernel) (pa_cons (pv 1) pa_nil)))) pa_nil)) pa_nil)))), ?_⟩
    refine ⟨_, rfl, a, rfl, ⟨_, ha⟩, fun D hD => ?_⟩
    refine sc_map walk_tup (fun i => zs.getD i Str.empty) (by rw [List.length_map]; exact few) hD (fun H1 s1 => s1.tup ha) ?_ fun H1 l s1 e hl nd => out D H1 l s1 e hl nd
    rintro i x H1 H2 Qy hi s1 ⟨rfl, hx⟩ cont
    exact ⟨rfl, _, rfl, _, congrArg (fun z => [z]) (step i x hx), cont _ (Same.refl _)⟩
end
end Mc
/-! Mathematics 1: determinants of integer vectors by the exterior algebra; Cramer's rule; the exchange rule of a pivot. Core Lean alone. -/
namespace Mc
/-- a form: its coordinate at each word of n truth values (which of the n units are in) -/
abbrev Fm := List Bool → Int
abbrev Vc := Nat → Int

/-- the sum of f below n -/
def sm : Nat → (Nat → Int) → Int
  | 0, _ => 0
  | n + 1, f => sm n f + f n
theorem sm_congr {n : Nat} {f g : Nat → Int} (h : ∀ i, i < n → f i = g i) : sm n f = sm n g := by
  induction n with
  | zero => rfl
  | succ n ih => rw [sm, sm, ih fun i hi => h i (by omega), h n (by omega)]
theorem sm_lin {n : Nat} (a b : Int) (f g : Nat → Int) : sm n (fun i => a * f i + b * g i) = a * sm n f + b * sm n g := by
  induction n with
  | zero => simp [sm]
  | succ n ih => rw [sm, sm, sm, ih]; grind
theorem sm_add {n : Nat} (f g : Nat → Int) : sm n (fun i => f i + g i) = sm n f + sm n g := by
  have := sm_lin (n := n) 1 1 f g
  simpa using this
theorem sm_mul {n : Nat} (a : Int) (f : Nat → Int) : sm n (fun i => a * f i) = a * sm n f := by
  have := sm_lin (n := n) a 0 f f
  simpa using this
theorem sm_neg {n : Nat} (f : Nat → Int) : sm n (fun i => - f i) = - sm n f := by
  have := sm_mul (n := n) (-1) f
  simpa using this
theorem sm_zero {n : Nat} {f : Nat → Int} (h : ∀ i, i < n → f i = 0) : sm n f = 0 := by
  induction n with
  | zero => rfl
  | succ n ih => rw [sm, ih fun i hi => h i (by omega), h n (by omega)]; rfl
theorem sm_front (n : Nat) (f : Nat → Int) : sm (n + 1) f = f 0 + sm n (fun i => f (i + 1)) := by
  induction n with
  | zero => simp [sm]
  | succ n ih => rw [sm, ih, sm]; grind
theorem sm_one {n k : Nat} (hk : k < n) {f : Nat → Int} (h : ∀ i, i < n → i ≠ k → f i = 0) : sm n f = f k := by
  induction n with
  | zero => omega
  | succ n ih =>
    rw [sm]
    by_cases e : k = n
    · subst e
      rw [sm_zero fun i hi => h i (by omega) (by omega)]; omega
    · rw [ih (by omega) fun i hi => h i (by omega), h n (by omega) (by omega)]; omega
theorem sm_two {n k r : Nat} (hk : k < n) (hr : r < n) (hkr : k ≠ r) {f : Nat → Int} (h : ∀ i, i < n → i ≠ k → i ≠ r → f i = 0) : sm n f = f k + f r := by
  induction n with
  | zero => omega
  | succ n ih =>
    rw [sm]
    by_cases e : k = n
    · subst e
      rw [sm_one (k := r) (by omega) fun i hi hn => h i (by omega) (by omega) hn]; omega
    · by_cases e' : r = n
      · subst e'
        rw [sm_one (k := k) (by omega) fun i hi hn => h i (by omega) hn (by omega)]
      · rw [ih (by omega) (by omega) fun i hi => h i (by omega), h n (by omega) (by omega) (by omega)]; omega
theorem sm_nonneg {n : Nat} {f : Nat → Int} (h : ∀ i, i < n → 0 ≤ f i) : 0 ≤ sm n f := by
  induction n with
  | zero => simp [sm]
  | succ n ih => rw [sm]; have := ih fun i hi => h i (by omega); have := h n (by omega); omega
theorem sm_le {n : Nat} {f g : Nat → Int} (h : ∀ i, i < n → f i ≤ g i) : sm n f ≤ sm n g := by
  induction n with
  | zero => simp [sm]
  | succ n ih => rw [sm, sm]; have := ih fun i hi => h i (by omega); have := h n (by omega); omega
theorem sm_pos_ex {n : Nat} {f : Nat → Int} (h : 0 < sm n f) : ∃ i, i < n ∧ 0 < f i := by
  induction n with
  | zero => simp [sm] at h
  | succ n ih =>
    rw [sm] at h
    by_cases hn : 0 < f n
    · exact ⟨n, by omega, hn⟩
    · obtain ⟨i, hi, hp⟩ := ih (by omega)
      exact ⟨i, by omega, hp⟩
theorem sm_zero_each {n : Nat} {f : Nat → Int} (h : ∀ i, i < n → 0 ≤ f i) (e : sm n f = 0) : ∀ i, i < n → f i = 0 := by
  induction n with
  | zero => intro i hi; omega
  | succ n ih =>
    rw [sm] at e
    have h1 := sm_nonneg fun i hi => h i (Nat.lt_succ_of_lt hi)
    have h2 := h n (by omega)
    intro i hi
    by_cases q : i = n
    · subst q; omega
    · exact ih (fun i hi => h i (by omega)) (by omega) i (by omega)
theorem sm_comm (n m : Nat) (f : Nat → Nat → Int) : sm n (fun i => sm m (fun j => f i j)) = sm m (fun j => sm n (fun i => f i j)) := by
  induction n with
  | zero => rw [sm, sm_zero]; intro i _; rfl
  | succ n ih =>
    rw [sm, ih, ← sm_add]
    rfl
theorem sm_split (n m : Nat) (f : Nat → Int) : sm (n + m) f = sm n f + sm m (fun i => f (n + i)) := by
  induction m with
  | zero => simp [sm]
  | succ m ih => rw [← Nat.add_assoc, sm, ih, sm]; omega

/-- a vector's wedge with a form over n units -/
def wg : Nat → Vc → Fm → Fm
  | 0, _, _, _ => 0
  | _ + 1, _, _, [] => 0
  | n + 1, v, w, false :: s => wg n v (fun t => w (false :: t)) s
  | n + 1, v, w, true :: s => v n * w (false :: s) - wg n v (fun t => w (true :: t)) s
theorem wg_lin (n : Nat) (v : Vc) (a b : Int) : ∀ (w u : Fm) (s : List Bool), wg n v (fun t => a * w t + b * u t) s = a * wg n v w s + b * wg n v u s := by
  induction n with
  | zero => intro w u s; simp [wg]
  | succ n ih =>
    intro w u s
    match s with
    | [] => simp [wg]
    | false :: s => simp only [wg]; exact ih (fun t => w (false :: t)) (fun t => u (false :: t)) s
    | true :: s =>
      simp only [wg]
      have := ih (fun t => w (true :: t)) (fun t => u (true :: t)) s
      grind
theorem wg_vlin (n : Nat) (v v' : Vc) (a b : Int) : ∀ (w : Fm) (s : List Bool), wg n (fun i => a * v i + b * v' i) w s = a * wg n v w s + b * wg n v' w s := by
  induction n with
  | zero => intro w s; simp [wg]
  | succ n ih =>
    intro w s
    match s with
    | [] => simp [wg]
    | false :: s => simp only [wg]; exact ih (fun t => w (false :: t)) s
    | true :: s =>
      simp only [wg]
      have := ih (fun t => w (true :: t)) s
      grind
theorem wg_congr (n : Nat) {v v' : Vc} (hv : ∀ i, i < n → v i = v' i) : ∀ {w w' : Fm} {s : List Bool}, s.length = n → (∀ t : List Bool, t.length = n → w t = w' t) → wg n v w s = wg n v' w' s := by
  induction n with
  | zero => intro w w' s _ _; simp [wg]
  | succ n ih =>
    intro w w' s hs hw
    match s, hs with
    | false :: s, hs =>
      simp only [wg]
      exact ih (fun i hi => hv i (by omega)) (by simpa using hs) fun t ht => hw _ (by simpa using ht)
    | true :: s, hs =>
      simp only [wg]
      rw [hv n (by omega), hw (false :: s) (by simpa using hs), ih (fun i hi => hv i (by omega)) (by simpa using hs) fun t ht => hw (true :: t) (by simpa using ht)]
theorem wg_anti (n : Nat) (v v' : Vc) : ∀ (w : Fm) (s : List Bool), wg n v (wg n v' w) s + wg n v' (wg n v w) s = 0 := by
  induction n with
  | zero => intro w s; simp [wg]
  | succ n ih =>
    intro w s
    match s with
    | [] => simp [wg]
    | false :: s =>
      have := ih (fun t => w (false :: t)) s
      simp only [wg]
      exact this
    | true :: s =>
      have h := ih (fun t => w (true :: t)) s
      simp only [wg]
      have e1 : wg n v (fun t => v' n * w (false :: t) - wg n v' (fun t => w (true :: t)) t) s = v' n * wg n v (fun t => w (false :: t)) s - wg n v (wg n v' (fun t => w (true :: t))) s := by
        have := wg_lin n v (v' n) (-1) (fun t => w (false :: t)) (wg n v' (fun t => w (true :: t))) s
        rw [show (fun t => v' n * w (false :: t) - wg n v' (fun t => w (true :: t)) t) = (fun t => v' n * w (false :: t) + (-1) * wg n v' (fun t => w (true :: t)) t) from by funext t; omega, this]
        omega
      have e2 : wg n v' (fun t => v n * w (false :: t) - wg n v (fun t => w (true :: t)) t) s = v n * wg n v' (fun t => w (false :: t)) s - wg n v' (wg n v (fun t => w (true :: t))) s := by
        have := wg_lin n v' (v n) (-1) (fun t => w (false :: t)) (wg n v (fun t => w (true :: t))) s
        rw [show (fun t => v n * w (false :: t) - wg n v (fun t => w (true :: t)) t) = (fun t => v n * w (false :: t) + (-1) * wg n v (fun t => w (true :: t)) t) from by funext t; omega, this]
        omega
      rw [e1, e2]
      omega
theorem wg_self (n : Nat) (v : Vc) (w : Fm) (s : List Bool) : wg n v (wg n v w) s = 0 := by
  have := wg_anti n v v w s
  omega

/-- the contraction by a linear form -/
def ct : Nat → Vc → Fm → Fm
  | 0, _, _, _ => 0
  | _ + 1, _, _, [] => 0
  | n + 1, p, w, false :: s => ct n p (fun t => w (false :: t)) s + p n * w (true :: s)
  | n + 1, p, w, true :: s => - ct n p (fun t => w (true :: t)) s
theorem ct_lin (n : Nat) (p : Vc) (a b : Int) : ∀ (w u : Fm) (s : List Bool), ct n p (fun t => a * w t + b * u t) s = a * ct n p w s + b * ct n p u s := by
  induction n with
  | zero => intro w u s; simp [ct]
  | succ n ih =>
    intro w u s
    match s with
    | [] => simp [ct]
    | false :: s =>
      simp only [ct]
      have := ih (fun t => w (false :: t)) (fun t => u (false :: t)) s
      grind
    | true :: s =>
      simp only [ct]
      have := ih (fun t => w (true :: t)) (fun t => u (true :: t)) s
      grind
theorem ct_congr (n : Nat) (p : Vc) : ∀ {w w' : Fm} {s : List Bool}, s.length = n → (∀ t : List Bool, t.length = n → w t = w' t) → ct n p w s = ct n p w' s := by
  induction n with
  | zero => intro w w' s _ _; simp [ct]
  | succ n ih =>
    intro w w' s hs hw
    match s, hs with
    | false :: s, hs =>
      simp only [ct]
      rw [hw (true :: s) (by simpa using hs), ih (by simpa using hs) fun t ht => hw (false :: t) (by simpa using ht)]
    | true :: s, hs =>
      simp only [ct]
      rw [ih (by simpa using hs) fun t ht => hw (true :: t) (by simpa using ht)]
theorem ct_zero (n : Nat) (p : Vc) (s : List Bool) : ct n p (fun _ => 0) s = 0 := by
  have := ct_lin n p 0 0 (fun _ => 0) (fun _ => 0) s
  simpa using this
def dot (n : Nat) (p v : Vc) : Int := sm n fun i => p i * v i
theorem ct_wg (n : Nat) (p v : Vc) : ∀ (w : Fm) (s : List Bool), s.length = n → ct n p (wg n v w) s + wg n v (ct n p w) s = dot n p v * w s := by
  induction n with
  | zero => intro w s _; simp [ct, wg, dot, sm]
  | succ n ih =>
    intro w s hs
    match s, hs with
    | false :: s, hs =>
      simp only [ct, wg]
      have h := ih (fun t => w (false :: t)) s (by simpa using hs)
      have e1 : wg n v (fun t => ct n p (fun t => w (false :: t)) t + p n * w (true :: t)) s = wg n v (ct n p (fun t => w (false :: t))) s + p n * wg n v (fun t => w (true :: t)) s := by
        have := wg_lin n v 1 (p n) (ct n p (fun t => w (false :: t))) (fun t => w (true :: t)) s
        simpa using this
      rw [e1]
      simp only [dot, sm] at h ⊢
      grind
    | true :: s, hs =>
      simp only [ct, wg]
      have h := ih (fun t => w (true :: t)) s (by simpa using hs)
      have e1 : ct n p (fun t => v n * w (false :: t) - wg n v (fun t => w (true :: t)) t) s = v n * ct n p (fun t => w (false :: t)) s - ct n p (wg n v (fun t => w (true :: t))) s := by
        have := ct_lin n p (v n) (-1) (fun t => w (false :: t)) (wg n v (fun t => w (true :: t))) s
        rw [show (fun t => v n * w (false :: t) - wg n v (fun t => w (true :: t)) t) = (fun t => v n * w (false :: t) + (-1) * wg n v (fun t => w (true :: t)) t) from by funext t; omega, this]
        omega
      have e2 : wg n v (fun t => - ct n p (fun t => w (true :: t)) t) s = - wg n v (ct n p (fun t => w (true :: t))) s := by
        have := wg_lin n v (-1) 0 (ct n p (fun t => w (true :: t))) (fun _ => 0) s
        simpa using this
      rw [e1, e2]
      simp only [dot, sm] at h ⊢
      grind

/-- the empty product -/
def one : Fm := fun s => if s.count true = 0 then 1 else 0
/-- the wedge of a list of vectors; the determinant -/
def wed (n : Nat) (L : List Vc) : Fm := L.foldr (wg n) one
def det (n : Nat) (L : List Vc) : Int := wed n L (List.replicate n true)
theorem wed_cons (n : Nat) (v : Vc) (L : List Vc) : wed n (v :: L) = wg n v (wed n L) := rfl
theorem wg_grade (n : Nat) (v : Vc) (k : Nat) : ∀ (w : Fm), (∀ t : List Bool, t.length = n → t.count true ≠ k → w t = 0) → ∀ s : List Bool, s.length = n → s.count true ≠ k + 1 → wg n v w s = 0 := by
  induction n generalizing k with
  | zero => intro w _ s _ _; simp [wg]
  | succ n ih =>
    intro w hw s hs hc
    match s, hs with
    | false :: s, hs =>
      simp only [wg]
      refine ih k _ (fun t ht hn => hw _ (by simpa using ht) (by simpa using hn)) s (by simpa using hs) (by simpa using hc)
    | true :: s, hs =>
      simp only [wg]
      have h1 : w (false :: s) = 0 := hw _ (by simpa using hs) (by simp at hc ⊢; omega)
      rw [h1]
      have h2 : wg n v (fun t => w (true :: t)) s = 0 := by
        cases k with
        | zero =>
          have z : wg n v (fun t => w (true :: t)) s = wg n v (fun _ => 0) s := wg_congr n (fun _ _ => rfl) (by simpa using hs) fun t ht => hw _ (by simpa using ht) (by simp)
          rw [z]
          have := wg_lin n v 0 0 (fun _ => 0) (fun _ => 0) s
          simpa using this
        | succ k =>
          refine ih k _ (fun t ht hn => hw _ (by simpa using ht) (by simpa using hn)) s (by simpa using hs) (by simpa using hc)
      rw [h2]; simp
theorem wed_grade (n : Nat) (L : List Vc) : ∀ s : List Bool, s.length = n → s.count true ≠ L.length → wed n L s = 0 := by
  induction L with
  | nil => intro s _ h; simp [wed, one]; simpa using h
  | cons v L ih =>
    intro s hs hc
    rw [wed_cons]
    exact wg_grade n v L.length (wed n L) ih s hs (by simpa using hc)
theorem wed_over (n : Nat) (L : List Vc) (h : n < L.length) (s : List Bool) (hs : s.length = n) : wed n L s = 0 := by
  refine wed_grade n L s hs ?_
  have := List.count_le_length (a := true) (l := s)
  omega
theorem wed_set_lin (n : Nat) (x y : Vc) (a b : Int) : ∀ (L : List Vc) (k : Nat) (s : List Bool), k < L.length → wed n (L.set k (fun i => a * x i + b * y i)) s = a * wed n (L.set k x) s + b * wed n (L.set k y) s
  | [], k, _, h => by simp at h
  | v :: L, 0, s, _ => by simp only [List.set_cons_zero, wed_cons]; exact wg_vlin n x y a b _ s
  | v :: L, k + 1, s, h => by
    simp only [List.set_cons_succ, wed_cons]
    rw [show wed n (L.set k (fun i => a * x i + b * y i)) = (fun t => a * wed n (L.set k x) t + b * wed n (L.set k y) t) from funext fun t => wed_set_lin n x y a b L k t (by simpa using h)]
    exact wg_lin n v a b _ _ s
theorem wed_set_congr (n : Nat) {x y : Vc} (h : ∀ i, i < n → x i = y i) : ∀ (L : List Vc) (k : Nat) (s : List Bool), s.length = n → wed n (L.set k x) s = wed n (L.set k y) s
  | [], k, _, _ => by simp
  | v :: L, 0, s, hs => by simp only [List.set_cons_zero, wed_cons]; exact wg_congr n h hs fun _ _ => rfl
  | v :: L, k + 1, s, hs => by
    simp only [List.set_cons_succ, wed_cons]
    exact wg_congr n (fun _ _ => rfl) hs fun t ht => wed_set_congr n h L k t ht
theorem wed_mem (n : Nat) (v : Vc) : ∀ (L : List Vc), v ∈ L → ∀ s, wg n v (wed n L) s = 0
  | [], h, _ => by simp at h
  | u :: L, h, s => by
    rw [wed_cons]
    rcases List.mem_cons.mp h with rfl | h
    · exact wg_self n v _ s
    · have a := wg_anti n v u (wed n L) s
      have b : wg n u (wg n v (wed n L)) s = wg n u (fun t => 0 * wed n L t + 0 * wed n L t) s := by
        rw [show wg n v (wed n L) = (fun t => 0 * wed n L t + 0 * wed n L t) from funext fun t => by rw [wed_mem n v L h t]; simp]
      rw [wg_lin] at b
      omega
theorem wed_dup (n : Nat) : ∀ (L : List Vc) (i j : Nat) (v : Vc), i < j → L[i]? = some v → L[j]? = some v → ∀ s, wed n L s = 0
  | [], i, j, v, _, h, _, _ => by simp at h
  | u :: L, 0, j + 1, v, _, h1, h2, s => by
    simp at h1 h2
    subst h1
    rw [wed_cons]
    exact wed_mem n u L (List.mem_of_getElem? h2) s
  | u :: L, i + 1, j + 1, v, hij, h1, h2, s => by
    simp at h1 h2
    rw [wed_cons, show wed n L = (fun t => 0 * wed n L t + 0 * wed n L t) from funext fun t => by rw [wed_dup n L i j v (by omega) h1 h2 t]; simp, wg_lin]
    omega
theorem wed_dup' (n : Nat) (L : List Vc) (i j : Nat) (v : Vc) (h : i ≠ j) (h1 : L[i]? = some v) (h2 : L[j]? = some v) (s : List Bool) : wed n L s = 0 := by
  rcases Nat.lt_or_gt_of_ne h with q | q
  · exact wed_dup n L i j v q h1 h2 s
  · exact wed_dup n L j i v q h2 h1 s
/-- two places exchanged -/
theorem wed_swap (n : Nat) (L : List Vc) (i j : Nat) (x y : Vc) (h : i ≠ j) (hi : i < L.length) (hj : j < L.length) (s : List Bool) : wed n ((L.set i x).set j y) s = - wed n ((L.set i y).set j x) s := by
  have d : ∀ z : Vc, wed n ((L.set i z).set j z) s = 0 := fun z => wed_dup' n _ i j z h (by rw [List.getElem?_set_ne (Ne.symm h)]; simp [hi]) (by simp [hj]) s
  have e := d (fun k => 1 * x k + 1 * y k)
  rw [wed_set_lin n x y 1 1 _ j s (by simpa using hj)] at e
  rw [List.set_comm _ _ h, List.set_comm (fun k => 1 * x k + 1 * y k) y h, wed_set_lin n x y 1 1 _ i s (by simpa using hi), wed_set_lin n x y 1 1 _ i s (by simpa using hi)] at e
  have dx := d x
  have dy := d y
  rw [List.set_comm _ _ h] at dx dy
  rw [List.set_comm x y h, List.set_comm y x h]
  omega

/-- Cramer's rule, along a linear form -/
theorem cramer_sum (n : Nat) (p v : Vc) : ∀ (L : List Vc) (s : List Bool), s.length = n → wg n v (ct n p (wed n L)) s = sm L.length (fun j => dot n p (L.getD j v) * wed n (L.set j v) s)
  | [], s, hs => by
    rw [List.length_nil, sm]
    have z : wg n v (ct n p (wed n [])) s = wg n v (fun _ => 0) s := wg_congr n (fun _ _ => rfl) hs fun t ht => by
      have h : ct n p (wed n []) t = 0 := by
        clear hs
        have key : ∀ (n : Nat) (t : List Bool), ct n p one t = 0 := by
          intro n
          induction n with
          | zero => intro t; simp [ct]
          | succ n ih =>
            intro t
            match t with
            | [] => simp [ct]
            | false :: t =>
              simp only [ct]
              have := ih t
              simp [one] at this ⊢
              exact this
            | true :: t =>
              simp only [ct]
              rw [show (fun t => one (true :: t)) = (fun _ => 0) from funext fun t => by simp [one], ct_zero]; rfl
        exact key n t
      exact h
    rw [z]
    have := wg_lin n v 0 0 (fun _ => 0) (fun _ => 0) s
    simpa using this
  | u :: L, s, hs => by
    have e : ∀ t : List Bool, t.length = n → ct n p (wed n (u :: L)) t = dot n p u * wed n L t + (-1) * wg n u (ct n p (wed n L)) t := fun t ht => by
      have := ct_wg n p u (wed n L) t ht
      rw [wed_cons]; omega
    rw [wg_congr n (fun _ _ => rfl) hs e, wg_lin, List.length_cons, sm_front]
    simp only [List.getD_cons_zero, List.set_cons_zero, List.getD_cons_succ, List.set_cons_succ]
    have a := wg_anti n v u (ct n p (wed n L)) s
    have b : wg n u (wg n v (ct n p (wed n L))) s = wg n u (fun t => sm L.length (fun j => dot n p (L.getD j v) * wed n (L.set j v) t)) s := wg_congr n (fun _ _ => rfl) hs fun t ht => cramer_sum n p v L t ht
    have c : ∀ (m : Nat) (f : Nat → Int) (g : Nat → Fm), wg n u (fun t => sm m (fun j => f j * g j t)) s = sm m (fun j => f j * wg n u (g j) s) := by
      intro m f g
      induction m with
      | zero =>
        have := wg_lin n u 0 0 (fun _ => 0) (fun _ => 0) s
        simpa [sm] using this
      | succ m ih =>
        have := wg_lin n u 1 (f m) (fun t => sm m (fun j => f j * g j t)) (g m) s
        simp only [sm]
        rw [← ih]
        simpa using this
    rw [c] at b
    simp only [wed_cons]
    omega
theorem cramer (n : Nat) (p v : Vc) (L : List Vc) (hL : L.length = n) : dot n p v * det n L = sm n (fun j => dot n p (L.getD j v) * det n (L.set j v)) := by
  have h := ct_wg n p v (wed n L) (List.replicate n true) (by simp)
  have z : ct n p (wg n v (wed n L)) (List.replicate n true) = 0 := by
    rw [ct_congr n p (by simp) (w' := fun _ => 0) fun t ht => by rw [← wed_cons]; exact wed_over n _ (by simp [hL]) t ht, ct_zero]
  rw [cramer_sum n p v L _ (by simp), hL] at h
  unfold det
  omega
/-- the unit vectors -/
def un (k : Nat) : Vc := fun i => if i = k then 1 else 0
/-- a linear function of vectors is a dot -/
theorem lin_dot (n : Nat) (F : Vc → Int) (hl : ∀ (a b : Int) (x y : Vc), F (fun i => a * x i + b * y i) = a * F x + b * F y) (hc : ∀ x y : Vc, (∀ i, i < n → x i = y i) → F x = F y) (x : Vc) :
    F x = dot n (fun i => F (un i)) x := by
  have k : ∀ m, m ≤ n → F (fun i => if i < m then x i else 0) = sm m (fun i => F (un i) * x i) := by
    intro m hm
    induction m with
    | zero =>
      have := hl 0 0 x x
      simp [sm] at this ⊢
      exact this
    | succ m ih =>
      have := hl 1 (x m) (fun i => if i < m then x i else 0) (un m)
      rw [ih (by omega)] at this
      rw [sm, show (fun i => if i < m + 1 then x i else 0) = (fun i => 1 * (if i < m then x i else 0) + x m * un m i) from funext fun i => by
        unfold un
        by_cases h1 : i < m
        · have h2 : i ≠ m := by omega
          have h3 : i < m + 1 := by omega
          simp [h1, h2, h3]
        · by_cases h2 : i = m
          · subst h2; simp
          · have h3 : ¬ i < m + 1 := by omega
            simp [h1, h2, h3], this]
      grind
  rw [← hc (fun i => if i < n then x i else 0) x fun i hi => by simp [hi]]
  exact k n (Nat.le_refl _)
theorem det_set_dot (n : Nat) (L : List Vc) (k : Nat) (hk : k < L.length) (x : Vc) : det n (L.set k x) = dot n (fun i => det n (L.set k (un i))) x :=
  lin_dot n (fun x => det n (L.set k x)) (fun a b x y => wed_set_lin n x y a b L k _ hk) (fun x y h => wed_set_congr n h L k _ (by simp)) x
/-- the exchange rule -/
theorem exchange (n : Nat) (L : List Vc) (hL : L.length = n) (r k : Nat) (hr : r < n) (hk : k < n) (hrk : k ≠ r) (q v : Vc) :
    det n L * det n ((L.set r q).set k v) = det n (L.set r q) * det n (L.set k v) - det n (L.set k q) * det n (L.set r v) := by
  have h := cramer n (fun i => det n ((L.set r q).set k (un i))) v L hL
  have D : ∀ x : Vc, dot n (fun i => det n ((L.set r q).set k (un i))) x = det n ((L.set r q).set k x) := fun x => (det_set_dot n (L.set r q) k (by simpa [hL] using hk) x).symm
  rw [D, sm_two hk hr hrk] at h
  · rw [D, D] at h
    have e1 : (L.set r q).set k (L.getD k v) = L.set r q := by
      apply List.ext_getElem?
      intro i
      by_cases hi : k = i
      · subst hi
        rw [List.getElem?_set_ne (Ne.symm hrk), List.getElem?_set_self (by simpa [hL] using hk)]
        simp [List.getD, hL, hk]
      · rw [List.getElem?_set_ne hi]
    have e2 : det n ((L.set r q).set k (L.getD r v)) = - det n (L.set k q) := by
      unfold det
      rw [wed_swap n L r k q (L.getD r v) (Ne.symm hrk) (by omega) (by omega)]
      congr 2
      congr 1
      apply List.ext_getElem?
      intro i
      by_cases hi : r = i
      · subst hi
        rw [List.getElem?_set_self (by omega)]
        simp [List.getD, hL, hr]
      · rw [List.getElem?_set_ne hi]
    rw [e1, e2] at h
    grind
  · intro i hi h1 h2
    rw [D]
    have : det n ((L.set r q).set k (L.getD i v)) = 0 := by
      refine wed_dup' n _ k i (L.getD i v) (Ne.symm h1) (by rw [List.getElem?_set_self (by simpa [hL] using hk)]) ?_ _
      rw [List.getElem?_set_ne (Ne.symm h1), List.getElem?_set_ne (Ne.symm h2)]
      simp [List.getD, hL, hi]
    rw [this]; simp

/-! ### bounds -/
def l1 (n : Nat) (v : Vc) : Int := sm n fun i => (v i).natAbs
/-- the sum of the coordinates' sizes -/
def nm : Nat → Fm → Int
  | 0, w => (w []).natAbs
  | n + 1, w => nm n (fun t => w (false :: t)) + nm n (fun t => w (true :: t))
theorem nm_nonneg (n : Nat) : ∀ w : Fm, 0 ≤ nm n w := by
  induction n with
  | zero => intro w; simp [nm]
  | succ n ih => intro w; rw [nm]; have := ih fun t => w (false :: t); have := ih fun t => w (true :: t); omega
theorem l1_nonneg (n : Nat) (v : Vc) : 0 ≤ l1 n v := sm_nonneg fun i _ => by omega
theorem nm_lin (n : Nat) (a : Int) : ∀ (w u : Fm), nm n (fun t => a * w t - u t) ≤ a.natAbs * nm n w + nm n u := by
  induction n with
  | zero =>
    intro w u
    simp only [nm]
    have h1 : (a * w [] - u []).natAbs ≤ (a * w []).natAbs + (u []).natAbs := by omega
    rw [Int.natAbs_mul] at h1
    have : (((a * w [] - u []).natAbs : Nat) : Int) ≤ ((a.natAbs * (w []).natAbs + (u []).natAbs : Nat) : Int) := Int.ofNat_le.mpr h1
    simpa using this
  | succ n ih =>
    intro w u
    simp only [nm]
    have h1 := ih (fun t => w (false :: t)) (fun t => u (false :: t))
    have h2 := ih (fun t => w (true :: t)) (fun t => u (true :: t))
    rw [Int.mul_add]
    omega
theorem wg_bound (n : Nat) (v : Vc) : ∀ (w : Fm), nm n (wg n v w) ≤ l1 n v * nm n w := by
  induction n with
  | zero => intro w; simp [nm, wg, l1, sm]
  | succ n ih =>
    intro w
    simp only [nm, wg]
    have h1 := ih fun t => w (false :: t)
    have h2 := ih fun t => w (true :: t)
    have h3 := nm_lin n (v n) (fun t => w (false :: t)) (wg n v fun t => w (true :: t))
    have e1 : nm n (wg (n + 1) v w ∘ (false :: ·)) = nm n (wg n v fun t => w (false :: t)) := rfl
    have e2 : l1 (n + 1) v = l1 n v + (v n).natAbs := rfl
    have p1 := nm_nonneg n fun t => w (false :: t)
    have p2 := nm_nonneg n fun t => w (true :: t)
    have p3 : 0 ≤ ((v n).natAbs : Int) * nm n (fun t => w (true :: t)) := Int.mul_nonneg (by omega) p2
    rw [e2]
    have g : (l1 n v + (v n).natAbs) * (nm n (fun t => w (false :: t)) + nm n (fun t => w (true :: t))) = l1 n v * nm n (fun t => w (false :: t)) + l1 n v * nm n (fun t => w (true :: t)) + (v n).natAbs * nm n (fun t => w (false :: t)) + (v n).natAbs * nm n (fun t => w (true :: t)) := by grind
    rw [g]
    show nm n (wg n v fun t => w (false :: t)) + nm n (fun t => v n * w (false :: t) - wg n v (fun t => w (true :: t)) t) ≤ _
    omega
theorem coord_le (n : Nat) : ∀ (w : Fm) (s : List Bool), s.length = n → ((w s).natAbs : Int) ≤ nm n w := by
  induction n with
  | zero => intro w s hs; rw [List.length_eq_zero_iff] at hs; subst hs; simp [nm]
  | succ n ih =>
    intro w s hs
    have p1 := nm_nonneg n fun t => w (false :: t)
    have p2 := nm_nonneg n fun t => w (true :: t)
    match s, hs with
    | false :: s, hs => have := ih (fun t => w (false :: t)) s (by simpa using hs); rw [nm]; omega
    | true :: s, hs => have := ih (fun t => w (true :: t)) s (by simpa using hs); rw [nm]; omega
theorem nm_one (n : Nat) : nm n one = 1 := by
  induction n with
  | zero => simp [nm, one]
  | succ n ih =>
    have z : nm n (fun _ => 0) = 0 := by
      clear ih
      induction n with
      | zero => simp [nm]
      | succ n ih => simp only [nm]; omega
    simp only [nm]
    rw [show (fun t => one (false :: t)) = one from funext fun t => by simp [one], show (fun t => one (true :: t)) = (fun _ => 0) from funext fun t => by simp [one], ih, z]; rfl
theorem wed_bound (n : Nat) (C : Nat) : ∀ (L : List Vc), (∀ v ∈ L, l1 n v ≤ C) → nm n (wed n L) ≤ ((C ^ L.length : Nat) : Int)
  | [], _ => by
    have : nm n (wed n []) = 1 := nm_one n
    simp [this]
  | v :: L, h => by
    rw [wed_cons, List.length_cons, Nat.pow_succ]
    have h1 := wg_bound n v (wed n L)
    have h2 := wed_bound n C L fun u hu => h u (List.mem_cons_of_mem _ hu)
    have h3 := h v List.mem_cons_self
    have h4 : l1 n v * nm n (wed n L) ≤ (C : Int) * nm n (wed n L) := Int.mul_le_mul_of_nonneg_right h3 (nm_nonneg _ _)
    have h5 : (C : Int) * nm n (wed n L) ≤ (C : Int) * ((C ^ L.length : Nat) : Int) := Int.mul_le_mul_of_nonneg_left h2 (by omega)
    rw [Int.natCast_mul, Int.mul_comm ((C ^ L.length : Nat) : Int)]
    omega
theorem det_bound (n C : Nat) (L : List Vc) (h : ∀ v ∈ L, l1 n v ≤ C) : (det n L).natAbs ≤ C ^ L.length := by
  have h1 := coord_le n (wed n L) (List.replicate n true) (by simp)
  have h2 := wed_bound n C L h
  unfold det
  omega
end Mc
/-! Mathematics 2: the tables of the search for counts, by determinants; no choice by the rule of the least numbers turns in a circle. -/
namespace Mc

theorem sm_rev (n : Nat) (f : Nat → Int) : sm (n + 1) f = sm (n + 1) (fun j => f (n - j)) := by
  induction n generalizing f with
  | zero => simp [sm]
  | succ n ih =>
    rw [sm_front (n + 1) (fun j => f (n + 1 - j)), sm, ih]
    have e : sm (n + 1) (fun i => f (n + 1 - (i + 1))) = sm (n + 1) (fun j => f (n - j)) := sm_congr fun i hi => by rw [show n + 1 - (i + 1) = n - i by omega]
    rw [e]; simp; omega
theorem dot_un (n i : Nat) (hi : i < n) (v : Vc) : dot n (un i) v = v i := by
  unfold dot
  rw [sm_one hi fun j hj hne => by simp [un, hne]]
  simp [un]

/-- the determinant of the units, the last one ahead -/
theorem det_units (n : Nat) : det n ((List.range n).map fun j => un (n - 1 - j)) = 1 := by
  have shift : ∀ (n : Nat) (L : List Vc) (s : List Bool), wed (n + 1) L (false :: s) = wed n L s := by
    intro n L
    induction L with
    | nil => intro s; simp [wed, one]
    | cons v L ih =>
      intro s
      rw [wed_cons, wed_cons]
      simp only [wg]
      congr 1
      funext t
      exact ih t
  induction n with
  | zero => simp [det, wed, one]
  | succ n ih =>
    rw [List.range_succ_eq_map, List.map_cons, List.map_map]
    unfold det
    rw [wed_cons, List.replicate_succ]
    simp only [wg]
    rw [shift]
    have e : ((fun j => un (n + 1 - 1 - j)) ∘ Nat.succ) = fun j => un (n - 1 - j) := by
      funext j
      simp only [Function.comp]
      congr 1
      omega
    rw [e]
    have z : wg n (un (n + 1 - 1 - 0)) (fun t => wed (n + 1) ((List.range n).map fun j => un (n - 1 - j)) (true :: t)) (List.replicate n true) = 0 := by
      rw [wg_congr n (v' := fun i => 0 * un 0 i + 0 * un 0 i) (fun i hi => by simp [un]; omega) (by simp) fun t _ => rfl, wg_vlin]; simp
    rw [z]
    unfold det at ih
    rw [ih]
    simp [un]

/-- a search for counts: m rows, many columns; the rows' ends are from 0 on -/
structure Lp where
  m : Nat
  many : Nat
  a : Nat → Nat → Int
  e : Nat → Int
  en : ∀ i, 0 ≤ e i
namespace Lp
variable (P : Lp)
/-- the columns: the given ones, the helping ones, the ends -/
def t (i c : Nat) : Int := if c < P.many then P.a i c else if c < P.many + P.m then (if c = P.many + i then 1 else 0) else P.e i
def hp (c : Nat) : Int := if P.many ≤ c ∧ c < P.many + P.m then 1 else 0
/-- a column with its cost below -/
def col (c : Nat) : Vc := fun i => if i < P.m then P.t i c else P.hp c - sm P.m fun j => P.t j c
def fin : Nat := P.many + P.m
abbrev B := Nat → Nat
def vec (b : B) (k : Nat) : Vc := if k < P.m then P.col (b k) else un P.m
def L (b : B) : List Vc := (List.range (P.m + 1)).map fun j => P.vec b (P.m - j)
def U (b : B) : Int := det (P.m + 1) (P.L b)
def T (b : B) (k c : Nat) : Int := det (P.m + 1) ((P.L b).set (P.m - k) (P.col c))
def put (b : B) (r q : Nat) : B := fun k => if k = r then q else b k
theorem L_len (b : B) : (P.L b).length = P.m + 1 := by simp [L]
theorem L_get (b : B) (j : Nat) (h : j < P.m + 1) : (P.L b)[j]? = some (P.vec b (P.m - j)) := by
  simp [L, h]
theorem L_put (b : B) (r q : Nat) (hr : r < P.m) : P.L (put b r q) = (P.L b).set (P.m - r) (P.col q) := by
  apply List.ext_getElem?
  intro j
  by_cases hj : j < P.m + 1
  · rw [L_get _ _ _ hj]
    by_cases e : P.m - r = j
    · rw [e, List.getElem?_set_self (by rw [L_len]; exact hj)]
      have : P.m - j = r := by omega
      simp [vec, this, hr, put]
    · rw [List.getElem?_set_ne e, L_get _ _ _ hj]
      congr 1
      unfold vec put
      by_cases h : P.m - j < P.m
      · have : P.m - j ≠ r := by omega
        simp [h, this]
      · simp [h]
  · rw [List.getElem?_eq_none (by rw [L_len]; omega), List.getElem?_eq_none (by rw [List.length_set, L_len]; omega)]
theorem U_put (b : B) (r q : Nat) (hr : r < P.m) : P.U (put b r q) = P.T b r q := by unfold U T; rw [L_put _ _ _ _ hr]
theorem T_put_same (b : B) (r q c : Nat) (hr : r < P.m) : P.T (put b r q) r c = P.T b r c := by unfold T; rw [L_put _ _ _ _ hr, List.set_set]
/-- a turn -/
theorem T_put (b : B) (r q k c : Nat) (hr : r < P.m) (hk : k ≤ P.m) (hkr : k ≠ r) : P.U b * P.T (put b r q) k c = P.T b k c * P.T b r q - P.T b k q * P.T b r c := by
  have h := exchange (P.m + 1) (P.L b) (P.L_len b) (P.m - r) (P.m - k) (by omega) (by omega) (by omega) (P.col q) (P.col c)
  unfold U T
  rw [L_put _ _ _ _ hr, h, Int.mul_comm]
/-- the columns of the basis are units -/
theorem T_base (b : B) (k j : Nat) (hk : k ≤ P.m) (hj : j < P.m) : P.T b k (b j) = if k = j then P.U b else 0 := by
  have ej : (P.L b)[P.m - j]? = some (P.col (b j)) := by
    rw [L_get _ _ _ (by omega)]
    have : P.m - (P.m - j) = j := by omega
    simp [vec, this, hj]
  by_cases e : k = j
  · subst e
    rw [if_pos rfl]
    unfold T U
    congr 1
    apply List.ext_getElem?
    intro i
    by_cases hi : P.m - k = i
    · subst hi
      rw [List.getElem?_set_self (by rw [L_len]; omega), ej]
    · rw [List.getElem?_set_ne hi]
  · rw [if_neg e]
    exact wed_dup' _ _ (P.m - k) (P.m - j) (P.col (b j)) (by omega) (by rw [List.getElem?_set_self (by rw [L_len]; omega)]) (by rw [List.getElem?_set_ne (by omega), ej]) _
/-- .. with the unit of the costs -/
theorem T_cost_unit (b : B) (k : Nat) (hk : k ≤ P.m) : det (P.m + 1) ((P.L b).set (P.m - k) (un P.m)) = if k = P.m then P.U b else 0 := by
  have e0 : (P.L b)[0]? = some (un P.m) := by
    rw [L_get _ _ _ (by omega)]
    simp [vec]
  by_cases e : k = P.m
  · subst e
    rw [if_pos rfl]
    unfold U
    congr 1
    apply List.ext_getElem?
    intro i
    by_cases hi : P.m - P.m = i
    · rw [hi, List.getElem?_set_self (by rw [L_len]; omega), ← e0]; congr 1; omega
    · rw [List.getElem?_set_ne hi]
  · rw [if_neg e]
    exact wed_dup' _ _ (P.m - k) 0 (un P.m) (by omega) (by rw [List.getElem?_set_self (by rw [L_len]; omega)]) (by rw [List.getElem?_set_ne (by omega), e0]) _
/-- each column by the basis -/
theorem cram (b : B) (i c : Nat) (hi : i ≤ P.m) : P.col c i * P.U b = sm P.m (fun k => P.col (b k) i * P.T b k c) + un P.m i * P.T b P.m c := by
  have h := cramer (P.m + 1) (un i) (P.col c) (P.L b) (P.L_len b)
  rw [dot_un _ _ (by omega)] at h
  unfold U
  rw [h, sm_rev]
  have e : ∀ j, j < P.m + 1 → dot (P.m + 1) (un i) ((P.L b).getD (P.m - j) (P.col c)) * det (P.m + 1) ((P.L b).set (P.m - j) (P.col c)) = (P.vec b j) i * P.T b j c := fun j hj => by
    rw [dot_un _ _ (by omega)]
    have g := L_get P b (P.m - j) (by omega)
    rw [show P.m - (P.m - j) = j by omega] at g
    rw [List.getD_eq_getElem?_getD, g]
    rfl
  rw [sm_congr e, sm]
  congr 1
  · exact sm_congr fun j hj => by simp [vec, hj]
  · simp [vec]
theorem col_hi (c : Nat) : P.col c P.m = P.hp c - sm P.m fun j => P.t j c := by simp [col]
theorem col_lo (c i : Nat) (hi : i < P.m) : P.col c i = P.t i c := by simp [col, hi]
theorem cramC (b : B) (i c : Nat) (hi : i < P.m) : P.t i c * P.U b = sm P.m (fun k => P.t i (b k) * P.T b k c) := by
  have h := P.cram b i c (by omega)
  rw [col_lo _ _ _ hi] at h
  rw [h, show un P.m i = 0 by simp [un]; omega, sm_congr fun k hk => by rw [col_lo _ _ _ hi]]
  simp
/-- the costs by the other rows -/
theorem cost (b : B) (c : Nat) : P.T b P.m c = P.hp c * P.U b - sm P.m (fun k => P.T b k c * P.hp (b k)) := by
  have h := P.cram b P.m c (Nat.le_refl _)
  rw [col_hi, show un P.m P.m = 1 by simp [un]] at h
  have h2 : (sm P.m fun j => P.t j c) * P.U b = sm P.m (fun k => (sm P.m fun i => P.t i (b k)) * P.T b k c) := by
    rw [Int.mul_comm, ← sm_mul, sm_congr (fun i hi => by rw [Int.mul_comm, P.cramC b i c hi]), sm_comm]
    exact sm_congr fun k hk => by rw [Int.mul_comm, ← sm_mul]; exact sm_congr fun i hi => Int.mul_comm _ _
  have h3 : sm P.m (fun k => P.col (b k) P.m * P.T b k c) = sm P.m (fun k => P.T b k c * P.hp (b k)) - sm P.m (fun k => (sm P.m fun i => P.t i (b k)) * P.T b k c) := by
    have := sm_lin (n := P.m) 1 (-1) (fun k => P.T b k c * P.hp (b k)) (fun k => (sm P.m fun i => P.t i (b k)) * P.T b k c)
    rw [show sm P.m (fun k => P.T b k c * P.hp (b k)) - sm P.m (fun k => (sm P.m fun i => P.t i (b k)) * P.T b k c) = 1 * sm P.m (fun k => P.T b k c * P.hp (b k)) + (-1) * sm P.m (fun k => (sm P.m fun i => P.t i (b k)) * P.T b k c) by omega, ← this]
    exact sm_congr fun k hk => by rw [col_hi]; grind
  rw [h3] at h
  rw [Int.sub_mul, h2] at h
  omega
/-- the weights that the costs tell -/
def y (b : B) (i : Nat) : Int := P.U b - P.T b P.m (P.many + i)
theorem col_help (i : Nat) (hi : i < P.m) : ∀ j, j < P.m + 1 → P.col (P.many + i) j = un i j := by
  intro j hj
  have ht : ∀ j, P.t j (P.many + i) = if j = i then 1 else 0 := fun j => by
    unfold t
    rw [if_neg (by omega), if_pos (by omega)]
    by_cases e : j = i
    · simp [e]
    · rw [if_neg (by omega), if_neg e]
  unfold col
  by_cases h : j < P.m
  · rw [if_pos h, ht]; rfl
  · rw [if_neg h, show P.hp (P.many + i) = 1 by unfold hp; rw [if_pos ⟨by omega, by omega⟩], sm_one hi fun k hk hne => by rw [ht, if_neg hne], ht, if_pos rfl]
    simp [un]; omega
theorem rows (b : B) (k c : Nat) (hk : k ≤ P.m) : P.T b k c = sm P.m (fun i => P.T b k (P.many + i) * P.t i c) + (if k = P.m then P.U b else 0) * (P.hp c - sm P.m fun j => P.t j c) := by
  have h := det_set_dot (P.m + 1) (P.L b) (P.m - k) (by rw [L_len]; omega) (P.col c)
  unfold T
  rw [h]
  unfold dot
  rw [sm]
  dsimp only
  rw [T_cost_unit _ _ _ hk, col_hi]
  congr 1
  refine sm_congr fun i hi => ?_
  rw [col_lo _ _ _ hi]
  congr 1
  unfold det
  exact (wed_set_congr _ (P.col_help i hi) _ _ _ (by simp)).symm
theorem costY (b : B) (c : Nat) : P.T b P.m c = P.hp c * P.U b - sm P.m (fun i => P.y b i * P.t i c) := by
  have h := P.rows b P.m c (Nat.le_refl _)
  rw [if_pos rfl] at h
  have e : sm P.m (fun i => P.y b i * P.t i c) = P.U b * (sm P.m fun i => P.t i c) - sm P.m (fun i => P.T b P.m (P.many + i) * P.t i c) := by
    have := sm_lin (n := P.m) (P.U b) (-1) (fun i => P.t i c) (fun i => P.T b P.m (P.many + i) * P.t i c)
    rw [show P.U b * (sm P.m fun i => P.t i c) - sm P.m (fun i => P.T b P.m (P.many + i) * P.t i c) = P.U b * sm P.m (fun i => P.t i c) + (-1) * sm P.m (fun i => P.T b P.m (P.many + i) * P.t i c) by omega, ← this]
    exact sm_congr fun i hi => by unfold y; grind
  rw [h, e]; grind

/-- a table that counts can be read off -/
structure Ok (b : B) : Prop where
  pos : 0 < P.U b
  nn : ∀ k, k < P.m → 0 ≤ P.T b k P.fin
  lt : ∀ k, k < P.m → b k < P.fin
/-- a turn by the rule of the least numbers -/
structure Turn (b b' : B) (q r : Nat) : Prop where
  hq : q < P.many
  neg : P.T b P.m q < 0
  least : ∀ c, c < q → 0 ≤ P.T b P.m c
  hr : r < P.m
  piv : 0 < P.T b r q
  near : ∀ k, k < P.m → 0 < P.T b k q → P.T b r P.fin * P.T b k q < P.T b k P.fin * P.T b r q ∨ (P.T b r P.fin * P.T b k q = P.T b k P.fin * P.T b r q ∧ b r ≤ b k)
  to : b' = put b r q
variable {P}
theorem Ok.inj {b : B} (o : P.Ok b) {i j : Nat} (hi : i < P.m) (hj : j < P.m) (e : b i = b j) : i = j := by
  have h := P.T_base b i i (by omega) hi
  have h' := P.T_base b i j (by omega) hj
  rw [e, h', if_pos rfl] at h
  by_cases q : i = j
  · exact q
  · rw [if_neg q] at h
    have := o.pos
    omega
theorem Turn.ok {b b' : B} {q r : Nat} (s : P.Turn b b' q r) (o : P.Ok b) : P.Ok b' := by
  obtain ⟨hq, neg, least, hr, piv, near, rfl⟩ := s
  refine ⟨by rw [P.U_put b r q hr]; exact piv, fun k hk => ?_, fun k hk => ?_⟩
  · by_cases e : k = r
    · subst e; rw [P.T_put_same b k q _ hk]; exact o.nn k hk
    · have h := P.T_put b r q k P.fin hr (by omega) e
      have h0 : 0 ≤ P.T b k P.fin * P.T b r q - P.T b k q * P.T b r P.fin := by
        by_cases h1 : 0 < P.T b k q
        · have := near k hk h1
          have c : P.T b k q * P.T b r P.fin = P.T b r P.fin * P.T b k q := Int.mul_comm _ _
          omega
        · have h2 : 0 ≤ P.T b k P.fin * P.T b r q := Int.mul_nonneg (o.nn k hk) (by omega)
          have h3 : P.T b k q * P.T b r P.fin ≤ 0 := Int.mul_nonpos_of_nonpos_of_nonneg (by omega) (o.nn r hr)
          omega
      rw [← h] at h0
      exact Int.nonneg_of_mul_nonneg_right h0 o.pos
  · unfold put
    by_cases e : k = r
    · rw [if_pos e]; unfold fin; omega
    · rw [if_neg e]; exact o.lt k hk
/-- nobody leaves: this can't be -/
theorem bounded {b : B} (o : P.Ok b) {q : Nat} (hq : q < P.many) (neg : P.T b P.m q < 0) : ∃ k, k < P.m ∧ 0 < P.T b k q := by
  have h := P.cost b q
  rw [show P.hp q = 0 by unfold hp; rw [if_neg (by omega)]] at h
  have : 0 < sm P.m (fun k => P.T b k q * P.hp (b k)) := by omega
  obtain ⟨k, hk, h9⟩ := sm_pos_ex this
  refine ⟨k, hk, ?_⟩
  by_cases z : P.many ≤ b k ∧ b k < P.many + P.m
  · rw [show P.hp (b k) = 1 by unfold hp; rw [if_pos z]] at h9; omega
  · rw [show P.hp (b k) = 0 by unfold hp; rw [if_neg z]] at h9; omega
/-- the costs of one table along the way of another one -/
theorem along (b d : B) (q : Nat) : P.U b * P.T d P.m q - sm P.m (fun k => P.T b k q * P.T d P.m (b k)) = P.U d * P.T b P.m q := by
  have h1 := P.costY d q
  have h2 : sm P.m (fun k => P.T b k q * P.T d P.m (b k)) = P.U d * sm P.m (fun k => P.T b k q * P.hp (b k)) - sm P.m (fun k => sm P.m fun i => P.y d i * (P.t i (b k) * P.T b k q)) := by
    have := sm_lin (n := P.m) (P.U d) (-1) (fun k => P.T b k q * P.hp (b k)) (fun k => sm P.m fun i => P.y d i * (P.t i (b k) * P.T b k q))
    rw [show P.U d * sm P.m (fun k => P.T b k q * P.hp (b k)) - sm P.m (fun k => sm P.m fun i => P.y d i * (P.t i (b k) * P.T b k q)) = P.U d * sm P.m (fun k => P.T b k q * P.hp (b k)) + (-1) * sm P.m (fun k => sm P.m fun i => P.y d i * (P.t i (b k) * P.T b k q)) by omega, ← this]
    refine sm_congr fun k hk => ?_
    rw [P.costY d (b k)]
    have e : sm P.m (fun i => P.y d i * (P.t i (b k) * P.T b k q)) = P.T b k q * sm P.m (fun i => P.y d i * P.t i (b k)) := by
      rw [← sm_mul]; exact sm_congr fun i _ => by grind
    rw [e]; grind
  have h3 : sm P.m (fun k => sm P.m fun i => P.y d i * (P.t i (b k) * P.T b k q)) = P.U b * sm P.m (fun i => P.y d i * P.t i q) := by
    rw [sm_comm, ← sm_mul]
    refine sm_congr fun i hi => ?_
    rw [sm_mul, ← P.cramC b i q hi]; grind
  have h4 := P.cost b q
  rw [h2, h3, h1, h4]
  grind

/-! ### no circle -/
section circle
variable {s : Nat → B} {q r : Nat → Nat}
/-- an unending run -/
structure Run (P : Lp) (s : Nat → B) (q r : Nat → Nat) (n0 : Nat) : Prop where
  ok : P.Ok (s 0)
  go : ∀ n, P.Turn (s n) (s (n + 1)) (q n) (r n)
  per : ∀ n, s (n + n0) = s n
  pos : 0 < n0
variable {n0 : Nat}
theorem Run.oks (R : Run P s q r n0) : ∀ n, P.Ok (s n)
  | 0 => R.ok
  | n + 1 => (R.go n).ok (R.oks n)
def In (P : Lp) (b : B) (j : Nat) : Prop := ∃ k, k < P.m ∧ b k = j
theorem Run.zero_cost (R : Run P s q r n0) (n j : Nat) (h : In P (s n) j) : P.T (s n) P.m j = 0 := by
  obtain ⟨k, hk, rfl⟩ := h
  rw [P.T_base _ _ _ (Nat.le_refl _) hk, if_neg (by omega)]
theorem Run.q_out (R : Run P s q r n0) (n : Nat) : ¬ In P (s n) (q n) := fun h => by
  have := R.zero_cost n _ h
  have := (R.go n).neg
  omega
theorem Run.q_in (R : Run P s q r n0) (n : Nat) : In P (s (n + 1)) (q n) := ⟨r n, (R.go n).hr, by rw [(R.go n).to]; simp [put]⟩
/-- the value goes up -/
theorem Run.up (R : Run P s q r n0) (n : Nat) : P.U (s n) * (P.T (s (n + 1)) P.m P.fin) = P.T (s n) P.m P.fin * P.U (s (n + 1)) - P.T (s n) P.m (q n) * P.T (s n) (r n) P.fin ∧ P.U (s (n + 1)) = P.T (s n) (r n) (q n) := by
  have g := R.go n
  have e1 : P.U (s (n + 1)) = P.T (s n) (r n) (q n) := by rw [g.to]; exact P.U_put _ _ _ g.hr
  refine ⟨?_, e1⟩
  rw [e1, g.to]
  exact P.T_put _ _ _ _ _ g.hr (Nat.le_refl _) (by have := g.hr; omega)
theorem Run.mono (R : Run P s q r n0) (n : Nat) : ∀ d, P.T (s n) P.m P.fin * P.U (s (n + d)) ≤ P.T (s (n + d)) P.m P.fin * P.U (s n)
  | 0 => by simp
  | d + 1 => by
    have ih := R.mono n d
    obtain ⟨e, _⟩ := R.up (n + d)
    have p0 := (R.oks n).pos
    have p1 := (R.oks (n + d)).pos
    have p2 := (R.oks (n + d + 1)).pos
    have g := R.go (n + d)
    have z : 0 ≤ - (P.T (s (n + d)) P.m (q (n + d)) * P.T (s (n + d)) (r (n + d)) P.fin) := by
      have := Int.mul_nonpos_of_nonpos_of_nonneg (a := P.T (s (n + d)) P.m (q (n + d))) (b := P.T (s (n + d)) (r (n + d)) P.fin) (by have := g.neg; omega) ((R.oks _).nn _ g.hr)
      omega
    rw [← Nat.add_assoc]
    have a1 : P.T (s n) P.m P.fin * P.U (s (n + d)) * P.U (s (n + d + 1)) ≤ P.T (s (n + d)) P.m P.fin * P.U (s n) * P.U (s (n + d + 1)) := Int.mul_le_mul_of_nonneg_right ih (by omega)
    have a2 : P.T (s (n + d)) P.m P.fin * P.U (s (n + d + 1)) * P.U (s n) ≤ P.U (s (n + d)) * P.T (s (n + d + 1)) P.m P.fin * P.U (s n) := Int.mul_le_mul_of_nonneg_right (by omega) (by omega)
    have a3 : P.U (s (n + d)) * (P.T (s n) P.m P.fin * P.U (s (n + d + 1))) ≤ P.U (s (n + d)) * (P.T (s (n + d + 1)) P.m P.fin * P.U (s n)) := by
      have c1 : P.U (s (n + d)) * (P.T (s n) P.m P.fin * P.U (s (n + d + 1))) = P.T (s n) P.m P.fin * P.U (s (n + d)) * P.U (s (n + d + 1)) := by grind
      have c2 : P.U (s (n + d)) * (P.T (s (n + d + 1)) P.m P.fin * P.U (s n)) = P.U (s (n + d)) * P.T (s (n + d + 1)) P.m P.fin * P.U (s n) := by grind
      have c3 : P.T (s (n + d)) P.m P.fin * P.U (s n) * P.U (s (n + d + 1)) = P.T (s (n + d)) P.m P.fin * P.U (s (n + d + 1)) * P.U (s n) := by grind
      omega
    exact Int.le_of_mul_le_mul_left a3 p1
/-- so each turn is of no length -/
theorem Run.flat (R : Run P s q r n0) (n : Nat) : P.T (s n) (r n) P.fin = 0 := by
  have h1 := R.mono (n + 1) (n0 - 1)
  rw [show n + 1 + (n0 - 1) = n + n0 by have := R.pos; omega, R.per n] at h1
  obtain ⟨e, _⟩ := R.up n
  have g := R.go n
  have z := (R.oks n).nn _ g.hr
  have c : P.T (s (n + 1)) P.m P.fin * P.U (s n) = P.U (s n) * P.T (s (n + 1)) P.m P.fin := Int.mul_comm _ _
  have h2 : 0 ≤ P.T (s n) P.m (q n) * P.T (s n) (r n) P.fin := by omega
  by_cases h : 0 < P.T (s n) (r n) P.fin
  · have := Int.mul_neg_of_neg_of_pos g.neg h
    omega
  · omega
/-- of what is 0 now nothing comes -/
def Zero (P : Lp) (b : B) (j : Nat) : Prop := ∀ k, k < P.m → b k = j → P.T b k P.fin = 0
theorem Run.zero_next (R : Run P s q r n0) (n j : Nat) (h : Zero P (s n) j) : Zero P (s (n + 1)) j := fun k hk e => by
  have g := R.go n
  have f := R.flat n
  rw [g.to] at e ⊢
  by_cases hkr : k = r n
  · subst hkr
    rw [P.T_put_same _ _ _ _ hk]; exact f
  · have z := P.T_put (s n) (r n) (q n) k P.fin g.hr (by omega) hkr
    have e2 : s n k = j := by rw [← e]; simp [put, hkr]
    rw [h k hk e2, f] at z
    rw [Int.zero_mul, Int.mul_zero, Int.sub_zero] at z
    rcases Int.mul_eq_zero.mp z with z | z
    · have := (R.oks n).pos; omega
    · exact z
theorem Run.zero_later (R : Run P s q r n0) (n j : Nat) (h : Zero P (s n) j) : ∀ d, Zero P (s (n + d)) j
  | 0 => h
  | d + 1 => R.zero_next _ _ (R.zero_later n j h d)
theorem enters {A : Nat → Prop} : ∀ (d n : Nat), ¬ A n → A (n + d) → ∃ i, n ≤ i ∧ i < n + d ∧ ¬ A i ∧ A (i + 1)
  | 0, n, h, h' => absurd h' h
  | d + 1, n, h, h' => by
    by_cases z : A (n + d)
    · obtain ⟨i, a, b, c⟩ := enters d n h z
      exact ⟨i, a, by omega, c⟩
    · exact ⟨n + d, by omega, by omega, z, h'⟩
theorem Run.came (R : Run P s q r n0) {n j : Nat} (h : ¬ In P (s n) j) (h' : In P (s (n + 1)) j) : j = q n := by
  obtain ⟨k, hk, e⟩ := h'
  rw [(R.go n).to] at e
  by_cases hkr : k = r n
  · simp [put, hkr] at e; exact e.symm
  · simp [put, hkr] at e; exact absurd ⟨k, hk, e⟩ h
theorem Run.went (R : Run P s q r n0) {n j : Nat} (h : In P (s n) j) (h' : ¬ In P (s (n + 1)) j) : j = s n (r n) := by
  obtain ⟨k, hk, e⟩ := h
  by_cases hkr : k = r n
  · subst hkr; exact e.symm
  · exact absurd ⟨k, hk, by rw [(R.go n).to]; simp [put, hkr]; exact e⟩ h'
theorem max_of (f : Nat → Nat) : ∀ N, (∀ n, f n < N) → ∃ e, ∀ n, f n ≤ f e
  | 0, h => absurd (h 0) (by omega)
  | N + 1, h => by
    by_cases z : ∃ e, f e = N
    · obtain ⟨e, he⟩ := z
      exact ⟨e, fun n => by have := h n; omega⟩
    · refine max_of f N fun n => ?_
      have := h n
      have : f n ≠ N := fun q => z ⟨n, q⟩
      omega
theorem Run.per_mul (R : Run P s q r n0) (n : Nat) : ∀ d, s (n + d * n0) = s n
  | 0 => by simp
  | d + 1 => by rw [show n + (d + 1) * n0 = n + d * n0 + n0 by rw [Nat.succ_mul]; omega, R.per, R.per_mul n d]
theorem Run.no (R : Run P s q r n0) : False := by
  obtain ⟨e, he⟩ := max_of q P.many fun n => (R.go n).hq
  -- t enters at e
  have h1 := R.q_in e
  have h2 : ¬ In P (s (e + 1 + (n0 - 1))) (q e) := by
    rw [show e + 1 + (n0 - 1) = e + n0 by have := R.pos; omega, R.per]; exact R.q_out e
  -- and leaves at p
  obtain ⟨p, hp1, hp2, hp3, hp4⟩ := enters (A := fun i => ¬ In P (s i) (q e)) (n0 - 1) (e + 1) (fun z => z h1) h2
  have hp3 : In P (s p) (q e) := Classical.byContradiction hp3
  have ht := R.went hp3 hp4
  have g := R.go p
  have ge := R.go e
  have qlt : q p < q e := by
    have := he p
    have : q p ≠ q e := fun z => R.q_out p (by rw [z]; exact hp3)
    omega
  have al := along (P := P) (s p) (s e) (q p)
  have neg : P.U (s e) * P.T (s p) P.m (q p) < 0 := Int.mul_neg_of_pos_of_neg (R.oks e).pos g.neg
  have nn : 0 ≤ P.U (s p) * P.T (s e) P.m (q p) := Int.mul_nonneg (by have := (R.oks p).pos; omega) (ge.least _ qlt)
  have : 0 < sm P.m (fun k => P.T (s p) k (q p) * P.T (s e) P.m (s p k)) := by omega
  obtain ⟨k, hk, hpos⟩ := sm_pos_ex this
  have nz : P.T (s e) P.m (s p k) ≠ 0 := fun z => by rw [z] at hpos; simp at hpos
  have nin : ¬ In P (s e) (s p k) := fun z => nz (R.zero_cost e _ z)
  -- it entered between e and p
  obtain ⟨n, hn1, hn2, hn3, hn4⟩ := enters (A := fun i => In P (s i) (s p k)) (p - e) e nin (by rw [show e + (p - e) = p by omega]; exact ⟨k, hk, rfl⟩)
  have jq := R.came hn3 hn4
  have jle : s p k ≤ q e := by rw [jq]; exact he n
  have jne : s p k ≠ q e := fun z => by
    have kr : k = r p := (R.oks p).inj hk g.hr (by rw [z, ht])
    rw [z, kr] at hpos
    have := Int.mul_neg_of_pos_of_neg g.piv ge.neg
    omega
  have c0 : 0 ≤ P.T (s e) P.m (s p k) := ge.least _ (by omega)
  have kp : 0 < P.T (s p) k (q p) := by
    by_cases z : 0 < P.T (s p) k (q p)
    · exact z
    · have := Int.mul_nonpos_of_nonpos_of_nonneg (a := P.T (s p) k (q p)) (b := P.T (s e) P.m (s p k)) (by omega) c0
      omega
  have zz : Zero P (s p) (s p k) := by
    have : Zero P (s e) (s p k) := fun i hi ei => absurd ⟨i, hi, ei⟩ nin
    have := R.zero_later e _ this (p - e)
    rwa [show e + (p - e) = p by omega] at this
  have zk := zz k hk rfl
  have nr := g.near k hk kp
  rw [R.flat p, zk] at nr
  simp at nr
  omega
end circle

/-! ### so every run ends -/
theorem php : ∀ (N : Nat) (f : Nat → Nat), (∀ i, i ≤ N → f i < N) → ∃ i j, i < j ∧ j ≤ N ∧ f i = f j
  | 0, f, h => absurd (h 0 (Nat.le_refl _)) (by omega)
  | N + 1, f, h => by
    by_cases z : ∃ i, i ≤ N ∧ f i = f (N + 1)
    · obtain ⟨i, hi, e⟩ := z
      exact ⟨i, N + 1, by omega, Nat.le_refl _, e⟩
    · have ne : ∀ i, i ≤ N → f i ≠ f (N + 1) := fun i hi e => z ⟨i, hi, e⟩
      obtain ⟨i, j, hij, hj, e⟩ := php N (fun i => if f i = N then f (N + 1) else f i) fun i hi => by
        have a := h i (by omega)
        have b := h (N + 1) (Nat.le_refl _)
        have c := ne i hi
        by_cases q : f i = N
        · simp only [q, if_true]; omega
        · simp only [q, if_false]; omega
      refine ⟨i, j, hij, by omega, ?_⟩
      have ci := ne i (by omega)
      have cj := ne j hj
      by_cases qi : f i = N
      · by_cases qj : f j = N
        · rw [qi, qj]
        · simp only [qi, qj, if_true, if_false] at e; exact absurd e.symm cj
      · by_cases qj : f j = N
        · simp only [qi, qj, if_true, if_false] at e; exact absurd e ci
        · simpa only [qi, qj, if_false] using e
def code (K : Nat) (b : B) : Nat → Nat
  | 0 => 0
  | m + 1 => code K b m * K + b m
theorem code_lt {K : Nat} {b : B} : ∀ m, (∀ k, k < m → b k < K) → code K b m < K ^ m
  | 0, _ => by simp [code]
  | m + 1, h => by
    have a := code_lt m fun k hk => h k (by omega)
    have c := h m (by omega)
    rw [code, Nat.pow_succ]
    have : (code K b m + 1) * K ≤ K ^ m * K := Nat.mul_le_mul_right _ (by omega)
    rw [Nat.succ_mul] at this
    omega
theorem code_inj {K : Nat} {b d : B} : ∀ m, (∀ k, k < m → b k < K) → (∀ k, k < m → d k < K) → code K b m = code K d m → ∀ k, k < m → b k = d k
  | 0, _, _, _, k, hk => absurd hk (by omega)
  | m + 1, h, h', e, k, hk => by
    have c := h m (by omega)
    have c' := h' m (by omega)
    rw [code, code] at e
    have e1 : b m = d m := by
      have := congrArg (· % K) e
      simpa [Nat.add_mod, Nat.mod_eq_of_lt c, Nat.mod_eq_of_lt c'] using this
    have e2 : code K b m = code K d m := by
      rw [e1] at e
      have : code K b m * K = code K d m * K := by omega
      exact Nat.eq_of_mul_eq_mul_right (by omega) this
    by_cases q : k = m
    · rw [q, e1]
    · exact code_inj m (fun k hk => h k (by omega)) (fun k hk => h' k (by omega)) e2 k (by omega)
/-- a chain of so many turns -/
def Ch (P : Lp) : Nat → B → Prop
  | 0, _ => True
  | n + 1, b => ∃ b' q r, P.Turn b b' q r ∧ Ch P n b'
theorem Ch.seq : ∀ (n : Nat) (b : B), Ch P n b → ∃ (s : Nat → B) (q r : Nat → Nat), s 0 = b ∧ ∀ i, i < n → P.Turn (s i) (s (i + 1)) (q i) (r i)
  | 0, b, _ => ⟨fun _ => b, fun _ => 0, fun _ => 0, rfl, fun i hi => absurd hi (by omega)⟩
  | n + 1, b, ⟨b', q, r, h, c⟩ => by
    obtain ⟨s, qs, rs, e, g⟩ := Ch.seq n b' c
    refine ⟨fun i => match i with | 0 => b | i + 1 => s i, fun i => match i with | 0 => q | i + 1 => qs i, fun i => match i with | 0 => r | i + 1 => rs i, rfl, fun i hi => ?_⟩
    match i with
    | 0 => simp only; rw [e]; exact h
    | i + 1 => exact g i (by omega)
def most (P : Lp) : Nat := P.fin ^ P.m
theorem ends {b : B} (o : P.Ok b) : ¬ Ch P P.most b := fun c => by
  obtain ⟨s, q, r, e, g⟩ := Ch.seq _ _ c
  have ok : ∀ i, i ≤ P.most → P.Ok (s i) := by
    intro i
    induction i with
    | zero => intro _; rw [e]; exact o
    | succ i ih => intro hi; exact (g i (by omega)).ok (ih (by omega))
  have tail : ∀ i, i ≤ P.most → ∀ k, P.m ≤ k → s i k = s 0 k := by
    intro i
    induction i with
    | zero => intro _ k _; rfl
    | succ i ih =>
      intro hi k hk
      have t := g i (by omega)
      rw [t.to]
      have : k ≠ r i := by have := t.hr; omega
      simp only [put, this, if_false]
      exact ih (by omega) k hk
  obtain ⟨i, j, hij, hj, ec⟩ := php P.most (fun i => code P.fin (s i) P.m) fun i hi => code_lt _ (ok i hi).lt
  have es : s i = s j := by
    funext k
    by_cases hk : k < P.m
    · exact code_inj P.m (ok i (by omega)).lt (ok j hj).lt ec k hk
    · rw [tail i (by omega) k (by omega), tail j hj k (by omega)]
  have hL : 0 < j - i := by omega
  refine Run.no (P := P) (s := fun n => s (i + n % (j - i))) (q := fun n => q (i + n % (j - i))) (r := fun n => r (i + n % (j - i))) (n0 := j - i) ⟨by simpa using ok i (by omega), fun n => ?_, fun n => ?_, hL⟩
  · have lt := Nat.mod_lt n hL
    have t := g (i + n % (j - i)) (by omega)
    have en : s (i + n % (j - i) + 1) = s (i + (n + 1) % (j - i)) := by
      by_cases z : n % (j - i) + 1 = j - i
      · have : (n + 1) % (j - i) = 0 := by
          rw [← Nat.mod_add_mod, z, Nat.mod_self]
        rw [this, show i + n % (j - i) + 1 = j by omega]
        exact es.symm
      · have : (n + 1) % (j - i) = n % (j - i) + 1 := by
          rw [← Nat.mod_add_mod]
          exact Nat.mod_eq_of_lt (by omega)
        rw [this]; rfl
    show P.Turn (s (i + n % (j - i))) (s (i + (n + 1) % (j - i))) _ _
    rw [← en]; exact t
  · show s (i + (n + (j - i)) % (j - i)) = s (i + n % (j - i))
    rw [Nat.add_mod_right]
end Lp
end Mc
/-! Mathematics 3: what the last table says: counts that keep claims, or weights that bar them. -/
namespace Mc
namespace Lp
variable (P : Lp)
def b0 : B := fun k => P.many + k
theorem help_un (i : Nat) (hi : i < P.m) : P.col (P.many + i) = un i := by
  funext j
  by_cases h : j < P.m + 1
  · exact P.col_help i hi j h
  · have h1 := P.col_help i hi P.m (by omega)
    have : P.col (P.many + i) j = P.col (P.many + i) P.m := by simp [col, show ¬ j < P.m by omega]
    rw [this, h1]
    simp [un]; omega
theorem L_b0 : P.L P.b0 = (List.range (P.m + 1)).map fun j => un (P.m + 1 - 1 - j) := by
  unfold L
  refine List.map_congr_left fun j hj => ?_
  unfold vec b0
  by_cases h : P.m - j < P.m
  · rw [if_pos h, help_un _ _ h]; rfl
  · rw [if_neg h]
    congr 1
    omega
theorem U_b0 : P.U P.b0 = 1 := by unfold U; rw [L_b0]; exact det_units _
theorem t_help (i k : Nat) (hk : k < P.m) : P.t i (P.many + k) = if i = k then 1 else 0 := by
  unfold t
  rw [if_neg (by omega), if_pos (by omega)]
  by_cases e : i = k
  · simp [e]
  · rw [if_neg (by omega), if_neg e]
theorem T_b0 (k c : Nat) (hk : k < P.m) : P.T P.b0 k c = P.t k c := by
  have h := P.cramC P.b0 k c hk
  rw [U_b0, sm_one hk fun i hi hne => by rw [show P.b0 i = P.many + i from rfl, t_help _ _ _ hi, if_neg (Ne.symm hne)]; simp] at h
  rw [show P.b0 k = P.many + k from rfl, t_help _ _ _ hk, if_pos rfl] at h
  omega
theorem hp_b0 (k : Nat) (hk : k < P.m) : P.hp (P.b0 k) = 1 := by unfold hp b0; rw [if_pos ⟨by omega, by omega⟩]
theorem T_b0_cost (c : Nat) : P.T P.b0 P.m c = P.hp c - sm P.m fun k => P.t k c := by
  rw [P.cost, U_b0, sm_congr fun k hk => by rw [T_b0 P k c hk, hp_b0 P k hk, Int.mul_one]]
  omega
theorem t_fin (i : Nat) : P.t i P.fin = P.e i := by unfold t fin; rw [if_neg (by omega), if_neg (by omega)]
theorem hp_fin : P.hp P.fin = 0 := by unfold hp fin; rw [if_neg (by omega)]
theorem ok_b0 : P.Ok P.b0 := ⟨by rw [U_b0]; decide, fun k hk => by rw [T_b0 P k _ hk, t_fin]; exact P.en k, fun k hk => by unfold b0 fin; omega⟩

/-- no column can come in -/
def Opt (b : B) : Prop := ∀ c, c < P.many → 0 ≤ P.T b P.m c
/-- what a column holds -/
def x (b : B) (c : Nat) : Int := sm P.m fun k => if b k = c then P.T b k P.fin else 0
variable {P}
theorem x_nn {b : B} (o : P.Ok b) (c : Nat) : 0 ≤ P.x b c := sm_nonneg fun k hk => by
  by_cases e : b k = c
  · rw [if_pos e]; exact o.nn k hk
  · rw [if_neg e]; omega
theorem x_at {b : B} (o : P.Ok b) {k : Nat} (hk : k < P.m) : P.x b (b k) = P.T b k P.fin := by
  unfold x
  rw [sm_one hk fun i hi hne => if_neg fun e => hne (o.inj hi hk e), if_pos rfl]
theorem x_none {b : B} {c : Nat} (h : ∀ k, k < P.m → b k ≠ c) : P.x b c = 0 := sm_zero fun k hk => if_neg (h k hk)
theorem x_row {b : B} (o : P.Ok b) (z : P.T b P.m P.fin = 0) (i : Nat) (hi : i < P.m) : sm P.many (fun c => P.a i c * P.x b c) = P.e i * P.U b := by
  have hz : ∀ k, k < P.m → P.T b k P.fin * P.hp (b k) = 0 := by
    have h := P.cost b P.fin
    rw [z, hp_fin] at h
    refine sm_zero_each (fun k hk => ?_) (by omega)
    refine Int.mul_nonneg (o.nn k hk) ?_
    unfold hp; split <;> omega
  have h := P.cramC b i P.fin hi
  rw [t_fin] at h
  rw [h]
  have e : sm P.many (fun c => P.a i c * P.x b c) = sm P.many (fun c => sm P.m fun k => if b k = c then P.a i c * P.T b k P.fin else 0) := sm_congr fun c hc => by
    unfold x
    rw [← sm_mul]
    exact sm_congr fun k hk => by split <;> simp
  rw [e, sm_comm]
  refine sm_congr fun k hk => ?_
  by_cases hb : b k < P.many
  · rw [sm_one hb fun c hc hne => if_neg (Ne.symm hne), if_pos rfl]
    unfold t
    rw [if_pos hb]
  · rw [sm_zero fun c hc => if_neg (by omega)]
    have h1 := hz k hk
    rw [show P.hp (b k) = 1 by unfold hp; rw [if_pos ⟨by omega, o.lt k hk⟩]] at h1
    rw [Int.mul_one] at h1
    rw [h1]; simp
theorem y_row {b : B} (op : P.Opt b) (c : Nat) (hc : c < P.many) : sm P.m (fun i => P.y b i * P.a i c) ≤ 0 := by
  have h := P.costY b c
  rw [show P.hp c = 0 by unfold hp; rw [if_neg (by omega)]] at h
  have e : sm P.m (fun i => P.y b i * P.t i c) = sm P.m (fun i => P.y b i * P.a i c) := sm_congr fun i hi => by unfold t; rw [if_pos hc]
  have := op c hc
  omega
theorem y_fin {b : B} (o : P.Ok b) (z : P.T b P.m P.fin ≠ 0) : 0 < sm P.m (fun i => P.y b i * P.e i) := by
  have h := P.costY b P.fin
  have h' := P.cost b P.fin
  rw [hp_fin] at h h'
  have e : sm P.m (fun i => P.y b i * P.t i P.fin) = sm P.m (fun i => P.y b i * P.e i) := sm_congr fun i hi => by rw [t_fin]
  have : 0 ≤ sm P.m (fun k => P.T b k P.fin * P.hp (b k)) := sm_nonneg fun k hk => Int.mul_nonneg (o.nn k hk) (by unfold hp; split <;> omega)
  omega
end Lp

/-! ### bounds of all entries -/
theorem l1_le {n : Nat} {v : Vc} {K : Int} (h : ∀ i, i < n → ((v i).natAbs : Int) ≤ K) : l1 n v ≤ n * K := by
  unfold l1
  induction n with
  | zero => simp [sm]
  | succ n ih =>
    rw [sm]
    have h1 := ih fun i hi => h i (by omega)
    have h2 := h n (by omega)
    have e : ((n + 1 : Nat) : Int) * K = n * K + K := by grind
    omega
theorem abs_sm {n : Nat} {f : Nat → Int} {K : Int} (h : ∀ i, i < n → ((f i).natAbs : Int) ≤ K) : ((sm n f).natAbs : Int) ≤ n * K := by
  induction n with
  | zero => simp [sm]
  | succ n ih =>
    rw [sm]
    have h1 := ih fun i hi => h i (by omega)
    have h2 := h n (by omega)
    have e : ((n + 1 : Nat) : Int) * K = n * K + K := by grind
    omega
namespace Lp
variable (P : Lp)
/-- the rows' entries are at most K in size -/
def Sml (K : Nat) : Prop := 1 ≤ K ∧ ∀ i, i < P.m → (∀ c, c < P.many → (P.a i c).natAbs ≤ K) ∧ (P.e i).natAbs ≤ K
def lid (K : Nat) : Nat := (2 * P.m * K + K) ^ (P.m + 1)
variable {P} {K : Nat}
theorem t_sml (h : P.Sml K) (i c : Nat) (hi : i < P.m) : (P.t i c).natAbs ≤ K := by
  have h1 := h.1
  obtain ⟨ha, he⟩ := h.2 i hi
  unfold t
  by_cases hc : c < P.many
  · rw [if_pos hc]; exact ha c hc
  · rw [if_neg hc]
    by_cases hc' : c < P.many + P.m
    · rw [if_pos hc']; split
      · omega
      · simp
    · rw [if_neg hc']; exact he
theorem col_l1 (h : P.Sml K) (c : Nat) : l1 (P.m + 1) (P.col c) ≤ ((2 * P.m * K + K : Nat) : Int) := by
  have e : l1 (P.m + 1) (P.col c) = l1 P.m (P.col c) + (P.col c P.m).natAbs := rfl
  have h1 : l1 P.m (P.col c) ≤ P.m * (K : Int) := l1_le fun i hi => by rw [col_lo _ _ _ hi]; have := t_sml h i c hi; omega
  have h2 : ((sm P.m fun j => P.t j c).natAbs : Int) ≤ P.m * (K : Int) := abs_sm fun i hi => by have := t_sml h i c hi; omega
  have h3 : ((P.hp c).natAbs : Int) ≤ K := by
    have := h.1
    unfold hp
    split
    · simp; omega
    · simp
  rw [e, col_hi]
  have e2 : ((2 * P.m * K + K : Nat) : Int) = P.m * (K : Int) + P.m * (K : Int) + K := by
    simp only [Int.natCast_add, Int.natCast_mul]; grind
  rw [e2]
  omega
theorem vec_l1 (h : P.Sml K) (b : B) (k : Nat) : l1 (P.m + 1) (P.vec b k) ≤ ((2 * P.m * K + K : Nat) : Int) := by
  unfold vec
  split
  · exact col_l1 h _
  · have e : l1 (P.m + 1) (un P.m) = 1 := by
      unfold l1
      rw [sm_one (k := P.m) (by omega) fun i hi hne => by simp [un, hne]]
      simp [un]
    have := h.1
    rw [e]; omega
theorem T_lid (h : P.Sml K) (b : B) (k c : Nat) : (P.T b k c).natAbs ≤ P.lid K := by
  have := det_bound (P.m + 1) (2 * P.m * K + K) ((P.L b).set (P.m - k) (P.col c)) fun v hv => by
    rcases List.mem_or_eq_of_mem_set hv with q | q
    · obtain ⟨j, _, rfl⟩ := List.mem_map.mp q
      exact vec_l1 h b _
    · subst q; exact col_l1 h c
  rwa [List.length_set, L_len] at this
theorem U_lid (h : P.Sml K) (b : B) : (P.U b).natAbs ≤ P.lid K := by
  have := det_bound (P.m + 1) (2 * P.m * K + K) (P.L b) fun v hv => by
    obtain ⟨j, _, rfl⟩ := List.mem_map.mp hv
    exact vec_l1 h b _
  rwa [L_len] at this
end Lp

/-! ### claims as rows with sorts -/
inductive So where | least | more | even
  deriving DecidableEq
def right : So → Int → Prop
  | .least, v => 0 ≤ v
  | .more, v => 0 < v
  | .even, v => v = 0
/-- counts keep the rows -/
def Kept (m size : Nat) (R : Nat → Nat → Int) (S : Nat → So) (x : Nat → Int) : Prop := (∀ c, c < size → 0 ≤ x c) ∧ ∀ i, i < m → right (S i) (sm size fun c => R i c * x c)
/-- weights bar them -/
def Bar (m size : Nat) (R : Nat → Nat → Int) (S : Nat → So) (y : Nat → Int) : Prop := (∀ i, i < m → S i ≠ .even → 0 ≤ y i) ∧ (∃ i, i < m ∧ S i = .more ∧ 0 < y i) ∧ ∀ c, c < size → sm m (fun i => y i * R i c) ≤ 0
theorem kept_bar {m size : Nat} {R : Nat → Nat → Int} {S : Nat → So} {x y : Nat → Int} (k : Kept m size R S x) (b : Bar m size R S y) : False := by
  obtain ⟨b1, ⟨j, hj, sj, pj⟩, b3⟩ := b
  have h1 : 0 < sm m (fun i => y i * sm size fun c => R i c * x c) := by
    have nn : ∀ i, i < m → 0 ≤ y i * sm size fun c => R i c * x c := fun i hi => by
      have r := k.2 i hi
      cases e : S i with
      | even => rw [e] at r; rw [show (sm size fun c => R i c * x c) = 0 from r]; simp
      | least => rw [e] at r; exact Int.mul_nonneg (b1 i hi (by rw [e]; decide)) r
      | more => rw [e] at r; exact Int.mul_nonneg (b1 i hi (by rw [e]; decide)) (by have z : 0 < sm size fun c => R i c * x c := r; omega)
    have r := k.2 j hj
    rw [sj] at r
    have pp : 0 < y j * sm size fun c => R j c * x c := Int.mul_pos pj r
    by_cases z : sm m (fun i => y i * sm size fun c => R i c * x c) = 0
    · have := sm_zero_each nn z j hj; omega
    · have := sm_nonneg nn; omega
  have h2 : sm m (fun i => y i * sm size fun c => R i c * x c) = sm size (fun c => x c * sm m (fun i => y i * R i c)) := by
    rw [sm_congr fun i hi => (sm_mul (y i) _).symm, sm_comm]
    refine sm_congr fun c hc => ?_
    rw [← sm_mul]
    exact sm_congr fun i hi => by grind
  have h3 : sm size (fun c => x c * sm m (fun i => y i * R i c)) ≤ 0 := by
    have : sm size (fun c => x c * sm m (fun i => y i * R i c)) ≤ sm size (fun _ => 0) := sm_le fun c hc => Int.mul_nonpos_of_nonneg_of_nonpos (k.1 c hc) (b3 c hc)
    rw [sm_zero (f := fun _ => 0) fun _ _ => rfl] at this
    exact this
  omega
/-- divided by a common part -/
theorem right_scale {s : So} {g v : Int} (hg : 0 < g) (h : right s (g * v)) : right s v := by
  cases s with
  | least => exact Int.nonneg_of_mul_nonneg_right h hg
  | more => exact Int.pos_of_mul_pos_right h (by omega) |> fun z => z
  | even =>
    rcases Int.mul_eq_zero.mp (show g * v = 0 from h) with z | z
    · omega
    · exact z
theorem Kept.scale {m size : Nat} {R : Nat → Nat → Int} {S : Nat → So} {x x' : Nat → Int} {g : Int} (hg : 0 < g) (e : ∀ c, c < size → x c = g * x' c) (k : Kept m size R S x) : Kept m size R S x' := by
  refine ⟨fun c hc => ?_, fun i hi => ?_⟩
  · have := k.1 c hc
    rw [e c hc] at this
    exact Int.nonneg_of_mul_nonneg_right this hg
  · have := k.2 i hi
    rw [show (sm size fun c => R i c * x c) = g * sm size fun c => R i c * x' c by rw [← sm_mul]; exact sm_congr fun c hc => by rw [e c hc]; grind] at this
    exact right_scale hg this
theorem Bar.scale {m size : Nat} {R : Nat → Nat → Int} {S : Nat → So} {y y' : Nat → Int} {g : Int} (hg : 0 < g) (e : ∀ i, i < m → y i = g * y' i) (k : Bar m size R S y) : Bar m size R S y' := by
  obtain ⟨b1, ⟨j, hj, sj, pj⟩, b3⟩ := k
  refine ⟨fun i hi hs => ?_, ⟨j, hj, sj, ?_⟩, fun c hc => ?_⟩
  · have := b1 i hi hs
    rw [e i hi] at this
    exact Int.nonneg_of_mul_nonneg_right this hg
  · rw [e j hj] at pj
    exact right_scale (s := .more) hg pj
  · have := b3 c hc
    rw [sm_congr (g := fun i => g * (y' i * R i c)) fun i hi => by rw [e i hi]; grind, sm_mul] at this
    by_cases z : sm m (fun i => y' i * R i c) ≤ 0
    · exact z
    · have := Int.mul_pos hg (show 0 < sm m (fun i => y' i * R i c) by omega)
      omega

/-- the slacks' rows: the places of the sorts that are not even -/
def slk (m : Nat) (S : Nat → So) : List Nat := (List.range m).filter fun i => decide (S i ≠ .even)
theorem slk_mem {m : Nat} {S : Nat → So} {i : Nat} : i ∈ slk m S ↔ i < m ∧ S i ≠ .even := by simp [slk]
theorem slk_nodup (m : Nat) (S : Nat → So) : (slk m S).Nodup := List.Nodup.sublist List.filter_sublist List.nodup_range
/-- the search for counts of rows with sorts -/
def lpOf (m size : Nat) (R : Nat → Nat → Int) (S : Nat → So) : Lp where
  m := m
  many := size + (slk m S).length
  a := fun i c => if c < size then R i c else if (slk m S)[c - size]? = some i then -1 else 0
  e := fun i => if S i = .more then 1 else 0
  en := fun i => by
    show (0 : Int) ≤ if S i = .more then 1 else 0
    split <;> decide
section
variable {m size : Nat} {R : Nat → Nat → Int} {S : Nat → So}
theorem slack_sum (x : Nat → Int) (i : Nat) : sm (slk m S).length (fun j => (lpOf m size R S).a i (size + j) * x (size + j)) = - sm (slk m S).length (fun j => if (slk m S)[j]? = some i then x (size + j) else 0) := by
  rw [← sm_neg]
  refine sm_congr fun j hj => ?_
  show (if size + j < size then R i (size + j) else if (slk m S)[size + j - size]? = some i then -1 else 0) * x (size + j) = _
  rw [if_neg (by omega), show size + j - size = j by omega]
  split <;> simp
theorem solved_kept {b : Lp.B} (o : (lpOf m size R S).Ok b) (z : (lpOf m size R S).T b m (lpOf m size R S).fin = 0) : Kept m size R S ((lpOf m size R S).x b) := by
  refine ⟨fun c _ => Lp.x_nn o c, fun i hi => ?_⟩
  have h := Lp.x_row o z i hi
  have hs : sm (lpOf m size R S).many (fun c => (lpOf m size R S).a i c * (lpOf m size R S).x b c) = sm size (fun c => R i c * (lpOf m size R S).x b c) - sm (slk m S).length (fun j => if (slk m S)[j]? = some i then (lpOf m size R S).x b (size + j) else 0) := by
    show sm (size + (slk m S).length) _ = _
    rw [sm_split, slack_sum]
    rw [sm_congr (g := fun c => R i c * (lpOf m size R S).x b c) fun c hc => by
      show (if c < size then R i c else _) * _ = _
      rw [if_pos hc]]
    omega
  have hp := o.pos
  have hx : 0 ≤ sm (slk m S).length (fun j => if (slk m S)[j]? = some i then (lpOf m size R S).x b (size + j) else 0) := sm_nonneg fun j hj => by
    split
    · exact Lp.x_nn o _
    · omega
  rw [hs] at h
  have he : (lpOf m size R S).e i = if S i = .more then 1 else 0 := rfl
  rw [he] at h
  cases e : S i with
  | least =>
    rw [e, if_neg (by decide)] at h
    show 0 ≤ sm size fun c => R i c * (lpOf m size R S).x b c
    omega
  | more =>
    rw [e, if_pos rfl] at h
    show 0 < sm size fun c => R i c * (lpOf m size R S).x b c
    omega
  | even =>
    rw [e, if_neg (by decide), sm_zero fun j hj => if_neg fun q => (slk_mem.mp (List.mem_of_getElem? q)).2 e] at h
    show (sm size fun c => R i c * (lpOf m size R S).x b c) = 0
    omega
theorem barred_bar {b : Lp.B} (o : (lpOf m size R S).Ok b) (op : (lpOf m size R S).Opt b) (z : (lpOf m size R S).T b m (lpOf m size R S).fin ≠ 0) : Bar m size R S ((lpOf m size R S).y b) := by
  have nn : ∀ i, i < m → S i ≠ .even → 0 ≤ (lpOf m size R S).y b i := fun i hi hs => by
    obtain ⟨j, hj, e⟩ := List.mem_iff_getElem.mp (slk_mem.mpr ⟨hi, hs⟩)
    have h := Lp.y_row op (size + j) (show size + j < size + (slk m S).length by omega)
    have hone : sm m (fun k => (lpOf m size R S).y b k * (lpOf m size R S).a k (size + j)) = (lpOf m size R S).y b i * (lpOf m size R S).a i (size + j) := sm_one hi fun k hk hne => by
      show _ * (if size + j < size then _ else if (slk m S)[size + j - size]? = some k then -1 else 0) = 0
      rw [if_neg (by omega), show size + j - size = j by omega, if_neg fun q => by
        rw [List.getElem?_eq_getElem hj, e] at q
        exact hne (Option.some.inj q).symm]
      simp
    have ha : (lpOf m size R S).a i (size + j) = -1 := by
      show (if size + j < size then _ else if (slk m S)[size + j - size]? = some i then -1 else 0) = _
      rw [if_neg (by omega), show size + j - size = j by omega, if_pos (by rw [List.getElem?_eq_getElem hj, e])]
    have h' : sm m (fun k => (lpOf m size R S).y b k * (lpOf m size R S).a k (size + j)) ≤ 0 := h
    rw [hone, ha] at h'
    omega
  refine ⟨nn, ?_, fun c hc => ?_⟩
  · obtain ⟨i, hi, hp⟩ := sm_pos_ex (Lp.y_fin o z)
    have he : (lpOf m size R S).e i = if S i = .more then 1 else 0 := rfl
    rw [he] at hp
    by_cases q : S i = .more
    · rw [if_pos q] at hp
      exact ⟨i, hi, q, by omega⟩
    · rw [if_neg q] at hp; omega
  · have h := Lp.y_row op c (show c < size + (slk m S).length by omega)
    have : sm m (fun i => (lpOf m size R S).y b i * (lpOf m size R S).a i c) = sm m (fun i => (lpOf m size R S).y b i * R i c) := sm_congr fun i hi => by
      show _ * (if c < size then _ else _) = _
      rw [if_pos hc]
    have h' : sm m (fun i => (lpOf m size R S).y b i * (lpOf m size R S).a i c) ≤ 0 := h
    omega
/-- few columns hold something -/
theorem few {b : Lp.B} (c : Nat) (h : (lpOf m size R S).x b c ≠ 0) : ∃ k, k < m ∧ b k = c := Classical.byContradiction fun n => h (Lp.x_none fun k hk e => n ⟨k, hk, e⟩)
theorem sml_of {K : Nat} (hK : 1 ≤ K) (h : ∀ i, i < m → ∀ c, c < size → (R i c).natAbs ≤ K) : (lpOf m size R S).Sml K := by
  refine ⟨hK, fun i hi => ⟨fun c hc => ?_, ?_⟩⟩
  · show (if c < size then R i c else if (slk m S)[c - size]? = some i then -1 else 0).natAbs ≤ K
    by_cases q : c < size
    · rw [if_pos q]; exact h i hi c q
    · rw [if_neg q]; split
      · exact hK
      · simp
  · show (if S i = .more then (1 : Int) else 0).natAbs ≤ K
    split
    · exact hK
    · simp
end
end Mc
/-! Groups as data: what has a kind, their names; how they lie in the heap; masks. -/
namespace Mc
open PySem PySem.Spec PyProof.Rows L2

/-! ### forms -/
inductive Gf where
  | mk (sign word : Str) (num : Nat) (parts : List Gf)
def Gf.sign : Gf → Str | .mk s _ _ _ => s
def Gf.word : Gf → Str | .mk _ w _ _ => w
def Gf.num : Gf → Nat | .mk _ _ n _ => n
def Gf.parts : Gf → List Gf | .mk _ _ _ ps => ps
def sgn (s : Str) (b : Bool) (n : Nat) (bs : List Bool) : Bool :=
  if s = "name" then b else if s = "none" then false else if s = "&" then bs.getD 0 false && bs.getD 1 false else if s = "|" then bs.getD 0 false || bs.getD 1 false
  else if s = "^" then bs.getD 0 false != bs.getD 1 false else if s = "-" then bs.getD 0 false && !bs.getD 1 false else if s = "at" then decide (n ≤ bs.count true)
  else if s = "all" then true else !bs.getD 0 false
mutual
def hasF (p : Str → Bool) : Gf → Bool
  | .mk s w n ps => sgn s (p w) n (hasFs p ps)
def hasFs (p : Str → Bool) : List Gf → List Bool
  | [] => []
  | f :: fs => hasF p f :: hasFs p fs
end
mutual
def wordsF : Gf → List Str
  | .mk s w _ ps => if s = "name" then [w] else wordsFs ps
def wordsFs : List Gf → List Str
  | [] => []
  | f :: fs => wordsF f ++ wordsFs fs
end
mutual
def slen : Gf → Nat
  | .mk s _ _ ps => if s = "name" then 1 else 1 + (if s = "at" then 2 else 0) + slens ps
def slens : List Gf → Nat
  | [] => 0
  | f :: fs => slen f + slens fs
end
mutual
def depth : Gf → Nat
  | .mk _ _ _ ps => depths ps
def depths : List Gf → Nat
  | [] => 0
  | f :: fs => max (depth f + 1) (depths fs)
end
/-- the parts are as many as the sign wants -/
def arity (s : Str) (n : Nat) : Prop := (s = "name" ∧ n = 0) ∨ (s = "all" ∧ n = 0) ∨ (s = "none" ∧ n = 0) ∨ (s = "~" ∧ n = 1) ∨ (s = "at" ∧ n ≤ 3) ∨ (s = "&" ∧ n = 2) ∨ (s = "|" ∧ n = 2) ∨ (s = "-" ∧ n = 2) ∨ (s = "^" ∧ n = 2)
mutual
/-- well made: of names that are names -/
def Good (ws : List Str) : Gf → Prop
  | .mk s w n ps => arity s ps.length ∧ (s = "name" → w ∈ ws) ∧ (s ≠ "name" → w = "") ∧ n ≤ 3 ∧ Goods ws ps
def Goods (ws : List Str) : List Gf → Prop
  | [] => True
  | f :: fs => Good ws f ∧ Goods ws fs
end
theorem goods_mem {ws : List Str} : ∀ {fs : List Gf}, Goods ws fs → ∀ f ∈ fs, Good ws f
  | [], _, _, h => by cases h
  | g :: gs, h, f, hf => by
    rcases List.mem_cons.mp hf with e | e
    · rw [e]; exact h.1
    · exact goods_mem h.2 f e
theorem goods_of {ws : List Str} : ∀ {fs : List Gf}, (∀ f ∈ fs, Good ws f) → Goods ws fs
  | [], _ => trivial
  | g :: gs, h => ⟨h g List.mem_cons_self, goods_of fun f hf => h f (List.mem_cons_of_mem _ hf)⟩
theorem depths_mem : ∀ {fs : List Gf} {f : Gf}, f ∈ fs → depth f + 1 ≤ depths fs
  | g :: gs, f, h => by
    rw [depths]
    rcases List.mem_cons.mp h with e | e
    · rw [e]; omega
    · have := depths_mem e; omega
mutual
theorem slen_le : ∀ f : Gf, ∀ ws, Good ws f → slen f ≤ 6 ^ (depth f + 1)
  | .mk s w n ps, ws, h => by
    have hl : ps.length ≤ 3 := by
      rcases h.1 with ⟨_, e⟩ | ⟨_, e⟩ | ⟨_, e⟩ | ⟨_, e⟩ | ⟨_, e⟩ | ⟨_, e⟩ | ⟨_, e⟩ | ⟨_, e⟩ | ⟨_, e⟩ <;> omega
    have := slens_le ps ws h.2.2.2.2
    rw [slen, depth]
    have p1 : 1 ≤ 6 ^ depths ps := Nat.pow_pos (by decide)
    rw [Nat.pow_succ]
    have : ps.length * 6 ^ depths ps ≤ 3 * 6 ^ depths ps := Nat.mul_le_mul_right _ hl
    split
    · omega
    · split <;> omega
theorem slens_le : ∀ fs : List Gf, ∀ ws, Goods ws fs → slens fs ≤ fs.length * 6 ^ depths fs
  | [], _, _ => by simp [slens]
  | f :: fs, ws, h => by
    have h1 := slen_le f ws h.1
    have h2 := slens_le fs ws h.2
    rw [slens, depths, List.length_cons, Nat.succ_mul]
    have a : 6 ^ (depth f + 1) ≤ 6 ^ max (depth f + 1) (depths fs) := Nat.pow_le_pow_right (by decide) (by omega)
    have b : fs.length * 6 ^ depths fs ≤ fs.length * 6 ^ max (depth f + 1) (depths fs) := Nat.mul_le_mul_left _ (Nat.pow_le_pow_right (by decide) (by omega))
    omega
end

/-! ### what is built whole stands -/
/-- what is built whole: a tuple, an instance with its script -/
def Whole : HO → Prop
  | .tup _ => True
  | .ins _ _ fs => ∃ v, fs.lookup ("script" : Str) = some v
  | _ => False
def ISame (H H' : Hp) : Prop := ∀ b o, H b = some o → Whole o → H' b = some o
theorem _root_.L2.Same.i {H H' : Hp} (h : Same H H') : ISame H H' := fun b o e _ => h b o e
theorem ISame.refl (H : Hp) : ISame H H := fun _ _ e _ => e
theorem ISame.trans {H H1 H2 : Hp} (a : ISame H H1) (b : ISame H1 H2) : ISame H H2 := fun c o e n => b c o (a c o e n) n
/-- D holds nothing whole -/
def Raw (H : Hp) (D : Addr) : Prop := ∀ o, H D = some o → ¬ Whole o
theorem SameX.i {D : Addr} {H H' : Hp} (h : SameX D H H') (r : Raw H D) : ISame H H' := fun b o q n => h b o q fun z => by
  subst z
  exact r o q n
theorem raw_lst {H : Hp} {D : Addr} {xs : List V} (e : H D = some (.lst xs)) : Raw H D := fun o q n => by
  rw [e] at q
  rw [← Option.some.inj q] at n
  exact n
theorem raw_ins {H : Hp} {D C dx : Addr} {fs : List (Str × V)} (e : H D = some (.ins C dx fs)) (h : fs.lookup ("script" : Str) = none) : Raw H D := fun o q n => by
  rw [e] at q
  rw [← Option.some.inj q] at n
  obtain ⟨v, hv⟩ := n
  rw [h] at hv
  cases hv
theorem raw_none {H : Hp} {D : Addr} (e : H D = none) : Raw H D := fun o q n => by
  rw [e] at q
  cases q
theorem ISame.tup {H H' : Hp} (h : ISame H H') {a : Addr} {xs : List V} (e : H a = some (.tup xs)) : H' a = some (.tup xs) := h a _ e trivial
theorem ISame.ins {H H' : Hp} (h : ISame H H') {a C dx : Addr} {fs : List (Str × V)} (e : H a = some (.ins C dx fs)) {v : V} (hv : fs.lookup ("script" : Str) = some v) : H' a = some (.ins C dx fs) := h a _ e ⟨v, hv⟩

/-! ### groups in the heap -/
abbrev gFields (s : Str) (pa : Addr) (w : Str) (n : Nat) (na sa : Addr) : List (Str × V) := [("sign", .str s), ("parts", .ref pa), ("word", .str w), ("number", .int n), ("names", .ref na), ("script", .ref sa)]
mutual
/-- v is a group of the class at C -/
def GRep (C : Addr) (H : Hp) : Gf → V → Prop
  | .mk s w n ps, v => ∃ (a dx pa na sa : Addr) (xs : List V) (ys zs : List Str), v = .ref a ∧ H a = some (.ins C dx (gFields s pa w n na sa)) ∧ H pa = some (.tup xs) ∧ GReps C H ps xs ∧
      H na = some (.tup (ys.map V.str)) ∧ Asc (wordsF (.mk s w n ps)) ys ∧ H sa = some (.tup (zs.map V.str)) ∧ zs.length = slen (.mk s w n ps)
def GReps (C : Addr) (H : Hp) : List Gf → List V → Prop
  | [], xs => xs = []
  | f :: fs, xs => ∃ x xs', xs = x :: xs' ∧ GRep C H f x ∧ GReps C H fs xs'
end
mutual
theorem GRep.mono {C : Addr} {H H' : Hp} (h : ISame H H') : ∀ (f : Gf) (v : V), GRep C H f v → GRep C H' f v
  | .mk s w n ps, v, ⟨a, dx, pa, na, sa, xs, ys, zs, e, ha, hp, hg, hn, asc, hs, hz⟩ => ⟨a, dx, pa, na, sa, xs, ys, zs, e, h.ins ha rfl, h.tup hp, GReps.mono h ps xs hg, h.tup hn, asc, h.tup hs, hz⟩
theorem GReps.mono {C : Addr} {H H' : Hp} (h : ISame H H') : ∀ (fs : List Gf) (xs : List V), GReps C H fs xs → GReps C H' fs xs
  | [], _, e => e
  | f :: fs, _, ⟨x, xs', e, a, b⟩ => ⟨x, xs', e, GRep.mono h f x a, GReps.mono h fs xs' b⟩
end
theorem greps_paired {C : Addr} {H : Hp} : ∀ {fs : List Gf} {xs : List V}, GReps C H fs xs ↔ Paired (GRep C H) fs xs
  | [], xs => ⟨fun e => by rw [show xs = [] from e]; exact .nil, fun h => by cases h; rfl⟩
  | f :: fs, xs => ⟨fun ⟨x, xs', e, a, b⟩ => by rw [e]; exact .cons a (greps_paired.mp b), fun h => by cases h with | cons a b => exact ⟨_, _, rfl, a, greps_paired.mpr b⟩⟩
/-! ### the law's forms in the heap -/
mutual
def FRep (H : Hp) : Gf → V → Prop
  | .mk s w n ps, v => ∃ a : Addr, v = .ref a ∧
      ((s = "name" ∧ n = 0 ∧ H a = some (.tup [.str "name", .str w])) ∨
      (s = "at" ∧ ∃ (pa : Addr) (xs : List V), H a = some (.tup [.str "at", .int n, .ref pa]) ∧ H pa = some (.tup xs) ∧ FReps H ps xs) ∨
      (s ≠ "name" ∧ s ≠ "at" ∧ n = 0 ∧ ∃ xs : List V, H a = some (.tup (.str s :: xs)) ∧ FReps H ps xs))
def FReps (H : Hp) : List Gf → List V → Prop
  | [], xs => xs = []
  | f :: fs, xs => ∃ x xs', xs = x :: xs' ∧ FRep H f x ∧ FReps H fs xs'
end
mutual
theorem FRep.mono {H H' : Hp} (h : ISame H H') : ∀ (f : Gf) (v : V), FRep H f v → FRep H' f v
  | .mk s w n ps, v, ⟨a, e, q⟩ => by
    refine ⟨a, e, ?_⟩
    rcases q with ⟨e1, e0, q⟩ | ⟨e1, pa, xs, q1, q2, q3⟩ | ⟨e1, e2, e3, xs, q1, q3⟩
    · exact .inl ⟨e1, e0, h.tup q⟩
    · exact .inr (.inl ⟨e1, pa, xs, h.tup q1, h.tup q2, FReps.mono h ps xs q3⟩)
    · exact .inr (.inr ⟨e1, e2, e3, xs, h.tup q1, FReps.mono h ps xs q3⟩)
theorem FReps.mono {H H' : Hp} (h : ISame H H') : ∀ (fs : List Gf) (xs : List V), FReps H fs xs → FReps H' fs xs
  | [], _, e => e
  | f :: fs, _, ⟨x, xs', e, a, b⟩ => ⟨x, xs', e, FRep.mono h f x a, FReps.mono h fs xs' b⟩
end
theorem freps_paired {H : Hp} : ∀ {fs : List Gf} {xs : List V}, FReps H fs xs ↔ Paired (FRep H) fs xs
  | [], xs => ⟨fun e => by rw [show xs = [] from e]; exact .nil, fun h => by cases h; rfl⟩
  | f :: fs, xs => ⟨fun ⟨x, xs', e, a, b⟩ => by rw [e]; exact .cons a (freps_paired.mp b), fun h => by cases h with | cons a b => exact ⟨_, _, rfl, a, freps_paired.mpr b⟩⟩
/-! ### claims -/
abbrev Tm := Int × Gf
/-- a claim: its sort, its terms -/
abbrev Cf := Str × List Tm
def wordsT (ts : List Tm) : List Str := ts.flatMap fun t => wordsF t.2
def wordsC (cs : List Cf) : List Str := cs.flatMap fun c => wordsT c.2
/-- v is a pair of a number and what R says -/
def Two (R : Hp → Gf → V → Prop) (H : Hp) (t : Tm) (v : V) : Prop := ∃ a x, v = .ref a ∧ H a = some (.tup [.int t.1, x]) ∧ R H t.2 x
theorem Two.mono {R : Hp → Gf → V → Prop} {H H' : Hp} (h : ISame H H') (m : ∀ f v, R H f v → R H' f v) {t : Tm} {v : V} (r : Two R H t v) : Two R H' t v := by
  obtain ⟨a, x, e, ha, q⟩ := r
  exact ⟨a, x, e, h.tup ha, m _ _ q⟩
/-- the law's claim -/
def LRep (H : Hp) (c : Cf) (v : V) : Prop := ∃ (a p : Addr) (xs : List V), v = .ref a ∧ H a = some (.tup [.str c.1, .ref p]) ∧ H p = some (.tup xs) ∧ Paired (Two FRep H) c.2 xs
theorem LRep.mono {H H' : Hp} (h : ISame H H') {c : Cf} {v : V} (r : LRep H c v) : LRep H' c v := by
  obtain ⟨a, p, xs, e, ha, hp, q⟩ := r
  exact ⟨a, p, xs, e, h.tup ha, h.tup hp, Paired.mapP q fun _ _ z => z.mono h (FRep.mono h)⟩
abbrev tFields (pa na sa : Addr) : List (Str × V) := [("terms", .ref pa), ("names", .ref na), ("script", .ref sa)]
/-- a tally: of the class at CT, of groups of the class at C -/
def TRep (C CT : Addr) (H : Hp) (ts : List Tm) (v : V) : Prop := ∃ (a dx pa na sa : Addr) (xs : List V) (ys zs : List Str), v = .ref a ∧ H a = some (.ins CT dx (tFields pa na sa)) ∧ H pa = some (.tup xs) ∧ Paired (Two (GRep C) H) ts xs ∧
  H na = some (.tup (ys.map V.str)) ∧ Asc (wordsT ts) ys ∧ H sa = some (.tup (zs.map V.str)) ∧ zs.length ≤ 1000000
theorem TRep.mono {C CT : Addr} {H H' : Hp} (h : ISame H H') {ts : List Tm} {v : V} (r : TRep C CT H ts v) : TRep C CT H' ts v := by
  obtain ⟨a, dx, pa, na, sa, xs, ys, zs, e, ha, hp, hg, hn, asc, hs, hz⟩ := r
  exact ⟨a, dx, pa, na, sa, xs, ys, zs, e, h.ins ha rfl, h.tup hp, Paired.mapP hg fun _ _ z => z.mono h (GRep.mono h), h.tup hn, asc, h.tup hs, hz⟩
abbrev cFields (s : Str) (t : V) (na sa : Addr) : List (Str × V) := [("word", .str s), ("tally", t), ("names", .ref na), ("script", .ref sa)]
def CRep (C CT CC : Addr) (H : Hp) (c : Cf) (v : V) : Prop := ∃ (a dx na sa : Addr) (t : V) (ys : List Str) (zs : List V), v = .ref a ∧ H a = some (.ins CC dx (cFields c.1 t na sa)) ∧ TRep C CT H c.2 t ∧
  H na = some (.tup (ys.map V.str)) ∧ Asc (wordsT c.2) ys ∧ H sa = some (.tup zs)
theorem CRep.mono {C CT CC : Addr} {H H' : Hp} (h : ISame H H') {c : Cf} {v : V} (r : CRep C CT CC H c v) : CRep C CT CC H' c v := by
  obtain ⟨a, dx, na, sa, t, ys, zs, e, ha, ht, hn, asc, hs⟩ := r
  exact ⟨a, dx, na, sa, t, ys, zs, e, h.ins ha rfl, ht.mono h, h.tup hn, asc, h.tup hs⟩
/-! ### masks -/
/-- the number whose bits below n are p's -/
def msk (p : Nat → Bool) : Nat → Nat
  | 0 => 0
  | n + 1 => msk p n + (if p n then 2 ^ n else 0)
theorem msk_lt (p : Nat → Bool) : ∀ n, msk p n < 2 ^ n
  | 0 => by simp [msk]
  | n + 1 => by
    have := msk_lt p n
    rw [msk, Nat.pow_succ]
    split <;> omega
theorem msk_bit (p : Nat → Bool) : ∀ n k, (msk p n).testBit k = (decide (k < n) && p k)
  | 0, k => by simp [msk]
  | n + 1, k => by
    have lt := msk_lt p n
    have ih := msk_bit p n k
    rw [msk]
    by_cases hp : p n = true
    · rw [if_pos hp, Nat.add_comm]
      by_cases e : k = n
      · subst e
        rw [Nat.testBit_two_pow_add_eq, ih]
        simp [hp]
      · by_cases l : k < n
        · rw [Nat.testBit_two_pow_add_gt l, ih]
          simp [l, Nat.lt_succ_of_lt l]
        · have g : n < k := by omega
          have : 2 ^ n + msk p n < 2 ^ k := Nat.lt_of_lt_of_le (show 2 ^ n + msk p n < 2 ^ (n + 1) by rw [Nat.pow_succ]; omega) (Nat.pow_le_pow_right (by decide) (by omega))
          rw [Nat.testBit_lt_two_pow this]
          simp [show ¬ k < n + 1 by omega]
    · rw [if_neg hp, Nat.add_zero, ih]
      by_cases e : k = n
      · subst e; simp [hp]
      · by_cases l : k < n
        · simp [l, Nat.lt_succ_of_lt l]
        · simp [l, show ¬ k < n + 1 by omega]
theorem msk_of {p : Nat → Bool} {n m : Nat} (h : ∀ k, m.testBit k = (decide (k < n) && p k)) : m = msk p n := Nat.eq_of_testBit_eq fun k => by rw [h k, msk_bit]
/-- the words of ys that the number k tells -/
def kindL (ys : List Str) (k : Nat) : List Str := ((List.range ys.length).filter fun i => k.testBit i).map fun i => ys.getD i ""
def inK (ys : List Str) (k : Nat) (w : Str) : Bool := decide (w ∈ kindL ys k)
/-- what a claim's terms weigh at a kind -/
def wt (p : Str → Bool) : List Tm → Int
  | [] => 0
  | t :: ts => (if hasF p t.2 then t.1 else 0) + wt p ts
/-- the groups' mask over ys -/
def mskF (ys : List Str) (f : Gf) : Nat := msk (fun k => hasF (inK ys k) f) (2 ^ ys.length)
end Mc
/-! Comprehensions of two sources; small laws of heaps and of names in order. -/
namespace Mc
open PySem PySem.Spec PyProof.Rows L2
theorem few_line {n : Nat} (h : n ≤ 1000) : n ≤ sizeLine := by rw [sizeLine_eq]; omega
theorem few_lt {n : Nat} (h : n ≤ 1000) : n < sizeLine := by rw [sizeLine_eq]; omega
theorem iteP {c A B : Prop} [Decidable c] (h : c) (a : A) : if c then A else B := by rw [if_pos h]; exact a
theorem iteN {c A B : Prop} [Decidable c] (h : ¬ c) (a : B) : if c then A else B := by rw [if_neg h]; exact a
theorem none_back {H H1 : Hp} {p : Addr} (s : Same H H1) (h : H1 p = none) : H p = none := by
  cases e : H p with
  | none => rfl
  | some o => rw [s _ _ e] at h; cases h
theorem same_x {D : Addr} {H1 H H' : Hp} (hD : H1 D = none) (a : Same H1 H) (b : SameX D H H') : Same H1 H' := fun c o e => b c o (a c o e) (ne_of_none e hD)
theorem SameX.refl (D : Addr) (H : Hp) : SameX D H H := fun _ _ e _ => e
theorem _root_.L2.Same.refl' (H : Hp) : Same H H := fun _ _ e => e
theorem same_made {x dx C : Addr} {H1 H' : Hp} {fs : List (Str × V)} (hx : H1 x = none) (hdx : H1 dx = none) (s : SameX x (L2.upd (L2.upd H1 dx (.own x)) x (.ins C dx fs)) H') : Same H1 H' := fun b o e => by
  have n1 := ne_of_none e hx
  have n2 := ne_of_none e hdx
  exact s b o (by rw [upd_ne n1, upd_ne n2]; exact e) n1
theorem same_mk {x dx C : Addr} {H1 : Hp} {fs : List (Str × V)} (hx : H1 x = none) (hdx : H1 dx = none) : Same H1 (L2.upd (L2.upd H1 dx (.own x)) x (.ins C dx fs)) := same_made hx hdx (SameX.refl _ _)
section
variable {J : It} {n : Nat} {Gp : Hp → Prop} {Y : Nat → Hp → V → Hp → Prop}
theorem lc2_flat (w : Walk J n Gp Y) {g g1 : TG} {wi1 : TI} {te : TE} {vs vs1 : List Nat} {σ : L2.St} {H1 : Hp} {D : Addr} {Qd : Hp → Prop} (m : Nat → Nat) (R : Nat → Nat → V → Hp → Prop)
    (hb : ∀ k, k ≤ n → ((List.range k).map m).sum < sizeLine) (hD : H1 D = none) (hG : ∀ H, Same H1 H → Gp H) (hm : ∀ i j y, Far D (R i j y))
    (hs : ∀ i x H H' (C : L2.St → It → Hp → Prop), i < n → Same H1 H → H D ≠ none → Y i H x H' →
      (∀ σ2 J1 H4 (Gp1 : Hp → Prop) (Y1 : Nat → Hp → V → Hp → Prop), Same H H4 → Walk J1 (m i) Gp1 Y1 → (∀ H5, SameX D H4 H5 → Gp1 H5) →
        (∀ j x1 H5 H6 (Qy : V → Hp → Prop), j < m i → SameX D H4 H5 → Same H1 H5 → H5 D ≠ none → Y1 j H5 x1 H6 → (∀ y H7, Same H5 H7 → R i j y H7 → Qy y H7) → g1 x1 (wipe σ2 vs1) H6 fun σ3 H7 => wipe σ3 vs1 = wipe σ2 vs1 ∧ te σ3 H7 Qy) → C σ2 J1 H4) →
      g x (wipe σ vs) H' fun σ2 H2 => wipe σ2 vs = wipe σ vs ∧ wi1 σ2 H2 fun J1 H4 => C σ2 J1 H4)
    (hd : ∀ H acc, Same H1 H → H D = some (.lst acc) → Paired (fun (ij : Nat × Nat) y => R ij.1 ij.2 y H) ((List.range n).flatMap fun i => (List.range (m i)).map fun j => (i, j)) acc → Qd H) :
    ∃ W : Nat → Nat → Hp → Prop, (∃ m, W 0 m (L2.upd H1 D (.lst []))) ∧ ∀ i m H, W i m H →
      (J.stop i H ∧ Qd H) ∨ (J.go i H ∧ ∃ Nx : Hp → Prop, (∀ H', Nx H' → ∃ m', m' < m ∧ W (i + 1) m' H') ∧ ∀ x H', J.yld i H x H' → g x (wipe σ vs) H' fun σ2 H2 => wipe σ2 vs = wipe σ vs ∧ tYes σ2 H2 fun b H3 =>
        if b = true then wi1 σ2 H3 fun J1 H4 => ∃ W1 : Nat → Nat → Hp → Prop, (∃ m, W1 0 m H4) ∧ ∀ j k H, W1 j k H →
          (J1.stop j H ∧ Nx H) ∨ (J1.go j H ∧ ∃ Nx1 : Hp → Prop, (∀ H', Nx1 H' → ∃ k', k' < k ∧ W1 (j + 1) k' H') ∧ ∀ x H', J1.yld j H x H' → g1 x (wipe σ2 vs1) H' fun σ3 H5 => wipe σ3 vs1 = wipe σ2 vs1 ∧ tYes σ3 H5 fun b H6 =>
            if b = true then te σ3 H6 fun y H7 => ∃ acc, H7 D = some (.lst acc) ∧ acc.length < sizeLine ∧ Nx1 (L2.upd H7 D (.lst (acc ++ [y]))) else Nx1 H6)
        else Nx H3) := by
  let fl : Nat → List (Nat × Nat) := fun k => (List.range k).flatMap fun i => (List.range (m i)).map fun j => (i, j)
  have fll : ∀ k, (fl k).length = ((List.range k).map m).sum := fun k => by
    show ((List.range k).flatMap _).length = _
    rw [List.length_flatMap]
    congr 1
    refine List.map_congr_left fun i _ => ?_
    simp
  have fls : ∀ k, fl (k + 1) = fl k ++ (List.range (m k)).map fun j => (k, j) := fun k => by
    show (List.range (k + 1)).flatMap _ = _
    rw [List.range_succ, List.flatMap_append]
    simp [fl]
  let Pv : Nat → Hp → Prop := fun i H => Same H1 H ∧ ∃ acc, H D = some (.lst acc) ∧ Paired (fun (ij : Nat × Nat) y => R ij.1 ij.2 y H) (fl i) acc
  have far : ∀ {H H' : Hp} {xs : List V} {l : List (Nat × Nat)} {acc : List V}, H D = some (.lst xs) → SameX D H H' → Paired (fun (ij : Nat × Nat) y => R ij.1 ij.2 y H) l acc → Paired (fun (ij : Nat × Nat) y => R ij.1 ij.2 y H') l acc :=
    fun e s p => Paired.mapP p fun ij y r => hm ij.1 ij.2 y _ _ _ e s r
  refine ⟨fun i k H => k = n - i ∧ i ≤ n ∧ Pv i H, ⟨n, by simp, Nat.zero_le _, same_upd hD, [], upd_same, ?_⟩, ?_⟩
  · show Paired _ (fl 0) []
    exact .nil
  rintro i k H ⟨rfl, hi, p⟩
  obtain ⟨s1, acc, eD, pr⟩ := p
  have q := hG H s1
  by_cases hlt : i < n
  · refine .inr ⟨w.goes i H hlt q, Pv (i + 1), fun H' p' => ⟨n - (i + 1), by omega, rfl, hlt, p'⟩, fun x H' y => ?_⟩
    simp only [tYes, if_true]
    refine hs i x H H' _ hlt s1 (by rw [eD]; simp) (w.yields i H x H' hlt q y) fun σ2 J1 H4 Gp1 Y1 s4 w1 hg1 body => ?_
    let P1 : Nat → Hp → Prop := fun j H5 => SameX D H4 H5 ∧ ∃ acc, H5 D = some (.lst acc) ∧ Paired (fun (ij : Nat × Nat) y => R ij.1 ij.2 y H5) (fl i ++ (List.range j).map fun j => (i, j)) acc
    refine ⟨fun j k H5 => k = m i - j ∧ j ≤ m i ∧ P1 j H5, ⟨m i, by simp, Nat.zero_le _, SameX.refl _ _, acc, s4 _ _ eD, ?_⟩, ?_⟩
    · rw [show (List.range 0).map (fun j => (i, j)) = [] from rfl, List.append_nil]
      exact far eD s4.x pr
    rintro j k5 H5 ⟨rfl, hj, s5, acc5, eD5, pr5⟩
    have q5 := hg1 H5 s5
    by_cases hjl : j < m i
    · refine .inr ⟨w1.goes j H5 hjl q5, P1 (j + 1), fun H' p' => ⟨m i - (j + 1), by omega, rfl, hjl, p'⟩, fun x1 H6 y1 => ?_⟩
      refine body j x1 H5 H6 _ hjl s5 (same_x hD (s1.trans s4) s5) (by rw [eD5]; simp) (w1.yields j H5 x1 H6 hjl q5 y1) fun y H7 s7 r => ?_
      have eD7 := s7 _ _ eD5
      refine ⟨acc5, eD7, ?_, s5.trans (s7.x.trans samex_upd), acc5 ++ [y], upd_same, ?_⟩
      · have l1 := paired_len pr5
        rw [List.length_append, fll, List.length_map, List.length_range] at l1
        have := hb (i + 1) hlt
        rw [List.range_succ, List.map_append, List.sum_append] at this
        simp at this
        omega
      · rw [List.range_succ, List.map_append, ← List.append_assoc]
        refine paired_snoc (far eD5 (s7.x.trans samex_upd) pr5) ?_
        exact hm i j y H7 _ acc5 eD7 samex_upd r
    · have e : j = m i := by omega
      subst e
      refine .inl ⟨w1.stops H5 q5, same_x hD (s1.trans s4) s5, acc5, eD5, ?_⟩
      rw [fls]
      exact pr5
  · have e : i = n := by omega
    subst e
    exact .inl ⟨w.stops H q, hd H acc s1 eD pr⟩
end
/-! ### names in order -/
def leS (a b : Str) : Prop := a.cps.toList ≤ b.cps.toList
theorem leS_trans {a b c : Str} (h : leS a b) (k : leS b c) : leS a c := List.le_trans h k
theorem leS_anti {a b : Str} (h : leS a b) (k : leS b a) : a = b := by
  have := List.le_antisymm h k
  cases a; cases b
  simp only [Str.mk.injEq]
  exact Array.toList_inj.mp this
theorem rising_pw : ∀ (p : Str) (l : List Str), risingS p l = true → (p :: l).Pairwise leS
  | p, [], _ => by simp
  | p, x :: r, h => by
    unfold risingS at h
    rw [Bool.and_eq_true, ltCps_eq] at h
    have h1 : leS p x := by
      have := h.1
      simp at this
      exact this
    have h2 := rising_pw x r h.2
    refine List.pairwise_cons.mpr ⟨fun y hy => ?_, h2⟩
    rcases List.mem_cons.mp hy with e | e
    · rw [e]; exact h1
    · exact leS_trans h1 ((List.pairwise_cons.mp h2).1 y e)
theorem sorted_pw : ∀ {l : List Str}, sortedS l = true → l.Pairwise leS
  | [], _ => .nil
  | x :: r, h => rising_pw x r h
theorem asc_uniq {zs zs' ys ys' : List Str} (a : Asc zs ys) (b : Asc zs' ys') (h : ∀ k, k ∈ zs ↔ k ∈ zs') : ys = ys' :=
  List.Perm.eq_of_pairwise (fun _ _ _ _ h k => leS_anti h k) (sorted_pw a.1) (sorted_pw b.1) ((List.perm_ext_iff_of_nodup a.2.1 b.2.1).mpr fun k => by rw [a.2.2, b.2.2]; exact h k)
theorem asc_self {zs ys : List Str} (a : Asc zs ys) : Asc ys ys := ⟨a.1, a.2.1, fun _ => Iff.rfl⟩
theorem nodup_le {α : Type} [BEq α] [LawfulBEq α] : ∀ {l m : List α}, l.Nodup → (∀ k ∈ l, k ∈ m) → l.length ≤ m.length
  | [], m, _, _ => Nat.zero_le _
  | x :: l, m, nd, h => by
    have hx := h x List.mem_cons_self
    have nd' := List.nodup_cons.mp nd
    have := nodup_le (l := l) (m := m.erase x) nd'.2 fun k hk => (List.mem_erase_of_ne (fun e => nd'.1 (by rw [← e]; exact hk))).mpr (h k (List.mem_cons_of_mem _ hk))
    rw [List.length_erase_of_mem hx] at this
    have := List.length_pos_of_mem hx
    simp only [List.length_cons]
    omega
theorem asc_sub {zs ys ws : List Str} (a : Asc zs ys) (h : ∀ k ∈ zs, k ∈ ws) : ys.length ≤ ws.length := nodup_le a.2.1 fun k hk => h k ((a.2.2 k).mp hk)
end Mc
/-! Rules with the written part named: for use inside of comprehensions. -/
namespace Mc
open PySem PySem.Spec PyProof.Rows L2
theorem SameX.listX {K : PySem.W.Frag} {H H' : Hp} {D a : Addr} {xs : List V} (s : SameX D H H') (hD : H D = none) (h : SqL K H a xs) : SqL K H' a xs := Same.seq (fun b o e => s b o e (ne_of_none e hD)) h
theorem SameX.tupX {K : PySem.W.Frag} {H H' : Hp} {D a : Addr} {xs : List V} (s : SameX D H H') (hD : H D = none) (h : SqT K H a xs) : SqT K H' a xs := Same.tup (fun b o e => s b o e (ne_of_none e hD)) h
theorem mono_var {i : Nat} : ∀ σ H (Q Q' : VK), (∀ v H', Q v H' → Q' v H') → tVar i σ H Q → tVar i σ H Q' := fun σ H Q Q' k ⟨v, e, q⟩ => ⟨v, e, k _ _ q⟩
section
variable {X : Cx} (K : PySem.W.Frag) (hK : X.K = K)
include hK
theorem pg_tupK {es : List Expr} {k : Nat} {t : TGs} {n : Nat} {pos : Pos} (hc : X.calm = true) (h : PGs X es t)
    (hn : (assignEach es X.env).length = n := by rfl) (hst : (assignEach es X.env).findIdx? (·.1) = none := by rfl) : PG X (.Tuple es k pos) (gTup K n t) := by subst hK; exact pg_tup hc h hn hst
theorem pi_listK {tg l : Expr} {tl : TE} (hl : PE X l tl) : PI X tg l (iList K tl) := by subst hK; exact pi_list hl
theorem pi_tupK {tg l : Expr} {tl : TE} (hl : PE X l tl) : PI X tg l (iTup K tl) := by subst hK; exact pi_tup hl
theorem pi_enumK {e : Expr} {ta : TA} {p pos tpos : Pos} {elts : List Expr} {kk : Nat} (hg : Gl X "enumerate") (hm : X.mg "enumerate" = none) (ha : PA X [e] ta) (hs : starEach [e] X.env = [(false, eval e X.env)] := by rfl) :
    PI X (.Tuple elts kk tpos) (.Call (.Name "enumerate" p) [e] [] pos) (iEnum K ta) := by subst hK; exact pi_enum hg hm ha hs
theorem pi_enumTK {e : Expr} {ta : TA} {p pos tpos : Pos} {elts : List Expr} {kk : Nat} (hg : Gl X "enumerate") (hm : X.mg "enumerate" = none) (ha : PA X [e] ta) (hs : starEach [e] X.env = [(false, eval e X.env)] := by rfl) :
    PI X (.Tuple elts kk tpos) (.Call (.Name "enumerate" p) [e] [] pos) (iEnumT K ta) := by subst hK; exact pi_enumT hg hm ha hs
theorem pe_fldK {e : Expr} {ta : TE} {f : Str} {pos : Pos} (he : PE X e ta) (hb : attributeBase e f X.env (eval e X.env) = eval e X.env) : PE X (.Attribute e f pos) (tFld K ta f) := by subst hK; exact pe_fld he hb
theorem ix_listK : IxR X (rIxL K) := by subst hK; exact ix_list
theorem ix_tupK : IxR X (rIxT K) := by subst hK; exact ix_tup
theorem cr_sumK (hc : X.calm = true) : CallR X (.builtin "sum") (rSum K) := by subst hK; exact cr_sum hc
theorem call_len_seqK : CallR X (.builtin "len") (fun xs H Q => ∃ p ys, xs = [.ref p] ∧ (SqL K H p ys ∨ SqT K H p ys) ∧ Q (.int ys.length) H) := by subst hK; exact call_len_seq
theorem call_tuple_ofK : CallR X (.type "tuple") (fun xs H Q => ∃ p ys, xs = [.ref p] ∧ ((SqL K H p ys ∧ ∀ l, H l = none → Q (.ref l) (upd H l (.tup ys))) ∨ (SqT K H p ys ∧ Q (.ref p) H))) := by subst hK; exact call_tuple_of
theorem call_isiG : CallR X (.builtin "isinstance") (rIsi K) := by subst hK; exact call_isi
theorem op_in_seqK : OpR X (compareOp .In) (rIn K false) := by subst hK; exact op_in_seq
theorem op_notIn_seqK : OpR X (compareOp .NotIn) (rIn K true) := by subst hK; exact op_notIn_seq
theorem pa_starK {e : Expr} {es : List Expr} {te : TE} {t : TA} {p : Pos} (he : PE X e te) (hr : PA X es t) (hs : starEach (.Starred e p :: es) X.env = (true, eval e X.env) :: starEach es X.env := by rfl) : PA X (.Starred e p :: es) (StX.tStar K te t) := by subst hK; exact StX.pa_star he hr hs
theorem sl_listK : SlR X (rSlL K) := by subst hK; exact sl_list
omit hK in
/-- over a list or a tuple -/
theorem pi_seq0 {tg l : Expr} {tl : TE} (hl : PE X l tl) : PI X tg l (fun σ H R => tl σ H fun x H1 => ∃ a, x = .ref a ∧ (((∃ xs, SqL X.K H1 a xs) ∧ R (Itl X.K a) H1) ∨ ((∃ xs, SqT X.K H1 a xs) ∧ R (Itt X.K a) H1))) := by
  refine ⟨fun pins s σ H R I h => ?_⟩
  refine thn (hl.run pins s σ H _ I h) fun v s1 ⟨x, H1, I1, r1, a, e, q1⟩ => ?_
  subst e
  cases r1
  have cl : ∀ b ∈ [s1.heap.objs.size], _ := fun b hb => by
    have e : b = s1.heap.objs.size := by simpa using hb
    subst e
    exact I1.fpOk (Nat.le_refl _) (I1.hok.fresh (Nat.le_refl _))
  rcases q1 with ⟨⟨xs, hq⟩, q⟩ | ⟨⟨xs, hq⟩, q⟩
  · obtain ⟨its, rv, p, hz⟩ := I1.list hq
    refine wpAny_pyIter_list p.isList ?_
    exact ⟨s1.heap.objs.size, [s1.heap.objs.size], _, _, H1, rfl, I1.kept (t' := s1.toks) fun b o e => Heap.get?_push_of_some _ e, turn_list a _, ⟨_, Heap.get?_push_size _ rfl, rfl, rfl⟩, cl, q⟩
  · obtain ⟨its, rv, p, hz⟩ := I1.tuple hq
    refine wpAny_pyIter_tuple (show s1.heap.IsTuple a its.toArray from p) ?_
    exact ⟨s1.heap.objs.size, [s1.heap.objs.size], _, _, H1, rfl, I1.kept (t' := s1.toks) fun b o e => Heap.get?_push_of_some _ e, turn_tuple a _, ⟨_, Heap.get?_push_size _ rfl, rfl, rfl⟩, cl, q⟩
omit hK in
/-- what a walk over xs is, a list or a tuple -/
def SeqIt (K : PySem.W.Frag) (tl : TE) : TI := fun σ H R => tl σ H fun x H1 => ∃ a xs, x = .ref a ∧ (SqL K H1 a xs ∨ SqT K H1 a xs) ∧ ∀ J (Gp : Hp → Prop), Walk J xs.length Gp (YAt xs) → (∀ D H2, H1 D = none → SameX D H1 H2 → Gp H2) → (∀ H2, Same H1 H2 → Gp H2) → R J H1
theorem pi_seq {tg l : Expr} {tl : TE} (hl : PE X l tl) (mono : ∀ σ H (Q Q' : VK), (∀ v H', Q v H' → Q' v H') → tl σ H Q → tl σ H Q') : PI X tg l (SeqIt K tl) := by
  subst hK
  refine ⟨fun pins s σ H R I h => ?_⟩
  refine (pi_seq0 hl).run pins s σ H R I (mono σ H _ _ (fun v H1 ⟨a, xs, e, ha, r⟩ => ⟨a, e, ?_⟩) h)
  rcases ha with ha | ha
  · exact .inl ⟨⟨xs, ha⟩, r _ _ walk_list (fun D H2 hD s => s.listX hD ha) fun H2 s => s.seq ha⟩
  · exact .inr ⟨⟨xs, ha⟩, r _ _ walk_tup (fun D H2 hD s => s.tupX hD ha) fun H2 s => s.tup ha⟩
end
end Mc
/-! A tuple of texts that is known to have no dict; its index. -/
namespace Mc
open PySem PySem.Spec PyProof.Rows L2
/-- a tuple of the names ys -/
def NT (H : Hp) (a : Addr) (ys : List Str) : Prop := ∃ o : Obj, o.dict = none ∧ H a = some (.frz o (.tup (ys.map V.str)))
theorem NT.same {H H' : Hp} {a : Addr} {ys : List Str} (h : NT H a ys) (s : Same H H') : NT H' a ys := let ⟨o, d, e⟩ := h; ⟨o, d, s _ _ e⟩
theorem NT.sq {K : PySem.W.Frag} {H : Hp} {a : Addr} {ys : List Str} (h : NT H a ys) : SqT K H a (ys.map V.str) := let ⟨o, _, e⟩ := h; .inl (.inr ⟨o, e⟩)
section
variable {X : Cx}
theorem call_tuple_frz : CallR X (.type "tuple") (fun xs H Q => ∃ p ys, xs = [.ref p] ∧ SqL X.K H p ys ∧ ∀ l (o : Obj), o.dict = none → H l = none → Q (.ref l) (upd H l (.frz o (.tup ys)))) := by
  intro pins s σ H xs us Q I r h
  obtain ⟨p, ys, rfl, hq, q⟩ := h
  obtain ⟨u, rfl, rx⟩ := vals1 r
  cases rx
  obtain ⟨its, r', pl, hz⟩ := I.list hq
  have hlen := r'.length
  refine call_tuple_list pl.isList (fun h' kp => ?_) (by simp only [List.size_toArray] <;> omega)
  have I1 : Inv X pins σ H { s with heap := h' } := I.kept (t' := s.toks) kp
  have I2 : Inv X pins σ (upd H h'.objs.size (.frz { cls := .type "tuple", data := .seq its.toArray } (.tup ys))) { s with heap := h'.push { cls := .type "tuple", data := .seq its.toArray } } :=
    I1.laid (t' := s.toks) (fun b o e => Heap.get?_push_of_some _ e) (Nat.le_refl _) (show ObjOk X.prog X.w _ _ _ (.frz _ (.tup ys)) from ⟨Heap.get?_push_size _ rfl, hz, its, r', IsTup.new _ _⟩)
  exact ⟨.ref h'.objs.size, _, I2, rfl, q _ _ rfl (I1.hok.fresh (Nat.le_refl _))⟩
/-- t.index(x) -/
theorem pe_tupIndex {o e : Expr} {to : TE} {t : TA} {apos cpos : Pos} (ho : PE X o to) (ha : PA X [e] t)
    (hbase : attributeBase o "index" X.env (eval o X.env) = eval o X.env := by rfl)
    (hfew : ((backTo cpos (starEach [e] X.env)).all (fun x => !x.1) && (backToKw cpos (keywordEach [] X.env)).all (fun x => x.1.isSome)
      && decide ([e].length + ([] : List Keyword).length + (if ([] : List Keyword).isEmpty then 0 else 1) < 30)) = true := by rfl)
    (hline : (apos.endLine == cpos.line) = true := by rfl) (hs : starEach [e] X.env = (false, eval e X.env) :: starEach [] X.env := by rfl) (hplain : (backTo cpos (starEach [] X.env)).any (·.1) = false := by rfl) :
    PE X (.Call (.Attribute o "index" apos) [e] [] cpos) (fun σ H Q => to σ H fun x H1 => ∃ a ys, x = .ref a ∧ NT H1 a ys ∧ t σ H1 fun vs H2 => NT H2 a ys ∧ ∃ z j, vs = [.str z] ∧ ys[j]? = some z ∧ (∀ m, m < j → ys[m]? ≠ some z) ∧ Q (.int (j : Nat)) H2) := by
  refine ⟨fun pins s σ H Q I h => ?_⟩
  refine wpAny_Call_method_late hbase hfew hline rfl (thn (ho.run pins s σ H _ I h) fun v s1 ⟨x, H1, I1, r1, a, ys, ex, ⟨ob, od, hH⟩, q1⟩ => ?_)
  subst ex
  obtain rfl : v = Value.ref a := r1
  have hok := I1.hok a _ hH
  obtain ⟨g, ok⟩ := hok
  obtain ⟨_, its, _, ⟨o2, g2, c2, _⟩⟩ := ok
  have eo : o2 = ob := by rw [g] at g2; exact (Option.some.inj g2).symm
  subst eo
  refine ⟨"tuple", "tuple.index", PySem.F.plainAttrs_tuple, PySem.F.slot_tuple_index, PySem.F.type_tuple_index, ⟨o2, g, c2⟩, fun b eb => by cases eb; exact ⟨o2, g, od⟩, ?_⟩
  have hA := ha.run cpos pins s1 σ H1 _ I1 q1
  rw [hs] at hA ⊢
  refine Calls.callWith_builtin (by show (false || (backTo cpos (starEach [] X.env)).any (·.1)) = false; rw [hplain] <;> rfl) (Calls.evalArgs_plain ?_)
  exact thn hA fun us s2 ⟨vs, H2, I2, r2, nt, z, j, ev, hz, hn, q2⟩ => mt_tup_index pins s2 σ H2 (.ref a) vs _ us Q I2 rfl r2 ⟨a, ys, z, j, rfl, ev, nt.sq, hz, hn, q2⟩
end
end Mc
/-! Defs inside of classes: what is found of them, what is promised. -/
namespace Mc
open PySem PySem.Spec PyProof.Rows L2
abbrev Body (G : Gd) (qual : Str) (st : Stmt) (N : List Str) (k : Nat) (sp : Sp) : Prop :=
  ∀ (f : Addr) (cdv : Value) (A : Around) (outer : List Env) (s : Shared) (H : Hp) (vs : List V) (Q : VK) (E : XK), Room k (A.deeper (envOfC qual (defScope st) s.heap.objs.size f cdv)) → sp vs H Q E →
    ∃ t, PSs (cxOf CX0 G.P G.w G.K G.mg G.base N qual (defScope st) f cdv A outer s H E).nox (defBody st) t ∧ t { nx := fun _ H' => Q .non H', rt := Q } (start N vs) H
theorem fnok_of {G : Gd} {x qual : Str} {st : Stmt} {dvs : List V} {f : Addr} {fd : FuncData} {N ps : List Str} {k : Nat} {sp : Sp} (D : FunD G.K x qual (defArgs st) (defBody st) (defScope st) dvs [] f fd) (S : FnScope N ps (defScope st))
    (len : ∀ vs H Q E, sp vs H Q E → vs.length = ps.length) (body : Body G qual st N k sp) : FnOk G.P G.w G.K G.mg G.base CX0 (k + 1) f fd ps sp := FunD.ok D S len fun cdv A outer s H vs Q E hr h => by
  obtain ⟨t, a, b⟩ := body f cdv A outer s H vs Q E hr h
  exact ⟨t, PSs.nox a, b⟩
/-- how n arguments are bound, the rest by defaults behind the first j -/
abbrev Bd (x qual : Str) (st : Stmt) (ps : List Str) (m n j : Nat) : Prop := ∀ (T : Addr) (kV doc pm : Value) (an : Option Addr) (cdv ct : Value) (us its : List Value), us.length = n → its.length = m →
  ∃ k, bindArgs (PySem.W.fnOf x qual (defArgs st) (defBody st) (defScope st) (.ref T) kV doc pm an cdv ct) ⟨us, []⟩ = seqItems? (.ref T) >>= k ∧ k (some its.toArray) = pure (ps.zip (us ++ its.drop j))
abbrev Bn (x qual : Str) (st : Stmt) (ps : List Str) : Prop := ∀ (kV doc pm : Value) (an : Option Addr) (cdv ct : Value) (us : List Value), us.length = ps.length → bindArgs (PySem.W.fnOf x qual (defArgs st) (defBody st) (defScope st) .none kV doc pm an cdv ct) ⟨us, []⟩ = pure (ps.zip us)
/-- __init__ -/
structure DfC (G : Gd) (C : Addr) (qual : Str) (st : Stmt) (dvs : List V) : Prop where
  ex : ∃ f fd, FunD G.K "__init__" qual (defArgs st) (defBody st) (defScope st) dvs [] f fd ∧ Mk G.K C f
theorem DfC.calc {G : Gd} {C : Addr} {qual : Str} {st : Stmt} {dvs : List V} {N ps : List Str} {k : Nat} {sp : Sp} (F : DfC G C qual st dvs) (S : FnScope N ps (defScope st)) (n j : Nat) (hd : dvs ≠ []) (hn : n + (dvs.length - j) = ps.length)
    (hb : Bd "__init__" qual st ps dvs.length n j) (len : ∀ vs H Q E, sp vs H Q E → vs.length = ps.length) (body : Body G qual st N k sp) : CalC G (k + 1) C ps (dvs.drop j) sp := by
  obtain ⟨f, fd, D, M⟩ := F.ex
  obtain ⟨ds, r, b⟩ := FunD.binds1 (ps := ps) D n j hd hn hb
  exact ⟨f, fd, ds, fnok_of D S len body, M, b, r⟩
theorem DfC.calcN {G : Gd} {C : Addr} {qual : Str} {st : Stmt} {N ps : List Str} {k : Nat} {sp : Sp} (F : DfC G C qual st []) (S : FnScope N ps (defScope st)) (hb : Bn "__init__" qual st ps) (len : ∀ vs H Q E, sp vs H Q E → vs.length = ps.length) (body : Body G qual st N k sp) : CalC G (k + 1) C ps [] sp := by
  obtain ⟨f, fd, D, M⟩ := F.ex
  exact ⟨f, fd, [], fnok_of D S len body, M, FunD.bindsN D hb, .nil⟩
/-- a method -/
structure DfM (G : Gd) (C : Addr) (m qual : Str) (st : Stmt) : Prop where
  ex : ∃ f fd, FunD G.K m qual (defArgs st) (defBody st) (defScope st) [] [] f fd ∧ Meth G.K C m f
theorem DfM.cal {G : Gd} {C : Addr} {m qual : Str} {st : Stmt} {N ps : List Str} {k : Nat} {sp : Sp} (F : DfM G C m qual st) (S : FnScope N ps (defScope st)) (hb : Bn m qual st ps) (len : ∀ vs H Q E, sp vs H Q E → vs.length = ps.length) (body : Body G qual st N k sp) : CalM G (k + 1) C m ps sp := by
  obtain ⟨f, fd, D, M⟩ := F.ex
  exact ⟨f, fd, fnok_of D S len body, M, FunD.bindsN D hb⟩
/-- a special method -/
structure DfD (G : Gd) (C : Addr) (m qual : Str) (st : Stmt) : Prop where
  ex : ∃ f fd, FunD G.K m qual (defArgs st) (defBody st) (defScope st) [] [] f fd ∧ PySem.W.findIn G.K (.ref C) m = some (some (.ref f)) ∧ PySem.W.isFn G.K (.ref f) = true ∧ PySem.W.fnIn G.K f = true
theorem DfD.cal {G : Gd} {C : Addr} {m qual : Str} {st : Stmt} {N ps : List Str} {k : Nat} {sp : Sp} (F : DfD G C m qual st) (S : FnScope N ps (defScope st)) (hb : Bn m qual st ps) (len : ∀ vs H Q E, sp vs H Q E → vs.length = ps.length) (body : Body G qual st N k sp) : CalD G (k + 1) C m ps sp := by
  obtain ⟨f, fd, D, a, b, c⟩ := F.ex
  exact ⟨f, fd, fnok_of D S len body, a, b, c, FunD.bindsN D hb⟩
/-- a classmethod -/
structure DfK (G : Gd) (C : Addr) (m qual : Str) (st : Stmt) : Prop where
  ex : ∃ f fd mc p, FunD G.K m qual (defArgs st) (defBody st) (defScope st) [] [] f fd ∧ ClX.CRead G.K C mc ∧ ClX.CMet G.K C mc m p f
structure CalK (G : Gd) (k : Nat) (C : Addr) (m : Str) (sp : Sp) : Prop where
  ex : ∃ mc p g, ClX.CRead G.K C mc ∧ ClX.CMet G.K C mc m p g ∧ FnR G.P G.w G.K G.mg G.base CX0 k g sp
theorem CalK.mono {G : Gd} {j k : Nat} {C : Addr} {m : Str} {sp : Sp} (c : CalK G j C m sp) (h : j ≤ k) : CalK G k C m sp := by
  obtain ⟨mc, p, g, a, b, F⟩ := c.ex
  exact ⟨mc, p, g, a, b, F.mono h⟩
theorem DfK.cal {G : Gd} {C : Addr} {m qual : Str} {st : Stmt} {N ps : List Str} {k : Nat} {sp : Sp} (F : DfK G C m qual st) (S : FnScope N ps (defScope st)) (hb : Bn m qual st ps) (len : ∀ vs H Q E, sp vs H Q E → vs.length = ps.length) (body : Body G qual st N k sp) : CalK G (k + 1) C m sp := by
  obtain ⟨f, fd, mc, p, D, a, b⟩ := F.ex
  refine ⟨mc, p, f, a, b, ?_⟩
  exact ((fnok_of D S len body).raw (FunD.bindsN D hb) .nil).imp fun vs H Q E h => by rw [List.append_nil]; exact h
section
variable {X : Cx}
theorem pe_calk {k : Nat} {C : Addr} {m : Str} {sp : Sp} {pos apos : Pos} {o e : Expr} {es : List Expr} {ta : TE} {t : TA} {pl : Sem Bool} (c : CalK (gd X) k C m sp) (hr : Room k X.A) (he : PE X o ta) (ha : PA X (e :: es) t)
    (hst : starEach (e :: es) X.env = (false, eval e X.env) :: starEach es X.env := by rfl) (hpl : (backTo pos (starEach es X.env)).any (·.1) = false := by rfl)
    (ht : eval (.Call (.Attribute o m apos) (e :: es) [] pos) X.env = (do
      let ov ← eval o X.env
      standAt apos.atName
      let (f, first) ← holding [ov] (getMethod ov m pl)
      callWith pos f first (backTo pos (starEach (e :: es) X.env)) (backToKw pos (keywordEach [] X.env))) := by rfl) :
    PE X (.Call (.Attribute o m apos) (e :: es) [] pos) (ClX.tCMeth C sp E0 ta t) := by
  obtain ⟨mc, p, g, a, b, F⟩ := c.ex
  exact ClX.pe_cmeth he a b F hr pass0 ha hst hpl ht
theorem pe_calk0 {k : Nat} {C : Addr} {m : Str} {sp : Sp} {pos apos : Pos} {o : Expr} {ta : TE} {pl : Sem Bool} (c : CalK (gd X) k C m sp) (hr : Room k X.A) (he : PE X o ta)
    (ht : eval (.Call (.Attribute o m apos) [] [] pos) X.env = (do
      let ov ← eval o X.env
      standAt apos.atName
      let (f, first) ← holding [ov] (getMethod ov m pl)
      callWith pos f first (backTo pos (starEach [] X.env)) (backToKw pos (keywordEach [] X.env))) := by rfl) :
    PE X (.Call (.Attribute o m apos) [] [] pos) (fun σ H Q => ta σ H fun x H1 => x = .ref C ∧ sp [.ref C] H1 Q E0) := by
  obtain ⟨mc, p, g, r, c, F⟩ := c.ex
  refine ⟨fun pins s σ H Q I h => ?_⟩
  refine PySem.W.methodCall_KW (pl := pl) (thn (he.run pins s σ H _ I h) fun u s1 ⟨x, H1, I1, rx, ex, q⟩ => ?_) ht
  subst ex
  obtain rfl : u = Value.ref C := rx
  refine ClX.getmethcm_ok I1 r c fun s2 I2 => ?_
  exact PySem.W.callWith_M0 (first := []) ⟨ClX.pin_at I2, I2.kIn⟩ c.fi (ClX.run_cm F hr pass0 I2 .nil q)
end
end Mc
/-! zip of so many lists and tuples, any target. -/
namespace Mc
open PySem PySem.Spec PyProof.Rows L2
/-- a source: its iterator, what it walks -/
structure Src where
  it : Addr
  a : Addr
  tup : Bool
def Src.At (c : Src) (h : Heap) (i : Nat) : Prop := (c.tup = true ∧ h.IsTupleIter c.it c.a i) ∨ (c.tup = false ∧ h.IsListIter c.it c.a i)
def Src.Is (c : Src) (h : Heap) (items : Array Value) : Prop := (c.tup = true ∧ h.IsTuple c.a items) ∨ (c.tup = false ∧ h.IsList c.a items)
theorem Src.At.at {c : Src} {h h' : Heap} {i : Nat} (x : c.At h i) (e : ∀ o, h.get? c.it = some o → h'.get? c.it = some o) : c.At h' i := by
  rcases x with ⟨t, o, ho, r⟩ | ⟨t, o, ho, r⟩
  · exact .inl ⟨t, o, e o ho, r⟩
  · exact .inr ⟨t, o, e o ho, r⟩
theorem Src.Is.at {c : Src} {h h' : Heap} {xs : Array Value} (x : c.Is h xs) (e : ∀ o, h.get? c.a = some o → h'.get? c.a = some o) : c.Is h' xs := by
  rcases x with ⟨t, o, ho, r⟩ | ⟨t, o, ho, r⟩
  · exact .inl ⟨t, o, e o ho, r⟩
  · exact .inr ⟨t, o, e o ho, r⟩
theorem Src.At.there {c : Src} {h : Heap} {i : Nat} (x : c.At h i) : ∃ o, h.get? c.it = some o ∧ ∀ v, o.data ≠ .cell v := by
  rcases x with ⟨t, o, ho, _, d⟩ | ⟨t, o, ho, _, d⟩
  · exact ⟨o, ho, fun v q => by rw [d] at q; cases q⟩
  · exact ⟨o, ho, fun v q => by rw [d] at q; cases q⟩
section
variable {prog : Program} {w : World} {A : Around} {E : Value → Shared → Prop} {s : Shared}
theorem next_item {c : Src} {i : Nat} {items : Array Value} {x : Value} {Q : Value → Shared → Prop} (hit : c.At s.heap i) (hl : c.Is s.heap items) (hx : items[i]? = some x)
    (hQ : ∀ h', c.At h' (i + 1) → Heap.SameBut c.it s.heap h' → Q x { s with heap := h' }) : wpAny (model prog w) A (Builtin.SmallTypes.nextOf (.ref c.it)) Q E s := by
  rcases hit with ⟨t, hit⟩ | ⟨t, hit⟩ <;> rcases hl with ⟨t', hl⟩ | ⟨t', hl⟩
  · exact RZ.nextOf_tuple_item hit hl hx fun h' a b => hQ h' (.inl ⟨t, a⟩) b
  · rw [t] at t'; cases t'
  · rw [t] at t'; cases t'
  · exact wpAny_nextOf_list_item hit hl hx fun h' a b => hQ h' (.inr ⟨t, a⟩) b
theorem next_end {c : Src} {i : Nat} {items : Array Value} {Q : Value → Shared → Prop} (hh : A.handled = none) (hit : c.At s.heap i) (hl : c.Is s.heap items) (hx : items[i]? = none)
    (hE : ∀ h' e, Heap.ExtBut c.it s.heap h' → (∃ o, h'.get? e = some o ∧ o.cls = .type "StopIteration") → E (.ref e) { s with heap := h' }) : wpAny (model prog w) A (Builtin.SmallTypes.nextOf (.ref c.it)) Q E s := by
  rcases hit with ⟨t, hit⟩ | ⟨t, hit⟩ <;> rcases hl with ⟨t', hl⟩ | ⟨t', hl⟩
  · exact RZ.nextOf_tuple_end hh hit hl hx hE
  · rw [t] at t'; cases t'
  · rw [t] at t'; cases t'
  · exact wpAny_nextOf_list_end hh hit hl hx hE
abbrev IsZ (h : Heap) (z TI TO : Addr) (f0 f : Value) : Prop := h.get? z = some { cls := .type "zip", dict := none, data := .fields #[f0, f, .bool false, .ref TI, .ref TO], slots := #[] }
abbrev IsTu (h : Heap) (T : Addr) (xs : Array Value) : Prop := h.get? T = some { cls := .type "tuple", data := .seq xs }
def Ok0 (v : Value) : Prop := v = .none ∨ ∃ T : Nat, v = rawInt T
theorem free_any {z TI TO : Addr} {f0 f : Value} {Q : Bool → Shared → Prop} (hz : IsZ s.heap z TI TO f0 f) (h0 : Ok0 f0) (h : ∀ b h' f', IsZ h' z TI TO f0 f' → Heap.SameBut z s.heap h' → Q b { s with heap := h' }) :
    wpAny (model prog w) A (Builtin.SmallTypes.ownedTupleIsFree (.ref z)) Q E s := by
  unfold Builtin.SmallTypes.ownedTupleIsFree
  refine wpAny_bind (wpAny_field hz rfl (x := f0) rfl ?_)
  rcases h0 with rfl | ⟨T, rfl⟩
  · exact wpAny_pure (h true s.heap f hz (Heap.SameBut.refl _ _))
  · show wpAny _ _ (loadIfAlive ((T : Int).toNat) >>= _) _ _ _
    rw [Int.toNat_natCast]
    have key : ∀ o? : Option Obj, wpAny (model prog w) A (if o?.isNone = true then pure true else do
          if (← field (.ref z) 1) != .bool true then setField (.ref z) 1 (.bool true)
          pure false) Q E s := fun o? => by
      by_cases ho : o?.isNone = true
      · rw [if_pos ho]
        exact wpAny_pure (h true s.heap f hz (Heap.SameBut.refl _ _))
      · rw [if_neg ho]
        refine wpAny_bind (wpAny_field hz rfl (x := f) rfl ?_)
        by_cases e : (f != .bool true) = true
        · rw [if_pos e]
          exact wpAny_bind (wpAny_setField_rec hz (by simp) fun h₁ hz₁ hs₁ => wpAny_pure (h false h₁ _ hz₁ hs₁))
        · rw [if_neg e]
          exact wpAny_pure (h false s.heap f hz (Heap.SameBut.refl _ _))
    have load : ∀ (k : Option Obj → Sem Bool) , wpAny (model prog w) A (k (s.heap.get? T)) Q E s → wpAny (model prog w) A (loadIfAlive T >>= k) Q E s := fun k hk => wpAny_bind (fun x y z => hk)
    exact load _ (key _)
/-- a loop over a list whose states are known before -/
theorem forin_idx {α β : Type} {M : Model} {A : Around} {E : Value → Shared → Prop} : ∀ (l : List α) (b : α → β → Sem (ForInStep β)) (st : Nat → β) (P : Nat → Shared → Prop) (s : Shared),
    (∀ j x s, l[j]? = some x → P j s → wpAny M A (b x (st j)) (fun r s' => r = .yield (st (j + 1)) ∧ P (j + 1) s') E s) → P 0 s →
    wpAny M A (forIn l (st 0) b) (fun r s' => r = st l.length ∧ P l.length s') E s
  | [], b, st, P, s, _, h0 => by
    rw [List.forIn_nil]
    exact wpAny_pure ⟨rfl, h0⟩
  | x :: l, b, st, P, s, hb, h0 => by
    rw [List.forIn_cons]
    refine wpAny_bind (wpAny_mono (hb 0 x s rfl h0) (fun r s' ⟨e, p⟩ => ?_) fun _ _ h => h)
    subst e
    exact forin_idx l b (fun j => st (j + 1)) (fun j => P (j + 1)) s' (fun j y s hy hp => hb (j + 1) y s (by simpa using hy) hp) p
end
/-- what of a zip lies where -/
structure ZAp (z TI TO : Addr) (cs : List Src) : Prop where
  TIz : TI ≠ z
  TOz : TO ≠ z
  TITO : TI ≠ TO
  it : ∀ c ∈ cs, c.it ≠ z ∧ c.it ≠ TI ∧ c.it ≠ TO
  a : ∀ c ∈ cs, c.a ≠ z ∧ c.a ≠ TO ∧ ∀ d ∈ cs, c.a ≠ d.it
  nd : (cs.map (·.it)).Nodup
abbrev itsOf (cs : List Src) : List Value := cs.map fun c => .ref c.it
/-- a zip in turn i -/
structure ZSt (z TI TO : Addr) (cs : List Src) (i : Nat) (h : Heap) : Prop where
  z : ∃ f0 f, Ok0 f0 ∧ IsZ h z TI TO f0 f
  TI : IsTu h TI (itsOf cs).toArray
  TO : ∃ os : Array Value, os.size = cs.length ∧ IsTu h TO os
  at_ : ∀ c ∈ cs, c.At h i
section
variable {prog : Program} {w : World} {A : Around} {E : Value → Shared → Prop} {s : Shared}
theorem upd_tu {T : Addr} {xs : Array Value} {x : Value} {k : Nat} {Q : Unit → Shared → Prop} (hT : IsTu s.heap T xs) (hl : xs.size ≤ 1000)
    (h : ∀ h', IsTu h' T (xs.setIfInBounds k x) → Heap.SameBut T s.heap h' → Q () { s with heap := h' }) :
    wpAny (model prog w) A (updateSeq T (·.setIfInBounds k x)) Q E s := by
  refine wpAny_updateSeq hT rfl (h _ ?_ (Heap.SameBut.update ..)) (by rw [sizeLine_eq]; omega) (by rw [Array.size_setIfInBounds, sizeLine_eq]; omega)
  show _ = _
  rw [Heap.get?_update_self _ hT rfl]
  simp [Obj.mapSeq]
theorem nodup_at {α : Type} {l : List α} (nd : l.Nodup) {i j : Nat} {a : α} (hi : l[i]? = some a) (hj : l[j]? = some a) : i = j := by
  obtain ⟨h1, e1⟩ := List.getElem?_eq_some_iff.mp hi
  obtain ⟨h2, e2⟩ := List.getElem?_eq_some_iff.mp hj
  exact (List.getElem_inj nd).mp (e1.trans e2.symm)
theorem zn_item {z TI TO : Addr} {cs : List Src} {i : Nat} {vs : List Value} {Q : Value → Shared → Prop} (D : ZAp z TI TO cs) (hne : cs ≠ []) (few : cs.length ≤ 1000) (st : ZSt z TI TO cs i s.heap) (hv : Paired (fun c v => ∃ items, c.Is s.heap items ∧ items[i]? = some v) cs vs)
    (hQ : ∀ h', (∃ f0 f, Ok0 f0 ∧ IsZ h' z TI TO f0 f) → (∃ os : Array Value, os.size = cs.length ∧ IsTu h' TO os) → (∀ c ∈ cs, c.At h' (i + 1)) → IsTu h' s.heap.objs.size vs.toArray → h'.objs.size = s.heap.objs.size + 1 →
      (∀ b o, b ≠ z → b ≠ TO → (∀ c ∈ cs, b ≠ c.it) → s.heap.get? b = some o → h'.get? b = some o) → Q (.ref s.heap.objs.size) { s with heap := h' }) :
    wpAny (model prog w) A (Builtin.«zip.__next__» ⟨[.ref z], []⟩) (fun fin s' => ∃ v, fin = .done (.ret v) ∧ Q v s') E s := by
  obtain ⟨⟨f0, f, h0, hz⟩, hTI, ⟨os, ho, hTO⟩, hat⟩ := st
  show wpAny _ _ (field (.ref z) 2 >>= _) _ _ _
  refine wpAny_bind (wpAny_field hz rfl (x := .bool false) rfl ?_)
  show wpAny _ _ (field (.ref z) 3 >>= _) _ _ _
  refine wpAny_bind (wpAny_field hz rfl (x := .ref TI) rfl ?_)
  refine wpAny_bind (wpAny_seqItems hTI rfl ?_)
  have ne : (itsOf cs).toArray.isEmpty = false := by
    cases cs with
    | nil => exact absurd rfl hne
    | cons c cs => rfl
  show wpAny _ _ (if (itsOf cs).toArray.isEmpty = true then _ else _) _ _ _
  rw [if_neg (by rw [ne]; decide)]
  show wpAny _ _ (Builtin.SmallTypes.ownedTupleIsFree (.ref z) >>= _) _ _ _
  refine wpAny_bind (free_any hz h0 fun b h₁ f' hz₁ hs₁ => ?_)
  cases b with
  | true =>
    simp only [if_true]
    refine wpAny_bind (wpAny_rule ?_)
    refine wpAny_bind (wpAny_field hz₁ rfl (x := .ref TO) rfl ?_)
    refine wpAny_bind (wpAny_setField_rec hz₁ (by simp) fun h₂ hz₂ hs₂ => ?_)
    replace hz₂ : IsZ h₂ z TI TO .ellipsis f' := hz₂
    let P : Nat → Shared → Prop := fun j s' => ∃ h', s' = { s with heap := h' } ∧ IsZ h' z TI TO .ellipsis f' ∧ (∃ osj : Array Value, osj.size = cs.length ∧ (∀ k, k < j → osj[k]? = vs[k]?) ∧ IsTu h' TO osj) ∧ (∀ (k : Nat) (c : Src), cs[k]? = some c → c.At h' (if k < j then i + 1 else i)) ∧ h'.objs.size = s.heap.objs.size ∧
      ∀ b o, b ≠ z → b ≠ TO → (∀ c ∈ cs, b ≠ c.it) → s.heap.get? b = some o → h'.get? b = some o
    have s12 : ∀ b o, b ≠ z → s.heap.get? b = some o → h₂.get? b = some o := fun b o nb e => hs₂.extBut _ _ nb (hs₁.extBut _ _ nb e)
    have P0 : P 0 { s with heap := h₂ } := ⟨h₂, rfl, hz₂, ⟨os, ho, fun k hk => absurd hk (Nat.not_lt_zero _), s12 _ _ D.TOz hTO⟩, fun k c hc => (hat c (List.mem_of_getElem? hc)).at fun o e => s12 _ o (D.it c (List.mem_of_getElem? hc)).1 e, by rw [hs₂.1, hs₁.1], fun b o nb _ _ e => s12 b o nb e⟩
    refine wpAny_bind (wpAny_mono (forin_idx (itsOf cs).zipIdx _ (fun _ => (none, ())) P _ ?_ P0) (fun r s' hr => ?_) fun _ _ h => h)
    · rintro j ⟨iv, k⟩ s' hj ⟨h', rfl, hz', ⟨osj, hoj, hok, hTj⟩, hatj, hsz, hfr⟩
      rw [List.getElem?_zipIdx] at hj
      cases ecj : cs[j]? with
      | none => rw [List.getElem?_map, ecj] at hj; cases hj
      | some c =>
        rw [List.getElem?_map, ecj] at hj
        obtain ⟨rfl, rfl⟩ : Value.ref c.it = iv ∧ 0 + j = k := by simpa using hj
        have mc := List.mem_of_getElem? ecj
        obtain ⟨v, ev, items, hci, hx⟩ := paired_get hv ecj
        have hci' : c.Is h' items := hci.at fun o e => hfr _ o (D.a c mc).1 (D.a c mc).2.1 (D.a c mc).2.2 e
        have hat' := hatj j c ecj
        rw [if_neg (Nat.lt_irrefl _)] at hat'
        refine wpAny_bind (wpAny_onRaise ?_)
        show wpAny _ _ (Builtin.SmallTypes.nextOf (.ref c.it) >>= _) _ _ _
        refine wpAny_bind (next_item (s := { s with heap := h' }) hat' hci' hx fun h₃ at₃ hs₃ => wpAny_pure ?_)
        have hT₃ : IsTu h₃ TO osj := hs₃.extBut _ _ (D.it c mc).2.2.symm hTj
        refine wpAny_bind (wpAny_seqItems hT₃ rfl ?_)
        refine wpAny_bind (upd_tu hT₃ (by omega) fun h₄ hT₄ hs₄ => ?_)
        refine wpAny_bind (wpAny_letGo (wpAny_pure ⟨rfl, h₄, rfl, ?_, ⟨_, ?_, ?_, hT₄⟩, ?_, ?_, ?_⟩))
        · exact hs₄.extBut _ _ D.TOz.symm (hs₃.extBut _ _ (D.it c mc).1.symm hz')
        · rw [Array.size_setIfInBounds]; exact hoj
        · intro k hk
          rw [Array.getElem?_setIfInBounds]
          show (if 0 + j = k then _ else _) = _
          by_cases e : 0 + j = k
          · have hjl : 0 + j < osj.size := by rw [hoj, Nat.zero_add]; exact (List.getElem?_eq_some_iff.mp ecj).1
            rw [if_pos e, if_pos hjl, ← e, Nat.zero_add, ev]
          · rw [if_neg e]; exact hok k (by omega)
        · intro k d hd
          have md := List.mem_of_getElem? hd
          by_cases e : k = j
          · subst e
            rw [ecj] at hd
            obtain rfl := Option.some.inj hd
            rw [if_pos (Nat.lt_succ_self _)]
            exact at₃.at fun o q => hs₄.extBut _ o (D.it c mc).2.2 q
          · have nd : d.it ≠ c.it := fun q => e (nodup_at D.nd (by rw [List.getElem?_map, hd]; rfl) (by rw [List.getElem?_map, ecj]; exact congrArg some q.symm))
            have := hatj k d hd
            rw [show (if k < j + 1 then i + 1 else i) = if k < j then i + 1 else i by
              by_cases q : k < j
              · rw [if_pos q, if_pos (by omega)]
              · rw [if_neg q, if_neg (by omega)]]
            exact (this.at fun o q => hs₃.extBut _ o nd q).at fun o q => hs₄.extBut _ o (D.it d md).2.2 q
        · rw [hs₄.1, hs₃.1]; exact hsz
        · intro b o n1 n2 n3 e
          exact hs₄.extBut _ _ n2 (hs₃.extBut _ _ (n3 c mc) (hfr b o n1 n2 n3 e))
    · obtain ⟨rfl, h', rfl, hz', ⟨osj, hoj, hok, hTj⟩, hatj, hsz, hfr⟩ := hr
      have lz : (itsOf cs).zipIdx.length = cs.length := by simp
      rw [lz] at hok hatj
      have lv := paired_len hv
      have eos : osj.toList = vs := by
        refine List.ext_getElem? fun k => ?_
        rw [Array.getElem?_toList]
        by_cases q : k < cs.length
        · exact hok k q
        · rw [Array.getElem?_eq_none (by omega), List.getElem?_eq_none (by omega)]
      refine wpAny_bind (wpAny_seqItems hTj rfl ?_)
      refine wpAny_bind (wpAny_newTuple ?_ (by rw [eos, ← lv, sizeLine_eq]; omega))
      show wpAny _ _ (Builtin.SmallTypes.ownedTupleHandOut (.ref z) (.ref h'.objs.size) >>= _) _ _ _
      refine wpAny_bind ?_
      unfold Builtin.SmallTypes.ownedTupleHandOut
      have hz₆ : IsZ (h'.push { cls := .type "tuple", data := .seq osj.toList.toArray }) z TI TO .ellipsis f' := Heap.get?_push_of_some _ hz'
      refine wpAny_bind (wpAny_setField_rec hz₆ (by simp) fun h₇ hz₇ hs₇ => ?_)
      replace hz₇ : IsZ h₇ z TI TO (rawInt h'.objs.size) f' := hz₇
      refine wpAny_setField_rec hz₇ (by simp) fun h₈ hz₈ hs₈ => ?_
      replace hz₈ : IsZ h₈ z TI TO (rawInt h'.objs.size) (.bool false) := hz₈
      have hzlt : z < h'.objs.size := Heap.lt_size hz'
      have up : ∀ c o, c ≠ z → h'.get? c = some o → h₈.get? c = some o := fun c o c1 e => hs₈.extBut _ _ c1 (hs₇.extBut _ _ c1 (Heap.get?_push_of_some _ e))
      have hT₈ : IsTu h₈ h'.objs.size osj.toList.toArray := hs₈.extBut _ _ (Nat.ne_of_gt hzlt) (hs₇.extBut _ _ (Nat.ne_of_gt hzlt) (Heap.get?_push_size _ rfl))
      have hz8 : h₈.objs.size = h'.objs.size + 1 := by rw [hs₈.1, hs₇.1, Heap.size_push]
      refine wpAny_pure ⟨_, rfl, ?_⟩
      show Q (.ref h'.objs.size) _
      rw [eos] at hT₈
      rw [hsz] at hT₈ hz8 ⊢
      refine hQ h₈ ⟨_, _, .inr ⟨_, rfl⟩, hz₈⟩ ⟨osj, hoj, up _ _ D.TOz hTj⟩ (fun c mc => ?_) hT₈ hz8 fun b o n1 n2 n3 e => up _ _ n1 (hfr b o n1 n2 n3 e)
      obtain ⟨k, hk, e⟩ := List.mem_iff_getElem.mp mc
      have := hatj k c (by rw [List.getElem?_eq_getElem hk, e])
      rw [if_pos hk] at this
      exact this.at fun o q => up _ o (D.it c mc).1 q
  | false =>
    simp only [Bool.false_eq_true, if_false]
    rw [← Array.forIn_toList]
    let P : Nat → Shared → Prop := fun j s' => ∃ h', s' = { s with heap := h' } ∧ IsZ h' z TI TO f0 f' ∧ (∀ (k : Nat) (c : Src), cs[k]? = some c → c.At h' (if k < j then i + 1 else i)) ∧ h'.objs.size = s.heap.objs.size ∧
      ∀ b o, b ≠ z → (∀ c ∈ cs, b ≠ c.it) → s.heap.get? b = some o → h'.get? b = some o
    have P0 : P 0 { s with heap := h₁ } := ⟨h₁, rfl, hz₁, fun k c hc => (hat c (List.mem_of_getElem? hc)).at fun o e => hs₁.extBut _ o (D.it c (List.mem_of_getElem? hc)).1 e, hs₁.1, fun b o nb _ e => hs₁.extBut _ _ nb e⟩
    refine wpAny_bind (wpAny_mono (forin_idx (itsOf cs) _ (fun j => (none, (vs.take j).toArray)) P _ ?_ P0) (fun r s' hr => ?_) fun _ _ h => h)
    · rintro j iv s' hj ⟨h', rfl, hz', hatj, hsz, hfr⟩
      cases ecj : cs[j]? with
      | none => rw [List.getElem?_map, ecj] at hj; cases hj
      | some c =>
        rw [List.getElem?_map, ecj] at hj
        obtain rfl : Value.ref c.it = iv := by simpa using hj
        have mc := List.mem_of_getElem? ecj
        obtain ⟨v, ev, items, hci, hx⟩ := paired_get hv ecj
        have hci' : c.Is h' items := hci.at fun o e => hfr _ o (D.a c mc).1 (D.a c mc).2.2 e
        have hat' := hatj j c ecj
        rw [if_neg (Nat.lt_irrefl _)] at hat'
        refine wpAny_bind (wpAny_holding ?_)
        show wpAny _ _ (Builtin.SmallTypes.nextOf (.ref c.it) >>= _) _ _ _
        refine wpAny_bind (next_item (s := { s with heap := h' }) hat' hci' hx fun h₃ at₃ hs₃ => wpAny_pure (wpAny_pure ⟨?_, h₃, rfl, ?_, ?_, ?_, ?_⟩))
        · congr 2
          rw [List.take_add_one, ev]
          simp
        · exact hs₃.extBut _ _ (D.it c mc).1.symm hz'
        · intro k d hd
          by_cases e : k = j
          · subst e
            rw [ecj] at hd
            obtain rfl := Option.some.inj hd
            rw [if_pos (Nat.lt_succ_self _)]
            exact at₃
          · have nd : d.it ≠ c.it := fun q => e (nodup_at D.nd (by rw [List.getElem?_map, hd]; rfl) (by rw [List.getElem?_map, ecj]; exact congrArg some q.symm))
            have := hatj k d hd
            rw [show (if k < j + 1 then i + 1 else i) = if k < j then i + 1 else i by
              by_cases q : k < j
              · rw [if_pos q, if_pos (by omega)]
              · rw [if_neg q, if_neg (by omega)]]
            exact this.at fun o q => hs₃.extBut _ o nd q
        · rw [hs₃.1]; exact hsz
        · intro b o n1 n3 e
          exact hs₃.extBut _ _ (n3 c mc) (hfr b o n1 n3 e)
    · obtain ⟨rfl, h', rfl, hz', hatj, hsz, hfr⟩ := hr
      have lv := paired_len hv
      have lz : (itsOf cs).length = cs.length := by simp
      rw [lz] at hatj
      have ev : ((vs.take (itsOf cs).length).toArray).toList = vs := by
        rw [lz, List.take_of_length_le (by omega)]
      refine wpAny_bind (wpAny_newTuple ?_ (by rw [ev, ← lv, sizeLine_eq]; omega))
      refine wpAny_pure ⟨_, rfl, ?_⟩
      show Q (.ref h'.objs.size) _
      rw [hsz]
      have up : ∀ c o, h'.get? c = some o → (h'.push { cls := .type "tuple", data := .seq (((vs.take (itsOf cs).length).toArray).toList).toArray }).get? c = some o := fun c o e => Heap.get?_push_of_some _ e
      refine hQ _ ⟨f0, f', h0, up _ _ hz'⟩ ⟨os, ho, up _ _ (hfr _ _ D.TOz (fun c mc => (D.it c mc).2.2.symm) hTO)⟩ (fun c mc => ?_) ?_ ?_ fun b o n1 n2 n3 e => up _ _ (hfr b o n1 n3 e)
      · obtain ⟨k, hk, e⟩ := List.mem_iff_getElem.mp mc
        have := hatj k c (by rw [List.getElem?_eq_getElem hk, e])
        rw [if_pos hk] at this
        exact this.at fun o q => up _ o q
      · have : IsTu (h'.push { cls := .type "tuple", data := .seq (((vs.take (itsOf cs).length).toArray).toList).toArray }) h'.objs.size (((vs.take (itsOf cs).length).toArray).toList).toArray := Heap.get?_push_size _ rfl
        rw [ev, hsz] at this
        rw [ev]
        exact this
      · rw [Heap.size_push, hsz]
theorem zn_end {z TI TO : Addr} {c : Src} {rest : List Src} {i : Nat} {Q : Fin → Shared → Prop} (hh : A.handled = none) (D : ZAp z TI TO (c :: rest)) (st : ZSt z TI TO (c :: rest) i s.heap) (hl : ∃ items, c.Is s.heap items ∧ items[i]? = none)
    (hE : ∀ h' e, (∀ b o, b ≠ z → b ≠ TO → (∀ d ∈ c :: rest, b ≠ d.it) → s.heap.get? b = some o → h'.get? b = some o) → (∃ o, h'.get? e = some o ∧ o.cls = .type "StopIteration") → E (.ref e) { s with heap := h' }) :
    wpAny (model prog w) A (Builtin.«zip.__next__» ⟨[.ref z], []⟩) Q E s := by
  obtain ⟨⟨f0, f, h0, hz⟩, hTI, ⟨os, ho, hTO⟩, hat⟩ := st
  obtain ⟨items, hci, hx⟩ := hl
  have mc : c ∈ c :: rest := List.mem_cons_self
  show wpAny _ _ (field (.ref z) 2 >>= _) _ _ _
  refine wpAny_bind (wpAny_field hz rfl (x := .bool false) rfl ?_)
  show wpAny _ _ (field (.ref z) 3 >>= _) _ _ _
  refine wpAny_bind (wpAny_field hz rfl (x := .ref TI) rfl ?_)
  refine wpAny_bind (wpAny_seqItems hTI rfl ?_)
  show wpAny _ _ (if (itsOf (c :: rest)).toArray.isEmpty = true then _ else _) _ _ _
  rw [if_neg (show ¬ (itsOf (c :: rest)).toArray.isEmpty = true from fun z => by cases z)]
  show wpAny _ _ (Builtin.SmallTypes.ownedTupleIsFree (.ref z) >>= _) _ _ _
  refine wpAny_bind (free_any hz h0 fun b h₁ f' hz₁ hs₁ => ?_)
  cases b with
  | true =>
    simp only [if_true]
    refine wpAny_bind (wpAny_rule ?_)
    refine wpAny_bind (wpAny_field hz₁ rfl (x := .ref TO) rfl ?_)
    refine wpAny_bind (wpAny_setField_rec hz₁ (by simp) fun h₂ hz₂ hs₂ => ?_)
    replace hz₂ : IsZ h₂ z TI TO .ellipsis f' := hz₂
    have s12 : ∀ b o, b ≠ z → s.heap.get? b = some o → h₂.get? b = some o := fun b o nb e => hs₂.extBut _ _ nb (hs₁.extBut _ _ nb e)
    refine wpAny_bind ?_
    show wpAny _ _ (forIn ((Value.ref c.it, 0) :: (itsOf rest).zipIdx 1) _ _) _ _ _
    rw [List.forIn_cons]
    refine wpAny_bind (wpAny_bind (wpAny_onRaise ?_))
    show wpAny _ _ (Builtin.SmallTypes.nextOf (.ref c.it) >>= _) _ _ _
    refine wpAny_bind (next_end hh ((hat c mc).at fun o e => s12 _ o (D.it c mc).1 e) (hci.at fun o e => s12 _ o (D.a c mc).1 e) hx fun h₃ e hs₃ he => ?_)
    obtain ⟨oe, hoe, hce⟩ := he
    have hz₃ : IsZ h₃ z TI TO .ellipsis f' := hs₃ _ _ (D.it c mc).1.symm hz₂
    have hez : e ≠ z := fun x => by subst x; rw [hz₃] at hoe; cases hoe; simp at hce
    refine wpAny_setField_rec hz₃ (by simp) fun h₄ _ hs₄ => hE h₄ e (fun b o c1 c2 c3 x => hs₄.extBut _ _ c1 (hs₃ _ _ (c3 c mc) (s12 _ _ c1 x))) ⟨oe, hs₄.extBut _ _ hez hoe, hce⟩
  | false =>
    simp only [Bool.false_eq_true, if_false]
    rw [← Array.forIn_toList]
    refine wpAny_bind ?_
    show wpAny _ _ (forIn (Value.ref c.it :: itsOf rest) _ _) _ _ _
    rw [List.forIn_cons]
    refine wpAny_bind (wpAny_bind (wpAny_holding ?_))
    show wpAny _ _ (Builtin.SmallTypes.nextOf (.ref c.it) >>= _) _ _ _
    refine wpAny_bind (next_end (s := { s with heap := h₁ }) hh ((hat c mc).at fun o e => hs₁.extBut _ o (D.it c mc).1 e) (hci.at fun o e => hs₁.extBut _ o (D.a c mc).1 e) hx fun h₃ e hs₃ he => ?_)
    exact hE h₃ e (fun b o c1 _ c3 x => hs₃ _ _ (c3 c mc) (hs₁.extBut _ _ c1 x)) he
theorem pyNext_zn_item {z TI TO : Addr} {cs : List Src} {i : Nat} {vs : List Value} {Q : Option Value → Shared → Prop} (D : ZAp z TI TO cs) (hne : cs ≠ []) (few : cs.length ≤ 1000) (st : ZSt z TI TO cs i s.heap) (hv : Paired (fun c v => ∃ items, c.Is s.heap items ∧ items[i]? = some v) cs vs)
    (hQ : ∀ h', (∃ f0 f, Ok0 f0 ∧ IsZ h' z TI TO f0 f) → (∃ os : Array Value, os.size = cs.length ∧ IsTu h' TO os) → (∀ c ∈ cs, c.At h' (i + 1)) → IsTu h' s.heap.objs.size vs.toArray → h'.objs.size = s.heap.objs.size + 1 →
      (∀ b o, b ≠ z → b ≠ TO → (∀ c ∈ cs, b ≠ c.it) → s.heap.get? b = some o → h'.get? b = some o) → Q (some (.ref s.heap.objs.size)) { s with heap := h' }) :
    wpAny (model prog w) A (pyNext (.ref z)) Q E s := by
  obtain ⟨f0, f, h0, hz⟩ := st.z
  have hT : s.TypeIs (.ref z) "zip" := ⟨_, hz, rfl⟩
  unfold pyNext
  exact wpAny_bind (wpAny_attempt (wpAny_callSpecial?_slot (name := Str.ofString "__next__") hT F.slot_zip_next
    (wpAny_call_entry F.slot_zip_next hT F.entry_zip_next
      (zn_item D hne few st hv fun h' a1 a2 a3 a4 a5 a6 => wpAny_pure (hQ h' a1 a2 a3 a4 a5 a6)) (F.args_zip_next_1 _))))
theorem pyNext_zn_end {z TI TO : Addr} {c : Src} {rest : List Src} {i : Nat} {Q : Option Value → Shared → Prop} (hh : A.handled = none) (D : ZAp z TI TO (c :: rest)) (st : ZSt z TI TO (c :: rest) i s.heap) (hl : ∃ items, c.Is s.heap items ∧ items[i]? = none)
    (hQ : ∀ h', (∀ b o, b ≠ z → b ≠ TO → (∀ d ∈ c :: rest, b ≠ d.it) → s.heap.get? b = some o → h'.get? b = some o) → Q none { s with heap := h' }) : wpAny (model prog w) A (pyNext (.ref z)) Q E s := by
  obtain ⟨f0, f, h0, hz⟩ := st.z
  have hT : s.TypeIs (.ref z) "zip" := ⟨_, hz, rfl⟩
  unfold pyNext
  refine wpAny_bind (wpAny_attempt (wpAny_callSpecial?_slot (name := Str.ofString "__next__") hT F.slot_zip_next
    (wpAny_call_entry F.slot_zip_next hT F.entry_zip_next (zn_end hh D st hl fun h' e hk he => ?_) (F.args_zip_next_1 _))))
  obtain ⟨o, ho, hc⟩ := he
  refine wpAny_bind (wpAny_isInstance (T := "StopIteration") (b := true) ⟨o, ho, hc⟩ isSubtype_stop ?_)
  exact wpAny_pure (hQ _ hk)
theorem zn_iter {z TI TO : Addr} {cs : List Src} {i : Nat} {Q : Value → Shared → Prop} (st : ZSt z TI TO cs i s.heap) (h : Q (.ref z) s) : wpAny (model prog w) A (pyIter (.ref z)) Q E s := by
  obtain ⟨f0, f, h0, hz⟩ := st.z
  have hT : s.TypeIs (.ref z) "zip" := ⟨_, hz, rfl⟩
  refine wpAny_pyIter_slot hT F.slot_zip_iter (wpAny_call_entry F.slot_zip_iter hT F.entry_zip_iter ?_ (F.args_zip_iter_1 _))
  show wpAny _ _ (ret (.ref z)) _ _ s
  exact wpAny_pure ⟨_, rfl, "zip", _, hT, F.slot_zip_next.lookup, h⟩
/-- whatever the target, the step ahead of the store lets the zip be -/
theorem zn_go {tg : Expr} {z TI TO T : Addr} {f0 f : Value} {Q : Unit → Shared → Prop} (hz : IsZ s.heap z TI TO f0 f) (h0 : Ok0 f0)
    (hQ : ∀ h', (∃ f0 f, Ok0 f0 ∧ IsZ h' z TI TO f0 f) → Heap.SameBut z s.heap h' → Q () { s with heap := h' }) : wpAny (model prog w) A (letOwnedTupleGo tg (.ref z) (.ref T)) Q E s := by
  unfold letOwnedTupleGo
  cases tg with
  | Tuple elts x1 pos =>
    refine wpAny_bind (wpAny_load hz ?_)
    show wpAny _ _ (if (["enumerate", "zip", "dict_itemiterator", "dict_reverseitemiterator", "odict_iterator", "itertools.zip_longest", "itertools.pairwise"].contains "zip" &&
        (#[f0, f, .bool false, .ref TI, .ref TO] : Array Value)[0]? == some (rawInt T)) = true then _ else _) Q E s
    split
    · refine wpAny_bind (wpAny_rule ?_)
      show wpAny _ _ (setField (.ref z) 0 .none) Q E s
      exact wpAny_setField_rec hz (by simp) fun h' hz' hs' => hQ h' ⟨.none, f, .inl rfl, hz'⟩ hs'
    · exact wpAny_pure (hQ s.heap ⟨f0, f, h0, hz⟩ (Heap.SameBut.refl _ _))
  | List elts pos =>
    refine wpAny_bind (wpAny_load hz ?_)
    show wpAny _ _ (if (["enumerate", "zip", "dict_itemiterator", "dict_reverseitemiterator", "odict_iterator", "itertools.zip_longest", "itertools.pairwise"].contains "zip" &&
        (#[f0, f, .bool false, .ref TI, .ref TO] : Array Value)[0]? == some (rawInt T)) = true then _ else _) Q E s
    split
    · refine wpAny_bind (wpAny_rule ?_)
      show wpAny _ _ (setField (.ref z) 0 .none) Q E s
      exact wpAny_setField_rec hz (by simp) fun h' hz' hs' => hQ h' ⟨.none, f, .inl rfl, hz'⟩ hs'
    · exact wpAny_pure (hQ s.heap ⟨f0, f, h0, hz⟩ (Heap.SameBut.refl _ _))
  | _ => exact wpAny_pure (hQ s.heap ⟨f0, f, h0, hz⟩ (Heap.SameBut.refl _ _))
end
end Mc
/-! zip of so many: how it is made; as what a for or a comprehension walks. -/
namespace Mc
open PySem PySem.Spec PyProof.Rows L2
theorem zt_call : ∀ us : List Value, us ≠ [] → us.length ≤ 6 → checkTypeCall "zip" ⟨us, []⟩ = pure ()
  | [_], _, _ => by kernel_rfl
  | [_, _], _, _ => by kernel_rfl
  | [_, _, _], _, _ => by kernel_rfl
  | [_, _, _, _], _, _ => by kernel_rfl
  | [_, _, _, _, _], _, _ => by kernel_rfl
  | [_, _, _, _, _, _], _, _ => by kernel_rfl
  | _ :: _ :: _ :: _ :: _ :: _ :: _ :: _, _, h => by simp at h
theorem zn_call : ∀ us : List Value, us ≠ [] → us.length ≤ 6 → checkBuiltinCall "zip.__new__" ⟨.type "zip" :: us, []⟩ = pure ()
  | [_], _, _ => by kernel_rfl
  | [_, _], _, _ => by kernel_rfl
  | [_, _, _], _, _ => by kernel_rfl
  | [_, _, _, _], _, _ => by kernel_rfl
  | [_, _, _, _, _], _, _ => by kernel_rfl
  | [_, _, _, _, _, _], _, _ => by kernel_rfl
  | _ :: _ :: _ :: _ :: _ :: _ :: _ :: _, _, h => by simp at h
theorem zo_init (obj : Value) : ∀ us : List Value, us ≠ [] → us.length ≤ 6 → argsOk "object.__init__" ⟨obj :: us, []⟩
  | [_], _, _ => by unfold argsOk; rw [signature?_of (id := "object.__init__") (n := ['_', '_', 't', 'i', 'n', 'i', '_', '_']) (o := ['t', 'c', 'e', 'j', 'b', 'o']) (by kernel_rfl) F.owner_object]; kernel_rfl
  | [_, _], _, _ => by unfold argsOk; rw [signature?_of (id := "object.__init__") (n := ['_', '_', 't', 'i', 'n', 'i', '_', '_']) (o := ['t', 'c', 'e', 'j', 'b', 'o']) (by kernel_rfl) F.owner_object]; kernel_rfl
  | [_, _, _], _, _ => by unfold argsOk; rw [signature?_of (id := "object.__init__") (n := ['_', '_', 't', 'i', 'n', 'i', '_', '_']) (o := ['t', 'c', 'e', 'j', 'b', 'o']) (by kernel_rfl) F.owner_object]; kernel_rfl
  | [_, _, _, _], _, _ => by unfold argsOk; rw [signature?_of (id := "object.__init__") (n := ['_', '_', 't', 'i', 'n', 'i', '_', '_']) (o := ['t', 'c', 'e', 'j', 'b', 'o']) (by kernel_rfl) F.owner_object]; kernel_rfl
  | [_, _, _, _, _], _, _ => by unfold argsOk; rw [signature?_of (id := "object.__init__") (n := ['_', '_', 't', 'i', 'n', 'i', '_', '_']) (o := ['t', 'c', 'e', 'j', 'b', 'o']) (by kernel_rfl) F.owner_object]; kernel_rfl
  | [_, _, _, _, _, _], _, _ => by unfold argsOk; rw [signature?_of (id := "object.__init__") (n := ['_', '_', 't', 'i', 'n', 'i', '_', '_']) (o := ['t', 'c', 'e', 'j', 'b', 'o']) (by kernel_rfl) F.owner_object]; kernel_rfl
  | _ :: _ :: _ :: _ :: _ :: _ :: _ :: _, _, h => by simp at h
/-- what may stand as a source -/
def SqIs (h : Heap) (p : Addr × Bool) : Prop := ∃ items : Array Value, (p.2 = true ∧ h.IsTuple p.1 items) ∨ (p.2 = false ∧ h.IsList p.1 items)
theorem SqIs.at {h h' : Heap} {p : Addr × Bool} (x : SqIs h p) (k : ∀ b o, h.get? b = some o → h'.get? b = some o) : SqIs h' p := by
  obtain ⟨items, ⟨t, o, ho, r⟩ | ⟨t, o, ho, r⟩⟩ := x
  · exact ⟨items, .inl ⟨t, o, k _ _ ho, r⟩⟩
  · exact ⟨items, .inr ⟨t, o, k _ _ ho, r⟩⟩
theorem nc_zip {prog : Program} {w : World} {A : Around} {E : Value → Shared → Prop} {s : Shared} {us : List Value} {Q : Value × List Value → Shared → Prop} (h : Q (.type "zip", us) s) : wpAny (model prog w) A (Builtin.SmallTypes.newClass "zip" ⟨.type "zip" :: us, []⟩) Q E s := by
  have hsub := sub_zip
  unfold Builtin.SmallTypes.newClass
  repeat (any_goals (first | assumption | wp_step))
theorem meets_zn_new (ps : List (Addr × Bool)) (hne : ps ≠ []) (few : ps.length ≤ 6) :
    Meets (Builtin.«zip.__new__» ⟨.type "zip" :: ps.map (fun p => .ref p.1), []⟩) (fun _ R s => (∀ p ∈ ps, SqIs s.heap p) ∧
      ∀ h' z TI TO cs, ZAp z TI TO cs → ZSt z TI TO cs 0 h' → cs.map (fun c => (c.a, c.tup)) = ps → (∀ b, b = z ∨ b = TI ∨ b = TO ∨ (∃ c ∈ cs, b = c.it) → s.heap.objs.size ≤ b) → (∀ b o, s.heap.get? b = some o → h'.get? b = some o) → R (.ok (.ret (.ref z))) { s with heap := h' }) :=
  .of_wp fun prog w A R s h => by
    obtain ⟨hsq, h⟩ := h
    unfold Builtin.«zip.__new__»
    refine wpAny_bind (nc_zip ?_)
    show wpAny _ _ (Builtin.SmallTypes.iterAll (ps.map fun p => .ref p.1) >>= _) _ _ _
    let n := ps.length
    let bs := s.heap.objs.size
    let csj : Nat → List Src := fun j => (List.range j).map fun k => ⟨bs + k, (ps.getD k (0, false)).1, (ps.getD k (0, false)).2⟩
    let P : Nat → Shared → Prop := fun j s' => ∃ h', s' = { s with heap := h' } ∧ h'.objs.size = bs + j ∧ (∀ c ∈ csj j, c.At h' 0) ∧ ∀ b o, s.heap.get? b = some o → h'.get? b = some o
    refine wpAny_bind ?_
    unfold Builtin.SmallTypes.iterAll
    refine wpAny_bind (wpAny_mono (forin_idx (ps.map fun p => Value.ref p.1) _ (fun j => ((List.range j).map fun k => Value.ref (bs + k)).toArray) P s ?_ ⟨s.heap, rfl, rfl, fun c hc => by simp [csj] at hc, fun _ _ e => e⟩) (fun r s' hr => ?_) fun _ _ h => h)
    · rintro j iv s' hj ⟨h', rfl, hsz, hat, hk⟩
      rw [List.getElem?_map] at hj
      cases ep : ps[j]? with
      | none => rw [ep] at hj; cases hj
      | some p =>
        rw [ep] at hj
        obtain rfl : Value.ref p.1 = iv := by simpa using hj
        have cj : csj (j + 1) = csj j ++ [⟨bs + j, p.1, p.2⟩] := by
          show (List.range (j + 1)).map _ = _
          rw [List.range_succ, List.map_append]
          congr 1
          simp [List.getD_eq_getElem?_getD, ep]
        have fin : ∀ ob : Obj, (⟨bs + j, p.1, p.2⟩ : Src).At (h'.push ob) 0 → P (j + 1) { s with heap := h'.push ob } := fun ob hob => by
          refine ⟨h'.push ob, rfl, by rw [Heap.size_push, hsz]; omega, fun c hc => ?_, fun b o e => Heap.get?_push_of_some _ (hk b o e)⟩
          rw [cj, List.mem_append, List.mem_singleton] at hc
          rcases hc with hc | rfl
          · exact (hat c hc).at fun o e => Heap.get?_push_of_some _ e
          · exact hob
        have est : ∀ q : Nat, q = bs + j → (((List.range j).map fun k => Value.ref (bs + k)).toArray.push (.ref q)) = ((List.range (j + 1)).map fun k => Value.ref (bs + k)).toArray := fun q e => by
          rw [e, List.range_succ, List.map_append]
          simp
        obtain ⟨items, hi⟩ := (hsq p (List.mem_of_getElem? ep)).at hk
        refine wpAny_bind (wpAny_holding ?_)
        rcases hi with ⟨t, hi⟩ | ⟨t, hi⟩
        · refine wpAny_pyIter_tuple (s := { s with heap := h' }) hi (wpAny_pure ⟨?_, fin _ (.inl ⟨t, { cls := .type "tuple_iterator", data := .fields #[.ref p.1, .int 0 0] }, ?_, rfl, rfl⟩)⟩)
          · exact congrArg ForInStep.yield (est _ hsz)
          · show (h'.push _).get? (bs + j) = _
            rw [← hsz]
            exact Heap.get?_push_size _ rfl
        · refine wpAny_pyIter_list (s := { s with heap := h' }) hi (wpAny_pure ⟨?_, fin _ (.inr ⟨t, { cls := .type "list_iterator", data := .fields #[.ref p.1, .int 0 0] }, ?_, rfl, rfl⟩)⟩)
          · exact congrArg ForInStep.yield (est _ hsz)
          · show (h'.push _).get? (bs + j) = _
            rw [← hsz]
            exact Heap.get?_push_size _ rfl
    · obtain ⟨rfl, h', rfl, hsz, hat, hk⟩ := hr
      rw [List.length_map] at hat hsz ⊢
      refine wpAny_pure ?_
      have ei : itsOf (csj n) = (((List.range n).map fun k => Value.ref (bs + k)).toArray).toList := by
        simp [itsOf, csj]
      rw [← ei]
      have li : (itsOf (csj n)).length = n := by simp [itsOf, csj]
      refine wpAny_bind (wpAny_newTuple ?_ (by rw [li, sizeLine_eq]; omega))
      refine wpAny_bind (wpAny_newTuple ?_ (by rw [List.length_map, li, sizeLine_eq]; omega))
      refine wpAny_bind ?_
      unfold Builtin.SmallTypes.newRecord
      refine wpAny_newObj_type ?_ (by show 5 ≤ sizeLine + 2; decide)
      have n1 : 1 ≤ n := by
        show 1 ≤ ps.length
        cases ps with
        | nil => exact absurd rfl hne
        | cons _ _ => simp
      have z1 : (h'.push { cls := .type "tuple", data := .seq (itsOf (csj n)).toArray }).objs.size = bs + n + 1 := by rw [Heap.size_push, hsz]
      have z2 : ((h'.push { cls := .type "tuple", data := .seq (itsOf (csj n)).toArray }).push { cls := .type "tuple", data := .seq ((itsOf (csj n)).map fun _ => Value.none).toArray }).objs.size = bs + n + 2 := by rw [Heap.size_push, z1]
      have up : ∀ (ob : Obj) b o, h'.get? b = some o → (((h'.push { cls := .type "tuple", data := .seq (itsOf (csj n)).toArray }).push { cls := .type "tuple", data := .seq ((itsOf (csj n)).map fun _ => Value.none).toArray }).push ob).get? b = some o := fun ob b o e =>
        Heap.get?_push_of_some _ (Heap.get?_push_of_some _ (Heap.get?_push_of_some _ e))
      have g1 : (h'.push { cls := .type "tuple", data := .seq (itsOf (csj n)).toArray }).get? (bs + n) = some { cls := .type "tuple", data := .seq (itsOf (csj n)).toArray } := by rw [← hsz]; exact Heap.get?_push_size _ rfl
      have g2 : ((h'.push { cls := .type "tuple", data := .seq (itsOf (csj n)).toArray }).push { cls := .type "tuple", data := .seq ((itsOf (csj n)).map fun _ => Value.none).toArray }).get? (bs + n + 1) = some { cls := .type "tuple", data := .seq ((itsOf (csj n)).map fun _ => Value.none).toArray } := by rw [← z1]; exact Heap.get?_push_size _ rfl
      have mem : ∀ c ∈ csj n, ∃ k, k < n ∧ c.it = bs + k ∧ c.a = (ps.getD k (0, false)).1 := fun c hc => by
        obtain ⟨k, hk, rfl⟩ := List.mem_map.mp hc
        exact ⟨k, List.mem_range.mp hk, rfl, rfl⟩
      have alt : ∀ k, k < n → (ps.getD k (0, false)).1 < bs := fun k hk => by
        rw [List.getD_eq_getElem?_getD, List.getElem?_eq_getElem hk]
        obtain ⟨items, ⟨_, o, ho, _⟩ | ⟨_, o, ho, _⟩⟩ := hsq _ (List.getElem_mem hk)
        · exact Heap.lt_size ho
        · exact Heap.lt_size ho
      refine wpAny_pure ⟨_, rfl, ?_⟩
      have fin := h (((h'.push { cls := .type "tuple", data := .seq (itsOf (csj n)).toArray }).push { cls := .type "tuple", data := .seq ((itsOf (csj n)).map fun _ => Value.none).toArray }).push { cls := .type "zip", data := .fields #[.none, .bool false, .bool false, .ref (bs + n), .ref (bs + n + 1)] }) (bs + n + 2) (bs + n) (bs + n + 1) (csj n) ?_ ?_ ?_ ?_ fun b o e => up _ b o (hk b o e)
      · have e1 : h'.objs.size = bs + n := hsz
        rw [← z2, ← z1, ← e1] at fin
        exact fin
      · have q1 : ∀ x y : Nat, x + y ≠ x + y + 2 := fun x y => by omega
        have q2 : ∀ x y : Nat, x + y + 1 ≠ x + y + 2 := fun x y => by omega
        have q3 : ∀ x y : Nat, x + y ≠ x + y + 1 := fun x y => by omega
        have q4 : ∀ x y k : Nat, k < y → x + k ≠ x + y + 2 ∧ x + k ≠ x + y ∧ x + k ≠ x + y + 1 := fun x y k h => by omega
        have q5 : ∀ x y a : Nat, a < x → a ≠ x + y + 2 ∧ a ≠ x + y + 1 ∧ ∀ k, a ≠ x + k := fun x y a h => ⟨by omega, by omega, fun k => by omega⟩
        refine ⟨q1 _ _, q2 _ _, q3 _ _, fun c hc => ?_, fun c hc => ?_, ?_⟩
        · obtain ⟨k, hk, e, _⟩ := mem c hc
          rw [e]
          exact q4 _ _ _ hk
        · obtain ⟨k, hk, _, e⟩ := mem c hc
          obtain ⟨u1, u2, u3⟩ := q5 bs n _ (alt k hk)
          rw [e]
          refine ⟨u1, u2, fun d hd => ?_⟩
          obtain ⟨k2, hk2, e2, _⟩ := mem d hd
          rw [e2]
          exact u3 k2
        · show ((csj n).map (·.it)).Nodup
          rw [List.map_map]
          exact List.Pairwise.map _ (fun a b hab e => hab (Nat.add_left_cancel e)) List.nodup_range
      · refine ⟨⟨.none, .bool false, .inl rfl, ?_⟩, Heap.get?_push_of_some _ (Heap.get?_push_of_some _ g1), ⟨_, ?_, Heap.get?_push_of_some _ g2⟩, fun c hc => (hat c hc).at fun o e => up _ _ o e⟩
        · show (((h'.push { cls := .type "tuple", data := .seq (itsOf (csj n)).toArray }).push { cls := .type "tuple", data := .seq ((itsOf (csj n)).map fun _ => Value.none).toArray }).push { cls := .type "zip", data := .fields #[.none, .bool false, .bool false, .ref (bs + n), .ref (bs + n + 1)] }).get? (bs + n + 2) = _
          rw [← z2]
          exact Heap.get?_push_size _ rfl
        · simp [itsOf]
      · refine List.ext_getElem (by simp [csj, n]) fun k h1 h2 => ?_
        simp [csj, List.getD_eq_getElem?_getD, List.getElem?_eq_getElem h2]
      · intro b hb
        rcases hb with rfl | rfl | rfl | ⟨c, hc, rfl⟩
        · exact Nat.le_trans (Nat.le_add_right bs n) (Nat.le_add_right _ 2)
        · exact Nat.le_add_right bs n
        · exact Nat.le_trans (Nat.le_add_right bs n) (Nat.le_add_right _ 1)
        · obtain ⟨k, hk, e, _⟩ := mem c hc
          rw [e]
          exact Nat.le_add_right bs k
end Mc
/-! zip of so many: what a for or a comprehension walks. -/
namespace Mc
open PySem PySem.Spec PyProof.Rows L2
theorem call_zn {prog : Program} {w : World} {A : Around} {E : Value → Shared → Prop} {s : Shared} {Q : Value → Shared → Prop} (ps : List (Addr × Bool)) (hne : ps ≠ []) (few : ps.length ≤ 6) (hsq : ∀ p ∈ ps, SqIs s.heap p)
    (h : ∀ h' z TI TO cs, ZAp z TI TO cs → ZSt z TI TO cs 0 h' → cs.map (fun c => (c.a, c.tup)) = ps → (∀ b, b = z ∨ b = TI ∨ b = TO ∨ (∃ c ∈ cs, b = c.it) → s.heap.objs.size ≤ b) → (∀ b o, s.heap.get? b = some o → h'.get? b = some o) → Q (.ref z) { s with heap := h' }) :
    wpAny (model prog w) A (call (.type "zip") (ps.map fun p => .ref p.1)) Q E s := by
  have ne : (ps.map fun p => Value.ref p.1) ≠ [] := fun e => hne (List.map_eq_nil_iff.mp e)
  have l6 : (ps.map fun p => Value.ref p.1).length ≤ 6 := by rw [List.length_map]; exact few
  refine callType_new F.called_zip (by decide) (zt_call _ ne l6) (zn_call _ ne l6) (fun obj => zo_init obj _ ne l6) F.entry_zip_new (meets_zn_new ps hne few) ⟨hsq, fun h' z TI TO cs D st e fr k => ?_⟩
  obtain ⟨f0, f, h0, hz⟩ := st.z
  exact ⟨⟨_, hz, rfl⟩, h h' z TI TO cs D st e fr k⟩
def SqB (K : PySem.W.Frag) (H : Hp) (p : Addr × Bool) (xs : List V) : Prop := (p.2 = true ∧ SqT K H p.1 xs) ∨ (p.2 = false ∧ SqL K H p.1 xs)
/-- so many lists and tuples side by side, the items in new tuples -/
def ItN (K : PySem.W.Frag) (ps : List (Addr × Bool)) : It :=
  ⟨fun i H => ∃ vs, Paired (fun p v => ∃ xs, SqB K H p xs ∧ xs[i]? = some v) ps vs,
    fun i H v H' => ∃ T vs, v = .ref T ∧ H T = none ∧ H' = upd H T (.tup vs) ∧ Paired (fun p v => ∀ xs, SqB K H p xs → xs[i]? = some v) ps vs,
    fun i H => ∃ p rest xs, ps = p :: rest ∧ SqB K H p xs ∧ xs.length ≤ i⟩
section
variable {X : Cx} {pins : List (Addr × Obj)} {σ : L2.St} {H : Hp} {s : Shared}
theorem SqB.items (I : L2.Inv X pins σ H s) {p : Addr × Bool} {xs : List V} (h : SqB X.K H p xs) : ∃ us : List Value, Vals xs us ∧ ((p.2 = true ∧ s.heap.IsTuple p.1 us.toArray) ∨ (p.2 = false ∧ s.heap.IsList p.1 us.toArray)) := by
  rcases h with ⟨t, h⟩ | ⟨t, h⟩
  · obtain ⟨us, r, pl, _⟩ := I.tuple h
    exact ⟨us, r, .inl ⟨t, pl⟩⟩
  · obtain ⟨us, r, pl, _⟩ := I.list h
    exact ⟨us, r, .inr ⟨t, pl.isList⟩⟩
theorem SqB.inj (I : L2.Inv X pins σ H s) {p : Addr × Bool} {xs ys : List V} (h : SqB X.K H p xs) (h' : SqB X.K H p ys) : xs = ys := by
  rcases h with ⟨t, h⟩ | ⟨t, h⟩ <;> rcases h' with ⟨t', h'⟩ | ⟨t', h'⟩
  · exact I.tuple_inj h h'
  · rw [t] at t'; cases t'
  · rw [t] at t'; cases t'
  · exact I.list_inj h h'
end
/-- the values behind -/
theorem zn_vals {X : Cx} {pins : List (Addr × Obj)} {σ : L2.St} {H : Hp} {s : Shared} (I : L2.Inv X pins σ H s) {i : Nat} : ∀ {cs : List Src} {vs : List V}, Paired (fun p v => ∃ xs, SqB X.K H p xs ∧ xs[i]? = some v) (cs.map fun c => (c.a, c.tup)) vs →
    ∃ us : List Value, Vals vs us ∧ Paired (fun (c : Src) u => ∃ items, c.Is s.heap items ∧ items[i]? = some u) cs us
  | [], _, .nil => ⟨[], .nil, .nil⟩
  | c :: cs, _, .cons ⟨xs, hx, ex⟩ t => by
    obtain ⟨us, r, p⟩ := zn_vals I t
    obtain ⟨its, rv, hi⟩ := hx.items I
    obtain ⟨u, hu, ru⟩ := rv.get ex
    exact ⟨u :: us, .cons ru r, .cons ⟨its.toArray, hi, by simpa using hu⟩ p⟩
theorem turn_zn {P : Program} {w : World} {K : PySem.W.Frag} {tg : Expr} {z TI TO : Addr} {cs : List Src} (D : ZAp z TI TO cs) (hne : cs ≠ []) (few : cs.length ≤ 1000) :
    Turn P w K tg (ItN K (cs.map fun c => (c.a, c.tup))) (z :: TI :: TO :: cs.map (·.it)) z (fun i h => ZSt z TI TO cs i h) where
  mem := List.mem_cons_self
  obj := fun i h st b hb => by
    obtain ⟨⟨f0, f, h0, hz⟩, hTI, ⟨os, ho, hTO⟩, hat⟩ := st
    rcases List.mem_cons.mp hb with rfl | hb
    · exact ⟨_, hz, fun v q => nomatch q⟩
    rcases List.mem_cons.mp hb with rfl | hb
    · exact ⟨_, hTI, fun v q => nomatch q⟩
    rcases List.mem_cons.mp hb with rfl | hb
    · exact ⟨_, hTO, fun v q => nomatch q⟩
    obtain ⟨c, hc, rfl⟩ := List.mem_map.mp hb
    exact (hat c hc).there
  keep := fun i h h' st k => by
    obtain ⟨⟨f0, f, h0, hz⟩, hTI, ⟨os, ho, hTO⟩, hat⟩ := st
    exact ⟨⟨f0, f, h0, k z (by simp) _ hz⟩, k TI (by simp) _ hTI, ⟨os, ho, k TO (by simp) _ hTO⟩, fun c hc => (hat c hc).at fun o q => k c.it (by simp; exact .inr (.inr (.inr ⟨c, hc, rfl⟩))) o q⟩
  item := by
    intro X hP hw hK hc i pins s σ H E I hf st hg
    subst hP hw hK
    obtain ⟨vs, hvs⟩ := hg
    obtain ⟨us, rv, pu⟩ := zn_vals I hvs
    have lt : ∀ b ∈ z :: TI :: TO :: cs.map (·.it), b < s.heap.objs.size := fun b hb => by
      obtain ⟨⟨f0, f, h0, hz⟩, hTI, ⟨os, ho, hTO⟩, hat⟩ := st
      rcases List.mem_cons.mp hb with rfl | hb
      · exact Heap.lt_size hz
      rcases List.mem_cons.mp hb with rfl | hb
      · exact Heap.lt_size hTI
      rcases List.mem_cons.mp hb with rfl | hb
      · exact Heap.lt_size hTO
      obtain ⟨c, hc, rfl⟩ := List.mem_map.mp hb
      obtain ⟨o, e, _⟩ := (hat c hc).there
      exact Heap.lt_size e
    refine pyNext_zn_item D hne few st pu fun h' z' TO' at' hT hsz hk => ?_
    obtain ⟨g0, g, h0', hz'⟩ := z'
    refine ⟨_, rfl, zn_go (s := { s with heap := h' }) hz' h0' fun h'' z'' sb => ?_⟩
    have hTI' : IsTu h' TI (itsOf cs).toArray := hk _ _ D.TIz D.TITO (fun c hc => (D.it c hc).2.1.symm) st.TI
    have hT2 : IsTu h'' s.heap.objs.size us.toArray := (sb.2 _ (Nat.ne_of_gt (lt z (by simp)))).trans hT
    have lv : vs.length ≤ sizeLine := by
      have := paired_len hvs
      rw [List.length_map] at this
      exact few_line (by omega)
    have new : ObjOk X.prog X.w (upd H s.heap.objs.size (.tup vs)) h'' s.heap.objs.size (.tup vs) := ⟨lv, us, rv, ⟨_, hT2, rfl, _, rfl⟩⟩
    have I1 : L2.Inv X pins σ (upd H s.heap.objs.size (.tup vs)) { s with heap := h'' } :=
      I.turnedNew (t' := s.toks) (ch := z :: TI :: TO :: cs.map (·.it)) (fun c o hb q => (sb.2 c (fun q' => hb (by simp [q']))).trans (hk c o (fun q' => hb (by simp [q'])) (fun q' => hb (by simp [q'])) (fun d hd q' => hb (by simp; exact .inr (.inr (.inr ⟨d, hd, q'.symm⟩)))) q)) hf (Nat.le_refl _) new
    refine ⟨.ref s.heap.objs.size, _, I1, rfl, ⟨_, vs, rfl, I.hok.fresh (Nat.le_refl _), rfl, Paired.mapP hvs fun p v ⟨xs, hx, ex⟩ ys hy => by rw [SqB.inj I hy hx]; exact ex⟩, ⟨z'', ?_, ?_, ?_⟩, fun b hb => ?_⟩
    · exact (sb.2 _ D.TIz).trans hTI'
    · obtain ⟨os, ho, e⟩ := TO'
      exact ⟨os, ho, (sb.2 _ D.TOz).trans e⟩
    · exact fun c hc => (at' c hc).at fun o q => (sb.2 _ (D.it c hc).1).trans q
    · rw [upd_ne (Nat.ne_of_lt (lt b hb))]
      exact (hf b hb).1
  done := by
    intro X hP hw hK hc i pins s σ H E I hf st hg
    subst hP hw hK
    obtain ⟨p, rest, xs, ep, hx, hl⟩ := hg
    cases cs with
    | nil => exact absurd rfl hne
    | cons c cs =>
      rw [List.map_cons] at ep
      obtain ⟨rfl, _⟩ := List.cons.inj ep
      obtain ⟨its, rv, hi⟩ := hx.items I
      have ll := rv.length
      exact pyNext_zn_end (I.ok.hd hc) D st ⟨its.toArray, hi, by simp; omega⟩ fun h' hk => ⟨rfl, I.turnedL (t' := s.toks) (ch := z :: TI :: TO :: (c :: cs).map (·.it)) (fun b o hb q =>
        hk b o (fun q' => hb (by simp [q'])) (fun q' => hb (by simp [q'])) (fun d hd q' => hb (by
          rw [q']
          exact List.mem_cons_of_mem _ (List.mem_cons_of_mem _ (List.mem_cons_of_mem _ (List.mem_map.mpr ⟨d, hd, rfl⟩))))) q) hf⟩
  self := fun A i s Q E st h => zn_iter st h
end Mc
/-! zip(xs, ys) and zip(*xss), walked. -/
namespace Mc
open PySem PySem.Spec PyProof.Rows L2
section
variable {X : Cx}
/-- a zip just made comes as an iterator -/
theorem zn_pie {pins : List (Addr × Obj)} {σ : L2.St} {H : Hp} {s : Shared} {tg : Expr} {R : It → Hp → Prop} {E : Value → Shared → Prop} {ps : List (Addr × Bool)} {us : List Value} (I : L2.Inv X pins σ H s) (hne : ps ≠ []) (few : ps.length ≤ 6) (hsq : ∀ p ∈ ps, ∃ xs, SqB X.K H p xs) (eu : us = ps.map fun p => .ref p.1) (q : R (ItN X.K ps) H) :
    wpAny (model X.prog X.w) X.A (call (.type "zip") us) (fun v s1 => wpAny (model X.prog X.w) X.A (pyIter v) (PIE X pins σ tg R) E s1) E s := by
  subst eu
  refine call_zn ps hne few (fun p hp => ?_) fun h' z TI TO cs D st e fr k => ?_
  · obtain ⟨xs, hx⟩ := hsq p hp
    obtain ⟨its, _, h⟩ := hx.items I
    exact ⟨its.toArray, h⟩
  · refine zn_iter (s := { s with heap := h' }) st ?_
    have I2 : L2.Inv X pins σ H { s with heap := h' } := I.kept (t' := s.toks) k
    have hcs : cs ≠ [] := fun z => by rw [z] at e; exact hne e.symm
    have lcs : cs.length ≤ 1000 := by
      have := congrArg List.length e
      rw [List.length_map] at this
      omega
    have T := turn_zn (P := X.prog) (w := X.w) (K := X.K) (tg := tg) D hcs lcs
    rw [e] at T
    refine ⟨z, z :: TI :: TO :: cs.map (·.it), _, _, H, rfl, I2, T, st, fun b hb => ?_, q⟩
    have hle : s.heap.objs.size ≤ b := fr b (by
      rcases List.mem_cons.mp hb with rfl | hb
      · exact .inl rfl
      rcases List.mem_cons.mp hb with rfl | hb
      · exact .inr (.inl rfl)
      rcases List.mem_cons.mp hb with rfl | hb
      · exact .inr (.inr (.inl rfl))
      obtain ⟨c, hc, e⟩ := List.mem_map.mp hb
      exact .inr (.inr (.inr ⟨c, hc, e.symm⟩)))
    exact I.fpOk hle (I.hok.fresh hle)
def iZipN (K : PySem.W.Frag) (ta : TA) : TI := fun σ H R => ta σ H fun vs H1 => ∃ ps : List (Addr × Bool), vs = ps.map (fun p => V.ref p.1) ∧ ps ≠ [] ∧ ps.length ≤ 6 ∧ (∀ p ∈ ps, ∃ xs, SqB K H1 p xs) ∧ R (ItN K ps) H1
theorem vals_refs : ∀ {ps : List (Addr × Bool)} {us : List Value}, Vals (ps.map fun p => V.ref p.1) us → us = ps.map fun p => .ref p.1
  | [], _, .nil => rfl
  | p :: ps, _, .cons r t => by
    rw [vals_refs t]
    cases r
    rfl
theorem pi_zipN (K : PySem.W.Frag) (hK : X.K = K) {tg e e2 : Expr} {ta : TA} {p pos : Pos} (hg : Gl X "zip") (hm : X.mg "zip" = none) (ha : PA X [e, e2] ta)
    (hs : starEach [e, e2] X.env = (false, eval e X.env) :: starEach [e2] X.env := by rfl) (hpl : (backTo pos (starEach [e2] X.env)).any (·.1) = false := by rfl) :
    PI X tg (.Call (.Name "zip" p) [e, e2] [] pos) (iZipN K ta) := by
  subst hK
  refine ⟨fun pins s σ H R I h => ?_⟩
  refine Call_ (ld_blt I hg hm PyProof.Rows.boot_zip (PyProof.Rows.callWith_type1 (thn (ha.run pos pins s σ H _ I h) fun us s1 ⟨vs, H1, I1, r1, q1⟩ => ?_) hs hpl))
  obtain ⟨ps, ex, hne, few, hsq, q⟩ := q1
  subst ex
  exact zn_pie I1 hne few hsq (vals_refs r1) q
theorem pi_zipStar (K : PySem.W.Frag) (hK : X.K = K) {tg e : Expr} {te : TE} {p sp pos : Pos} (hg : Gl X "zip") (hm : X.mg "zip" = none) (he : PE X e te) (hst : starEach [.Starred e sp] X.env = [(true, eval e X.env)] := by rfl) :
    PI X tg (.Call (.Name "zip" p) [.Starred e sp] [] pos) (fun σ H R => te σ H fun x H1 => ∃ (a : Addr) (ps : List (Addr × Bool)), x = .ref a ∧ (SqT K H1 a (ps.map fun p => V.ref p.1) ∨ SqL K H1 a (ps.map fun p => V.ref p.1)) ∧ ps ≠ [] ∧ ps.length ≤ 6 ∧ (∀ p ∈ ps, ∃ xs, SqB K H1 p xs) ∧ R (ItN K ps) H1) := by
  subst hK
  refine ⟨fun pins s σ H R I h => ?_⟩
  refine Call_ (ld_blt I hg hm PyProof.Rows.boot_zip ?_)
  rw [hst]
  refine PySem.W.ks_call (P := fun _ => True) rfl (fun h _ => ⟨.machine, .inr (.inl rfl), PySem.W.Looks.of_pure rfl⟩) (PySem.W.ks_lone ?_)
  refine thn (he.run pins s σ H _ I h) fun v s1 ⟨y, H1, I1, ry, a, ps, ey, hx, hne, few, hsq, q⟩ => ?_
  subst ey
  obtain rfl : v = Value.ref a := ry
  exact StX.star_any I1 hx fun us s2 I2 rv => ⟨trivial, zn_pie I2 hne few hsq (vals_refs rv) q⟩
/-- its walk -/
theorem walk_zn {K : PySem.W.Frag} {ps : List (Addr × Bool)} {xss : List (List V)} {n : Nat} (hl : ps.length = xss.length) (hn : ∀ xs ∈ xss, xs.length = n) (hne : ps ≠ []) :
    Walk (ItN K ps) n (fun H => Paired (SqB K H) ps xss) (fun i H v H' => ∃ T vs, v = .ref T ∧ H T = none ∧ H' = upd H T (.tup vs) ∧ Paired (fun (xs : List V) v => xs[i]? = some v) xss vs) := by
  refine ⟨fun i H hi q => ?_, fun H q => ?_, fun i H v H' hi q y => ?_⟩
  · have go : ∀ {ps : List (Addr × Bool)} {xss : List (List V)}, Paired (SqB K H) ps xss → (∀ xs ∈ xss, xs.length = n) → ∃ vs, Paired (fun p v => ∃ xs, SqB K H p xs ∧ xs[i]? = some v) ps vs := by
      intro ps xss q
      induction q with
      | nil => exact fun _ => ⟨[], .nil⟩
      | cons h t ih =>
        intro hn
        obtain ⟨vs, p⟩ := ih fun xs hx => hn xs (List.mem_cons_of_mem _ hx)
        have := hn _ List.mem_cons_self
        exact ⟨_ :: vs, .cons ⟨_, h, List.getElem?_eq_getElem (by omega)⟩ p⟩
    exact go q hn
  · cases q with
    | nil => exact absurd rfl hne
    | cons h t => exact ⟨_, _, _, rfl, h, by rw [hn _ List.mem_cons_self]; exact Nat.le_refl _⟩
  · obtain ⟨T, vs, e, hT, eH, p⟩ := y
    refine ⟨T, vs, e, hT, eH, ?_⟩
    have go : ∀ {ps : List (Addr × Bool)} {xss : List (List V)} {vs : List V}, Paired (SqB K H) ps xss → Paired (fun p v => ∀ xs, SqB K H p xs → xs[i]? = some v) ps vs → Paired (fun (xs : List V) v => xs[i]? = some v) xss vs := by
      intro ps xss vs q
      induction q generalizing vs with
      | nil => intro p; cases p; exact .nil
      | cons h t ih => intro p; cases p with | cons a b => exact .cons (a _ h) (ih b)
    exact go q p
end
end Mc
/-! dict(zip(t, u)) of two tuples. -/
namespace Mc
open PySem PySem.Spec PyProof.Rows L2
theorem ZSt.at {z TI TO : Addr} {cs : List Src} {i : Nat} {h h' : Heap} (st : ZSt z TI TO cs i h) (k : ∀ b o, (b = z ∨ b = TI ∨ b = TO ∨ ∃ c ∈ cs, b = c.it) → h.get? b = some o → h'.get? b = some o) : ZSt z TI TO cs i h' := by
  obtain ⟨⟨f0, f, h0, hz⟩, hTI, ⟨os, ho, hTO⟩, hat⟩ := st
  exact ⟨⟨f0, f, h0, k _ _ (.inl rfl) hz⟩, k _ _ (.inr (.inl rfl)) hTI, ⟨os, ho, k _ _ (.inr (.inr (.inl rfl))) hTO⟩, fun c hc => (hat c hc).at fun o e => k _ _ (.inr (.inr (.inr ⟨c, hc, rfl⟩))) e⟩
theorem ZSt.there {z TI TO : Addr} {cs : List Src} {i : Nat} {h : Heap} (st : ZSt z TI TO cs i h) {b : Addr} (hb : b = z ∨ b = TI ∨ b = TO ∨ ∃ c ∈ cs, b = c.it) : ∃ o, h.get? b = some o := by
  obtain ⟨⟨f0, f, h0, hz⟩, hTI, ⟨os, ho, hTO⟩, hat⟩ := st
  rcases hb with rfl | rfl | rfl | ⟨c, hc, rfl⟩
  · exact ⟨_, hz⟩
  · exact ⟨_, hTI⟩
  · exact ⟨_, hTO⟩
  · obtain ⟨o, e, _⟩ := (hat c hc).there; exact ⟨o, e⟩
theorem Src.Is.there {c : Src} {h : Heap} {xs : Array Value} (x : c.Is h xs) : ∃ o, h.get? c.a = some o := by
  rcases x with ⟨_, o, e, _⟩ | ⟨_, o, e, _⟩ <;> exact ⟨o, e⟩
theorem pairArg_zn {prog : Program} {w : World} (z TI TO : Addr) (c1 c2 : Src) (D : ZAp z TI TO [c1, c2]) (xs ys : Array Value) (hs : xs.size = ys.size) :
    PairArg prog w "zip" z [z, TI, TO, c1.it, c2.it, c1.a, c2.a] [z, TO, c1.it, c2.it] xs.size (fun i k v => xs[i]? = some k ∧ ys[i]? = some v) (fun h => ZSt z TI TO [c1, c2] 0 h ∧ c1.Is h xs ∧ c2.Is h ys) where
  type := fun s ok => by
    obtain ⟨f0, f, h0, hz⟩ := ok.1.z
    exact ⟨_, hz, rfl⟩
  notDict := by decide
  keep := fun h h' ok hk => ⟨ok.1.at fun b o _ e => hk b o e, ok.2.1.at fun o e => hk _ o e, ok.2.2.at fun o e => hk _ o e⟩
  there := fun h ok b hb => by
    simp only [List.mem_cons, List.not_mem_nil, or_false] at hb
    rcases hb with rfl | rfl | rfl | rfl | rfl | rfl | rfl
    · exact ok.1.there (.inl rfl)
    · exact ok.1.there (.inr (.inl rfl))
    · exact ok.1.there (.inr (.inr (.inl rfl)))
    · exact ok.1.there (.inr (.inr (.inr ⟨c1, by simp, rfl⟩)))
    · exact ok.1.there (.inr (.inr (.inr ⟨c2, by simp, rfl⟩)))
    · exact ok.2.1.there
    · exact ok.2.2.there
  sub := fun b hb => by simp at hb ⊢; rcases hb with rfl | rfl | rfl | rfl <;> simp
  noKeys := fun A s Q E hA ok h => by
    obtain ⟨f0, f, h0, hz⟩ := ok.1.z
    exact getAttrOr_miss_zip hz rfl rfl rfl zip_no_keys (by decide +kernel) hA h
  iter := fun A s d Q E hA ok hd hdf h => by
    simp only [List.mem_cons, List.not_mem_nil, or_false, not_or] at hdf
    obtain ⟨dz, dTI, dTO, di1, di2, dl1, dl2⟩ := hdf
    have dn : ∀ b, (b = z ∨ b = TI ∨ b = TO ∨ ∃ c ∈ [c1, c2], b = c.it) → b ≠ d := fun b hb e => by
      rcases hb with rfl | rfl | rfl | ⟨c, hc, rfl⟩
      · exact dz e.symm
      · exact dTI e.symm
      · exact dTO e.symm
      · simp at hc
        rcases hc with rfl | rfl
        · exact di1 e.symm
        · exact di2 e.symm
    refine zn_iter ok.1 (h z [z, TO, c1.it, c2.it] (fun i h => ZSt z TI TO [c1, c2] i h ∧ c1.Is h xs ∧ c2.Is h ys) s.heap s.toks ?_ ok (fun _ _ e => e) fun b hb => .inl hb)
    exact {
      off := fun hm => by
        simp only [List.mem_cons, List.not_mem_nil, or_false] at hm
        rcases hm with e | e | e | e
        · exact dz e
        · exact dTO e
        · exact di1 e
        · exact di2 e
      frame := fun i h₁ h₂ st hk => ⟨st.1.at fun b o hb e => hk b o (dn b hb) e, st.2.1.at fun o e => hk _ o (Ne.symm dl1) e, st.2.2.at fun o e => hk _ o (Ne.symm dl2) e⟩
      item := fun i s₁ Q₁ E₁ hi st hds hQ => by
        have ex := Array.getElem?_eq_getElem hi
        have ey := Array.getElem?_eq_getElem (show i < ys.size by omega)
        refine pyNext_zn_item D (by simp) (by simp) st.1 (vs := [xs[i], ys[i]]) (.cons ⟨xs, st.2.1, ex⟩ (.cons ⟨ys, st.2.2, ey⟩ .nil)) fun h' z' TO' at' hT hsz hk => ?_
        have hTI' : IsTu h' TI (itsOf [c1, c2]).toArray := hk _ _ D.TIz D.TITO (fun c hc => (D.it c hc).2.1.symm) st.1.TI
        have keep : ∀ b o, b ∉ [z, TO, c1.it, c2.it] → s₁.heap.get? b = some o → h'.get? b = some o := fun b o hb e => by
          simp only [List.mem_cons, List.not_mem_nil, or_false, not_or] at hb
          exact hk b o hb.1 hb.2.1 (fun c hc => by
            simp at hc
            rcases hc with rfl | rfl
            · exact hb.2.2.1
            · exact hb.2.2.2) e
        have a1 := D.a c1 (by simp)
        have a2 := D.a c2 (by simp)
        refine hQ _ _ _ h' s₁.toks ⟨ex, ey⟩ (.inl ⟨_, hT, rfl, _, rfl⟩) ⟨⟨z', hTI', TO', at'⟩, st.2.1.at fun o e => hk _ _ a1.1 a1.2.1 a1.2.2 e, st.2.2.at fun o e => hk _ _ a2.1 a2.2.1 a2.2.2 e⟩ keep
      done := fun s₁ Q₁ E₁ st hQ => pyNext_zn_end hA D st.1 ⟨xs, st.2.1, Array.getElem?_eq_none (Nat.le_refl _)⟩ fun h' hk => hQ h' s₁.toks fun b o hb e => by
        simp only [List.mem_cons, List.not_mem_nil, or_false, not_or] at hb
        exact hk b o hb.1 hb.2.1 (fun c hc => by
          simp at hc
          rcases hc with rfl | rfl
          · exact hb.2.2.1
          · exact hb.2.2.2) e }
theorem mergeK_new : ∀ (ps acc : List (Key × V)), ((acc ++ ps).map (·.1)).Nodup → mergeK acc ps = acc ++ ps
  | [], acc, _ => by rw [List.append_nil]; rfl
  | p :: ps, acc, nd => by
    show mergeK (putK acc p.1 p.2) ps = _
    have hn : ¬ (acc.any fun kv => decide (kv.1 = p.1)) = true := fun h => by
      obtain ⟨x, hx, e⟩ := List.any_eq_true.mp h
      rw [List.map_append, List.nodup_append] at nd
      exact nd.2.2 x.1 (List.mem_map.mpr ⟨x, hx, rfl⟩) p.1 (by simp) (of_decide_eq_true e)
    unfold putK
    rw [if_neg hn, mergeK_new ps (acc ++ [(p.1, p.2)]) (by simpa using nd)]
    simp
theorem vals_len {vs : List V} {us : List Value} (r : Vals vs us) : vs.length = us.length := by
  induction r with
  | nil => rfl
  | cons _ _ ih => exact congrArg Nat.succ ih
theorem vals_paired {vs : List V} {us : List Value} (r : Vals vs us) : Paired RelV vs us := by
  induction r with
  | nil => exact .nil
  | cons h _ ih => exact .cons h ih
theorem kv_zip : ∀ {ks : List Key} {zs : List V} {us : List Value}, ks.length = zs.length → Vals zs us → KV (ks.zip zs) (ks.zip us)
  | [], [], _, _, .nil => .nil
  | _ :: _, _ :: _, _, e, .cons h t => .cons ⟨rfl, h⟩ (kv_zip (Nat.succ.inj e) t)
theorem vals_back : ∀ {vs : List V} {us : List Value}, Vals vs us → ∀ {i : Nat} {u : Value}, us[i]? = some u → ∃ v, vs[i]? = some v ∧ RelV v u
  | _, _, .nil, _, _, e => by simp at e
  | _, _, .cons h t, 0, _, e => by simp at e; subst e; exact ⟨_, rfl, h⟩
  | _, _, .cons h t, i + 1, _, e => by simpa using vals_back t (by simpa using e)
theorem two_of {α : Type} : ∀ {l : List α}, l.length = 2 → ∃ a b, l = [a, b]
  | [a, b], _ => ⟨a, b, rfl⟩
/-- dict(zip(t, u)) -/
theorem pe_dictZip {X : Cx} {e1 e2 : Expr} {ta : TA} {p p2 pos pos2 : Pos} (hc : X.calm = true) (hg : Gl X "dict") (hm : X.mg "dict" = none) (hg2 : Gl X "zip") (hm2 : X.mg "zip" = none) (ha : PA X [e1, e2] ta)
    (na : starEach [.Call (.Name "zip" p2) [e1, e2] [] pos2] X.env = (false, eval (.Call (.Name "zip" p2) [e1, e2] [] pos2) X.env) :: starEach [] X.env := by rfl)
    (hs : starEach [e1, e2] X.env = (false, eval e1 X.env) :: starEach [e2] X.env := by rfl) (hpl : (backTo pos2 (starEach [e2] X.env)).any (·.1) = false := by rfl) :
    PE X (.Call (.Name "dict" p) [.Call (.Name "zip" p2) [e1, e2] [] pos2] [] pos) (fun σ H Q => ta σ H fun vs H1 => ∃ (a b : Addr) (ks : List Int) (zs : List V), vs = [.ref a, .ref b] ∧ SqT X.K H1 a (ks.map V.int) ∧ SqT X.K H1 b zs ∧ ks.length = zs.length ∧ ks.Nodup ∧ ks.length ≤ 1000 ∧
      ∀ q, H1 q = none → Q (.ref q) (upd H1 q (.dK ((ks.map (Sum.inl : Int → Key)).zip zs)))) := by
  refine ⟨fun pins s σ H Q I h => ?_⟩
  refine Call_ (ld_blt I hg hm PyProof.Rows.boot_dict (PyProof.Rows.callWith_type1 (args_cons ?_ na) na))
  refine Call_ (ld_blt I hg2 hm2 PyProof.Rows.boot_zip (PyProof.Rows.callWith_type1 (thn (ha.run pos2 pins s σ H _ I h) fun us s1 ⟨vs, H1, I1, r1, q1⟩ => ?_) hs hpl))
  obtain ⟨a, b, ks, zs, rfl, hka, hzb, hl, nd, few, q⟩ := q1
  cases r1 with
  | cons ra r1 =>
    cases r1 with
    | cons rb r1 =>
      cases r1
      cases ra
      cases rb
      obtain ⟨i1, rv1, pl1, _⟩ := I1.tuple hka
      obtain ⟨i2, rv2, pl2, _⟩ := I1.tuple hzb
      refine call_zn [(a, true), (b, true)] (by simp) (by simp) (fun p hp => ?_) fun h' z TI TO cs D st e fr k => ?_
      · rcases List.mem_cons.mp hp with rfl | hp
        · exact ⟨_, .inl ⟨rfl, pl1⟩⟩
        · rw [List.mem_singleton.mp hp]; exact ⟨_, .inl ⟨rfl, pl2⟩⟩
      · obtain ⟨c1, c2, rfl⟩ : ∃ c1 c2, cs = [c1, c2] := two_of (by have := congrArg List.length e; simpa using this)
        simp only [List.map_cons, List.map_nil, List.cons.injEq, Prod.mk.injEq, and_true] at e
        obtain ⟨⟨ea, et⟩, eb, eu⟩ := e
        have zz : s1.heap.objs.size ≤ h'.objs.size := by
          obtain ⟨f0, f, h0, hz⟩ := st.z
          exact Nat.le_trans (fr z (.inl rfl)) (Nat.le_of_lt (Heap.lt_size hz))
        have s1Is : c1.Is h' i1.toArray := .inl ⟨et, by rw [ea]; exact (let ⟨o, g, x⟩ := pl1; ⟨o, k _ _ g, x⟩)⟩
        have s2Is : c2.Is h' i2.toArray := .inl ⟨eu, by rw [eb]; exact (let ⟨o, g, x⟩ := pl2; ⟨o, k _ _ g, x⟩)⟩
        have l1 : i1.length = ks.length := by have := vals_len rv1; simpa using this.symm
        have l2 : i2.length = zs.length := by have := vals_len rv2; exact this.symm
        have kl : (ks.map (Sum.inl : Int → Key)).length = ks.length := List.length_map _
        have kvOf : KV ((ks.map (Sum.inl : Int → Key)).zip zs) ((ks.map (Sum.inl : Int → Key)).zip i2) := kv_zip (kl.trans hl) rv2
        have keys : ∀ i u, i1[i]? = some u → ∃ n, ks[i]? = some n ∧ RelV (.int n) u := fun i u e => by
          obtain ⟨v, e2, r⟩ := vals_back rv1 e
          rw [List.getElem?_map] at e2
          cases e3 : ks[i]? with
          | none => rw [e3] at e2; cases e2
          | some n => rw [e3] at e2; cases e2; exact ⟨n, e3, r⟩
        refine wpAny_pure ?_
        refine PySem.call_dict_pairs (s := { s1 with heap := h' }) (knd := mixKind X.prog X.w) (kvs := (ks.map (Sum.inl : Int → Key)).zip i2) (pairArg_zn z TI TO c1 c2 D i1.toArray i2.toArray (by simp [l1, l2, hl])) (I1.ok.hd hc) ⟨st, s1Is, s2Is⟩ ⟨by simp [l1, l2, hl], fun i key v h => ?_⟩ (by simp [l1, sizeLine_eq]; omega) fun h2 tk hd2 k2 => ?_
        · have e1 : i1[i]? = some key := by simpa using h.1
          have e2 : i2[i]? = some v := by simpa using h.2
          obtain ⟨n, e3, r⟩ := keys i key e1
          refine ⟨Sum.inl n, ?_, kV_is (k := Sum.inl n) r⟩
          rw [List.getElem?_zip_eq_some]
          exact ⟨by rw [List.getElem?_map, e3]; rfl, e2⟩
        · have nk : (((ks.map (Sum.inl : Int → Key)).zip zs).map (·.1)).Nodup := by
            rw [show (((ks.map (Sum.inl : Int → Key)).zip zs).map (·.1)) = ks.map (Sum.inl : Int → Key) from List.map_fst_zip (Nat.le_of_eq (kl.trans hl))]
            exact nd.map _ fun x y n e => n (Sum.inl.inj e)
          have em := mergeK_new ((ks.map (Sum.inl : Int → Key)).zip zs) [] (by simpa using nk)
          rw [List.nil_append] at em
          have hm : (h'.objs.size == sysModules) = false := beq_eq_false_iff_ne.mpr (Nat.ne_of_gt (Nat.lt_of_lt_of_le I1.big zz))
          have lz : ((ks.map (Sum.inl : Int → Key)).zip zs).length ≤ sizeLine := by refine Nat.le_trans (by rw [List.length_zip]; exact Nat.min_le_left _ _) ?_; rw [kl, sizeLine_eq]; omega
          have okd : ObjOk X.prog X.w (upd H1 h'.objs.size (.dK ((ks.map (Sum.inl : Int → Key)).zip zs))) h2 h'.objs.size (.dK ((ks.map (Sum.inl : Int → Key)).zip zs)) := by
            have := KV.merge kvOf (kvs := []) (vs := []) .nil
            rw [em] at this
            exact ⟨lz, hm, merged [] ((ks.map (Sum.inl : Int → Key)).zip i2), this, hd2⟩
          refine ⟨.ref h'.objs.size, upd H1 h'.objs.size (.dK ((ks.map (Sum.inl : Int → Key)).zip zs)), I1.laid (t' := tk) (fun b o e => k2 b o (fun hb => ?_) (k b o e)) zz okd, rfl, q _ (I1.hok.fresh zz)⟩
          have lt := Heap.lt_size e
          simp only [List.mem_cons, List.not_mem_nil, or_false] at hb
          have : s1.heap.objs.size ≤ b := fr b (by
            rcases hb with rfl | rfl | rfl | rfl
            · exact .inl rfl
            · exact .inr (.inr (.inl rfl))
            · exact .inr (.inr (.inr ⟨c1, by simp, rfl⟩))
            · exact .inr (.inr (.inr ⟨c2, by simp, rfl⟩)))
          exact absurd lt (Nat.not_lt.mpr this)
end Mc
/-! The walk, 2: kinds. -/
namespace Mc
open PySem PySem.Spec PyProof.Rows L2
abbrev N_kind_at : List Str := ["names", "number", "at", "name"]
abbrev P_kind_at : List Str := ["names", "number"]
theorem sc_kind_at : FnScope N_kind_at P_kind_at (defScope s_kind_at) := ⟨rfl, rfl, rfl, by decide +kernel, rfl, by decide +kernel, by decide +kernel⟩

abbrev N_kinds : List Str := ["names", "known", "number"]
abbrev P_kinds : List Str := ["names"]
theorem sc_kinds : FnScope N_kinds P_kinds (defScope s_kinds) := ⟨rfl, rfl, rfl, by decide +kernel, rfl, by decide +kernel, by decide +kernel⟩

abbrev N_names_of : List Str := ["things", "thing", "name"]
abbrev P_names_of : List Str := ["things"]
theorem sc_names_of : FnScope N_names_of P_names_of (defScope s_names_of) := ⟨rfl, rfl, rfl, by decide +kernel, rfl, by decide +kernel, by decide +kernel⟩

abbrev N_is_kind : List Str := ["value", "name"]
abbrev P_is_kind : List Str := ["value"]
theorem sc_is_kind : FnScope N_is_kind P_is_kind (defScope s_is_kind) := ⟨rfl, rfl, rfl, by decide +kernel, rfl, by decide +kernel, by decide +kernel⟩

theorem bit_at (k i : Nat) : (Builtin.bitAnd ((k : Int) / 2 ^ ((i : Int)).toNat) 1 = 1) ↔ k.testBit i = true := by
  have e : ((k : Int) / 2 ^ ((i : Int)).toNat) = ((k / 2 ^ i : Nat) : Int) := by rw [Int.toNat_natCast, Int.natCast_ediv, Int.natCast_pow]; rfl
  rw [e, PyProof.Rows.bitAnd_pp (Int.natCast_nonneg _) (by decide)]
  rw [show ((1 : Int).toNat) = 1 from rfl, Int.toNat_natCast, Nat.and_one_is_mod, Nat.testBit_eq_decide_div_mod_eq]
  constructor
  · intro h
    exact decide_eq_true (by omega)
  · intro h
    have := of_decide_eq_true h
    omega
theorem sum_take : ∀ (l : List Nat) (k : Nat), (l.take k).sum ≤ l.sum
  | [], _ => by simp
  | _ :: _, 0 => by simp
  | x :: l, k + 1 => by
    have := sum_take l k
    simp only [List.take_succ_cons, List.sum_cons]
    omega
theorem flat_get {α : Type} (d : α) (zss : List (List α)) : zss.flatten = ((List.range zss.length).flatMap fun i => (List.range (zss.getD i []).length).map fun j => (i, j)).map fun (ij : Nat × Nat) => (zss.getD ij.1 []).getD ij.2 d := by
  induction zss with
  | nil => rfl
  | cons z zs ih =>
    rw [List.length_cons, List.range_succ_eq_map, List.flatMap_cons, List.map_append, List.flatten_cons]
    congr 1
    · rw [List.map_map]
      refine List.ext_getElem (by simp) fun i h1 h2 => ?_
      simp [List.getElem?_eq_getElem h1]
    · rw [ih, List.flatMap_map, List.map_flatMap, List.map_flatMap]
      simp [Function.comp_def]
theorem paired_flip {α β : Type} {F : α → β → Prop} : ∀ {xs : List α} {ys : List β}, Paired F xs ys → Paired (fun y x => F x y) ys xs
  | _, _, .nil => .nil
  | _, _, .cons h t => .cons h (paired_flip t)
section
variable {G : Gd} (B : Bl G.mg)
include B
/-- a tuple, new or old -/
def spKindAt (K : PySem.W.Frag) : Sp := fun vs H Q _ => ∃ (a : Addr) (ys : List Str) (k : Nat), vs = [.ref a, .int k] ∧ SqT K H a (ys.map V.str) ∧ ys.length < 60 ∧
  ∀ p H', Same H H' → H' p = some (.tup ((kindL ys k).map V.str)) → Q (.ref p) H'
theorem ok_kind_at (F : Df G "kind_at" "kind_at" s_kind_at) : Cal G 1 "kind_at" P_kind_at (spKindAt G.K) := by
  refine F.cal (N := N_kind_at) sc_kind_at (fun _ _ _ _ _ _ us hl => match us, hl with | [_, _], _ => rfl) (fun vs H Q E h => by obtain ⟨_, _, _, rfl, _⟩ := h; rfl) fun f cdv A outer s H vs Q E hr h => ?_
  obtain ⟨a, ys, k, rfl, ha, few, cont⟩ := h
  have S := sc_kind_at
  refine ⟨_, (pss_one (ps_ret (pe_callTy call_tuple_of rfl B.tuple (by decide +kernel) (pa_cons (pe_lc (own := [("at", 2), ("name", 3)]) rfl S.nd (pi_enumT (by rfl) B.enumerate (pa_cons (pv 0) pa_nil)) (blkOk_by (own := [("at", 2), ("name", 3)]) (N := N_kind_at) (sc := defScope s_kind_at) (by decide +kernel)) (fun _ _ _ _ _ => (pg_tupK G.K (by rfl) (n := 2) (by rfl) (pgs_cons (pg_name (i := 2) S.nd rfl (by first | exact Or.inl rfl | exact Or.inr rfl)) (pgs_cons (pg_name (i := 3) S.nd rfl (by first | exact Or.inl rfl | exact Or.inr rfl)) pgs_nil)))) (fun _ _ _ _ _ => pts_one (pt_cmpR op_eq (pe_op op_and (pe_op op_shr (pv 1) (pv 2)) pe_int) pe_int (nomark _))) (fun _ _ _ _ _ => (pv 3))) pa_nil)))), ?_⟩
  refine ⟨_, rfl, a, ys.map V.str, rfl, ha, fun D hD => ?_⟩
  have bit : ∀ (i : Nat), (Builtin.bitAnd ((k : Int) / 2 ^ ((i : Int)).toNat) 1 = 1) ↔ k.testBit i = true := bit_at k
  refine lc_sel walk_enumT (fun i => k.testBit i) (fun i y _ => y = .str (ys.getD i "")) (by rw [List.length_map, sizeLine_eq]; omega) hD (fun H1 s1 => s1.tup ha) (fun _ _ _ _ _ _ _ h => h) ?_ ?_
  · rintro i x H1 H2 Qy Qn hi s1 nd ⟨T, p, q, rfl, hT, rfl, ep, eq⟩ cy cn
    obtain ⟨z, hz, rfl⟩ := strs_get eq
    obtain rfl := Option.some.inj ep
    have st := same_upd (o := .tup [V.int (i : Nat), V.str z]) hT
    refine ⟨T, [V.int (i : Nat), V.str z], rfl, .inl (.inl upd_same), rfl, _, _, rfl, ?_⟩
    refine ⟨_, _, rfl, rfl, rfl, ?_⟩
    refine ⟨_, rfl, _, rfl, _, _, rfl, rfl, Int.natCast_nonneg _, _, _, rfl, rfl, rfl, _, rfl, ?_⟩
    refine ite2 (fun c => ?_) fun c => ?_
    · have c1 := (bit i).mp (V.int.inj (of_decide_eq_true c))
      exact ⟨_, rfl, cy c1 _ _ st (by rw [List.getD_eq_getElem?_getD, hz]; rfl)⟩
    · refine cn (Bool.eq_false_iff.mpr fun c1 => c (decide_eq_true (congrArg V.int ((bit i).mpr c1)))) _ st
  · intro H1 acc s1 hD1 hp
    have ea : acc = (kindL ys k).map V.str := by
      rw [List.length_map] at hp
      have := paired_map_eq (f := fun i => V.str (ys.getD i "")) hp
      rw [this, kindL, List.map_map]; rfl
    rw [ea] at hD1
    exact ⟨_, _, rfl, .inl ⟨SqL.of hD1, fun l hl => cont l _ (s1.upd hl) upd_same⟩⟩
/-- the kinds -/
def spKinds (K : PySem.W.Frag) : Sp := fun vs H Q _ => ∃ (a : Addr) (zs ys : List Str), vs = [.ref a] ∧ SqT K H a (zs.map V.str) ∧ zs.length < 60 ∧ Asc zs ys ∧ ys.length ≤ 10 ∧
  ∀ p xs H', Same H H' → H' p = some (.tup xs) → Paired (fun k x => ∃ q, x = .ref q ∧ H' q = some (.tup ((kindL ys k).map V.str))) (List.range (2 ^ ys.length)) xs → Q (.ref p) H'
theorem ok_kinds (C_ascending : Cal G 1 "ascending" P_ascending (spAsc G.K)) (C_kind_at : Cal G 1 "kind_at" P_kind_at (spKindAt G.K)) (F : Df G "kinds" "kinds" s_kinds) : Cal G 3 "kinds" P_kinds (spKinds G.K) := by
  refine F.cal (N := N_kinds) sc_kinds (fun _ _ _ _ _ _ us hl => match us, hl with | [_], _ => rfl) (fun vs H Q E h => by obtain ⟨_, _, _, rfl, _⟩ := h; rfl) fun f cdv A outer s H vs Q E hr h => ?_
  obtain ⟨a, zs, ys, rfl, ha, few, asc, small, cont⟩ := h
  have S := sc_kinds
  refine ⟨_, (pss_cons (ps_set (i := 1) S.nd rfl (by first | exact Or.inl rfl | exact Or.inr rfl) (pe_cal (C_ascending.mono (by omega)) hr rfl (pa_cons (pv 0) pa_nil)))
    (pss_one (ps_ret (pe_callTy call_tuple_of rfl B.tuple (by decide +kernel) (pa_cons (pe_lc (own := [("number", 2)]) rfl S.nd (pi_range1 (by rfl) B.range (pa_cons (pe_op op_shl pe_int (pe_callB call_len_seq rfl B.len (by decide +kernel) (pa_cons (pv 1) pa_nil))) pa_nil)) (blkOk_by (own := [("number", 2)]) (N := N_kinds) (sc := defScope s_kinds) (by decide +kernel)) (fun _ _ _ _ _ => (pg_name (i := 2) S.nd rfl (by first | exact Or.inl rfl | exact Or.inr rfl))) (fun _ _ _ _ _ => pts_nil) (fun _ _ _ _ _ => (pe_cal (C_kind_at.mono (by omega)) hr rfl (pa_cons (pv 1) (pa_cons (pv 2) pa_nil))))) pa_nil))))), ?_⟩
  refine ⟨_, rfl, a, zs, rfl, .inr ha, few, fun p ys' H1 s1 asc' hp => ?_⟩
  obtain rfl : ys' = ys := asc_uniq asc' asc fun _ => Iff.rfl
  have le10 : 2 ^ ys'.length ≤ 2 ^ 10 := Nat.pow_le_pow_right (by decide) small
  have e2 : ((1 : Int) * 2 ^ ((ys'.length : Nat) : Int).toNat) = ((2 ^ ys'.length : Nat) : Int) := by rw [Int.toNat_natCast, Int.one_mul, Int.natCast_pow]; rfl
  have key : -(2 ^ 62) ≤ ((2 ^ ys'.length : Nat) : Int) ∧ ((2 ^ ys'.length : Nat) : Int) < 2 ^ 62 := by
    generalize 2 ^ ys'.length = n at le10
    omega
  refine ⟨_, rfl, p, ys'.map V.str, rfl, .inr (.inl (.inl hp)), _, _, rfl, rfl, ⟨by omega, by rw [List.length_map]; omega, by decide⟩, _, rfl, ?_, ?_, fun D hD => ?_⟩
  · rw [List.length_map, e2]; exact key.1
  · rw [List.length_map, e2]; exact key.2
  rw [List.length_map, e2, Int.toNat_natCast]
  refine lc_map (walk_range (lo := 0)) (fun k x H' => ∃ q, x = .ref q ∧ H' q = some (.tup ((kindL ys' k).map V.str))) (by rw [sizeLine_eq]; omega) hD (fun _ _ => trivial) ?_ ?_ ?_
  · rintro k x H2 H3 xs eD sx ⟨q, rfl, hq⟩
    exact ⟨q, rfl, sx _ _ hq fun e => by rw [e, eD] at hq; cases hq⟩
  · rintro k x H2 H3 Qy hk s2 nd ⟨rfl, rfl⟩ cy
    refine ⟨rfl, ⟨_, rfl, _, rfl, p, ys', k, ?_, .inl (.inl (s2 _ _ hp)), by omega, fun q H4 s4 hq => cy _ _ s4 ⟨q, rfl, hq⟩⟩⟩
    show [V.ref p, V.int (0 + (k : Int))] = [V.ref p, V.int (k : Int)]
    rw [Int.zero_add]
  · intro H2 acc s2 hD2 hpr
    refine ⟨_, _, rfl, .inl ⟨SqL.of hD2, fun l hl => cont l _ _ (s1.trans (s2.upd hl)) upd_same ?_⟩⟩
    refine Paired.mapP hpr fun k x ⟨q, e, hq⟩ => ⟨q, e, same_upd hl _ _ hq⟩
/-- names of things whose field names is a tuple of texts -/
def NRep (K : PySem.W.Frag) (H : Hp) (zs : List Str) (v : V) : Prop := ∃ (a C dx na : Addr) (fs : List (Str × V)), v = .ref a ∧ H a = some (.ins C dx fs) ∧ Cls K C ∧ NoAttr K C "names" ∧ fs.lookup ("names" : Str) = some (V.ref na) ∧ SqT K H na (zs.map V.str)
theorem NRep.same {K : PySem.W.Frag} {H H' : Hp} (h : Same H H') {zs : List Str} {v : V} (r : NRep K H zs v) : NRep K H' zs v := by
  obtain ⟨a, C, dx, na, fs, e, ha, c, n, l, s⟩ := r
  exact ⟨a, C, dx, na, fs, e, h _ _ ha, c, n, l, h.tup s⟩
def spNames (K : PySem.W.Frag) : Sp := fun vs H Q _ => ∃ (a : Addr) (zss : List (List Str)) (xs : List V), vs = [.ref a] ∧ (SqL K H a xs ∨ SqT K H a xs) ∧ Paired (NRep K H) zss xs ∧ zss.flatten.length < 60 ∧ zss.length < 1000 ∧
  ∀ p ys H', Same H H' → Asc zss.flatten ys → H' p = some (.tup (ys.map V.str)) → Q (.ref p) H'
theorem ok_names_of {y : Str} (C_ascending : Cal G 1 "ascending" P_ascending (spAsc G.K)) (F : Df G y "names_of" s_names_of) : Cal G 3 y P_names_of (spNames G.K) := by
  refine F.cal (N := N_names_of) sc_names_of (fun _ _ _ _ _ _ us hl => match us, hl with | [_], _ => rfl) (fun vs H Q E h => by obtain ⟨_, _, _, rfl, _⟩ := h; rfl) fun f cdv A outer s H vs Q E hr h => ?_
  obtain ⟨a, zss, xs, rfl, ha, prs, few, few2, cont⟩ := h
  have S := sc_names_of
  have lx : xs.length = zss.length := (paired_len prs).symm
  let m : Nat → Nat := fun i => (zss.getD i []).length
  have bnd : ∀ k, k ≤ xs.length → ((List.range k).map m).sum < sizeLine := fun k hk => by
    have e : ((List.range k).map m).sum = (zss.take k).flatten.length := by
      rw [List.length_flatten]
      congr 1
      refine List.ext_getElem (by simp; omega) fun i h1 h2 => ?_
      simp at h1 h2 ⊢
      simp [m, List.getElem?_eq_getElem (show i < zss.length by omega)]
    have : (zss.take k).flatten.length ≤ zss.flatten.length := by
      rw [List.length_flatten, List.length_flatten, List.map_take]
      exact sum_take _ _
    rw [e, sizeLine_eq]
    omega
  have fin : ∀ (D : Addr) (H1 : Hp) (acc : List V), Same H H1 → H1 D = some (.lst acc) → Paired (fun (ij : Nat × Nat) y => y = .str ((zss.getD ij.1 []).getD ij.2 "")) ((List.range xs.length).flatMap fun i => (List.range (m i)).map fun j => (i, j)) acc → spAsc G.K [.ref D] H1 Q E := by
    intro D H1 acc s1 hD pr
    have e : acc = zss.flatten.map V.str := by
      rw [paired_map_eq (f := fun (ij : Nat × Nat) => V.str ((zss.getD ij.1 []).getD ij.2 "")) pr, lx, flat_get ("" : Str) zss, List.map_map]
      rfl
    rw [e] at hD
    exact ⟨D, _, rfl, .inl (SqL.of hD), few, fun p ys H2 s2 asc hp => cont p ys H2 (s1.trans s2) asc hp⟩
  refine ⟨_, (pss_one (ps_ret (pe_cal (C_ascending.mono (by omega)) hr rfl (pa_cons (pe_lc2 (own := [("thing", 1), ("name", 2)]) (vs1 := [2]) rfl S.nd (pi_seq G.K (by rfl) (pv 0) mono_var) (blkOk_by (own := [("thing", 1), ("name", 2)]) (N := N_names_of) (sc := defScope s_names_of) (by decide +kernel)) (by decide) (fun _ _ _ _ _ => (pg_name (i := 1) S.nd rfl (by first | exact Or.inl rfl | exact Or.inr rfl))) (fun _ _ _ _ _ => pts_nil) (fun _ _ _ _ _ => (pi_tupK G.K (by rfl) (pe_fldK G.K (by rfl) (pv 1) rfl))) (fun _ _ _ _ _ => (pg_name (i := 2) S.nd rfl (by first | exact Or.inl rfl | exact Or.inr rfl))) (fun _ _ _ _ _ => pts_nil) (fun _ _ _ _ _ => (pv 2))) pa_nil)))), ?_⟩
  refine ⟨_, rfl, a, xs, rfl, ha, fun J Gp w _ hg D hD => ?_⟩
  refine lc2_flat w m (fun i j y _ => y = .str ((zss.getD i []).getD j "")) bnd hD hg (fun _ _ _ _ _ _ _ _ h => h) ?_ fun H1 acc s1 hD1 pr => fin D H1 acc s1 hD1 pr
  rintro i x H1 H2 C hi s1 nd ⟨rfl, hx⟩ c
  obtain ⟨zs, hz, b, Cl, dx, na, fs, rfl, hb, cl, no, lk, hna⟩ := paired_get (paired_flip prs) hx
  have ez : zss.getD i [] = zs := by rw [List.getD_eq_getElem?_getD, hz]; rfl
  have hna1 := s1.tup hna
  refine ⟨rfl, _, rfl, b, Cl, dx, fs, _, rfl, s1 _ _ hb, cl, no, lk, na, rfl, ⟨_, hna1⟩, ?_⟩
  refine c _ _ _ (fun H => SqT G.K H na (zs.map V.str)) (YAt (zs.map V.str)) (Same.refl _) ?_ (fun H5 sx => (same_x hD s1 sx).tup hna) ?_
  · have : m i = (zs.map V.str).length := by rw [List.length_map]; exact congrArg _ ez
    rw [this]
    exact walk_tup
  · rintro j x1 H5 H6 Qy hj sx s5 nd5 ⟨rfl, hx1⟩ cy
    obtain ⟨z, hz1, rfl⟩ := strs_get hx1
    refine ⟨rfl, _, rfl, cy _ _ (Same.refl _) ?_⟩
    rw [ez, List.getD_eq_getElem?_getD, hz1]
    rfl
def spIsKind : Sp := fun vs H Q _ => ∃ (a : Addr) (ys : List Str), vs = [.ref a] ∧ H a = some (.tup (ys.map V.str)) ∧ ys.length < 60 ∧ Asc ys ys ∧ (∀ y ∈ ys, Nm y) ∧ ∀ H', Same H H' → Q (.bl true) H'
theorem ok_is_kind (C_is_sequence : Cal G 1 "is_sequence" P_is_sequence (spIsSeq G.K)) (C_is_name : Cal G 1 "is_name" P_is_name spIsName) (C_ascending : Cal G 1 "ascending" P_ascending (spAsc G.K)) (F : Df G "is_kind" "is_kind" s_is_kind) : Cal G 3 "is_kind" P_is_kind spIsKind := by
  refine F.cal (N := N_is_kind) sc_is_kind (fun _ _ _ _ _ _ us hl => match us, hl with | [_], _ => rfl) (fun vs H Q E h => by obtain ⟨_, _, rfl, _⟩ := h; rfl) fun f cdv A outer s H vs Q E hr h => ?_
  obtain ⟨a, ys, rfl, ha, few, asc, nm, cont⟩ := h
  have S := sc_is_kind
  refine ⟨_, (pss_cons (ps_if (PW.pt (pw_or (pt_not (pt_val (pe_cal (C_is_sequence.mono (by omega)) hr rfl (pa_cons (pv 0) pa_nil)))) (pw_or1 (pt_not (pt_val (pe_callB (cr_all rfl) rfl B.all (by decide +kernel) (pa_cons (pe_lc (own := [("name", 1)]) rfl S.nd (pi_tup (pv 0)) (blkOk_by (own := [("name", 1)]) (N := N_is_kind) (sc := defScope s_is_kind) (by decide +kernel)) (fun _ _ _ _ _ => (pg_name (i := 1) S.nd rfl (by first | exact Or.inl rfl | exact Or.inr rfl))) (fun _ _ _ _ _ => pts_nil) (fun _ _ _ _ _ => (pe_cal (C_is_name.mono (by omega)) hr rfl (pa_cons (pv 1) pa_nil)))) pa_nil))))))) (pss_one (ps_ret pe_bl)) pss_nil)
    (pss_one (ps_ret (pe_cmpR op_eq (pe_callB call_len_seq rfl B.len (by decide +kernel) (pa_cons (pe_cal (C_ascending.mono (by omega)) hr rfl (pa_cons (pv 0) pa_nil)) pa_nil)) (pe_callB call_len_seq rfl B.len (by decide +kernel) (pa_cons (pv 0) pa_nil)) (nomark _))))), ?_⟩
  refine ⟨_, rfl, a, _, rfl, .inr ha, fun H1 s1 => ⟨true, rfl, ?_⟩⟩
  refine iteF ?_
  refine ⟨_, rfl, a, rfl, ⟨_, .inl (.inl (s1 _ _ ha))⟩, fun D hD => ?_⟩
  refine lc_map (walk_tup (xs := ys.map V.str)) (fun _ y _ => y = .bl true) (by rw [List.length_map, sizeLine_eq]; omega) hD (fun H2 s2 => .inl (.inl (s2 _ _ (s1 _ _ ha)))) (fun _ _ _ _ _ _ _ h => h) ?_ ?_
  · rintro i x H2 H3 Qy hi s2 nd ⟨rfl, hx⟩ cy
    obtain ⟨z, hz, rfl⟩ := strs_get hx
    exact ⟨rfl, _, rfl, z, rfl, nm z (List.mem_of_getElem? hz), fun H4 s4 => cy _ _ s4 rfl⟩
  · intro H2 acc s2 hD2 hp
    have ea : acc = (List.range ys.length).map (fun _ => V.bl true) := by
      rw [List.length_map] at hp
      exact paired_map_eq hp
    refine ⟨_, (List.range ys.length).map (fun _ => true), rfl, SqL.of (by rw [hD2, ea, List.map_map]; rfl), ?_⟩
    rw [show ((List.range ys.length).map fun _ => true).all id = true by simp]
    refine ⟨true, rfl, iteF ?_⟩
    have ha2 := s2 _ _ (s1 _ _ ha)
    refine ⟨_, rfl, a, ys, rfl, .inr (.inl (.inl ha2)), few, fun p ys' H3 s3 asc' hp3 => ?_⟩
    obtain rfl : ys' = ys := asc_uniq asc' asc fun _ => Iff.rfl
    refine ⟨p, _, rfl, .inr (.inl (.inl hp3)), _, rfl, a, _, rfl, .inr (.inl (.inl (s3 _ _ ha2))), rfl, ?_⟩
    rw [decide_eq_true rfl]
    exact cont _ (s1.trans (s2.trans s3))
end
end Mc
/-! The walk, 3: masks. -/
namespace Mc
open PySem PySem.Spec PyProof.Rows L2
/-! ### plain -/
theorem kindL_mem {ys : List Str} {k : Nat} {w : Str} : w ∈ kindL ys k ↔ ∃ i, i < ys.length ∧ k.testBit i = true ∧ ys.getD i "" = w := by
  unfold kindL
  rw [List.mem_map]
  constructor
  · rintro ⟨i, hi, e⟩
    rw [List.mem_filter, List.mem_range] at hi
    exact ⟨i, hi.1, hi.2, e⟩
  · rintro ⟨i, h1, h2, e⟩
    exact ⟨i, List.mem_filter.mpr ⟨List.mem_range.mpr h1, h2⟩, e⟩
theorem inK_at {ys : List Str} (nd : ys.Nodup) {j : Nat} {w : Str} (h : ys[j]? = some w) (k : Nat) : inK ys k w = k.testBit j := by
  obtain ⟨hj, ej⟩ := List.getElem?_eq_some_iff.mp h
  unfold inK
  rw [Bool.eq_iff_iff, decide_eq_true_iff, kindL_mem]
  constructor
  · rintro ⟨i, hi, hb, e⟩
    rw [List.getD_eq_getElem?_getD, List.getElem?_eq_getElem hi] at e
    have : i = j := (List.getElem_inj nd).mp (by rw [ej]; exact e)
    rw [← this]; exact hb
  · intro hb
    exact ⟨j, hj, hb, by rw [List.getD_eq_getElem?_getD, h]; rfl⟩
theorem msk_sum (p : Nat → Bool) (n : Nat) : (((List.range n).filter p).map fun k => ((2 ^ k : Nat) : Int)).sum = (msk p n : Int) := by
  induction n with
  | zero => rfl
  | succ n ih =>
    rw [List.range_succ, List.filter_append, List.map_append, List.sum_append, ih, msk]
    by_cases hp : p n = true
    · simp [hp]
    · simp [hp]
theorem msk_congr {p q : Nat → Bool} {n : Nat} (h : ∀ k, k < n → p k = q k) : msk p n = msk q n := msk_of fun k => by
  rw [msk_bit]
  by_cases l : k < n
  · rw [h k l]
  · simp [l]
theorem msk_and (p q : Nat → Bool) (n : Nat) : msk p n &&& msk q n = msk (fun k => p k && q k) n := msk_of fun k => by
  rw [Nat.testBit_and, msk_bit, msk_bit]
  cases decide (k < n) <;> simp
theorem msk_or (p q : Nat → Bool) (n : Nat) : msk p n ||| msk q n = msk (fun k => p k || q k) n := msk_of fun k => by
  rw [Nat.testBit_or, msk_bit, msk_bit]
  cases decide (k < n) <;> simp
theorem msk_xor (p q : Nat → Bool) (n : Nat) : msk p n ^^^ msk q n = msk (fun k => p k != q k) n := msk_of fun k => by
  rw [Nat.testBit_xor, msk_bit, msk_bit]
  cases decide (k < n) <;> simp
theorem and_not (x y : Nat) : Builtin.bitAnd (x : Int) (Builtin.bitNot (y : Int)) = ((x ^^^ (x &&& y) : Nat) : Int) := by
  have e1 := bitAnd_not (x : Int) (y : Int)
  rw [bitAnd_pp (Int.natCast_nonneg x) (Int.natCast_nonneg y), Int.toNat_natCast, Int.toNat_natCast] at e1
  have e2 := bitXor_and (x : Int) ((x &&& y : Nat) : Int)
  rw [Bits.bitXor_pp (Int.natCast_nonneg _) (Int.natCast_nonneg _), bitAnd_pp (Int.natCast_nonneg _) (Int.natCast_nonneg _), Int.toNat_natCast, Int.toNat_natCast] at e2
  have e3 : x &&& (x &&& y) = x &&& y := by rw [← Nat.and_assoc, Nat.and_self]
  rw [e3] at e2
  rw [e1, e2]
  omega
theorem msk_diff (p q : Nat → Bool) (n : Nat) : Builtin.bitAnd (msk p n : Int) (Builtin.bitNot (msk q n : Int)) = ((msk (fun k => p k && !q k) n : Nat) : Int) := by
  rw [and_not, msk_and, msk_xor]
  congr 2
  funext k
  cases p k <;> cases q k <;> rfl
theorem msk_all (n : Nat) : msk (fun _ => true) n = 2 ^ n - 1 := by
  induction n with
  | zero => rfl
  | succ n ih =>
    rw [msk, ih, if_pos rfl, Nat.pow_succ]
    have : 0 < 2 ^ n := Nat.pow_pos (by decide)
    omega
theorem hasFs_map (p : Str → Bool) : ∀ fs : List Gf, hasFs p fs = fs.map (hasF p)
  | [] => rfl
  | f :: fs => by rw [hasFs, hasFs_map p fs]; rfl
/-! ### the walk -/
structure Gc (G : Gd) (C : Addr) : Prop where
  cl : Cls G.K C
  sign : NoAttr G.K C "sign"
  parts : NoAttr G.K C "parts"
  word : NoAttr G.K C "word"
  number : NoAttr G.K C "number"
  names : NoAttr G.K C "names"
  script : NoAttr G.K C "script"
abbrev N_name_mask : List Str := ["names", "name", "spot", "number"]
abbrev P_name_mask : List Str := ["names", "name"]
theorem sc_name_mask : FnScope N_name_mask P_name_mask (defScope s_name_mask) := ⟨rfl, rfl, rfl, by decide +kernel, rfl, by decide +kernel, by decide +kernel⟩

abbrev N_many_mask : List Str := ["masks", "number", "size", "found", "at", "mask"]
abbrev P_many_mask : List Str := ["masks", "number", "size"]
theorem sc_many_mask : FnScope N_many_mask P_many_mask (defScope s_many_mask) := ⟨rfl, rfl, rfl, by decide +kernel, rfl, by decide +kernel, by decide +kernel⟩

abbrev N_mask_of : List Str := ["group", "names", "masks", "size", "every", "part"]
abbrev P_mask_of : List Str := ["group", "names"]
theorem sc_mask_of : FnScope N_mask_of P_mask_of (defScope s_mask_of) := ⟨rfl, rfl, rfl, by decide +kernel, rfl, by decide +kernel, by decide +kernel⟩

section
variable {G : Gd} (B : Bl G.mg)
include B
def spNameMask : Sp := fun vs H Q _ => ∃ (a : Addr) (ys : List Str) (w : Str), vs = [.ref a, .str w] ∧ NT H a ys ∧ ys.Nodup ∧ ys.length ≤ 10 ∧ w ∈ ys ∧ ∀ H', Same H H' → Q (.int (msk (fun k => inK ys k w) (2 ^ ys.length) : Nat)) H'
theorem ok_name_mask (F : Df G "name_mask" "name_mask" s_name_mask) : Cal G 1 "name_mask" P_name_mask spNameMask := by
  refine F.cal (N := N_name_mask) sc_name_mask (fun _ _ _ _ _ _ us hl => match us, hl with | [_, _], _ => rfl) (fun vs H Q E h => by obtain ⟨_, _, _, rfl, _⟩ := h; rfl) fun f cdv A outer s H vs Q E hr h => ?_
  obtain ⟨a, ys, w, rfl, nt, nd, small, hw, cont⟩ := h
  have S := sc_name_mask
  refine ⟨_, (pss_cons (ps_set (i := 2) S.nd rfl (by first | exact Or.inl rfl | exact Or.inr rfl) (pe_tupIndex (pv 0) (pa_cons (pv 1) pa_nil)))
    (pss_one (ps_ret (pe_callB (cr_sum rfl) rfl B.sum (by decide +kernel) (pa_cons (pe_lc (own := [("number", 3)]) rfl S.nd (pi_range1 (by rfl) B.range (pa_cons (pe_op op_shl pe_int (pe_callB call_len_seq rfl B.len (by decide +kernel) (pa_cons (pv 0) pa_nil))) pa_nil)) (blkOk_by (own := [("number", 3)]) (N := N_name_mask) (sc := defScope s_name_mask) (by decide +kernel)) (fun _ _ _ _ _ => (pg_name (i := 3) S.nd rfl (by first | exact Or.inl rfl | exact Or.inr rfl))) (fun _ _ _ _ _ => pts_one (pt_cmpR op_eq (pe_op op_and (pe_op op_shr (pv 3) (pv 2)) pe_int) pe_int (nomark _))) (fun _ _ _ _ _ => (pe_op op_shl pe_int (pv 3)))) pa_nil))))), ?_⟩
  have hlt : ys.idxOf w < ys.length := List.idxOf_lt_length_of_mem hw
  have hj : ys[ys.idxOf w]? = some w := by rw [List.getElem?_eq_getElem hlt, List.getElem_idxOf hlt]
  refine ⟨_, rfl, a, ys, rfl, nt, _, rfl, nt, w, ys.idxOf w, rfl, hj, ?_, ?_⟩
  · intro m hm e
    obtain ⟨hm', em⟩ := List.getElem?_eq_some_iff.mp e
    have := (List.getElem_inj (h₀ := hm') (h₁ := hlt) nd).mp (by rw [em, List.getElem_idxOf hlt])
    omega
  generalize ys.idxOf w = j at hj hlt
  have le10 : 2 ^ ys.length ≤ 2 ^ 10 := Nat.pow_le_pow_right (by decide) small
  have e2 : ((1 : Int) * 2 ^ ((ys.length : Nat) : Int).toNat) = ((2 ^ ys.length : Nat) : Int) := by rw [Int.toNat_natCast, Int.one_mul, Int.natCast_pow]; rfl
  have key : -(2 ^ 62) ≤ ((2 ^ ys.length : Nat) : Int) ∧ ((2 ^ ys.length : Nat) : Int) < 2 ^ 62 := by
    generalize 2 ^ ys.length = n at le10
    omega
  refine ⟨_, rfl, a, ys.map V.str, rfl, .inr nt.sq, _, _, rfl, rfl, ⟨by omega, by rw [List.length_map]; omega, by decide⟩, _, rfl, ?_, ?_, fun D hD => ?_⟩
  · rw [List.length_map, e2]; exact key.1
  · rw [List.length_map, e2]; exact key.2
  rw [List.length_map, e2, Int.toNat_natCast]
  refine lc_sel (walk_range (lo := 0)) (fun k => k.testBit j) (fun k y _ => y = .int ((2 ^ k : Nat) : Int)) (by rw [sizeLine_eq]; omega) hD (fun _ _ => trivial) (fun _ _ _ _ _ _ _ h => h) ?_ ?_
  · rintro k x H2 H3 Qy Qn hk s2 nd ⟨rfl, rfl⟩ cy cn
    rw [show ((fun i : Nat => V.int (0 + (i : Int))) k) = V.int (k : Int) from by simp]
    refine ⟨rfl, _, rfl, _, rfl, _, _, rfl, rfl, Int.natCast_nonneg _, _, _, rfl, rfl, rfl, _, rfl, ?_⟩
    refine ite2 (fun c => ?_) fun c => ?_
    · have c1 := (bit_at k j).mp (V.int.inj (of_decide_eq_true c))
      refine ⟨_, rfl, _, _, rfl, rfl, ⟨by omega, by omega, by decide⟩, cy c1 _ _ (Same.refl _) ?_⟩
      show V.int (1 * 2 ^ ((k : Int)).toNat) = _
      rw [Int.toNat_natCast, Int.one_mul, Int.natCast_pow]; rfl
    · refine cn (Bool.eq_false_iff.mpr fun c1 => c (decide_eq_true (congrArg V.int ((bit_at k j).mpr c1)))) _ (Same.refl _)
  · intro H1 acc s1 hD1 hp
    have ea := paired_map_eq (f := fun k => V.int ((2 ^ k : Nat) : Int)) hp
    refine ⟨D, ((List.range (2 ^ ys.length)).filter fun k => k.testBit j).map (fun k => ((2 ^ k : Nat) : Int)), rfl, SqL.of (by rw [hD1, ea, List.map_map]; rfl), ?_⟩
    rw [msk_sum, msk_congr (q := fun k => inK ys k w) fun k _ => (inK_at nd hj k).symm]
    exact cont _ s1
def spManyMask (K : PySem.W.Frag) : Sp := fun vs H Q _ => ∃ (a : Addr) (ms : List Nat) (n z : Nat), vs = [.ref a, .int n, .int z] ∧ SqL K H a (ms.map fun m : Nat => V.int (m : Int)) ∧ ms.length < 60 ∧ z ≤ 1024 ∧
  ∀ H', Same H H' → Q (.int (msk (fun k => decide (n ≤ (ms.filter fun m => m.testBit k).length)) z : Nat)) H'
omit B in
theorem nats_get {ms : List Nat} {i : Nat} {x : V} (h : (ms.map fun m : Nat => V.int (m : Int))[i]? = some x) : ∃ m, ms[i]? = some m ∧ x = .int (m : Int) := by
  rw [List.getElem?_map] at h
  cases e : ms[i]? with
  | none => rw [e] at h; cases h
  | some z => rw [e] at h; exact ⟨z, rfl, (Option.some.inj h).symm⟩
omit B in
theorem filter_range {α β : Type} (d : α) (f : α → β) (p : α → Bool) (xs : List α) : ((List.range xs.length).filter fun i => p (xs.getD i d)).map (fun i => f (xs.getD i d)) = (xs.filter p).map f := by
  induction xs with
  | nil => rfl
  | cons x xs ih =>
    rw [List.length_cons, List.range_succ_eq_map, List.filter_cons, List.filter_cons]
    have e : ((List.map Nat.succ (List.range xs.length)).filter fun i => p ((x :: xs).getD i d)).map (fun i => f ((x :: xs).getD i d)) = (xs.filter p).map f := by
      rw [List.filter_map, List.map_map, ← ih]
      rfl
    show (if p x = true then 0 :: _ else _).map _ = _
    by_cases hx : p x = true
    · rw [if_pos hx, if_pos hx, List.map_cons, List.map_cons, e]; rfl
    · rw [if_neg hx, if_neg hx, e]
theorem ok_many_mask (F : Df G "many_mask" "many_mask" s_many_mask) : Cal G 1 "many_mask" P_many_mask (spManyMask G.K) := by
  refine F.cal (N := N_many_mask) sc_many_mask (fun _ _ _ _ _ _ us hl => match us, hl with | [_, _, _], _ => rfl) (fun vs H Q E h => by obtain ⟨_, _, _, _, rfl, _⟩ := h; rfl) fun f cdv A outer s H vs Q E hr h => ?_
  obtain ⟨a, ms, n, z, rfl, hm, few, small, cont⟩ := h
  have S := sc_many_mask
  refine ⟨_, (pss_cons (ps_set (i := 3) S.nd rfl (by first | exact Or.inl rfl | exact Or.inr rfl) pe_int)
    (pss_cons (ps_for PassesOwn.never rfl (pi_range1 (by rfl) B.range (pa_cons (pv 2) pa_nil)) (pg_name (i := 4) S.nd rfl (by first | exact Or.inl rfl | exact Or.inr rfl)) (pss_one (ps_if (pt_cmpR op_ge (pe_callB call_len_seq rfl B.len (by decide +kernel) (pa_cons (pe_lc (own := [("mask", 5)]) rfl S.nd (pi_list (pv 0)) (blkOk_by (own := [("mask", 5)]) (N := N_many_mask) (sc := defScope s_many_mask) (by decide +kernel)) (fun _ _ _ _ _ => (pg_name (i := 5) S.nd rfl (by first | exact Or.inl rfl | exact Or.inr rfl))) (fun _ _ _ _ _ => pts_one (pt_cmpR op_eq (pe_op op_and (pe_op op_shr (pv 5) (pv 4)) pe_int) pe_int (nomark _))) (fun _ _ _ _ _ => (pv 5))) pa_nil)) (pv 1) (nomark _)) (pss_one (ps_set (i := 3) S.nd rfl (by first | exact Or.inl rfl | exact Or.inr rfl) (pe_op op_or (pv 3) (pe_op op_shl pe_int (pv 4))))) pss_nil)))
    (pss_one (ps_ret (pv 3))))), ?_⟩
  let p : Nat → Bool := fun k => decide (n ≤ (ms.filter fun m => m.testBit k).length)
  refine ⟨_, rfl, (z : Int), rfl, by omega, by omega, ?_⟩
  rw [Int.toNat_natCast]
  refine for_it (walk_range (lo := 0)) (fun i σ H1 => Same H H1 ∧ σ[0]? = some (some (.ref a)) ∧ σ[1]? = some (some (.int n)) ∧ σ[3]? = some (some (.int (msk p i : Nat))) ∧ σ.length = 6) ⟨Same.refl _, rfl, rfl, rfl, rfl⟩ (fun _ _ _ _ _ => trivial) ?_ ?_
  · rintro i x σ H1 H2 hi ⟨s1, e0, e1, e3, el⟩ ⟨rfl, rfl⟩
    obtain ⟨v0, v1, v2, v3, v4, v5, rfl⟩ : ∃ v0 v1 v2 v3 v4 v5, σ = [v0, v1, v2, v3, v4, v5] := by
      match σ, el with
      | [v0, v1, v2, v3, v4, v5], _ => exact ⟨v0, v1, v2, v3, v4, v5, rfl⟩
    cases e0; cases e1; cases e3
    rw [show ((fun i : Nat => V.int (0 + (i : Int))) i) = V.int (i : Int) from by simp]
    refine ⟨_, rfl, a, rfl, ⟨_, s1.seq hm⟩, fun D hD => ?_⟩
    refine lc_sel (walk_list (xs := ms.map fun m : Nat => V.int (m : Int))) (fun j => (ms.getD j 0).testBit i) (fun j y _ => y = .int ((ms.getD j 0 : Nat) : Int)) (by rw [List.length_map, sizeLine_eq]; omega) hD (fun H3 s3 => s3.seq (s1.seq hm)) (fun _ _ _ _ _ _ _ h => h) ?_ ?_
    · rintro j x H3 H4 Qy Qn hj s3 nd ⟨rfl, hx⟩ cy cn
      obtain ⟨m, hmj, rfl⟩ := nats_get hx
      have eg : ms.getD j 0 = m := by rw [List.getD_eq_getElem?_getD, hmj]; rfl
      rw [eg] at cy cn
      refine ⟨rfl, _, rfl, _, rfl, _, _, rfl, rfl, Int.natCast_nonneg _, _, _, rfl, rfl, rfl, _, rfl, ?_⟩
      refine ite2 (fun c => ?_) fun c => ?_
      · have c1 := (bit_at m i).mp (V.int.inj (of_decide_eq_true c))
        exact ⟨_, rfl, cy c1 _ _ (Same.refl _) rfl⟩
      · refine cn (Bool.eq_false_iff.mpr fun c1 => c (decide_eq_true (congrArg V.int ((bit_at m i).mpr c1)))) _ (Same.refl _)
    · intro H3 acc s3 hD3 hp
      rw [List.length_map] at hp
      have ea := paired_map_eq (f := fun j => V.int ((ms.getD j 0 : Nat) : Int)) hp
      have el : acc.length = (ms.filter fun m => m.testBit i).length := by
        rw [ea, filter_range 0 (fun m : Nat => V.int (m : Int)) (fun m => m.testBit i), List.length_map]
      refine ⟨D, acc, rfl, .inl (SqL.of hD3), _, rfl, _, _, rfl, rfl, _, rfl, ?_⟩
      have lt := msk_lt p i
      refine ite2 (fun c => ?_) fun c => ?_
      · have c1 : p i = true := by
          have := of_decide_eq_true c
          rw [el] at this
          exact decide_eq_true (by omega)
        refine ⟨_, rfl, _, rfl, _, _, rfl, rfl, ⟨by omega, by omega, by decide⟩, _, _, rfl, rfl, s1.trans s3, rfl, rfl, ?_, rfl⟩
        show some (some (V.int (Builtin.bitOr (msk p i : Int) ((1 : Int) * 2 ^ ((i : Int)).toNat)))) = some (some (V.int (msk p (i + 1) : Nat)))
        rw [Int.toNat_natCast, Bits.bitOr_join (Int.natCast_nonneg _) (by exact_mod_cast lt) (by decide), msk, if_pos c1, Int.one_mul]
        rw [Int.natCast_add, Int.natCast_pow]
        rfl
      · refine ⟨s1.trans s3, rfl, rfl, ?_, rfl⟩
        have c1 : ¬ p i = true := fun h => c (decide_eq_true (by rw [el]; have := of_decide_eq_true h; omega))
        show some (some (V.int (msk p i : Nat))) = some (some (V.int (msk p (i + 1) : Nat)))
        rw [msk, if_neg c1, Nat.add_zero]
  · rintro σ H1 ⟨s1, e0, e1, e3, el⟩
    exact ⟨_, e3, cont _ s1⟩
def spMask (C : Addr) (d : Nat) : Sp := fun vs H Q _ => ∃ (f : Gf) (v : V) (a : Addr) (ys : List Str), vs = [v, .ref a] ∧ GRep C H f v ∧ Good ys f ∧ depth f < d ∧ NT H a ys ∧ ys.Nodup ∧ ys.length ≤ 10 ∧
  ∀ H', Same H H' → Q (.int (mskF ys f : Nat)) H'
theorem ok_mask_of {C : Addr} (gc : Gc G C) (C_name_mask : Cal G 1 "name_mask" P_name_mask spNameMask) (C_many_mask : Cal G 1 "many_mask" P_many_mask (spManyMask G.K)) (F : Df G "mask_of" "mask_of" s_mask_of) : ∀ d, Cal G (d + 2) "mask_of" P_mask_of (spMask C d)
  | 0 => (F.cal (N := N_mask_of) sc_mask_of (fun _ _ _ _ _ _ us hl => match us, hl with | [_, _], _ => rfl) (fun vs H Q E h => by obtain ⟨_, _, _, _, _, _, _, h, _⟩ := h; exact absurd h (Nat.not_lt_zero _))
      fun f cdv A outer s H vs Q E hr h => by obtain ⟨_, _, _, _, _, _, _, h, _⟩ := h; exact absurd h (Nat.not_lt_zero _) : Cal G 2 "mask_of" P_mask_of (spMask C 0))
  | d + 1 => by
    have C_mask_of := ok_mask_of gc C_name_mask C_many_mask F d
    refine F.cal (N := N_mask_of) sc_mask_of (fun _ _ _ _ _ _ us hl => match us, hl with | [_, _], _ => rfl) (fun vs H Q E h => by obtain ⟨_, _, _, _, rfl, _⟩ := h; rfl) fun fa cdv A outer s H vs Q E hr h => ?_
    obtain ⟨⟨sg, w, n, ps⟩, v, a, ys, rfl, gr, good, dep, nt, nd, small, cont⟩ := h
    have S := sc_mask_of
    refine ⟨_, (pss_cons (ps_setLc (i := 2) (own := [("part", 5)]) rfl S.nd rfl rfl (sw_true rfl rfl rfl (by decide +kernel)) (pi_tup (pe_fld (pv 0) rfl)) (blkOk_by (own := [("part", 5)]) (N := N_mask_of) (sc := defScope s_mask_of) (by decide +kernel)) (fun _ _ _ _ _ => (pg_name (i := 5) S.nd rfl (by first | exact Or.inl rfl | exact Or.inr rfl))) (fun _ _ _ _ _ => pts_nil) (fun _ _ _ _ _ => (pe_cal (C_mask_of.mono (by omega)) hr rfl (pa_cons (pv 5) (pa_cons (pv 1) pa_nil)))))
    (pss_cons (ps_set (i := 3) S.nd rfl (by first | exact Or.inl rfl | exact Or.inr rfl) (pe_op op_shl pe_int (pe_callB call_len_seq rfl B.len (by decide +kernel) (pa_cons (pv 1) pa_nil))))
    (pss_cons (ps_match (pe_fld (pv 0) rfl) (pms_cons (pss_one (ps_ret (pe_ifExp (pt_cmpR op_in_seq (pe_fld (pv 0) rfl) (pv 1) rfl) (pe_cal (C_name_mask.mono (by omega)) hr rfl (pa_cons (pv 1) (pa_cons (pe_fld (pv 0) rfl) pa_nil))) pe_int)))
    (pms_cons (pss_one (ps_ret pe_int))
    (pms_cons (pss_one (ps_ret (pe_op op_and (pe_ix ix_list (pv 2) pe_int (fun _ _ => rfl)) (pe_ix ix_list (pv 2) pe_int (fun _ _ => rfl)))))
    (pms_cons (pss_one (ps_ret (pe_op op_or (pe_ix ix_list (pv 2) pe_int (fun _ _ => rfl)) (pe_ix ix_list (pv 2) pe_int (fun _ _ => rfl)))))
    (pms_cons (pss_one (ps_ret (pe_op op_xor (pe_ix ix_list (pv 2) pe_int (fun _ _ => rfl)) (pe_ix ix_list (pv 2) pe_int (fun _ _ => rfl)))))
    (pms_cons (pss_one (ps_ret (pe_op op_and (pe_ix ix_list (pv 2) pe_int (fun _ _ => rfl)) (pe_un un_inv (pe_ix ix_list (pv 2) pe_int (fun _ _ => rfl))))))
    (pms_cons (pss_one (ps_ret (pe_cal (C_many_mask.mono (by omega)) hr rfl (pa_cons (pv 2) (pa_cons (pe_fld (pv 0) rfl) (pa_cons (pv 3) pa_nil))))))
    pms_nil))))))))
    (pss_cons (ps_set (i := 4) S.nd rfl (by first | exact Or.inl rfl | exact Or.inr rfl) (pe_op op_sub (pe_op op_shl pe_int (pv 3)) pe_int))
    (pss_one (ps_ret (pe_ifExp (pt_cmpR op_eq (pe_fld (pv 0) rfl) pe_str (nomark _)) (pv 4) (pe_op op_and (pv 4) (pe_un un_inv (pe_ix ix_list (pv 2) pe_int (fun _ _ => rfl))))))))))), ?_⟩
    obtain ⟨g, dx, pa, na, sa, xs, nms, scr, rfl, hg, hpa, hps, -⟩ := gr
    have prs := greps_paired.mp hps
    have le10 : 2 ^ ys.length ≤ 2 ^ 10 := Nat.pow_le_pow_right (by decide) small
    have lps : ps.length ≤ 3 := by
      rcases good.1 with ⟨_, e⟩ | ⟨_, e⟩ | ⟨_, e⟩ | ⟨_, e⟩ | ⟨_, e⟩ | ⟨_, e⟩ | ⟨_, e⟩ | ⟨_, e⟩ | ⟨_, e⟩ <;> omega
    have lxs := paired_len prs
    refine ⟨_, rfl, g, C, dx, _, _, rfl, hg, gc.cl, gc.parts, rfl, pa, rfl, ⟨xs, .inl (.inl hpa)⟩, fun D hD => ?_⟩
    refine lc_map (walk_tup (xs := xs)) (fun i y _ => ∃ f, ps[i]? = some f ∧ y = .int (mskF ys f : Nat)) (by rw [sizeLine_eq]; omega) hD (fun H1 s1 => .inl (.inl (s1 _ _ hpa))) (fun _ _ _ _ _ _ _ h => h) ?_ ?_
    · rintro i x H1 H2 Qy hi s1 nd1 ⟨rfl, hx⟩ cy
      obtain ⟨f, hf, rf⟩ := paired_get (paired_flip prs) hx
      have mf := List.mem_of_getElem? hf
      have dm := depths_mem mf
      rw [depth] at dep
      exact ⟨rfl, _, rfl, _, rfl, f, x, a, ys, rfl, rf.mono s1.i, goods_mem good.2.2.2.2 f mf, by omega, nt.same s1, nd, small, fun H3 s3 => cy _ _ s3 ⟨f, hf, rfl⟩⟩
    intro H1 acc s1 hD1 hp
    have hp' : Paired (fun (f : Gf) y => y = V.int (mskF ys f : Nat)) ps acc := paired_range (by rw [lxs]; exact hp)
    have ea := paired_map_eq (f := fun f => V.int (mskF ys f : Nat)) hp'
    subst ea
    have hg1 := s1 _ _ hg
    have nt1 := nt.same s1
    have e2 : ((1 : Int) * 2 ^ ((ys.length : Nat) : Int).toNat) = ((2 ^ ys.length : Nat) : Int) := by rw [Int.toNat_natCast, Int.one_mul, Int.natCast_pow]; rfl
    refine ⟨_, rfl, a, ys.map V.str, rfl, .inr nt1.sq, _, _, rfl, rfl, ⟨by omega, by rw [List.length_map]; omega, by decide⟩, ?_⟩
    have szv : ((1 : Int) * 2 ^ (((ys.map V.str).length : Nat) : Int).toNat) = ((2 ^ ys.length : Nat) : Int) := by rw [List.length_map]; exact e2
    show tSeq _ _ _ _ _
    dsimp only
    rw [szv]
    refine ⟨_, rfl, g, C, dx, _, _, rfl, hg1, gc.cl, gc.sign, rfl, sg, rfl, ?_⟩
    have sz1 : ((2 ^ ys.length : Nat) : Int) ≤ 1000000 := by
      generalize 2 ^ ys.length = z at le10
      omega
    have evr : ((1 : Int) * 2 ^ ((2 ^ ys.length : Nat) : Int).toNat) - 1 = ((msk (fun _ => true) (2 ^ ys.length) : Nat) : Int) := by
      rw [Int.toNat_natCast, Int.one_mul, msk_all, Int.natCast_sub (Nat.pow_pos (by decide)), Int.natCast_pow]; rfl
    have two : ∀ (f g : Gf), ps = [f, g] → SqL G.K H1 D [.int (mskF ys f : Nat), .int (mskF ys g : Nat)] := fun f g e => by subst e; exact SqL.of hD1
    have pair : ps.length = 2 → ∃ f g, ps = [f, g] := fun e => by
      match ps, e with
      | [f, g], _ => exact ⟨f, g, rfl⟩
    rcases good.1 with ⟨e, l⟩ | ⟨e, l⟩ | ⟨e, l⟩ | ⟨e, l⟩ | ⟨e, l⟩ | ⟨e, l⟩ | ⟨e, l⟩ | ⟨e, l⟩ | ⟨e, l⟩ <;> subst e
    · refine iteP rfl ?_
      refine ⟨_, rfl, g, C, dx, _, _, rfl, hg1, gc.cl, gc.word, rfl, _, rfl, a, _, rfl, .inr nt1.sq, rfl, flat_str ys, _, rfl, ?_⟩
      have hw : w ∈ ys := good.2.1 rfl
      rw [show (if false = true then !inV (V.str w) (ys.map V.str) else inV (V.str w) (ys.map V.str)) = true by
        rw [if_neg (by decide), inV_str]; exact decide_eq_true hw]
      refine iteT ⟨_, rfl, _, rfl, g, C, dx, _, _, rfl, hg1, gc.cl, gc.word, rfl, a, ys, w, rfl, nt1, nd, small, hw, fun H2 s2 => ?_⟩
      exact cont H2 (s1.trans s2)
    · -- all
      refine iteN (by decide) (iteN (by decide) (iteN (by decide) (iteN (by decide) (iteN (by decide) (iteN (by decide) (iteN (by decide) (?_)))))))
      refine ⟨_, rfl, _, _, rfl, rfl, ⟨Int.natCast_nonneg _, sz1, by decide⟩, _, _, rfl, rfl, ?_⟩
      refine ⟨_, rfl, g, C, dx, _, _, rfl, hg1, gc.cl, gc.sign, rfl, rfl, _, rfl, iteP (decide_eq_true rfl) ⟨_, rfl, ?_⟩⟩
      show Q (.int (((1 : Int) * 2 ^ ((2 ^ ys.length : Nat) : Int).toNat) - 1)) H1
      rw [evr]
      exact cont H1 s1
    · -- none
      refine iteN (by decide) (iteP rfl ?_)
      have e : mskF ys (.mk "none" w n ps) = 0 := by
        have : ∀ m, msk (fun _ => false) m = 0 := fun m => by induction m with
          | zero => rfl
          | succ m ih => rw [msk, ih]; rfl
        exact this _
      have := cont H1 s1
      rw [e] at this
      exact this
    · -- ~
      obtain ⟨f, e⟩ : ∃ f, ps = [f] := by
        match ps, l with
        | [f], _ => exact ⟨f, rfl⟩
      refine iteN (by decide) (iteN (by decide) (iteN (by decide) (iteN (by decide) (iteN (by decide) (iteN (by decide) (iteN (by decide) (?_)))))))
      refine ⟨_, rfl, _, _, rfl, rfl, ⟨Int.natCast_nonneg _, sz1, by decide⟩, _, _, rfl, rfl, ?_⟩
      refine ⟨_, rfl, g, C, dx, _, _, rfl, hg1, gc.cl, gc.sign, rfl, rfl, _, rfl, iteN (by decide) ⟨_, rfl, _, rfl, D, _, 0, _, rfl, rfl, SqL.of hD1, (by rw [e]; rfl : atI (ps.map fun f => V.int (mskF ys f : Nat)) 0 = some (V.int (mskF ys f : Nat))), _, rfl, _, _, rfl, rfl, ?_⟩⟩
      show Q (.int (Builtin.bitAnd (((1 : Int) * 2 ^ ((2 ^ ys.length : Nat) : Int).toNat) - 1) (Builtin.bitNot (mskF ys f : Int)))) H1
      have := cont H1 s1
      subst e
      rw [evr, show Builtin.bitAnd ((msk (fun _ => true) (2 ^ ys.length) : Nat) : Int) (Builtin.bitNot (mskF ys f : Int)) = ((mskF ys (.mk "~" w n [f]) : Nat) : Int) from msk_diff _ _ _]
      exact this
    · -- at
      refine iteN (by decide) (iteN (by decide) (iteN (by decide) (iteN (by decide) (iteN (by decide) (iteN (by decide) (iteP rfl ?_))))))
      refine ⟨_, rfl, _, rfl, g, C, dx, _, _, rfl, hg1, gc.cl, gc.number, rfl, _, rfl, D, ps.map (mskF ys), n, 2 ^ ys.length, rfl, SqL.of (by rw [hD1, List.map_map]; rfl), by rw [List.length_map]; omega, le10, fun H2 s2 => ?_⟩
      have := cont H2 (s1.trans s2)
      rw [show mskF ys (.mk "at" w n ps) = msk (fun k => decide (n ≤ ((ps.map (mskF ys)).filter fun m => m.testBit k).length)) (2 ^ ys.length) from msk_congr fun k hk => ?_] at this
      · exact this
      · show decide (n ≤ (hasFs (inK ys k) ps).count true) = _
        congr 2
        rw [hasFs_map]
        have : ∀ l : List Gf, (l.map (hasF (inK ys k))).count true = ((l.map (mskF ys)).filter fun m => m.testBit k).length := fun l => by
          induction l with
          | nil => rfl
          | cons f l ih =>
            rw [List.map_cons, List.map_cons, List.count_cons, List.filter_cons, ih]
            have eb : (mskF ys f).testBit k = hasF (inK ys k) f := by unfold mskF; rw [msk_bit, decide_eq_true hk, Bool.true_and]
            rw [eb]
            cases hasF (inK ys k) f <;> simp
        exact this ps
    · -- &
      obtain ⟨f, g', e⟩ := pair l
      refine iteN (by decide) (iteN (by decide) (iteP rfl ?_))
      refine ⟨_, rfl, D, _, 0, _, rfl, rfl, two f g' e, rfl, _, rfl, D, _, 1, _, rfl, rfl, two f g' e, rfl, _, _, rfl, rfl, ?_⟩
      have := cont H1 s1
      subst e
      rw [show mskF ys (.mk "&" w n [f, g']) = mskF ys f &&& mskF ys g' from (msk_and _ _ _).symm] at this
      show Q (.int (Builtin.bitAnd (mskF ys f : Int) (mskF ys g' : Int))) H1
      rw [bitAnd_pp (Int.natCast_nonneg _) (Int.natCast_nonneg _)]
      exact this
    · -- |
      obtain ⟨f, g', e⟩ := pair l
      refine iteN (by decide) (iteN (by decide) (iteN (by decide) (iteP rfl ?_)))
      refine ⟨_, rfl, D, _, 0, _, rfl, rfl, two f g' e, rfl, _, rfl, D, _, 1, _, rfl, rfl, two f g' e, rfl, _, _, rfl, rfl, ?_⟩
      have := cont H1 s1
      subst e
      rw [show mskF ys (.mk "|" w n [f, g']) = mskF ys f ||| mskF ys g' from (msk_or _ _ _).symm] at this
      show Q (.int (Builtin.bitOr (mskF ys f : Int) (mskF ys g' : Int))) H1
      rw [Bits.bitOr_pp (Int.natCast_nonneg _) (Int.natCast_nonneg _)]
      exact this
    · -- -
      obtain ⟨f, g', e⟩ := pair l
      refine iteN (by decide) (iteN (by decide) (iteN (by decide) (iteN (by decide) (iteN (by decide) (iteP rfl ?_)))))
      refine ⟨_, rfl, D, _, 0, _, rfl, rfl, two f g' e, rfl, _, rfl, D, _, 1, _, rfl, rfl, two f g' e, rfl, _, rfl, _, _, rfl, rfl, ?_⟩
      have := cont H1 s1
      subst e
      rw [← show _ = ((mskF ys (.mk "-" w n [f, g']) : Nat) : Int) from msk_diff _ _ _] at this
      exact this
    · -- ^
      obtain ⟨f, g', e⟩ := pair l
      refine iteN (by decide) (iteN (by decide) (iteN (by decide) (iteN (by decide) (iteP rfl ?_))))
      refine ⟨_, rfl, D, _, 0, _, rfl, rfl, two f g' e, rfl, _, rfl, D, _, 1, _, rfl, rfl, two f g' e, rfl, _, _, rfl, rfl, ?_⟩
      have := cont H1 s1
      subst e
      rw [show mskF ys (.mk "^" w n [f, g']) = mskF ys f ^^^ mskF ys g' from (msk_xor _ _ _).symm] at this
      show Q (.int (Builtin.bitXor (mskF ys f : Int) (mskF ys g' : Int))) H1
      rw [Bits.bitXor_pp (Int.natCast_nonneg _) (Int.natCast_nonneg _)]
      exact this
end
end Mc
/-! The walk, 4: groups are made. -/
namespace Mc
open PySem PySem.Spec PyProof.Rows L2
theorem slens_sum : ∀ ps : List Gf, slens ps = (ps.map slen).sum
  | [] => rfl
  | f :: fs => by rw [slens, slens_sum fs]; rfl
theorem wordsFs_flat : ∀ ps : List Gf, wordsFs ps = (ps.map wordsF).flatten
  | [] => rfl
  | f :: fs => by rw [wordsFs, wordsFs_flat fs]; rfl
abbrev N_script_of : List Str := ["group", "found", "part", "word"]
abbrev P_script_of : List Str := ["group"]
theorem sc_script_of : FnScope N_script_of P_script_of (defScope s_script_of) := ⟨rfl, rfl, rfl, by decide +kernel, rfl, by decide +kernel, by decide +kernel⟩

abbrev N_Group___init__ : List Str := ["self", "sign", "parts", "word", "number"]
abbrev P_Group___init__ : List Str := ["self", "sign", "parts", "word", "number"]
theorem sc_Group___init__ : FnScope N_Group___init__ P_Group___init__ (defScope s_Group___init__) := ⟨rfl, rfl, rfl, by decide +kernel, rfl, by decide +kernel, by decide +kernel⟩

section
variable {G : Gd} (B : Bl G.mg)
include B
abbrev gFields5 (s : Str) (pa : Addr) (w : Str) (n : Nat) (na : Addr) : List (Str × V) := [("sign", .str s), ("parts", .ref pa), ("word", .str w), ("number", .int n), ("names", .ref na)]
def spScript (C : Addr) : Sp := fun vs H Q _ => ∃ (g dx pa na : Addr) (s w : Str) (n : Nat) (ps : List Gf) (xs : List V), vs = [.ref g] ∧ H g = some (.ins C dx (gFields5 s pa w n na)) ∧ H pa = some (.tup xs) ∧ GReps C H ps xs ∧ n ≤ 3 ∧ ps.length ≤ 3 ∧ slen (.mk s w n ps) ≤ 1000000 ∧
  ∀ p (zs : List Str) H', Same H H' → H' p = some (.tup (zs.map V.str)) → zs.length = slen (.mk s w n ps) → Q (.ref p) H'
theorem ok_script_of {C : Addr} (gc : Gc G C) (F : Df G "script_of" "script_of" s_script_of) : Cal G 1 "script_of" P_script_of (spScript C) := by
  refine F.cal (N := N_script_of) sc_script_of (fun _ _ _ _ _ _ us hl => match us, hl with | [_], _ => rfl) (fun vs H Q E h => by obtain ⟨_, _, _, _, _, _, _, _, _, rfl, _⟩ := h; rfl) fun f cdv A outer s H vs Q E hr h => ?_
  obtain ⟨g, dx, pa, na, sg, w, n, ps, xs, rfl, hg, hpa, hps, hn, lps, lz, cont⟩ := h
  have S := sc_script_of
  refine ⟨_, (pss_cons (ps_if (pt_cmpR op_eq (pe_fld (pv 0) rfl) pe_str (nomark _)) (pss_one (ps_ret (pe_tup (pa_cons (pe_fld (pv 0) rfl) pa_nil)))) pss_nil)
    (pss_cons (ps_set (i := 1) S.nd rfl (by first | exact Or.inl rfl | exact Or.inr rfl) (pe_lst (pa_cons (pe_fld (pv 0) rfl) pa_nil)))
    (pss_cons (ps_if (pt_cmpR op_eq (pe_fld (pv 0) rfl) pe_str (nomark _)) (pss_one (ps_expr (pe_bm PySem.F.plainAttrs_list PySem.F.slot_list_extend PySem.F.type_list_extend mt_extend (pv 1) (pa_cons (pe_lst (pa_cons (pe_callTy call_str_int rfl B.str (by decide +kernel) (pa_cons (pe_fld (pv 0) rfl) pa_nil)) (pa_cons (pe_callTy call_str_int rfl B.str (by decide +kernel) (pa_cons (pe_callB call_len_seq rfl B.len (by decide +kernel) (pa_cons (pe_fld (pv 0) rfl) pa_nil)) pa_nil)) pa_nil))) pa_nil)))) pss_nil)
    (pss_one (ps_ret (pe_tup (StX.pa_star (pv 1) (StX.pa_star (pe_lc2 (own := [("part", 2), ("word", 3)]) (vs1 := [3]) rfl S.nd (pi_tup (pe_fld (pv 0) rfl)) (blkOk_by (own := [("part", 2), ("word", 3)]) (N := N_script_of) (sc := defScope s_script_of) (by decide +kernel)) (by decide) (fun _ _ _ _ _ => (pg_name (i := 2) S.nd rfl (by first | exact Or.inl rfl | exact Or.inr rfl))) (fun _ _ _ _ _ => pts_nil) (fun _ _ _ _ _ => (pi_tupK G.K (by rfl) (pe_fldK G.K (by rfl) (pv 2) rfl))) (fun _ _ _ _ _ => (pg_name (i := 3) S.nd rfl (by first | exact Or.inl rfl | exact Or.inr rfl))) (fun _ _ _ _ _ => pts_nil) (fun _ _ _ _ _ => (pv 3))) pa_nil)))))))), ?_⟩
  refine ⟨_, rfl, g, C, dx, _, _, rfl, hg, gc.cl, gc.sign, rfl, rfl, _, rfl, ite2 (fun c => ?_) fun c => ?_⟩
  · have e : sg = "name" := V.str.inj (of_decide_eq_true c)
    refine ⟨_, rfl, g, C, dx, _, _, rfl, hg, gc.cl, gc.word, rfl, few_line (by show 1 ≤ 1000; decide), fun p hp => ?_⟩
    exact cont p [w] _ (same_upd hp) upd_same (by rw [slen, if_pos e]; rfl)
  have ns : sg ≠ "name" := fun e => c (decide_eq_true (congrArg V.str e))
  refine ⟨_, rfl, g, C, dx, _, _, rfl, hg, gc.cl, gc.sign, rfl, few_line (by show 1 ≤ 1000; decide), fun L hL => ?_⟩
  have prs := greps_paired.mp hps
  have lxs := paired_len prs
  have sL : Same H (upd H L (.lst [V.str sg])) := same_upd hL
  -- the rest of it, when L holds the head
  have rest : ∀ (hd : List Str) (H1 : Hp) (σ : L2.St), Same H H1 → H1 L = some (.lst (hd.map V.str)) → hd.length = 1 + (if sg = "at" then 2 else 0) → σ = [some (.ref g), some (.ref L), none, none] →
      (tRet (tTup (StX.tStar G.K (tVar 1) (StX.tStar G.K (tLc2 (iTup G.K (tFld G.K (tVar 0) "parts")) (gName 2) tYes (iTup G.K (tFld G.K (tVar 2) "script")) (gName 3) tYes (tVar 3) ([("part", 2), ("word", 3)].map (·.2) : List Nat) [3]) tNil)))) { nx := fun _ H' => Q .non H', rt := Q } σ H1 := by
    rintro hd H1 _ s1 hL1 lhd rfl
    refine ⟨_, rfl, L, _, rfl, .inr (SqL.of hL1), ?_⟩
    refine ⟨_, rfl, g, C, dx, _, _, rfl, s1 _ _ hg, gc.cl, gc.parts, rfl, pa, rfl, ⟨xs, .inl (.inl (s1 _ _ hpa))⟩, fun D hD => ?_⟩
    have lz' : 1 + (if sg = "at" then 2 else 0) + slens ps ≤ 1000000 := by
      rw [slen, if_neg ns] at lz
      exact lz
    let m : Nat → Nat := fun i => slen (ps.getD i (.mk "" "" 0 []))
    have sumk : ∀ k, k ≤ ps.length → ((List.range k).map m).sum = ((ps.map slen).take k).sum := fun k hk => by
      congr 1
      refine List.ext_getElem (by simp; omega) fun i h1 h2 => ?_
      simp at h1 h2 ⊢
      simp [m, List.getElem?_eq_getElem (show i < ps.length by omega)]
    refine lc2_flat (walk_tup (xs := xs)) m (fun _ _ y _ => ∃ z, y = V.str z) (fun k hk => ?_) hD (fun H2 s2 => .inl (.inl (s2 _ _ (s1 _ _ hpa)))) (fun _ _ _ _ _ _ _ _ h => h) ?_ ?_
    · rw [sumk k (by omega)]
      have := sum_take (ps.map slen) k
      rw [← slens_sum] at this
      rw [sizeLine_eq]
      omega
    · rintro i x H2 H3 Cc hi s2 nd ⟨rfl, hx⟩ c3
      obtain ⟨f, hf, rf⟩ := paired_get (paired_flip prs) hx
      obtain ⟨fs, fw, fn, fps⟩ := f
      obtain ⟨b, dxb, pab, nab, sab, xsb, ysb, zsb, rfl, hb, -, -, -, -, hsb, lzb⟩ := rf
      have s2' := s1.trans s2
      have hsb2 := s2' _ _ hsb
      refine ⟨rfl, _, rfl, b, C, dxb, _, _, rfl, s2' _ _ hb, gc.cl, gc.script, rfl, sab, rfl, ⟨_, .inl (.inl hsb2)⟩, ?_⟩
      refine c3 _ _ _ (fun H => SqT G.K H sab (zsb.map V.str)) (YAt (zsb.map V.str)) (Same.refl _) ?_ (fun H5 sx => .inl (.inl (sx _ _ hsb2 fun e => by rw [e] at hsb; have := s1 _ _ hsb; rw [hD] at this; cases this))) ?_
      · have : m i = (zsb.map V.str).length := by
          rw [List.length_map, lzb]
          show slen (ps.getD i _) = _
          rw [List.getD_eq_getElem?_getD, hf]; rfl
        rw [this]
        exact walk_tup
      · rintro j x1 H5 H6 Qy hj sx s5 nd5 ⟨rfl, hx1⟩ cy
        obtain ⟨z, hz1, rfl⟩ := strs_get hx1
        exact ⟨rfl, _, rfl, cy _ _ (Same.refl _) ⟨z, rfl⟩⟩
    · intro H2 acc s2 hD2 pr
      have lac : acc.length = slens ps := by
        rw [← paired_len pr, List.length_flatMap, slens_sum]
        have := sumk ps.length (Nat.le_refl _)
        rw [List.take_of_length_le (by simp)] at this
        rw [← this, lxs]
        simp
      obtain ⟨zs, ez⟩ : ∃ zs : List Str, acc = zs.map V.str := by
        have all : ∀ y ∈ acc, ∃ z, y = V.str z := fun y hy => by
          obtain ⟨i, hi⟩ := List.mem_iff_getElem?.mp hy
          obtain ⟨ij, _, h⟩ := paired_get (paired_flip pr) hi
          exact h
        clear pr lac hD2
        induction acc with
        | nil => exact ⟨[], rfl⟩
        | cons y ys ih =>
          obtain ⟨z, e⟩ := all y List.mem_cons_self
          obtain ⟨zs, e2⟩ := ih fun y hy => all y (List.mem_cons_of_mem _ hy)
          exact ⟨z :: zs, by rw [e, e2]; rfl⟩
      refine ⟨D, acc, rfl, .inr (SqL.of hD2), ?_, fun p hp => ?_⟩
      · show (hd.map V.str ++ (acc ++ [])).length ≤ sizeLine
        rw [List.append_nil, List.length_append, List.length_map, lhd, lac, sizeLine_eq]
        omega
      · refine cont p (hd ++ zs) _ (s1.trans (s2.upd hp)) ?_ ?_
        · rw [upd_same, List.append_nil, ez, List.map_append]
        · have lzs : zs.length = acc.length := by rw [ez, List.length_map]
          rw [List.length_append, lhd, lzs, lac, slen, if_neg ns]
  refine ⟨_, rfl, g, C, dx, _, _, rfl, sL _ _ hg, gc.cl, gc.sign, rfl, rfl, _, rfl, ite2 (fun c2 => ?_) fun c2 => ?_⟩
  · have e2 : sg = "at" := V.str.inj (of_decide_eq_true c2)
    have small : ∀ q : Nat, q ≤ 3 → ((q : Nat) : Int).natAbs.log2 < 1920 := fun q hq => by
      match q, hq with
      | 0, _ => decide
      | 1, _ => decide
      | 2, _ => decide
      | 3, _ => decide
    have lL : (upd H L (.lst [V.str sg])) L = some (.lst [V.str sg]) := upd_same
    have tyL : ∀ {H1 : Hp} {ys : List V}, SqL G.K H1 L ys → tyV G.K "list" (.ref L) H1 := fun h => .inl ⟨rfl, _, h⟩
    refine ⟨_, rfl, tyL (SqL.of lL), ?_⟩
    refine ⟨_, rfl, g, C, dx, _, _, rfl, sL _ _ hg, gc.cl, gc.number, rfl, _, rfl, small _ hn, ?_⟩
    refine ⟨_, rfl, g, C, dx, _, _, rfl, sL _ _ hg, gc.cl, gc.parts, rfl, pa, xs, rfl, .inr (.inl (.inl (sL _ _ hpa))), _, rfl, small _ (by omega), few_line (by show 2 ≤ 1000; decide), fun q hq => ?_⟩
    have lL2 := same_upd (o := .lst ([V.str (toString (n : Int))] ++ ([V.str (toString (xs.length : Int))] ++ []))) hq _ _ lL
    refine ⟨L, q, _, _, rfl, rfl, lL2, upd_same, few_line (by show 3 ≤ 1000; decide), ?_⟩
    have nq : q ≠ L := fun e => by rw [e, lL] at hq; cases hq
    refine rest [sg, toString (n : Int), toString (xs.length : Int)] _ _ ?_ upd_same (by rw [if_pos e2]; rfl) rfl
    intro b o eb
    have nb : b ≠ L := ne_of_none eb hL
    rw [upd_ne nb, upd_ne (ne_of_none (sL b o eb) hq)]
    exact sL b o eb
  · have e2 : sg ≠ "at" := fun e => c2 (decide_eq_true (congrArg V.str e))
    exact rest [sg] _ _ sL upd_same (by rw [if_neg e2]; rfl) rfl
omit B in
def spGroup (K : PySem.W.Frag) (C : Addr) : Sp := fun vs H Q _ => ∃ (g dx pa : Addr) (f : Gf) (xs : List V), vs = [.ref g, .str f.sign, .ref pa, .str f.word, .int f.num] ∧ H g = some (.ins C dx []) ∧ (SqL K H pa xs ∨ H pa = some (.tup xs)) ∧ GReps C H f.parts xs ∧
  f.num ≤ 3 ∧ f.parts.length ≤ 3 ∧ (f.sign = "name" → f.parts = []) ∧ slen f ≤ 1000000 ∧ (∃ ws : List Str, ws.length ≤ 6 ∧ ∀ w ∈ wordsF f, w ∈ ws) ∧ ∀ H', SameX g H H' → GRep C H' f (.ref g) → Q .non H'
omit B in
theorem samex_seq {K : PySem.W.Frag} {g C dx pa : Addr} {H : Hp} {fs gs : List (Str × V)} {xs : List V} (hg : H g = some (.ins C dx fs)) (h : SqL K H pa xs) : SqL K (L2.upd H g (.ins C dx gs)) pa xs :=
by
  rcases h with (h | ⟨o, h⟩) | h
  · exact .inl (.inl (by rw [upd_ne fun e => by rw [e, hg] at h; cases h]; exact h))
  · exact .inl (.inr ⟨o, by rw [upd_ne fun e => by rw [e, hg] at h; cases h]; exact h⟩)
  · exact .inr h
omit B in
theorem group_names {C : Addr} (gc : Gc G C) (ws : List Str) {H : Hp} : ∀ {ps : List Gf} {xs : List V}, Paired (GRep C H) ps xs → (∀ f ∈ ps, ∀ w ∈ wordsF f, w ∈ ws) →
    ∃ zss : List (List Str), Paired (NRep G.K H) zss xs ∧ (∀ k, k ∈ zss.flatten ↔ k ∈ (ps.map wordsF).flatten) ∧ zss.flatten.length ≤ ps.length * ws.length ∧ zss.length = ps.length
  | _, _, .nil, _ => ⟨[], .nil, fun _ => Iff.rfl, Nat.zero_le _, rfl⟩
  | f :: fs, _, .cons r t, h => by
    obtain ⟨zss, a, b, c, d⟩ := group_names gc ws t fun f hf => h f (List.mem_cons_of_mem _ hf)
    obtain ⟨s, w, n, ps⟩ := f
    obtain ⟨g, dx, pa, na, sa, xs, ys, zs, rfl, hg, hpa, hps, hn, asc, -⟩ := r
    have l1 := asc_sub asc (h _ List.mem_cons_self)
    refine ⟨ys :: zss, .cons ⟨g, C, dx, na, _, rfl, hg, gc.cl, gc.names, rfl, .inl (.inl hn)⟩ a, fun k => ?_, ?_, congrArg Nat.succ d⟩
    · rw [List.flatten_cons, List.mem_append, List.map_cons, List.flatten_cons, List.mem_append, asc.2.2 k, b k]
    · rw [List.flatten_cons, List.length_append, List.length_cons, Nat.succ_mul]
      omega
omit B in
theorem samex_puts {g C dx : Addr} {H : Hp} {fs : List (Str × V)} : SameX g H (L2.upd H g (.ins C dx fs)) := samex_upd
theorem body_Group {C : Addr} (gc : Gc G C) (C_names_of_kinds : Cal G 3 "names_of_kinds" P_names_of (spNames G.K)) (C_script_of : Cal G 1 "script_of" P_script_of (spScript C)) : Body G "Group.__init__" s_Group___init__ N_Group___init__ 3 (spGroup G.K C) := by
  rintro fa cdv A outer s H vs Q E hr ⟨g, dx, pa, ⟨sg, w, n, ps⟩, xs, rfl, hg, hpa, hps, hn, lps, nmp, lz, ⟨ws, lws, hws⟩, cont⟩
  have S := sc_Group___init__
  have prs := greps_paired.mp hps
  refine ⟨_, (pss_cons (ps_fld (pv 0) (pv 1) rfl)
    (pss_cons (ps_fld (pv 0) (pe_callTy call_tuple_of rfl B.tuple (by decide +kernel) (pa_cons (pv 2) pa_nil)) rfl)
    (pss_cons (ps_fld (pv 0) (pv 3) rfl)
    (pss_cons (ps_fld (pv 0) (pv 4) rfl)
    (pss_cons (ps_fld (pv 0) (pe_ifExp (pt_cmpR op_eq (pv 1) pe_str (nomark _)) (pe_tup (pa_cons (pv 3) pa_nil)) (pe_cal (C_names_of_kinds.mono (by omega)) hr rfl (pa_cons (pe_fld (pv 0) rfl) pa_nil))) rfl)
    (pss_one (ps_fld (pv 0) (pe_cal (C_script_of.mono (by omega)) hr rfl (pa_cons (pv 0) pa_nil)) rfl))))))), ?_⟩
  have raw : Raw H g := raw_ins hg rfl
  refine ⟨_, rfl, _, rfl, g, C, dx, _, rfl, hg, gc.cl, gc.sign, by show 0 < 1000; decide, ?_⟩
  -- what comes behind the parts
  have rest : ∀ (pb : Addr) (H1 : Hp), SameX g H H1 → H1 g = some (.ins C dx [("sign", .str sg), ("parts", .ref pb)]) → H1 pb = some (.tup xs) → pb ≠ g → (tSeq (sFld G.K (tVar 0) (tVar 3) "word") (tSeq (sFld G.K (tVar 0) (tVar 4) "number") (tSeq (sFld G.K (tVar 0) (tIf (tTest (tOp rEq (tVar 1) (tC (.str "name")))) (tTup (tCons (tVar 3) tNil)) (tCall (spNames G.K) [] E0 (tCons (tFld G.K (tVar 0) "parts") tNil))) "names") (sFld G.K (tVar 0) (tCall (spScript C) [] E0 (tCons (tVar 0) tNil)) "script")))) { nx := fun _ H' => Q .non H', rt := Q } [some (.ref g), some (.str sg), some (.ref pa), some (.str w), some (.int n)] H1 := by
    intro pb H1 s1 e1 hpb nb
    refine ⟨_, rfl, _, rfl, g, C, dx, _, rfl, e1, gc.cl, gc.word, by show 2 < 1000; decide, ?_⟩
    refine ⟨_, rfl, _, rfl, g, C, dx, _, rfl, upd_same, gc.cl, gc.number, by show 3 < 1000; decide, ?_⟩
    have s2 : SameX g H (L2.upd (L2.upd H1 g (.ins C dx [("sign", .str sg), ("parts", .ref pb), ("word", .str w)])) g (.ins C dx [("sign", .str sg), ("parts", .ref pb), ("word", .str w), ("number", .int n)])) := s1.trans (samex_upd.trans samex_upd)
    have hpb2 : (L2.upd (L2.upd H1 g (.ins C dx [("sign", .str sg), ("parts", .ref pb), ("word", .str w)])) g (.ins C dx [("sign", .str sg), ("parts", .ref pb), ("word", .str w), ("number", .int n)])) pb = some (.tup xs) := by rw [upd_ne nb, upd_ne nb]; exact hpb
    have e2 : (L2.upd (L2.upd H1 g (.ins C dx [("sign", .str sg), ("parts", .ref pb), ("word", .str w)])) g (.ins C dx [("sign", .str sg), ("parts", .ref pb), ("word", .str w), ("number", .int n)])) g = some (.ins C dx [("sign", .str sg), ("parts", .ref pb), ("word", .str w), ("number", .int n)]) := upd_same
    show tSeq _ _ _ _ (L2.upd (L2.upd H1 g (.ins C dx [("sign", .str sg), ("parts", .ref pb), ("word", .str w)])) g (.ins C dx [("sign", .str sg), ("parts", .ref pb), ("word", .str w), ("number", .int n)]))
    generalize (L2.upd (L2.upd H1 g (.ins C dx [("sign", .str sg), ("parts", .ref pb), ("word", .str w)])) g (.ins C dx [("sign", .str sg), ("parts", .ref pb), ("word", .str w), ("number", .int n)])) = H2 at s2 hpb2 e2
    have gr2 : GReps C H2 ps xs := GReps.mono (s2.i raw) ps xs hps
    have prs2 := greps_paired.mp gr2
    -- what comes behind the names
    have last : ∀ (na : Addr) (ys : List Str) (H3 : Hp), Same H2 H3 → H3 na = some (.tup (ys.map V.str)) → Asc (wordsF (.mk sg w n ps)) ys → sFld G.K (tVar 0) (tCall (spScript C) [] E0 (tCons (tVar 0) tNil)) "script" { nx := fun _ H' => Q .non H', rt := Q } [some (.ref g), some (.str sg), some (.ref pa), some (.str w), some (.int n)] (L2.upd H3 g (.ins C dx (gFields5 sg pb w n na))) := by
      intro na ys H3 s3 hna asc
      have nna : na ≠ g := fun e => by
        rw [e, s3 _ _ e2] at hna
        cases hna
      have hpb3 := s3 _ _ hpb2
      have gr3 : GReps C (L2.upd H3 g (.ins C dx (gFields5 sg pb w n na))) ps xs := GReps.mono ((s3.x.trans samex_upd).i (raw_ins e2 rfl)) ps xs gr2
      refine ⟨_, rfl, g, dx, pb, na, sg, w, n, ps, xs, rfl, upd_same, by rw [upd_ne nb]; exact hpb3, gr3, hn, lps, lz, fun sa zs H4 s4 hsa lzs => ?_⟩
      have nsa : sa ≠ g := fun e => by
        rw [e, s4 _ _ upd_same] at hsa
        cases hsa
      refine ⟨_, rfl, g, C, dx, _, rfl, s4 _ _ upd_same, gc.cl, gc.script, by show 5 < 1000; decide, ?_⟩
      refine cont _ (s2.trans (s3.x.trans (samex_upd.trans (s4.x.trans samex_upd)))) ⟨g, dx, pb, na, sa, xs, ys, zs, rfl, upd_same, ?_, ?_, ?_, asc, ?_, lzs⟩
      · rw [upd_ne nb]; exact s4 _ _ (by rw [upd_ne nb]; exact hpb3)
      · exact GReps.mono ((s4.x.trans samex_upd).i (raw_ins upd_same rfl)) ps xs gr3
      · rw [upd_ne nna]; exact s4 _ _ (by rw [upd_ne nna]; exact hna)
      · rw [upd_ne nsa]; exact hsa
    refine ⟨_, rfl, rfl, _, rfl, ite2 (fun c => ?_) fun c => ?_⟩
    · have e : sg = "name" := V.str.inj (of_decide_eq_true c)
      refine ⟨_, rfl, few_line (by show 1 ≤ 1000; decide), fun p hp => ?_⟩
      have np : p ≠ g := fun z => by rw [z, e2] at hp; cases hp
      refine ⟨_, rfl, g, C, dx, _, rfl, same_upd hp _ _ e2, gc.cl, gc.names, by show 4 < 1000; decide, ?_⟩
      refine last p [w] _ (same_upd hp) upd_same ?_
      rw [wordsF, if_pos e]
      exact ⟨rfl, List.nodup_cons.mpr ⟨List.not_mem_nil, List.nodup_nil⟩, fun _ => Iff.rfl⟩
    · have ne : sg ≠ "name" := fun e => c (decide_eq_true (congrArg V.str e))
      have ew : wordsF (.mk sg w n ps) = (ps.map wordsF).flatten := by rw [wordsF, if_neg ne, wordsFs_flat]
      rw [ew] at last hws
      obtain ⟨zss, pz, mz, lz1, lz2⟩ := group_names gc ws prs2 fun f hf w hw => hws w (List.mem_flatten.mpr ⟨_, List.mem_map.mpr ⟨f, hf, rfl⟩, hw⟩)
      have lps' : ps.length ≤ 3 := lps
      have : ps.length * ws.length ≤ 3 * 6 := Nat.mul_le_mul lps lws
      refine ⟨_, rfl, g, C, dx, _, _, rfl, e2, gc.cl, gc.parts, rfl, pb, zss, xs, rfl, .inr (.inl (.inl hpb2)), pz, by omega, by omega, fun p ys H3 s3 asc hp => ?_⟩
      refine ⟨_, rfl, g, C, dx, _, rfl, s3 _ _ e2, gc.cl, gc.names, by show 4 < 1000; decide, ?_⟩
      exact last p ys _ s3 hp ⟨asc.1, asc.2.1, fun k => (asc.2.2 k).trans (mz k)⟩
  rcases hpa with hpa | hpa
  · refine ⟨_, rfl, pa, xs, rfl, .inl ⟨samex_seq hg hpa, fun l hl => ?_⟩⟩
    have nl : l ≠ g := fun e => by rw [e, upd_same] at hl; cases hl
    refine ⟨_, rfl, g, C, dx, _, rfl, same_upd hl _ _ upd_same, gc.cl, gc.parts, by show 1 < 1000; decide, ?_⟩
    refine rest l _ (samex_upd.trans ((same_upd hl).x.trans samex_upd)) upd_same ?_ nl
    rw [upd_ne nl, upd_same]
  · have nl : pa ≠ g := fun e => by rw [e, hg] at hpa; cases hpa
    refine ⟨_, rfl, pa, xs, rfl, .inr ⟨.inl (.inl (by rw [upd_ne nl]; exact hpa)), ?_⟩⟩
    refine ⟨_, rfl, g, C, dx, _, rfl, upd_same, gc.cl, gc.parts, by show 1 < 1000; decide, ?_⟩
    refine rest pa _ (samex_upd.trans samex_upd) upd_same ?_ nl
    rw [upd_ne nl, upd_ne nl]
    exact hpa
end
end Mc
/-! The walk, 5: groups by the class's own methods. -/
namespace Mc
open PySem PySem.Spec PyProof.Rows L2
abbrev N_Group_named : List Str := ["cls", "name"]
abbrev P_Group_named : List Str := ["cls", "name"]
theorem sc_Group_named : FnScope N_Group_named P_Group_named (defScope s_Group_named) := ⟨rfl, rfl, rfl, by decide +kernel, rfl, by decide +kernel, by decide +kernel⟩

abbrev N_Group_every : List Str := ["cls"]
abbrev P_Group_every : List Str := ["cls"]
theorem sc_Group_every : FnScope N_Group_every P_Group_every (defScope s_Group_every) := ⟨rfl, rfl, rfl, by decide +kernel, rfl, by decide +kernel, by decide +kernel⟩

abbrev N_Group_nothing : List Str := ["cls"]
abbrev P_Group_nothing : List Str := ["cls"]
theorem sc_Group_nothing : FnScope N_Group_nothing P_Group_nothing (defScope s_Group_nothing) := ⟨rfl, rfl, rfl, by decide +kernel, rfl, by decide +kernel, by decide +kernel⟩

abbrev N_Group_at_least : List Str := ["cls", "number", "groups", "group"]
abbrev P_Group_at_least : List Str := ["cls", "number", "groups"]
theorem sc_Group_at_least : FnScope N_Group_at_least P_Group_at_least (defScope s_Group_at_least) := ⟨rfl, rfl, rfl, by decide +kernel, rfl, by decide +kernel, by decide +kernel⟩

abbrev N_Group___and__ : List Str := ["self", "other"]
abbrev P_Group___and__ : List Str := ["self", "other"]
theorem sc_Group___and__ : FnScope N_Group___and__ P_Group___and__ (defScope s_Group___and__) := ⟨rfl, rfl, rfl, by decide +kernel, rfl, by decide +kernel, by decide +kernel⟩

abbrev N_Group___or__ : List Str := ["self", "other"]
abbrev P_Group___or__ : List Str := ["self", "other"]
theorem sc_Group___or__ : FnScope N_Group___or__ P_Group___or__ (defScope s_Group___or__) := ⟨rfl, rfl, rfl, by decide +kernel, rfl, by decide +kernel, by decide +kernel⟩

abbrev N_Group___sub__ : List Str := ["self", "other"]
abbrev P_Group___sub__ : List Str := ["self", "other"]
theorem sc_Group___sub__ : FnScope N_Group___sub__ P_Group___sub__ (defScope s_Group___sub__) := ⟨rfl, rfl, rfl, by decide +kernel, rfl, by decide +kernel, by decide +kernel⟩

abbrev N_Group___xor__ : List Str := ["self", "other"]
abbrev P_Group___xor__ : List Str := ["self", "other"]
theorem sc_Group___xor__ : FnScope N_Group___xor__ P_Group___xor__ (defScope s_Group___xor__) := ⟨rfl, rfl, rfl, by decide +kernel, rfl, by decide +kernel, by decide +kernel⟩

abbrev N_Group___invert__ : List Str := ["self"]
abbrev P_Group___invert__ : List Str := ["self"]
theorem sc_Group___invert__ : FnScope N_Group___invert__ P_Group___invert__ (defScope s_Group___invert__) := ⟨rfl, rfl, rfl, by decide +kernel, rfl, by decide +kernel, by decide +kernel⟩

/-- what a group of the form f must keep -/
structure Fit (f : Gf) : Prop where
  num : f.num ≤ 3
  few : f.parts.length ≤ 3
  bare : f.sign = "name" → f.parts = []
  len : slen f ≤ 1000000
  ws : ∃ ws : List Str, ws.length ≤ 6 ∧ ∀ w ∈ wordsF f, w ∈ ws
theorem made_group {K : PySem.W.Frag} {C x dx pa : Addr} {f : Gf} {xs : List V} {H1 : Hp} {Q : VK} {E : XK} (hx : H1 x = none) (hdx : H1 dx = none) (hpa : SqL K H1 pa xs ∨ H1 pa = some (.tup xs)) (hps : GReps C H1 f.parts xs) (fit : Fit f)
    (k : ∀ H', Same H1 H' → GRep C H' f (.ref x) → Q (.ref x) H') : spGroup K C [.ref x, .str f.sign, .ref pa, .str f.word, .int f.num] (L2.upd (L2.upd H1 dx (.own x)) x (.ins C dx [])) (fun v H2 => v = .non ∧ Q (.ref x) H2) E := by
  have s := same_mk (C := C) (fs := []) hx hdx
  exact ⟨x, dx, pa, f, xs, rfl, upd_same, hpa.imp (fun h => s.seq h) (fun h => s _ _ h), GReps.mono s.i _ _ hps, fit.num, fit.few, fit.bare, fit.len, fit.ws, fun H' sx g => ⟨rfl, k H' (same_made hx hdx sx) g⟩⟩
theorem GRep.ins {C : Addr} {H : Hp} {f : Gf} {v : V} (r : GRep C H f v) : ∃ (a dx : Addr) (fs : List (Str × V)), v = .ref a ∧ H a = some (.ins C dx fs) := by
  obtain ⟨s, w, n, ps⟩ := f
  obtain ⟨a, dx, pa, na, sa, xs, ys, zs, e, h, _⟩ := r
  exact ⟨a, dx, _, e, h⟩
def spBin (C : Addr) (s : Str) : Sp := fun vs H Q _ => ∃ f1 f2 v1 v2, vs = [v1, v2] ∧ GRep C H f1 v1 ∧ GRep C H f2 v2 ∧ Fit (.mk s "" 0 [f1, f2]) ∧ ∀ v H', Same H H' → GRep C H' (.mk s "" 0 [f1, f2]) v → Q v H'
structure IsC (G : Gd) (C : Addr) : Prop where
  ty : ∀ (H : Hp) (a dx : Addr) (fs : List (Str × V)), H a = some (.ins C dx fs) → TyX G.K H (.ref a) (.ref C)
  yes : PySem.W.kitOne G.K (.ref C) (.ref C) = some true
section
variable {G : Gd} (B : Bl G.mg)
include B
def spNamed (C : Addr) : Sp := fun vs H Q _ => ∃ w, vs = [.ref C, .str w] ∧ Nm w ∧ ∀ v H', Same H H' → GRep C H' (.mk "name" w 0 []) v → Q v H'
theorem ok_named {C : Addr} (C_is_name : Cal G 1 "is_name" P_is_name spIsName) (C_cls : CalC G 4 C P_Group___init__ [.int 0] (spGroup G.K C)) (F : DfK G C "named" "Group.named" s_Group_named) : CalK G 6 C "named" (spNamed C) := by
  refine F.cal (N := N_Group_named) sc_Group_named (fun _ _ _ _ _ _ us hl => match us, hl with | [_, _], _ => rfl) (fun vs H Q E h => by obtain ⟨_, rfl, _⟩ := h; rfl) ?_
  rintro fa cdv A outer s H vs Q E hr ⟨w, rfl, nm, cont⟩
  have S := sc_Group_named
  refine ⟨_, (pss_cons (ps_if (pt_not (pt_val (pe_cal (C_is_name.mono (by omega)) hr rfl (pa_cons (pv 1) pa_nil)))) (pss_one ps_never) pss_nil)
    (pss_one (ps_ret (pe_calcL (i := 0) C_cls hr rfl (by first | exact Or.inl rfl | exact Or.inr (Or.inl rfl)) (pa_cons pe_str (pa_cons (pe_tup pa_nil) (pa_cons (pv 1) pa_nil))))))), ?_⟩
  refine ⟨_, rfl, w, rfl, nm, fun H1 s1 => ⟨true, rfl, iteF ?_⟩⟩
  refine ⟨rfl, few_line (Nat.zero_le _), fun p hp => ⟨_, rfl, fun x dx hx hdx _ => ?_⟩⟩
  refine made_group (f := .mk "name" w 0 []) hx hdx (.inr upd_same) rfl ⟨by show 0 ≤ 3; decide, by show 0 ≤ 3; decide, fun _ => rfl, by show 1 ≤ 1000000; decide, [w], by show 1 ≤ 6; decide, fun k hk => hk⟩ fun H' s' g => ?_
  exact cont _ _ (s1.trans ((same_upd hp).trans s')) g
def sp_every (C : Addr) : Sp := fun vs H Q _ => vs = [.ref C] ∧ ∀ v H', Same H H' → GRep C H' (.mk "all" "" 0 []) v → Q v H'
theorem ok_every {C : Addr} (C_cls : CalC G 4 C P_Group___init__ [.str "", .int 0] (spGroup G.K C)) (F : DfK G C "every" "Group.every" s_Group_every) : CalK G 6 C "every" (sp_every C) := by
  refine F.cal (N := N_Group_every) sc_Group_every (fun _ _ _ _ _ _ us hl => match us, hl with | [_], _ => rfl) (fun vs H Q E h => by obtain ⟨rfl, _⟩ := h; rfl) ?_
  rintro fa cdv A outer s H vs Q E hr ⟨rfl, cont⟩
  have S := sc_Group_every
  refine ⟨_, (pss_one (ps_ret (pe_calcL (i := 0) C_cls hr rfl (by first | exact Or.inl rfl | exact Or.inr (Or.inl rfl)) (pa_cons pe_str (pa_cons (pe_tup pa_nil) pa_nil))))), ?_⟩
  refine ⟨rfl, few_line (Nat.zero_le _), fun p hp => fun x dx hx hdx _ => ?_⟩
  refine made_group (f := .mk "all" "" 0 []) hx hdx (.inr upd_same) rfl ⟨by show 0 ≤ 3; decide, by show 0 ≤ 3; decide, fun _ => rfl, by show 1 ≤ 1000000; decide, [], by show 0 ≤ 6; decide, fun k hk => hk⟩ fun H' s' g => ?_
  exact cont _ _ ((same_upd hp).trans s') g
def sp_nothing (C : Addr) : Sp := fun vs H Q _ => vs = [.ref C] ∧ ∀ v H', Same H H' → GRep C H' (.mk "none" "" 0 []) v → Q v H'
theorem ok_nothing {C : Addr} (C_cls : CalC G 4 C P_Group___init__ [.str "", .int 0] (spGroup G.K C)) (F : DfK G C "nothing" "Group.nothing" s_Group_nothing) : CalK G 6 C "nothing" (sp_nothing C) := by
  refine F.cal (N := N_Group_nothing) sc_Group_nothing (fun _ _ _ _ _ _ us hl => match us, hl with | [_], _ => rfl) (fun vs H Q E h => by obtain ⟨rfl, _⟩ := h; rfl) ?_
  rintro fa cdv A outer s H vs Q E hr ⟨rfl, cont⟩
  have S := sc_Group_nothing
  refine ⟨_, (pss_one (ps_ret (pe_calcL (i := 0) C_cls hr rfl (by first | exact Or.inl rfl | exact Or.inr (Or.inl rfl)) (pa_cons pe_str (pa_cons (pe_tup pa_nil) pa_nil))))), ?_⟩
  refine ⟨rfl, few_line (Nat.zero_le _), fun p hp => fun x dx hx hdx _ => ?_⟩
  refine made_group (f := .mk "none" "" 0 []) hx hdx (.inr upd_same) rfl ⟨by show 0 ≤ 3; decide, by show 0 ≤ 3; decide, fun _ => rfl, by show 1 ≤ 1000000; decide, [], by show 0 ≤ 6; decide, fun k hk => hk⟩ fun H' s' g => ?_
  exact cont _ _ ((same_upd hp).trans s') g
theorem ok___and__ {C : Addr} (ic : IsC G C) (g_Group : G.mg "Group" = some (.ref C)) (C_Group : CalC G 4 C P_Group___init__ [.str "", .int 0] (spGroup G.K C)) (F : DfD G C "__and__" "Group.__and__" s_Group___and__) : CalD G 6 C "__and__" P_Group___and__ (spBin C "&") := by
  have a_Group := C
  refine F.cal (N := N_Group___and__) sc_Group___and__ (fun _ _ _ _ _ _ us hl => match us, hl with | [_, _], _ => rfl) (fun vs H Q E h => by obtain ⟨_, _, _, _, rfl, _⟩ := h; rfl) ?_
  rintro fa cdv A outer s H vs Q E hr ⟨f1, f2, v1, v2, rfl, r1, r2, fit, cont⟩
  have S := sc_Group___and__
  refine ⟨_, (pss_cons (ps_if (pt_not (pt_val (pe_callB call_isi rfl B.isinstance (by decide +kernel) (pa_cons (pv 1) (pa_cons (pe_glob (v := .ref C) rfl g_Group rfl) pa_nil))))) (pss_one ps_never) pss_nil)
    (pss_one (ps_ret (pe_calc C_Group hr rfl g_Group (pa_cons pe_str (pa_cons (pe_tup (pa_cons (pv 0) (pa_cons (pv 1) pa_nil))) pa_nil)))))), ?_⟩
  obtain ⟨b, dx2, fs2, rfl, hb⟩ := r2.ins
  refine ⟨_, rfl, .ref b, .ref C, _, _, true, rfl, .own C, ic.ty H b dx2 fs2 hb, ic.yes, true, rfl, iteF ?_⟩
  refine ⟨_, rfl, _, rfl, few_line (by show 2 ≤ 1000; decide), fun p hp => fun x dx hx hdx _ => ?_⟩
  have s1 := same_upd (o := .tup [v1, .ref b]) hp
  refine made_group (f := .mk "&" "" 0 [f1, f2]) hx hdx (.inr upd_same) ⟨_, _, rfl, r1.mono s1.i, _, _, rfl, r2.mono s1.i, rfl⟩ fit fun H' s' g => ?_
  exact cont _ _ (s1.trans s') g
theorem ok___or__ {C : Addr} (ic : IsC G C) (g_Group : G.mg "Group" = some (.ref C)) (C_Group : CalC G 4 C P_Group___init__ [.str "", .int 0] (spGroup G.K C)) (F : DfD G C "__or__" "Group.__or__" s_Group___or__) : CalD G 6 C "__or__" P_Group___or__ (spBin C "|") := by
  have a_Group := C
  refine F.cal (N := N_Group___or__) sc_Group___or__ (fun _ _ _ _ _ _ us hl => match us, hl with | [_, _], _ => rfl) (fun vs H Q E h => by obtain ⟨_, _, _, _, rfl, _⟩ := h; rfl) ?_
  rintro fa cdv A outer s H vs Q E hr ⟨f1, f2, v1, v2, rfl, r1, r2, fit, cont⟩
  have S := sc_Group___or__
  refine ⟨_, (pss_cons (ps_if (pt_not (pt_val (pe_callB call_isi rfl B.isinstance (by decide +kernel) (pa_cons (pv 1) (pa_cons (pe_glob (v := .ref C) rfl g_Group rfl) pa_nil))))) (pss_one ps_never) pss_nil)
    (pss_one (ps_ret (pe_calc C_Group hr rfl g_Group (pa_cons pe_str (pa_cons (pe_tup (pa_cons (pv 0) (pa_cons (pv 1) pa_nil))) pa_nil)))))), ?_⟩
  obtain ⟨b, dx2, fs2, rfl, hb⟩ := r2.ins
  refine ⟨_, rfl, .ref b, .ref C, _, _, true, rfl, .own C, ic.ty H b dx2 fs2 hb, ic.yes, true, rfl, iteF ?_⟩
  refine ⟨_, rfl, _, rfl, few_line (by show 2 ≤ 1000; decide), fun p hp => fun x dx hx hdx _ => ?_⟩
  have s1 := same_upd (o := .tup [v1, .ref b]) hp
  refine made_group (f := .mk "|" "" 0 [f1, f2]) hx hdx (.inr upd_same) ⟨_, _, rfl, r1.mono s1.i, _, _, rfl, r2.mono s1.i, rfl⟩ fit fun H' s' g => ?_
  exact cont _ _ (s1.trans s') g
theorem ok___sub__ {C : Addr} (ic : IsC G C) (g_Group : G.mg "Group" = some (.ref C)) (C_Group : CalC G 4 C P_Group___init__ [.str "", .int 0] (spGroup G.K C)) (F : DfD G C "__sub__" "Group.__sub__" s_Group___sub__) : CalD G 6 C "__sub__" P_Group___sub__ (spBin C "-") := by
  have a_Group := C
  refine F.cal (N := N_Group___sub__) sc_Group___sub__ (fun _ _ _ _ _ _ us hl => match us, hl with | [_, _], _ => rfl) (fun vs H Q E h => by obtain ⟨_, _, _, _, rfl, _⟩ := h; rfl) ?_
  rintro fa cdv A outer s H vs Q E hr ⟨f1, f2, v1, v2, rfl, r1, r2, fit, cont⟩
  have S := sc_Group___sub__
  refine ⟨_, (pss_cons (ps_if (pt_not (pt_val (pe_callB call_isi rfl B.isinstance (by decide +kernel) (pa_cons (pv 1) (pa_cons (pe_glob (v := .ref C) rfl g_Group rfl) pa_nil))))) (pss_one ps_never) pss_nil)
    (pss_one (ps_ret (pe_calc C_Group hr rfl g_Group (pa_cons pe_str (pa_cons (pe_tup (pa_cons (pv 0) (pa_cons (pv 1) pa_nil))) pa_nil)))))), ?_⟩
  obtain ⟨b, dx2, fs2, rfl, hb⟩ := r2.ins
  refine ⟨_, rfl, .ref b, .ref C, _, _, true, rfl, .own C, ic.ty H b dx2 fs2 hb, ic.yes, true, rfl, iteF ?_⟩
  refine ⟨_, rfl, _, rfl, few_line (by show 2 ≤ 1000; decide), fun p hp => fun x dx hx hdx _ => ?_⟩
  have s1 := same_upd (o := .tup [v1, .ref b]) hp
  refine made_group (f := .mk "-" "" 0 [f1, f2]) hx hdx (.inr upd_same) ⟨_, _, rfl, r1.mono s1.i, _, _, rfl, r2.mono s1.i, rfl⟩ fit fun H' s' g => ?_
  exact cont _ _ (s1.trans s') g
theorem ok___xor__ {C : Addr} (ic : IsC G C) (g_Group : G.mg "Group" = some (.ref C)) (C_Group : CalC G 4 C P_Group___init__ [.str "", .int 0] (spGroup G.K C)) (F : DfD G C "__xor__" "Group.__xor__" s_Group___xor__) : CalD G 6 C "__xor__" P_Group___xor__ (spBin C "^") := by
  have a_Group := C
  refine F.cal (N := N_Group___xor__) sc_Group___xor__ (fun _ _ _ _ _ _ us hl => match us, hl with | [_, _], _ => rfl) (fun vs H Q E h => by obtain ⟨_, _, _, _, rfl, _⟩ := h; rfl) ?_
  rintro fa cdv A outer s H vs Q E hr ⟨f1, f2, v1, v2, rfl, r1, r2, fit, cont⟩
  have S := sc_Group___xor__
  refine ⟨_, (pss_cons (ps_if (pt_not (pt_val (pe_callB call_isi rfl B.isinstance (by decide +kernel) (pa_cons (pv 1) (pa_cons (pe_glob (v := .ref C) rfl g_Group rfl) pa_nil))))) (pss_one ps_never) pss_nil)
    (pss_one (ps_ret (pe_calc C_Group hr rfl g_Group (pa_cons pe_str (pa_cons (pe_tup (pa_cons (pv 0) (pa_cons (pv 1) pa_nil))) pa_nil)))))), ?_⟩
  obtain ⟨b, dx2, fs2, rfl, hb⟩ := r2.ins
  refine ⟨_, rfl, .ref b, .ref C, _, _, true, rfl, .own C, ic.ty H b dx2 fs2 hb, ic.yes, true, rfl, iteF ?_⟩
  refine ⟨_, rfl, _, rfl, few_line (by show 2 ≤ 1000; decide), fun p hp => fun x dx hx hdx _ => ?_⟩
  have s1 := same_upd (o := .tup [v1, .ref b]) hp
  refine made_group (f := .mk "^" "" 0 [f1, f2]) hx hdx (.inr upd_same) ⟨_, _, rfl, r1.mono s1.i, _, _, rfl, r2.mono s1.i, rfl⟩ fit fun H' s' g => ?_
  exact cont _ _ (s1.trans s') g
def spInv (C : Addr) : Sp := fun vs H Q _ => ∃ f1 v1, vs = [v1] ∧ GRep C H f1 v1 ∧ Fit (.mk "~" "" 0 [f1]) ∧ ∀ v H', Same H H' → GRep C H' (.mk "~" "" 0 [f1]) v → Q v H'
theorem ok_invert {C : Addr} (g_Group : G.mg "Group" = some (.ref C)) (C_Group : CalC G 4 C P_Group___init__ [.str "", .int 0] (spGroup G.K C)) (F : DfD G C "__invert__" "Group.__invert__" s_Group___invert__) : CalD G 6 C "__invert__" P_Group___invert__ (spInv C) := by
  refine F.cal (N := N_Group___invert__) sc_Group___invert__ (fun _ _ _ _ _ _ us hl => match us, hl with | [_], _ => rfl) (fun vs H Q E h => by obtain ⟨_, _, rfl, _⟩ := h; rfl) ?_
  rintro fa cdv A outer s H vs Q E hr ⟨f1, v1, rfl, r1, fit, cont⟩
  have S := sc_Group___invert__
  refine ⟨_, (pss_one (ps_ret (pe_calc C_Group hr rfl g_Group (pa_cons pe_str (pa_cons (pe_tup (pa_cons (pv 0) pa_nil)) pa_nil))))), ?_⟩
  refine ⟨_, rfl, few_line (by show 1 ≤ 1000; decide), fun p hp => fun x dx hx hdx _ => ?_⟩
  have s1 := same_upd (o := .tup [v1]) hp
  refine made_group (f := .mk "~" "" 0 [f1]) hx hdx (.inr upd_same) ⟨_, _, rfl, r1.mono s1.i, rfl⟩ fit fun H' s' g => ?_
  exact cont _ _ (s1.trans s') g
def spAt (K : PySem.W.Frag) (C : Addr) : Sp := fun vs H Q _ => ∃ (n : Nat) (a : Addr) (ps : List Gf) (xs : List V), vs = [.ref C, .int n, .ref a] ∧ H a = some (.lst xs) ∧ GReps C H ps xs ∧ Fit (.mk "at" "" n ps) ∧ ∀ v H', Same H H' → GRep C H' (.mk "at" "" n ps) v → Q v H'
theorem ok_at_least {C : Addr} (ic : IsC G C) (g_Group : G.mg "Group" = some (.ref C)) (C_is_integer : Cal G 1 "is_integer" P_is_integer spIsInt) (C_is_sequence : Cal G 1 "is_sequence" P_is_sequence (spIsSeq G.K)) (C_cls : CalC G 4 C P_Group___init__ [] (spGroup G.K C)) (F : DfK G C "at_least" "Group.at_least" s_Group_at_least) : CalK G 6 C "at_least" (spAt G.K C) := by
  refine F.cal (N := N_Group_at_least) sc_Group_at_least (fun _ _ _ _ _ _ us hl => match us, hl with | [_, _, _], _ => rfl) (fun vs H Q E h => by obtain ⟨_, _, _, _, rfl, _⟩ := h; rfl) ?_
  rintro fa cdv A outer s H vs Q E hr ⟨n, a, ps, xs, rfl, ha, hps, fit, cont⟩
  have S := sc_Group_at_least
  refine ⟨_, (pss_cons (ps_if (PW.pt (pw_or (pt_not (pt_val (pe_cal (C_is_integer.mono (by omega)) hr rfl (pa_cons (pv 1) pa_nil)))) (pw_or1 (pt_cmpR op_lt (pv 1) pe_int (nomark _))))) (pss_one ps_never) pss_nil)
    (pss_cons (ps_if (PW.pt (pw_or (pt_not (pt_val (pe_cal (C_is_sequence.mono (by omega)) hr rfl (pa_cons (pv 2) pa_nil)))) (pw_or1 (pt_not (pt_val (pe_callB (cr_all rfl) rfl B.all (by decide +kernel) (pa_cons (pe_lc (own := [("group", 3)]) rfl S.nd (pi_list (pv 2)) (blkOk_by (own := [("group", 3)]) (N := N_Group_at_least) (sc := defScope s_Group_at_least) (by decide +kernel)) (fun _ _ _ _ _ => (pg_name (i := 3) S.nd rfl (by first | exact Or.inl rfl | exact Or.inr rfl))) (fun _ _ _ _ _ => pts_nil) (fun _ _ _ _ _ => (pe_callB (call_isiG G.K (by rfl)) rfl B.isinstance (by decide +kernel) (pa_cons (pv 3) (pa_cons (pe_glob (v := .ref C) rfl g_Group rfl) pa_nil))))) pa_nil))))))) (pss_one ps_never) pss_nil)
    (pss_one (ps_ret (pe_calcL (i := 0) C_cls hr rfl (by first | exact Or.inl rfl | exact Or.inr (Or.inl rfl)) (pa_cons pe_str (pa_cons (pv 2) (pa_cons pe_str (pa_cons (pv 1) pa_nil))))))))), ?_⟩
  have prs := greps_paired.mp hps
  have lx : xs.length ≤ 3 := by rw [← paired_len prs]; exact fit.few
  refine ⟨_, rfl, (n : Int), rfl, true, rfl, iteF ⟨_, rfl, _, _, rfl, rfl, _, rfl, iteN (by simp) ?_⟩⟩
  refine ⟨_, rfl, a, xs, rfl, .inl ha, fun H1 s1 => ⟨true, rfl, iteF ?_⟩⟩
  refine ⟨_, rfl, a, rfl, ⟨_, SqL.of (s1 _ _ ha)⟩, fun D hD => ?_⟩
  refine lc_map (walk_list (xs := xs)) (fun _ y _ => y = .bl true) (few_lt (by omega)) hD (fun H2 s2 => s2.seq (SqL.of (s1 _ _ ha))) (fun _ _ _ _ _ _ _ h => h) ?_ ?_
  · rintro i x H2 H3 Qy hi s2 nd ⟨rfl, hx⟩ cy
    obtain ⟨f, hf, rf⟩ := paired_get (paired_flip prs) hx
    obtain ⟨b, dx2, fs2, rfl, hb⟩ := (rf.mono (s1.trans s2).i).ins
    exact ⟨rfl, _, rfl, .ref b, .ref C, _, _, true, rfl, .own C, ic.ty _ b dx2 fs2 hb, ic.yes, cy _ _ (Same.refl _) rfl⟩
  · intro H2 acc s2 hD2 hp
    have ea : acc = (List.range xs.length).map (fun _ => V.bl true) := paired_map_eq hp
    refine ⟨_, (List.range xs.length).map (fun _ => true), rfl, SqL.of (by rw [hD2, ea, List.map_map]; rfl), ?_⟩
    rw [show ((List.range xs.length).map fun _ => true).all id = true by simp]
    refine ⟨true, rfl, iteF ?_⟩
    have s12 := s1.trans s2
    refine ⟨rfl, _, rfl, _, rfl, fun x dx hx hdx _ => ?_⟩
    refine made_group (f := .mk "at" "" n ps) hx hdx (.inl (SqL.of (s12 _ _ ha))) (GReps.mono s12.i _ _ hps) fit fun H' s' g => ?_
    exact cont _ _ (s12.trans s') g
end
end Mc
/-! A list or a tuple against an empty one. -/
namespace Mc
open PySem PySem.Spec PyProof.Rows L2
section
variable {X : Cx}
def rNil (K : PySem.W.Frag) (neg : Bool) : R2 := fun x y H Q => ∃ a b xs, x = .ref a ∧ y = .ref b ∧ ((SqL K H a xs ∧ SqL K H b []) ∨ (SqT K H a xs ∧ SqT K H b [])) ∧ Q (.bl (if neg then !xs.isEmpty else xs.isEmpty)) H
theorem op_neNil (hu : X.A.units + 64 < cLine) : OpR X (compareOp .NotEq) (rNil X.K true) := by
  intro pins s σ H x y v u Q I rx ry h
  obtain ⟨a, b, xs, rfl, rfl, h, q⟩ := h
  cases rx
  cases ry
  have hu' : X.A.units < cLine := by omega
  have back : EP X pins σ Q (.bool (!xs.isEmpty)) s := ⟨.bl _, H, I, rfl, q⟩
  rcases h with ⟨ha, hb⟩ | ⟨ha, hb⟩
  · obtain ⟨us, r1, p1, _⟩ := I.list ha
    obtain ⟨ws, r2, p2, _⟩ := I.list hb
    cases r2
    cases xs with
    | nil =>
      cases r1
      exact SeqAt.RcNeAt.lists (e := fun _ => true) p1.isList p2.isList rfl hu' (fun j h1 h2 => absurd h1 (Nat.not_lt_zero _)) X.prog X.w X.xe _ back
    | cons z zs =>
      refine SeqAt.RcNeAt.lists_lengths p1.isList p2.isList ?_ hu' X.prog X.w X.xe _ back
      have := r1.length
      cases us with
      | nil => cases this
      | cons _ _ => simp
  · obtain ⟨us, r1, p1, _⟩ := I.tuple ha
    obtain ⟨ws, r2, p2, _⟩ := I.tuple hb
    cases r2
    have e := SeqAt.RcNeAt.tuples (A := X.A) (s := s) (e := fun _ => true) (show s.heap.IsTuple a us.toArray from p1) (show s.heap.IsTuple b #[] from p2) hu' (fun j h1 h2 => absurd h2 (Nat.not_lt_zero _)) X.prog X.w X.xe (EP X pins σ Q) ?_
    · exact e
    · have l := r1.length
      cases xs with
      | nil => cases r1; exact back
      | cons z zs =>
        cases us with
        | nil => cases l
        | cons _ _ => simpa using back
theorem op_eqNil (hu : X.A.units + 64 < cLine) : OpR X (compareOp .Eq) (rNil X.K false) := by
  intro pins s σ H x y v u Q I rx ry h
  obtain ⟨a, b, xs, rfl, rfl, h, q⟩ := h
  cases rx
  cases ry
  have hu' : X.A.units < cLine := by omega
  have back : EP X pins σ Q (.bool xs.isEmpty) s := ⟨.bl _, H, I, rfl, q⟩
  rcases h with ⟨ha, hb⟩ | ⟨ha, hb⟩
  · obtain ⟨us, r1, p1, _⟩ := I.list ha
    obtain ⟨ws, r2, p2, _⟩ := I.list hb
    cases r2
    cases xs with
    | nil =>
      cases r1
      exact SeqAt.RcAt.lists (e := fun _ => true) p1.isList p2.isList rfl hu' (fun j h1 h2 => absurd h1 (Nat.not_lt_zero _)) X.prog X.w X.xe _ back
    | cons z zs =>
      refine SeqAt.RcAt.lists_lengths p1.isList p2.isList ?_ hu' X.prog X.w X.xe _ back
      have := r1.length
      cases us with
      | nil => cases this
      | cons _ _ => simp
  · obtain ⟨us, r1, p1, _⟩ := I.tuple ha
    obtain ⟨ws, r2, p2, _⟩ := I.tuple hb
    cases r2
    have e := SeqAt.RcAt.tuples (A := X.A) (s := s) (e := fun _ => true) (show s.heap.IsTuple a us.toArray from p1) (show s.heap.IsTuple b #[] from p2) hu' (fun j h1 h2 => absurd h2 (Nat.not_lt_zero _)) X.prog X.w X.xe (EP X pins σ Q) ?_
    · exact e
    · have l := r1.length
      cases xs with
      | nil => cases r1; exact back
      | cons z zs =>
        cases us with
        | nil => cases l
        | cons _ _ => simpa using back
end
end Mc
/-! The walk, 6: terms, rows, tallies, claims. -/
namespace Mc
open PySem PySem.Spec PyProof.Rows L2
abbrev N_is_term : List Str := ["value"]
abbrev P_is_term : List Str := ["value"]
theorem sc_is_term : FnScope N_is_term P_is_term (defScope s_is_term) := ⟨rfl, rfl, rfl, by decide +kernel, rfl, by decide +kernel, by decide +kernel⟩

abbrev N_row_of : List Str := ["tally", "names", "found", "number", "group", "mask", "at", "weight"]
abbrev P_row_of : List Str := ["tally", "names"]
theorem sc_row_of : FnScope N_row_of P_row_of (defScope s_row_of) := ⟨rfl, rfl, rfl, by decide +kernel, rfl, by decide +kernel, by decide +kernel⟩

abbrev N_term_script : List Str := ["number", "group", "many"]
abbrev P_term_script : List Str := ["number", "group"]
theorem sc_term_script : FnScope N_term_script P_term_script (defScope s_term_script) := ⟨rfl, rfl, rfl, by decide +kernel, rfl, by decide +kernel, by decide +kernel⟩

abbrev N_Tally___init__ : List Str := ["self", "terms", "told", "term", "number", "group", "word"]
abbrev P_Tally___init__ : List Str := ["self", "terms"]
theorem sc_Tally___init__ : FnScope N_Tally___init__ P_Tally___init__ (defScope s_Tally___init__) := ⟨rfl, rfl, rfl, by decide +kernel, rfl, by decide +kernel, by decide +kernel⟩

abbrev N_Claim___init__ : List Str := ["self", "word", "tally"]
abbrev P_Claim___init__ : List Str := ["self", "word", "tally"]
theorem sc_Claim___init__ : FnScope N_Claim___init__ P_Claim___init__ (defScope s_Claim___init__) := ⟨rfl, rfl, rfl, by decide +kernel, rfl, by decide +kernel, by decide +kernel⟩

/-- the row of a claim's terms over the kinds of ys -/
def rowL (ys : List Str) (ts : List Tm) : List Int := (List.range (2 ^ ys.length)).map fun k => wt (inK ys k) ts
theorem wt_append (p : Str → Bool) : ∀ (as bs : List Tm), wt p (as ++ bs) = wt p as + wt p bs
  | [], bs => by simp [wt]
  | a :: as, bs => by rw [List.cons_append, wt, wt, wt_append p as bs]; omega
theorem all_strs : ∀ {acc : List V}, (∀ y ∈ acc, ∃ z, y = V.str z) → ∃ zs : List Str, acc = zs.map V.str
  | [], _ => ⟨[], rfl⟩
  | y :: ys, h => by
    obtain ⟨z, e⟩ := h y List.mem_cons_self
    obtain ⟨zs, e2⟩ := all_strs fun y hy => h y (List.mem_cons_of_mem _ hy)
    exact ⟨z :: zs, by rw [e, e2]; rfl⟩
structure Tc (G : Gd) (C : Addr) : Prop where
  cl : Cls G.K C
  terms : NoAttr G.K C "terms"
  names : NoAttr G.K C "names"
  script : NoAttr G.K C "script"
structure Kc (G : Gd) (C : Addr) : Prop where
  cl : Cls G.K C
  word : NoAttr G.K C "word"
  tally : NoAttr G.K C "tally"
  names : NoAttr G.K C "names"
  script : NoAttr G.K C "script"
section
variable {G : Gd} (B : Bl G.mg)
include B
def spIsTerm (C : Addr) : Sp := fun vs H Q _ => ∃ (t : Tm) (v : V), vs = [v] ∧ Two (GRep C) H t v ∧ Q (.bl true) H
theorem ok_is_term {C : Addr} (ic : IsC G C) (g_Group : G.mg "Group" = some (.ref C)) (C_is_integer : Cal G 1 "is_integer" P_is_integer spIsInt) (F : Df G "is_term" "is_term" s_is_term) : Cal G 3 "is_term" P_is_term (spIsTerm C) := by
  refine F.cal (N := N_is_term) sc_is_term (fun _ _ _ _ _ _ us hl => match us, hl with | [_], _ => rfl) (fun vs H Q E h => by obtain ⟨_, _, rfl, _⟩ := h; rfl) fun f cdv A outer s H vs Q E hr h => ?_
  obtain ⟨⟨i, g⟩, v, rfl, ⟨a, x, rfl, ha, hx⟩, cont⟩ := h
  have S := sc_is_term
  refine ⟨_, (pss_cons (ps_if (PW.pt (pw_or (pt_not (pt_val (pe_callB call_isi rfl B.isinstance (by decide +kernel) (pa_cons (pv 0) (pa_cons (pe_bltn (v := .ty "tuple") rfl B.tuple (by decide +kernel) rfl) pa_nil))))) (pw_or1 (pt_cmpR op_ne (pe_callB call_len_seq rfl B.len (by decide +kernel) (pa_cons (pv 0) pa_nil)) pe_int (nomark _))))) (pss_one (ps_ret pe_bl)) pss_nil)
    (pss_one (ps_ret (pe_and (pe_cal (C_is_integer.mono (by omega)) hr rfl (pa_cons (pe_ix ix_tup (pv 0) pe_int (fun _ _ => rfl)) pa_nil)) (pe_one (pe_callB call_isi rfl B.isinstance (by decide +kernel) (pa_cons (pe_ix ix_tup (pv 0) pe_int (fun _ _ => rfl)) (pa_cons (pe_glob (v := .ref C) rfl g_Group rfl) pa_nil)))))))), ?_⟩
  obtain ⟨b, dx2, fs2, rfl, hb⟩ := hx.ins
  refine ⟨_, rfl, .ref a, .ty "tuple", _, _, true, rfl, .ty "tuple", .base (.tup ha), kit_ty (by decide +kernel), true, rfl, iteF ?_⟩
  refine ⟨_, rfl, a, _, rfl, .inr (.inl (.inl ha)), rfl, _, rfl, iteN (by simp) ?_⟩
  refine ⟨_, rfl, a, _, 0, _, rfl, rfl, .inl (.inl ha), rfl, i, rfl, true, rfl, iteT ?_⟩
  exact ⟨_, rfl, a, _, 1, _, rfl, rfl, .inl (.inl ha), rfl, .ref b, .ref C, _, _, true, rfl, .own C, ic.ty H b dx2 fs2 hb, ic.yes, cont⟩
def spRow (C CT : Addr) (d : Nat) : Sp := fun vs H Q _ => ∃ (ts : List Tm) (v : V) (a : Addr) (ys : List Str), vs = [v, .ref a] ∧ TRep C CT H ts v ∧ NT H a ys ∧ ys.Nodup ∧ ys.length ≤ 10 ∧ (∀ t ∈ ts, Good ys t.2 ∧ depth t.2 < d) ∧ ts.length ≤ 1000 ∧
  ∀ p H', Same H H' → H' p = some (.tup ((rowL ys ts).map V.int)) → Q (.ref p) H'
theorem ok_row_of {C CT : Addr} {d : Nat} (tc : Tc G CT) (C_mask_of : Cal G (d + 2) "mask_of" P_mask_of (spMask C d)) (F : Df G "row_of" "row_of" s_row_of) : Cal G (d + 3) "row_of" P_row_of (spRow C CT d) := by
  refine F.cal (N := N_row_of) sc_row_of (fun _ _ _ _ _ _ us hl => match us, hl with | [_, _], _ => rfl) (fun vs H Q E h => by obtain ⟨_, _, _, _, rfl, _⟩ := h; rfl) fun f cdv A outer s H vs Q E hr h => ?_
  obtain ⟨ts, v, a, ys, rfl, ⟨t, dx, pa, na, sa, xs, nms, scr, rfl, ht, hpa, hts, -⟩, nt, nd, small, good, many, cont⟩ := h
  have S := sc_row_of
  refine ⟨_, (pss_cons (ps_set (i := 2) S.nd rfl (by first | exact Or.inl rfl | exact Or.inr rfl) (pe_op op_rep (pe_lst (pa_cons pe_int pa_nil)) (pe_op op_shl pe_int (pe_callB call_len_seq rfl B.len (by decide +kernel) (pa_cons (pv 1) pa_nil)))))
    (pss_cons (ps_for PassesOwn.never rfl (pi_tup (pe_fld (pv 0) rfl)) (pg_tup (n := 2) (by rfl) (pgs_cons (pg_name (i := 3) S.nd rfl (by first | exact Or.inl rfl | exact Or.inr rfl)) (pgs_cons (pg_name (i := 4) S.nd rfl (by first | exact Or.inl rfl | exact Or.inr rfl)) pgs_nil))) (pss_cons (ps_set (i := 5) S.nd rfl (by first | exact Or.inl rfl | exact Or.inr rfl) (pe_cal (C_mask_of.mono (by omega)) hr rfl (pa_cons (pv 4) (pa_cons (pv 1) pa_nil))))
    (pss_one (ps_setLc (i := 2) (own := [("at", 6), ("weight", 7)]) rfl S.nd rfl rfl (sw_true rfl rfl rfl (by decide +kernel)) (pi_enum (by rfl) B.enumerate (pa_cons (pv 2) pa_nil)) (blkOk_by (own := [("at", 6), ("weight", 7)]) (N := N_row_of) (sc := defScope s_row_of) (by decide +kernel)) (fun _ _ _ _ _ => (pg_tupK G.K (by rfl) (n := 2) (by rfl) (pgs_cons (pg_name (i := 6) S.nd rfl (by first | exact Or.inl rfl | exact Or.inr rfl)) (pgs_cons (pg_name (i := 7) S.nd rfl (by first | exact Or.inl rfl | exact Or.inr rfl)) pgs_nil)))) (fun _ _ _ _ _ => pts_nil) (fun _ _ _ _ _ => (pe_op op_add (pv 7) (pe_op op_mul (pv 3) (pe_op op_and (pe_op op_shr (pv 5) (pv 6)) pe_int))))))))
    (pss_one (ps_ret (pe_callTy call_tuple_of rfl B.tuple (by decide +kernel) (pa_cons (pv 2) pa_nil)))))), ?_⟩
  have le10 : 2 ^ ys.length ≤ 2 ^ 10 := Nat.pow_le_pow_right (by decide) small
  have e2 : ((1 : Int) * 2 ^ (((ys.map V.str).length : Nat) : Int).toNat) = ((2 ^ ys.length : Nat) : Int) := by rw [List.length_map, Int.toNat_natCast, Int.one_mul, Int.natCast_pow]; rfl
  generalize hz : 2 ^ ys.length = z at le10 e2
  refine ⟨few_line (by show 1 ≤ 1000; decide), fun l hl => ⟨_, rfl, a, ys.map V.str, rfl, .inr (nt.same (same_upd hl)).sq, _, _, rfl, rfl, ⟨by omega, by rw [List.length_map]; omega, by decide⟩, ?_⟩⟩
  refine ⟨l, _, _, rfl, rfl, upd_same, ?_, ?_, ?_, fun L hL => ?_⟩
  · rw [e2]; omega
  · rw [e2]; omega
  · rw [e2, sizeLine_eq, Int.toNat_natCast]
    show 1 * z ≤ 16777216
    omega
  rw [e2, Int.toNat_natCast]
  have s1 := (same_upd (o := .lst [V.int 0]) hl).upd (o := .lst (List.replicate z [V.int 0]).flatten) hL
  have lt := paired_len hts
  let W : Nat → List V := fun i => (List.range z).map fun k => V.int (wt (inK ys k) (ts.take i))
  refine ⟨_, rfl, t, CT, dx, _, _, rfl, s1 _ _ ht, tc.cl, tc.terms, rfl, pa, rfl, ⟨xs, .inl (.inl (s1 _ _ hpa))⟩, ?_⟩
  refine for_it (walk_tup (xs := xs)) (fun i σ H1 => Same H H1 ∧ σ[1]? = some (some (.ref a)) ∧ σ.length = 8 ∧ ∃ M, σ[2]? = some (some (.ref M)) ∧ H1 M = some (.lst (W i))) ⟨s1, rfl, rfl, L, rfl, ?_⟩ (fun i σ H1 _ p => .inl (.inl (p.1 _ _ hpa))) ?_ ?_
  · rw [upd_same]
    congr 2
    refine List.ext_getElem (by simp [W]) fun i h1 h2 => ?_
    simp [W, wt]
  · rintro i x σ H1 H2 hi ⟨sa1, e1, el, M, e2', hM⟩ ⟨rfl, hx⟩
    obtain ⟨v0, v1, v2, v3, v4, v5, v6, v7, rfl⟩ : ∃ v0 v1 v2 v3 v4 v5 v6 v7, σ = [v0, v1, v2, v3, v4, v5, v6, v7] := by
      match σ, el with
      | [v0, v1, v2, v3, v4, v5, v6, v7], _ => exact ⟨v0, v1, v2, v3, v4, v5, v6, v7, rfl⟩
    cases e1; cases e2'
    obtain ⟨⟨n, g⟩, hti, b, y, rfl, hb, hy⟩ := paired_get (paired_flip hts) hx
    have mem := List.mem_of_getElem? hti
    have gd := good _ mem
    refine ⟨b, [.int n, y], rfl, .inl (.inl (sa1 _ _ hb)), rfl, _, _, rfl, ?_⟩
    refine ⟨_, _, rfl, rfl, ?_⟩
    refine ⟨_, rfl, _, rfl, g, y, a, ys, rfl, hy.mono sa1.i, gd.1, gd.2, nt.same sa1, nd, small, fun H3 s3 => ?_⟩
    have hM3 := s3 _ _ hM
    refine ⟨_, rfl, M, W i, rfl, SqL.of hM3, fun D hD => ?_⟩
    refine lc_map (walk_enum (xs := W i)) (fun k y _ => y = .int (wt (inK ys k) (ts.take (i + 1)))) (by rw [sizeLine_eq]; simp [W]; omega) hD (fun H4 s4 => s4.seq (SqL.of hM3)) (fun _ _ _ _ _ _ _ h => h) ?_ ?_
    · rintro k x2 H4 H5 Qy hk s4 nd4 ⟨T, p, q, rfl, hT, rfl, ep, eq⟩ cy
      obtain rfl := Option.some.inj ep
      have hkz : k < z := by simpa [W] using hk
      have eq' : q = .int (wt (inK ys k) (ts.take i)) := by
        have : (W i)[k]? = some (V.int (wt (inK ys k) (ts.take i))) := by simp [W, hkz]
        have eq2 : (W i)[k]? = some q := eq
        rw [this] at eq2
        exact (Option.some.inj eq2).symm
      subst eq'
      have st := same_upd (o := .tup [V.int (k : Nat), V.int (wt (inK ys k) (ts.take i))]) hT
      have bitv : Builtin.bitAnd (((mskF ys g : Nat) : Int) / 2 ^ ((k : Int)).toNat) 1 = if hasF (inK ys k) g then 1 else 0 := by
        have b1 := bit_at (mskF ys g) k
        have eb : (mskF ys g).testBit k = hasF (inK ys k) g := by unfold mskF; rw [msk_bit, hz, decide_eq_true hkz, Bool.true_and]
        rw [eb] at b1
        rw [PyProof.Rows.bitAnd_m1] at b1 ⊢
        cases hh : hasF (inK ys k) g with
        | true => rw [if_pos rfl]; exact b1.mpr hh
        | false =>
          rw [if_neg (by decide)]
          have : ¬ (((mskF ys g : Nat) : Int) / 2 ^ ((k : Int)).toNat) % 2 = 1 := fun e => by rw [b1.mp e] at hh; cases hh
          omega
      refine ⟨T, [V.int (k : Nat), V.int (wt (inK ys k) (ts.take i))], rfl, .inl (.inl upd_same), rfl, _, _, rfl, ?_⟩
      refine ⟨_, _, rfl, rfl, rfl, ?_⟩
      refine ⟨_, rfl, _, rfl, _, rfl, _, rfl, _, _, rfl, rfl, Int.natCast_nonneg _, _, _, rfl, rfl, _, _, rfl, rfl, .inr ?_, _, _, rfl, rfl, cy _ _ st ?_⟩
      · rw [bitv]
        split <;> decide
      · show V.int (wt (inK ys k) (ts.take i) + n * Builtin.bitAnd (((mskF ys g : Nat) : Int) / 2 ^ ((k : Int)).toNat) 1) = V.int (wt (inK ys k) (ts.take (i + 1)))
        rw [bitv, List.take_add_one, hti, wt_append]
        simp only [Option.toList, wt]
        split <;> simp
    · intro H4 acc s4 hD4 hp
      have hp' : acc = W (i + 1) := by
        have hl : (W i).length = z := by simp [W]
        rw [hl] at hp
        exact paired_map_eq hp
      exact ⟨sa1.trans (s3.trans s4), rfl, rfl, D, rfl, by rw [hD4, hp']⟩
  · rintro σ H1 ⟨sa1, e1, el, M, e2', hM⟩
    refine ⟨_, e2', M, _, rfl, .inl ⟨SqL.of hM, fun p hp => cont p _ (sa1.upd hp) ?_⟩⟩
    rw [upd_same]
    congr 2
    simp only [W, rowL, hz, List.map_map]
    rw [List.take_of_length_le (by omega)]
    rfl
omit B in
theorem log2_small {q : Nat} (h : q ≤ 1000) : q.log2 < 1920 := Nat.lt_of_le_of_lt (Nat.le_trans (Nat.log2_le_self q) h) (by decide)
omit B in
theorem abs_one (n : Int) : (if n < 0 then -n else n) = 1 ↔ n.natAbs = 1 := by split <;> omega
def tlen (n : Int) (g : Gf) : Nat := 1 + (if n.natAbs = 1 then 0 else 1) + slen g
def spTermScript (C : Addr) : Sp := fun vs H Q _ => ∃ (n : Int) (g : Gf) (v : V), vs = [.int n, v] ∧ n.natAbs ≤ 1000 ∧ GRep C H g v ∧ slen g ≤ 1000 ∧ ∀ p (zs : List Str) H', Same H H' → H p = none → H' p = some (.lst (zs.map V.str)) → zs.length = tlen n g → Q (.ref p) H'
theorem ok_term_script {C : Addr} (gc : Gc G C) (F : Df G "term_script" "term_script" s_term_script) : Cal G 1 "term_script" P_term_script (spTermScript C) := by
  refine F.cal (N := N_term_script) sc_term_script (fun _ _ _ _ _ _ us hl => match us, hl with | [_, _], _ => rfl) (fun vs H Q E h => by obtain ⟨_, _, _, rfl, _⟩ := h; rfl) fun f cdv A outer s H vs Q E hr h => ?_
  obtain ⟨n, ⟨gs, gw, gn, gps⟩, v, rfl, small, ⟨g, dx, pa, na, sa, xs, nms, scr, rfl, hg, -, -, -, -, hsa, lsc⟩, lg, cont⟩ := h
  have S := sc_term_script
  refine ⟨_, (pss_cons (ps_set (i := 2) S.nd rfl (by first | exact Or.inl rfl | exact Or.inr rfl) (pe_ifExp (pt_cmpR op_eq (pe_callB call_abs rfl B.abs (by decide +kernel) (pa_cons (pv 0) pa_nil)) pe_int (nomark _)) (pe_lst pa_nil) (pe_lst (pa_cons (pe_callTy call_str_int rfl B.str (by decide +kernel) (pa_cons (pe_callB call_abs rfl B.abs (by decide +kernel) (pa_cons (pv 0) pa_nil)) pa_nil)) pa_nil))))
    (pss_one (ps_ret (pe_lst (pa_cons (pe_ifExp (pt_cmpR op_lt (pv 0) pe_int (nomark _)) pe_str pe_str) (StX.pa_star (pv 2) (StX.pa_star (pe_fld (pv 1) rfl) pa_nil))))))), ?_⟩
  have ab : (if n < 0 then -n else n).natAbs ≤ 1000 := by split <;> omega
  have rest : ∀ (M : Addr) (ms : List Str) (H1 : Hp), Same H H1 → H1 M = some (.lst (ms.map V.str)) → ms.length = (if n.natAbs = 1 then 0 else 1) → tRet (tLst (tCons (tIf (tTest (tOp (rI0 fun i j => .bl (decide (i < j))) (tVar 0) (tC (.int 0)))) (tC (.str "-")) (tC (.str "+"))) (StX.tStar G.K (tVar 2) (StX.tStar G.K (tFld G.K (tVar 1) "script") tNil)))) { nx := fun _ H' => Q .non H', rt := Q } [some (.int n), some (.ref g), some (.ref M)] H1 := by
    intro M ms H1 s1 hM lm
    have fin : ∀ b : Str, (V.str b :: (ms.map V.str ++ (scr.map V.str ++ []))).length ≤ sizeLine ∧ ∀ p, H1 p = none → Q (.ref p) (L2.upd H1 p (.lst (V.str b :: (ms.map V.str ++ (scr.map V.str ++ []))))) := fun b => by
      refine ⟨?_, fun p hp => cont p (b :: (ms ++ scr)) _ (s1.upd hp) (none_back s1 hp) ?_ ?_⟩
      · rw [sizeLine_eq]; simp; split at lm <;> omega
      · rw [upd_same]; simp
      · rw [List.length_cons, List.length_append, lm, lsc, tlen]; omega
    refine ⟨_, rfl, _, _, rfl, rfl, _, rfl, ite2 (fun _ => ?_) fun _ => ?_⟩
    · exact ⟨_, rfl, M, _, rfl, .inr (SqL.of hM), _, rfl, g, C, dx, _, _, rfl, s1 _ _ hg, gc.cl, gc.script, rfl, sa, _, rfl, .inl (.inl (.inl (s1 _ _ hsa))), fin "-"⟩
    · exact ⟨_, rfl, M, _, rfl, .inr (SqL.of hM), _, rfl, g, C, dx, _, _, rfl, s1 _ _ hg, gc.cl, gc.script, rfl, sa, _, rfl, .inl (.inl (.inl (s1 _ _ hsa))), fin "+"⟩
  refine ⟨_, rfl, _, rfl, rfl, _, rfl, ite2 (fun c => ?_) fun c => ?_⟩
  · have e := V.int.inj (of_decide_eq_true c)
    exact ⟨few_line (Nat.zero_le _), fun M hM => rest M [] _ (same_upd hM) upd_same (by rw [if_pos ((abs_one n).mp e)]; rfl)⟩
  · have e : ¬ (if n < 0 then -n else n) = 1 := fun e => c (decide_eq_true (congrArg V.int e))
    exact ⟨_, rfl, n, rfl, _, rfl, log2_small ab, few_line (by show 1 ≤ 1000; decide), fun M hM => rest M [_] _ (same_upd hM) upd_same (by rw [if_neg fun z => e ((abs_one n).mpr z)]; rfl)⟩
def spTally (C CT : Addr) : Sp := fun vs H Q _ => ∃ (g dx L : Addr) (ts : List Tm) (xs : List V), vs = [.ref g, .ref L] ∧ H g = some (.ins CT dx []) ∧ H L = some (.lst xs) ∧ Paired (Two (GRep C) H) ts xs ∧ ts.length ≤ 9 ∧ (∀ t ∈ ts, t.1.natAbs ≤ 1000 ∧ slen t.2 ≤ 1000) ∧
  (∃ ws : List Str, ws.length ≤ 6 ∧ ∀ t ∈ ts, ∀ w ∈ wordsF t.2, w ∈ ws) ∧ ∀ H', SameX g H H' → TRep C CT H' ts (.ref g) → Q .non H'
theorem body_Tally {C CT : Addr} (gc : Gc G C) (tc : Tc G CT) (C_is_sequence : Cal G 1 "is_sequence" P_is_sequence (spIsSeq G.K)) (C_is_term : Cal G 3 "is_term" P_is_term (spIsTerm C)) (C_names_of_kinds : Cal G 3 "names_of_kinds" P_names_of (spNames G.K)) (C_term_script : Cal G 1 "term_script" P_term_script (spTermScript C)) :
    Body G "Tally.__init__" s_Tally___init__ N_Tally___init__ 3 (spTally C CT) := by
  rintro fa cdv A outer s H vs Q E hr ⟨g, dx, L, ts, xs, rfl, hg, hL, prs, lts, bnd, ⟨ws, lws, hws⟩, cont⟩
  have S := sc_Tally___init__
  have hu := hr.units
  refine ⟨_, (pss_cons (ps_if (PW.pt (pw_or (pt_not (pt_val (pe_cal (C_is_sequence.mono (by omega)) hr rfl (pa_cons (pv 1) pa_nil)))) (pw_or1 (pt_not (pt_val (pe_callB (cr_all rfl) rfl B.all (by decide +kernel) (pa_cons (pe_lc (own := [("term", 3)]) rfl S.nd (pi_list (pv 1)) (blkOk_by (own := [("term", 3)]) (N := N_Tally___init__) (sc := defScope s_Tally___init__) (by decide +kernel)) (fun _ _ _ _ _ => (pg_name (i := 3) S.nd rfl (by first | exact Or.inl rfl | exact Or.inr rfl))) (fun _ _ _ _ _ => pts_nil) (fun _ _ _ _ _ => (pe_cal (C_is_term.mono (by omega)) hr rfl (pa_cons (pv 3) pa_nil)))) pa_nil))))))) (pss_one ps_never) pss_nil)
    (pss_cons (ps_fld (pv 0) (pe_callTy call_tuple_of rfl B.tuple (by decide +kernel) (pa_cons (pv 1) pa_nil)) rfl)
    (pss_cons (ps_fld (pv 0) (pe_cal (C_names_of_kinds.mono (by omega)) hr rfl (pa_cons (pe_lc (own := [("number", 4), ("group", 5)]) rfl S.nd (pi_tup (pe_fld (pv 0) rfl)) (blkOk_by (own := [("number", 4), ("group", 5)]) (N := N_Tally___init__) (sc := defScope s_Tally___init__) (by decide +kernel)) (fun _ _ _ _ _ => (pg_tupK G.K (by rfl) (n := 2) (by rfl) (pgs_cons (pg_name (i := 4) S.nd rfl (by first | exact Or.inl rfl | exact Or.inr rfl)) (pgs_cons (pg_name (i := 5) S.nd rfl (by first | exact Or.inl rfl | exact Or.inr rfl)) pgs_nil)))) (fun _ _ _ _ _ => pts_nil) (fun _ _ _ _ _ => (pv 5))) pa_nil)) rfl)
    (pss_cons (ps_setLc2 (i := 2) (own := [("number", 4), ("group", 5), ("word", 6)]) (vs1 := [6]) rfl S.nd rfl rfl (sw_true rfl rfl rfl (by decide +kernel)) (pi_tup (pe_fld (pv 0) rfl)) (blkOk_by (own := [("number", 4), ("group", 5), ("word", 6)]) (N := N_Tally___init__) (sc := defScope s_Tally___init__) (by decide +kernel)) (by decide) (fun _ _ _ _ _ => (pg_tupK G.K (by rfl) (n := 2) (by rfl) (pgs_cons (pg_name (i := 4) S.nd rfl (by first | exact Or.inl rfl | exact Or.inr rfl)) (pgs_cons (pg_name (i := 5) S.nd rfl (by first | exact Or.inl rfl | exact Or.inr rfl)) pgs_nil)))) (fun _ _ _ _ _ => pts_nil) (fun _ _ _ _ _ => (pi_listK G.K (by rfl) (pe_cal (C_term_script.mono (by omega)) hr rfl (pa_cons (pv 4) (pa_cons (pv 5) pa_nil))))) (fun _ _ _ _ _ => (pg_name (i := 6) S.nd rfl (by first | exact Or.inl rfl | exact Or.inr rfl))) (fun _ _ _ _ _ => pts_nil) (fun _ _ _ _ _ => (pv 6)))
    (pss_one (ps_fld (pv 0) (pe_ifExp (pt_cmpR (op_neNil hu) (pv 2) (pe_lst pa_nil) (nomark _)) (pe_callTy call_tuple_of rfl B.tuple (by decide +kernel) (pa_cons (pv 2) pa_nil)) (pe_tup (pa_cons pe_str pa_nil))) rfl)))))), ?_⟩
  have raw : Raw H g := raw_ins hg rfl
  have lx := paired_len prs
  refine ⟨_, rfl, L, xs, rfl, .inl hL, fun H1 s1 => ⟨true, rfl, iteF ?_⟩⟩
  refine ⟨_, rfl, L, rfl, ⟨_, SqL.of (s1 _ _ hL)⟩, fun D hD => ?_⟩
  refine lc_map (walk_list (xs := xs)) (fun _ y _ => y = .bl true) (few_lt (by omega)) hD (fun H2 s2 => s2.seq (SqL.of (s1 _ _ hL))) (fun _ _ _ _ _ _ _ h => h) ?_ ?_
  · rintro i x H2 H3 Qy hi s2 nd ⟨rfl, hx⟩ cy
    obtain ⟨t, ht, rt⟩ := paired_get (paired_flip prs) hx
    exact ⟨rfl, _, rfl, t, x, rfl, rt.mono (s1.trans s2).i (GRep.mono (s1.trans s2).i), cy _ _ (Same.refl _) rfl⟩
  intro H2 acc s2' hD2 hp
  have ea : acc = (List.range xs.length).map (fun _ => V.bl true) := paired_map_eq hp
  refine ⟨_, (List.range xs.length).map (fun _ => true), rfl, SqL.of (by rw [hD2, ea, List.map_map]; rfl), ?_⟩
  rw [show ((List.range xs.length).map fun _ => true).all id = true by simp]
  refine ⟨true, rfl, iteF ?_⟩
  have s2 := s1.trans s2'
  refine ⟨_, rfl, L, xs, rfl, .inl ⟨SqL.of (s2 _ _ hL), fun P hP => ?_⟩⟩
  have nP : P ≠ g := fun e => by rw [e, s2 _ _ hg] at hP; cases hP
  have s3 := s2.upd (o := .tup xs) hP
  refine ⟨_, rfl, g, CT, dx, _, rfl, s3 _ _ hg, tc.cl, tc.terms, by show 0 < 1000; decide, ?_⟩
  show tSeq _ _ _ _ (L2.upd (L2.upd H2 P (.tup xs)) g (.ins CT dx [("terms", .ref P)]))
  have x3 : SameX g H (L2.upd (L2.upd H2 P (.tup xs)) g (.ins CT dx [("terms", .ref P)])) := s3.x.trans samex_upd
  have g3 : (L2.upd (L2.upd H2 P (.tup xs)) g (.ins CT dx [("terms", .ref P)])) g = some (.ins CT dx [("terms", .ref P)]) := upd_same
  have p3 : (L2.upd (L2.upd H2 P (.tup xs)) g (.ins CT dx [("terms", .ref P)])) P = some (.tup xs) := by rw [upd_ne nP, upd_same]
  generalize (L2.upd (L2.upd H2 P (.tup xs)) g (.ins CT dx [("terms", .ref P)])) = H3 at x3 g3 p3
  have prs3 : Paired (Two (GRep C) H3) ts xs := Paired.mapP prs fun _ _ r => r.mono (x3.i raw) (GRep.mono (x3.i raw))
  refine ⟨_, rfl, g, CT, dx, _, _, rfl, g3, tc.cl, tc.terms, rfl, P, rfl, ⟨xs, .inl (.inl p3)⟩, fun D1 hD1 => ?_⟩
  refine lc_map (walk_tup (xs := xs)) (fun i y _ => ∃ t, ts[i]? = some t ∧ GRep C H3 t.2 y) (few_lt (by omega)) hD1 (fun H4 s4 => .inl (.inl (s4 _ _ p3))) (fun _ _ _ _ _ _ _ h => h) ?_ ?_
  · rintro i x H4 H5 Qy hi s4 nd ⟨rfl, hx⟩ cy
    obtain ⟨⟨n, gf⟩, ht, b, y, rfl, hb, hy⟩ := paired_get (paired_flip prs3) hx
    refine ⟨b, [.int n, y], rfl, .inl (.inl (s4 _ _ hb)), rfl, _, _, rfl, ?_⟩
    exact ⟨_, _, rfl, rfl, rfl, _, rfl, cy _ _ (Same.refl _) ⟨_, ht, hy⟩⟩
  intro H4 gs s4 hD4 hp4
  have pg : Paired (GRep C H4) (ts.map (·.2)) gs := by
    refine paired_to_map (f := fun t : Tm => t.2) (Paired.mapP (paired_range (F := fun (t : Tm) y => GRep C H3 t.2 y) (by rw [lx]; exact hp4)) fun t y h => GRep.mono s4.i _ _ h)
  obtain ⟨zss, pz, mz, lz1, lz2⟩ := group_names gc ws pg fun f hf w hw => by
    obtain ⟨t, ht, e⟩ := List.mem_map.mp hf
    exact hws t ht w (by rw [e]; exact hw)
  rw [List.length_map] at lz1 lz2
  have : ts.length * ws.length ≤ 9 * 6 := Nat.mul_le_mul lts lws
  have ew : wordsT ts = ((ts.map (·.2)).map wordsF).flatten := by
    unfold wordsT
    rw [List.map_map]
    rfl
  refine ⟨D1, zss, gs, rfl, .inl (SqL.of hD4), pz, by omega, by omega, fun na ys H5 s5 asc hna => ?_⟩
  have s45 := s4.trans s5
  have nna : na ≠ g := fun e => by rw [e, s45 _ _ g3] at hna; cases hna
  refine ⟨_, rfl, g, CT, dx, _, rfl, s45 _ _ g3, tc.cl, tc.names, by show 1 < 1000; decide, ?_⟩
  show tSeq _ _ _ _ (L2.upd H5 g (.ins CT dx [("terms", .ref P), ("names", .ref na)]))
  have x5 : SameX g H3 (L2.upd H5 g (.ins CT dx [("terms", .ref P), ("names", .ref na)])) := s45.x.trans samex_upd
  have g5 : (L2.upd H5 g (.ins CT dx [("terms", .ref P), ("names", .ref na)])) g = some (.ins CT dx [("terms", .ref P), ("names", .ref na)]) := upd_same
  have na5 : (L2.upd H5 g (.ins CT dx [("terms", .ref P), ("names", .ref na)])) na = some (.tup (ys.map V.str)) := by rw [upd_ne nna]; exact hna
  generalize (L2.upd H5 g (.ins CT dx [("terms", .ref P), ("names", .ref na)])) = H6 at x5 g5 na5
  have p6 := x5 _ _ p3 nP
  have raw3 : Raw H3 g := raw_ins g3 rfl
  have prs6 : Paired (Two (GRep C) H6) ts xs := Paired.mapP prs3 fun _ _ r => r.mono (x5.i raw3) (GRep.mono (x5.i raw3))
  -- the script
  refine ⟨_, rfl, g, CT, dx, _, _, rfl, g5, tc.cl, tc.terms, rfl, P, rfl, ⟨xs, .inl (.inl p6)⟩, fun D2 hD2 => ?_⟩
  let m : Nat → Nat := fun i => tlen (ts.getD i (0, .mk "" "" 0 [])).1 (ts.getD i (0, .mk "" "" 0 [])).2
  have mb : ∀ i, i < ts.length → m i ≤ 1002 := fun i hi => by
    have b := bnd _ (List.getElem_mem hi)
    show tlen (ts.getD i _).1 (ts.getD i _).2 ≤ 1002
    rw [List.getD_eq_getElem?_getD, List.getElem?_eq_getElem hi]
    show tlen ts[i].1 ts[i].2 ≤ 1002
    unfold tlen
    split <;> omega
  have sb : ∀ k, k ≤ ts.length → ((List.range k).map m).sum ≤ 1002 * k := fun k => by
    induction k with
    | zero => intro _; exact Nat.zero_le _
    | succ k ih =>
      intro hk
      have := ih (by omega)
      have := mb k (by omega)
      rw [List.range_succ, List.map_append, List.sum_append]
      simp
      omega
  refine lc2_flat (walk_tup (xs := xs)) m (fun _ _ y _ => ∃ z, y = V.str z) (fun k hk => ?_) hD2 (fun H7 s7 => .inl (.inl (s7 _ _ p6))) (fun _ _ _ _ _ _ _ _ h => h) ?_ ?_
  · have := sb k (by omega)
    rw [sizeLine_eq]
    omega
  · rintro i x H7 H8 Cc hi s7 nd ⟨rfl, hx⟩ c3
    obtain ⟨⟨n, gf⟩, ht, b, y, rfl, hb, hy⟩ := paired_get (paired_flip prs6) hx
    have bt := bnd _ (List.mem_of_getElem? ht)
    refine ⟨b, [.int n, y], rfl, .inl (.inl (s7 _ _ hb)), rfl, _, _, rfl, ?_⟩
    refine ⟨_, _, rfl, rfl, rfl, ?_⟩
    refine ⟨_, rfl, _, rfl, n, gf, y, rfl, bt.1, GRep.mono s7.i _ _ hy, bt.2, fun p zs H9 s9 fp hp9 lz => ⟨p, rfl, ⟨_, SqL.of hp9⟩, ?_⟩⟩
    have npD : p ≠ D2 := fun e => nd (by rw [← e]; exact fp)
    refine c3 _ _ _ (fun H => SqL G.K H p (zs.map V.str)) (YAt (zs.map V.str)) s9 ?_ (fun H5 sx => SqL.of (sx _ _ hp9 npD)) ?_
    · have : m i = (zs.map V.str).length := by
        rw [List.length_map, lz]
        show tlen (ts.getD i _).1 (ts.getD i _).2 = _
        rw [List.getD_eq_getElem?_getD, ht]; rfl
      rw [this]
      exact walk_list
    · rintro j x1 H5 H6 Qy hj sx s5 nd5 ⟨rfl, hx1⟩ cy
      obtain ⟨z, hz1, rfl⟩ := strs_get hx1
      exact ⟨rfl, _, rfl, cy _ _ (Same.refl _) ⟨z, rfl⟩⟩
  · intro H7 acc s7 hD7 pr
    have lac : acc.length ≤ 1000000 := by
      rw [← paired_len pr, List.length_flatMap]
      have := sb ts.length (Nat.le_refl _)
      rw [← lx]
      simp only [List.length_map, List.length_range]
      show ((List.range ts.length).map m).sum ≤ _
      omega
    obtain ⟨zs, ez⟩ : ∃ zs : List Str, acc = zs.map V.str := by
      have all : ∀ y ∈ acc, ∃ z, y = V.str z := fun y hy => by
        obtain ⟨i, hi⟩ := List.mem_iff_getElem?.mp hy
        obtain ⟨ij, _, h⟩ := paired_get (paired_flip pr) hi
        exact h
      exact all_strs all
    subst ez
    rw [List.length_map] at lac
    have fin : ∀ (sa : Addr) (ws : List Str) (H8 : Hp), Same H7 H8 → H8 sa = some (.tup (ws.map V.str)) → ws.length ≤ 1000000 → ∃ (a C' dx' : Addr) (fs : List (Str × V)), V.ref g = .ref a ∧ H8 a = some (.ins C' dx' fs) ∧ Cls G.K C' ∧ NoAttr G.K C' "script" ∧ fs.length < 1000 ∧ Q .non (L2.upd H8 a (.ins C' dx' (putF "script" (.ref sa) fs))) := by
      intro sa ws8 H8 s8 hsa lw8
      have s78 := s7.trans s8
      have nsa : sa ≠ g := fun e => by rw [e, s78 _ _ g5] at hsa; cases hsa
      have n6 : na ≠ g := fun e => by rw [e, g5] at na5; cases na5
      refine ⟨g, CT, dx, _, rfl, s78 _ _ g5, tc.cl, tc.script, by show 2 < 1000; decide, ?_⟩
      have x8 : SameX g H6 (L2.upd H8 g (.ins CT dx (tFields P na sa))) := s78.x.trans samex_upd
      refine cont _ (x3.trans (x5.trans x8)) ⟨g, dx, P, na, sa, xs, ys, ws8, rfl, upd_same, x8 _ _ p6 nP, ?_, x8 _ _ na5 n6, ?_, ?_, lw8⟩
      · exact Paired.mapP prs6 fun _ _ r => r.mono (x8.i (raw_ins g5 rfl)) (GRep.mono (x8.i (raw_ins g5 rfl)))
      · rw [ew]
        exact ⟨asc.1, asc.2.1, fun k => (asc.2.2 k).trans (mz k)⟩
      · rw [upd_ne nsa]; exact hsa
    refine ⟨_, rfl, few_line (Nat.zero_le _), fun E0 hE0 => ?_⟩
    have s7' := same_upd (o := .lst []) hE0
    refine ⟨D2, E0, _, rfl, rfl, .inl ⟨SqL.of (s7' _ _ hD7), SqL.of upd_same⟩, _, rfl, ite2 (fun c => ?_) fun c => ?_⟩
    · refine ⟨_, rfl, D2, _, rfl, .inl ⟨SqL.of (s7' _ _ hD7), fun l hl => ⟨_, rfl, fin l zs _ (s7'.upd hl) upd_same lac⟩⟩⟩
    · exact ⟨few_line (by show 1 ≤ 1000; decide), fun l hl => ⟨_, rfl, fin l ["0"] _ (s7'.upd hl) upd_same (by show 1 ≤ 1000000; decide)⟩⟩
omit B in
theorem TRep.ins {C CT : Addr} {H : Hp} {ts : List Tm} {v : V} (r : TRep C CT H ts v) : ∃ (a dx : Addr) (fs : List (Str × V)), v = .ref a ∧ H a = some (.ins CT dx fs) := by
  obtain ⟨a, dx, pa, na, sa, xs, ys, zs, e, h, _⟩ := r
  exact ⟨a, dx, _, e, h⟩
def spClaim (C CT CC : Addr) : Sp := fun vs H Q _ => ∃ (g dx : Addr) (c : Cf) (v : V), vs = [.ref g, .str c.1, v] ∧ H g = some (.ins CC dx []) ∧ c.1 ∈ sorts3 ∧ TRep C CT H c.2 v ∧ ∀ H', SameX g H H' → CRep C CT CC H' c (.ref g) → Q .non H'
theorem body_Claim {C CT CC : Addr} (T : Ct G) (ic : IsC G CT) (tc : Tc G CT) (kc : Kc G CC) (g_Tally : G.mg "Tally" = some (.ref CT)) : Body G "Claim.__init__" s_Claim___init__ N_Claim___init__ 0 (spClaim C CT CC) := by
  rintro fa cdv A outer s H vs Q E hr ⟨g, dx, ⟨w, ts⟩, v, rfl, hg, hw, rt, cont⟩
  obtain ⟨a_SORTS, g_SORTS, hS⟩ := T.SORTS
  have S := sc_Claim___init__
  refine ⟨_, (pss_cons (ps_if (PW.pt (pw_or (pt_not (pt_val (pe_callB call_isi rfl B.isinstance (by decide +kernel) (pa_cons (pv 1) (pa_cons (pe_bltn (v := .ty "str") rfl B.str (by decide +kernel) rfl) pa_nil))))) (pw_or1 (pt_cmpR op_notIn_seq (pv 1) (pe_glob (v := .ref a_SORTS) rfl g_SORTS rfl) rfl)))) (pss_one ps_never) pss_nil)
    (pss_cons (ps_if (pt_not (pt_val (pe_callB call_isi rfl B.isinstance (by decide +kernel) (pa_cons (pv 2) (pa_cons (pe_glob (v := .ref CT) rfl g_Tally rfl) pa_nil))))) (pss_one ps_never) pss_nil)
    (pss_cons (ps_fld (pv 0) (pv 1) rfl)
    (pss_cons (ps_fld (pv 0) (pv 2) rfl)
    (pss_cons (ps_fld (pv 0) (pe_fld (pv 2) rfl) rfl)
    (pss_one (ps_fld (pv 0) (pe_tup (pa_cons (pv 1) (StX.pa_star (pe_fld (pv 2) rfl) pa_nil))) rfl))))))), ?_⟩
  have raw : Raw H g := raw_ins hg rfl
  have rt0 := rt
  obtain ⟨t, tdx, pa, na, sa, xs, ys, zs, rfl, ht, hpa, prs, hna, asc, hsa, lz⟩ := rt
  have nt : t ≠ g := fun e => by rw [e, hg] at ht; cases ht
  have nna : na ≠ g := fun e => by rw [e, hg] at hna; cases hna
  have nsa : sa ≠ g := fun e => by rw [e, hg] at hsa; cases hsa
  refine ⟨_, rfl, .str w, .ty "str", _, _, true, rfl, .ty "str", .base (.str w), kit_ty (by decide +kernel), true, rfl, iteF ?_⟩
  refine ⟨_, rfl, _, _, rfl, .inr (hS _), rfl, flat_str sorts3, _, rfl, ?_⟩
  rw [show (if true = true then !inV (V.str w) (sorts3.map V.str) else inV (V.str w) (sorts3.map V.str)) = false by
    rw [if_pos rfl, inV_str, decide_eq_true (show w ∈ sorts3 from hw)]; rfl]
  refine iteF ?_
  refine ⟨_, rfl, .ref t, .ref CT, _, _, true, rfl, .own CT, ic.ty H t tdx _ ht, ic.yes, true, rfl, iteF ?_⟩
  refine ⟨_, rfl, _, rfl, g, CC, dx, _, rfl, hg, kc.cl, kc.word, by show 0 < 1000; decide, ?_⟩
  refine ⟨_, rfl, _, rfl, g, CC, dx, _, rfl, upd_same, kc.cl, kc.tally, by show 1 < 1000; decide, ?_⟩
  refine ⟨_, rfl, t, CT, tdx, _, _, rfl, by rw [upd_ne nt, upd_ne nt]; exact ht, tc.cl, tc.names, rfl, _, rfl, g, CC, dx, _, rfl, upd_same, kc.cl, kc.names, by show 2 < 1000; decide, ?_⟩
  dsimp only
  show sFld _ _ _ _ _ _ (L2.upd (L2.upd (L2.upd H g (.ins CC dx [("word", .str w)])) g (.ins CC dx [("word", .str w), ("tally", .ref t)])) g (.ins CC dx [("word", .str w), ("tally", .ref t), ("names", .ref na)]))
  have x1 : SameX g H (L2.upd (L2.upd (L2.upd H g (.ins CC dx [("word", .str w)])) g (.ins CC dx [("word", .str w), ("tally", .ref t)])) g (.ins CC dx [("word", .str w), ("tally", .ref t), ("names", .ref na)])) := samex_upd.trans (samex_upd.trans samex_upd)
  have g1 : (L2.upd (L2.upd (L2.upd H g (.ins CC dx [("word", .str w)])) g (.ins CC dx [("word", .str w), ("tally", .ref t)])) g (.ins CC dx [("word", .str w), ("tally", .ref t), ("names", .ref na)])) g = some (.ins CC dx [("word", .str w), ("tally", .ref t), ("names", .ref na)]) := upd_same
  generalize (L2.upd (L2.upd (L2.upd H g (.ins CC dx [("word", .str w)])) g (.ins CC dx [("word", .str w), ("tally", .ref t)])) g (.ins CC dx [("word", .str w), ("tally", .ref t), ("names", .ref na)])) = H1 at x1 g1
  refine ⟨_, rfl, _, rfl, t, CT, tdx, _, _, rfl, x1 _ _ ht nt, tc.cl, tc.script, rfl, sa, _, rfl, .inl (.inl (.inl (x1 _ _ hsa nsa))), ?_, fun p hp => ?_⟩
  · rw [sizeLine_eq]; simp; omega
  have np : p ≠ g := fun e => by rw [e, g1] at hp; cases hp
  refine ⟨_, rfl, g, CC, dx, _, rfl, same_upd hp _ _ g1, kc.cl, kc.script, by show 3 < 1000; decide, ?_⟩
  have x2 : SameX g H1 (L2.upd (L2.upd H1 p (.tup (V.str w :: (zs.map V.str ++ [])))) g (.ins CC dx (cFields w (.ref t) na p))) := (same_upd hp).x.trans samex_upd
  have i2 : ISame H _ := (x1.trans x2).i raw
  exact cont _ (x1.trans x2) ⟨g, dx, na, p, .ref t, ys, _, rfl, upd_same, rt0.mono i2, i2.tup hna, asc, by rw [upd_ne np, upd_same]⟩
end
end Mc
/-! set(a list of texts). -/
namespace Mc
open PySem PySem.Spec PyProof.Rows L2 PySem.Froz
section
variable {P : Program} {w : World} {A : Around} {E : Value → Shared → Prop} {s : Shared}
/-- what the first i of the texts have brought -/
def Brought (zs : List Str) (i : Nat) (l : List Str) : Prop := l.length ≤ i ∧ ∀ k, k ∈ l ↔ k ∈ zs.take i
/-- the loop behind set(..): the set at S, walked by I -/
theorem upd_loop {I : Addr} {fp wr : List Addr} {G : Array GenState → Array GenState → Prop} {n : Nat} {Pv : Nat → Value → Prop} {St : Nat → Shared → Prop} {R : Result → Shared → Prop}
    (W : WalksS P w A.in1 I fp wr G n Pv St) (S : Addr) (hSf : S ∉ fp) (zs : List Str) (hn : n = zs.length) (few : zs.length < 60) (hv : ∀ i v, Pv i v → ∃ (z : Str) (t : Tok), zs[i]? = some z ∧ v = .str z t) :
    ∀ (k i : Nat) (s : Shared), n - i = k → i ≤ n → St i s → (∃ l, SetHas P w s.heap S l ∧ Brought zs i l) →
      (∀ s' l, Moved (S :: wr) G s s' → SetHas P w s'.heap S l → Brought zs n l → R (.ok (.ret .none)) s') → codeAny (model P w) A (.builtin "set.update.loop" ⟨[.ref S, .ref I], []⟩) R s := by
  have hSw : S ∉ wr := fun h => hSf (W.sub _ h)
  have hsub : ∀ b ∈ wr, b ∈ S :: wr := fun b hb => List.mem_cons_of_mem _ hb
  intro k
  induction k with
  | zero =>
    intro i s hk hi hst ⟨l, hS, g⟩ hR
    obtain rfl : i = n := by omega
    refine codeAny_builtin F.entry_set_update_loop ?_
    rw [Around.under_plainId F.plain_set_update_loop _]
    show wpAny _ A.in1 (pyNext (.ref I) >>= _) _ _ s
    refine wpAny_bind (W.done s _ _ hst fun s' hm => ?_)
    exact wpAny_pure (hR s' l (hm.mono hsub) (hS.at fun o e => hm.heap S o hSw e) g)
  | succ k ih =>
    intro i s hk hi hst ⟨l, hS, g⟩ hR
    have hlt : i < n := by omega
    refine codeAny_builtin F.entry_set_update_loop ?_
    rw [Around.under_plainId F.plain_set_update_loop _]
    show wpAny _ A.in1 (pyNext (.ref I) >>= _) _ _ s
    refine wpAny_bind (W.item i s _ _ hlt hst fun v s' hP hst' hm => ?_)
    obtain ⟨z, t, hz, rfl⟩ := hv i v hP
    have hS' : SetHas P w s'.heap S l := hS.at fun o e => hm.heap S o hSw e
    have tk : zs.take (i + 1) = zs.take i ++ [z] := by rw [List.take_add_one, hz]; rfl
    show wpAny _ A.in1 (holding [Value.str z t] (setAdd S (.str z t)) >>= _) _ _ s'
    refine wpAny_bind (wpAny_holding ?_)
    unfold setAdd
    refine wpAny_holding (wpAny_bind ((strKind P w).pyHash (is_str z t) ?_))
    refine setHas_add (s := { s' with toks := s'.toks + 1 }) hS' (by have := g.1; omega) (fun hk' => ?_) fun g' sb hk' R' => ?_
    · refine wpAny_pure ⟨plainId_quiet F.plain_set_update_loop _, ih (i + 1) _ (by omega) hlt (W.frame _ s' _ _ hst' (Nat.le_add_right _ _) fun b hb o e => e) ⟨l, hS', by have := g.1; omega, fun q => ?_⟩ fun s'' l2 hm'' h2 g2 => ?_⟩
      · rw [tk, List.mem_append, g.2 q, List.mem_singleton]
        exact ⟨.inl, fun h => h.elim id fun e => by rw [e]; exact (g.2 z).mp hk'⟩
      · exact hR s'' l2 (Moved.trans W.gtrans ((hm.mono hsub).then_heap (Nat.le_add_right _ _) fun b o hb e => e) hm'') h2 g2
    · refine wpAny_pure ⟨plainId_quiet F.plain_set_update_loop _, ih (i + 1) _ (by omega) hlt (W.frame _ s' _ _ hst' (Nat.le_add_right _ _) fun b hb o e => ?_) ⟨z :: l, R', by have := g.1; simp; omega, fun q => ?_⟩ fun s'' l2 hm'' h2 g2 => ?_⟩
      · rw [sb.2 b (fun h : b = S => hSf (by rw [← h]; exact hb))]; exact e
      · rw [tk, List.mem_append, List.mem_cons, g.2 q, List.mem_singleton]
        exact Or.comm
      · refine hR s'' l2 (Moved.trans W.gtrans ((hm.mono hsub).then_heap (Nat.le_add_right _ _) fun b o hb e => ?_) hm'') h2 g2
        rw [sb.2 b (fun h : b = S => hb (by rw [h]; exact List.mem_cons_self))]; exact e
/-- set(xs) -/
theorem call_set_strs {l : Addr} {items : Array Value} (zs : List Str) {Q : Value → Shared → Prop} (hh : A.handled = none) (hl : s.heap.IsList l items) (hit : StrsAre items.toList zs) (few : zs.length < 60) (hu : A.units + 3 < cLine)
    (h : ∀ (h' : Heap) (tk : Nat) m, SetHas P w h' s.heap.objs.size m → Brought zs zs.length m → (∀ b o, s.heap.get? b = some o → h'.get? b = some o) → Q (.ref s.heap.objs.size) { s with heap := h', toks := tk }) :
    wpAny (model P w) A (call (.type "set") [.ref l]) Q E s := by
  have isz : items.size = zs.length := by rw [← Array.length_toList]; exact hit.length
  obtain ⟨c, tl, hmro⟩ := F.called_set.mro
  have hmade := F.called_set.made
  have hsub := F.called_set.sub
  refine wpAny_call (codeAny_of_tree ?_)
  show wpAny _ _ (callAny (.type "set") _) _ _ _
  refine wpAny_pure ⟨Code.quiet_builtin _ (by decide +kernel), codeAny_builtin F.entry_type_call ?_⟩
  rw [Around.under_plain (weight_type_call_type "set" [.ref l] []) rfl]
  have h1 := F.called_set.notType
  have h2 := F.called_set.canCreate
  have hct := F.typeCall_set_1 (.ref l)
  repeat (any_goals (first | assumption | wp_step))
  refine codeAny_mono (code_set_led1 (.ref l) (E := E) (Q₁ := fun obj s₁ => obj = .ref s.heap.objs.size ∧ s₁ = { s with heap := s.heap.push (newS w) }) ⟨rfl, rfl⟩) fun r s₁ hr => ?_
  cases r with
  | error e => exact hr
  | ok fl =>
    cases fl with
    | ret obj =>
      obtain ⟨rfl, rfl⟩ := hr
      have hS : (s.heap.push (newS w)).get? s.heap.objs.size = some (newS w) := Heap.get?_push_size _ rfl
      have hT : Shared.TypeIs { s with heap := s.heap.push (newS w) } (.ref s.heap.objs.size) "set" := ⟨_, hS, rfl⟩
      have hli := F.called_set.init.lookup
      have hbi := F.called_set.init.bind (.ref s.heap.objs.size)
      repeat (any_goals (first | assumption | wp_step))
      refine codeAny_mono (codeAny_call_builtin (R := wants (fun r s₂ => r = .none ∧ ∃ h' tk m, s₂ = { s with heap := h', toks := tk } ∧ SetHas P w h' s.heap.objs.size m ∧ Brought zs zs.length m ∧
          (∀ b o, s.heap.get? b = some o → h'.get? b = some o)) E) F.called_set.init.plain F.entry_set_init (check_set_init_1 hT ?_)) fun r₂ s₂ hr₂ => ?_
      · obtain ⟨⟨ocls, odict, odata, oslots⟩, hol, hcl, nl, hdl⟩ := hl
        simp only at hcl hdl
        subst hcl; subst hdl
        have hol' : (s.heap.push (newS w)).get? l = some { cls := .type "list", dict := odict, data := .seq items nl, slots := oslots } := Heap.get?_push_of_some _ hol
        have hsls := F.sub_list_set
        have hslf := F.sub_list_frozenset
        have hne : (Value.type "list" == Value.type "dict") = false := by decide
        have hl1 : (s.heap.push (newS w)).IsList l items := ⟨_, hol', rfl, nl, rfl⟩
        unfold Builtin.«set.__init__» noKeywords Builtin.Frozenset.updateFrom
        generalize hPI : pyIter = PI
        wp_walk
        subst hPI
        refine wpAny_pyIter_list hl1 ?_
        refine wpAny_bind (wpAny_runValue ?_)
        have lS : l < s.heap.objs.size := Heap.lt_size hol
        have z1 : (s.heap.push (newS w)).objs.size = s.heap.objs.size + 1 := Heap.size_push ..
        have neI : l ≠ (s.heap.push (newS w)).objs.size := by rw [z1]; exact Nat.ne_of_lt (Nat.lt_succ_of_lt lS)
        refine upd_loop ((Walks.list (by simp [hh]) _ l neI items).toS) s.heap.objs.size ?hSf zs isz few ?hv (items.size - 0) 0 _ (by omega) (Nat.zero_le _) ⟨⟨_, Heap.get?_push_size _ rfl, rfl, rfl⟩, (hl1.push _)⟩ ?hS0 ?hR
        case hSf =>
          rw [z1]
          simp only [List.mem_cons, List.not_mem_nil, or_false, not_or]
          exact ⟨Nat.ne_of_lt (Nat.lt_succ_self _), Nat.ne_of_gt lS⟩
        case hv =>
          intro i v e
          have q : items.toList[i]? = some v := by rw [Array.getElem?_toList]; exact e
          have tx : ∀ {us : List Value} {ks : List Str} (i : Nat), StrsAre us ks → ∀ v, us[i]? = some v → ∃ (z : Str) (t : Tok), ks[i]? = some z ∧ v = .str z t := by
            intro us ks i hh
            induction hh generalizing i with
            | nil => intro v e; simp at e
            | cons x t _ ih =>
              intro v e
              cases i with
              | zero => simp at e; exact ⟨x, t, rfl, e.symm⟩
              | succ i => exact ih i v (by simpa using e)
          exact tx i hit v q
        case hS0 =>
          exact ⟨[], setHas_new (Heap.get?_push_of_some _ hS), Nat.le_refl _, fun k => by simp⟩
        case hR =>
          intro s' m hm hS' g'
          have kp : ∀ b o, s.heap.get? b = some o → s'.heap.get? b = some o := fun b o e => hm.heap b o (fun z => by
            have lt := Heap.lt_size e
            rcases List.mem_cons.mp z with z | z
            · rw [z] at lt; exact absurd lt (Nat.lt_irrefl _)
            · rw [List.mem_singleton.mp z, z1] at lt; exact absurd lt (Nat.not_lt.mpr (Nat.le_succ _))) (Heap.get?_push_of_some _ (Heap.get?_push_of_some _ e))
          obtain ⟨h', g2, d', tk', os'⟩ := s'
          have eg : g2 = s.gens := hm.gens
          have ed : d' = s.drawn := hm.drawn
          have eo : os' = s.os := hm.os
          subst eg; subst ed; subst eo
          show wpAny _ _ _ _ _ _
          refine wpAny_pure ?_
          show wpAny _ _ (ret Value.none) _ _ _
          rw [isz] at g'
          exact wpAny_pure ⟨rfl, h', tk', m, rfl, hS', g', kp⟩
      · cases r₂ with
        | error e => exact hr₂
        | ok fl₂ =>
          cases fl₂ with
          | ret r =>
            obtain ⟨rfl, h', tk, m, rfl, hS', g', hk'⟩ := hr₂
            repeat (any_goals (first | assumption | wp_step))
            exact h _ _ _ hS' g' hk'
          | _ => exact hr₂.elim
    | _ => exact hr.elim
end
section
variable {X : Cx}
/-- set(xs), xs a list of texts -/
def rSetOf (K : PySem.W.Frag) (P : Program) (w : World) : List V → Hp → VK → Prop := fun xs H Q => ∃ (l : Addr) (zs : List Str), xs = [V.ref l] ∧ SqL K H l (zs.map V.str) ∧ zs.length < 60 ∧
  ∀ p m, H p = none → (∀ k, k ∈ m ↔ k ∈ zs) → m.Nodup → Q (.ref p) (upd H p (SetO P w p m))
theorem cr_setOf (hc : X.calm = true) (hu : X.A.units + 64 < cLine) : CallR X (.type "set") (rSetOf X.K X.prog X.w) := by
  intro pins s σ H xs us Q I r h
  obtain ⟨l, zs, rfl, hl, few, q⟩ := h
  obtain ⟨its, rv, pl, _⟩ := I.list hl
  rw [Vals.ref1 r]
  refine call_set_strs zs (I.ok.hd hc) pl.isList rv.strs few (by omega) fun h' tk m hS g k => ?_
  obtain ⟨_, _, _, _, _, nd, _⟩ := id hS
  have hp := I.hok.fresh (Nat.le_refl s.heap.objs.size)
  exact ⟨.ref _, upd H s.heap.objs.size (SetO X.prog X.w s.heap.objs.size m), I.laid (t' := tk) k (Nat.le_refl _) (setO_ok hS), rfl, q _ m hp (fun z => by have e := g.2 z; rwa [List.take_length] at e) nd⟩
end
end Mc
/-! The walk, 14: crowds. -/
namespace Mc
open PySem PySem.Spec PyProof.Rows L2
abbrev N_is_part : List Str := ["value"]
abbrev P_is_part : List Str := ["value"]
theorem sc_is_part : FnScope N_is_part P_is_part (defScope s_is_part) := ⟨rfl, rfl, rfl, by decide +kernel, rfl, by decide +kernel, by decide +kernel⟩

abbrev N_added : List Str := ["pairs", "texts", "found", "text", "many", "kind", "number", "other"]
abbrev P_added : List Str := ["pairs"]
theorem sc_added : FnScope N_added P_added (defScope s_added) := ⟨rfl, rfl, rfl, by decide +kernel, rfl, by decide +kernel, by decide +kernel⟩

theorem pe_joinK {X : Cx} (K : PySem.W.Frag) (hK : X.K = K) {o e : Expr} {to te : TE} {apos pos : Pos} (ho : PE X o to) (he : PE X e te) (hs : starEach [e] X.env = [(false, eval e X.env)] := by rfl) (hbase : attributeBase o "join" X.env (eval o X.env) = eval o X.env := by rfl) (hline : (apos.endLine == pos.line) = true := by rfl) :
    PE X (.Call (.Attribute o "join" apos) [e] [] pos) (tM1 (fun x xs H Q => ∃ a p, ∃ ys : List Str, x = .str a ∧ xs = [.ref p] ∧ (SqL K H p (ys.map V.str) ∨ SqT K H p (ys.map V.str)) ∧
      (ys.map (·.length)).sum + ys.length * a.length ≤ 16777216 ∧ Q (.str (Txt.join a ys)) H) to te) := by subst hK; exact pe_join ho he hs hbase hline
/-- a kind and how many -/
abbrev Pt := List Str × Int
def PtR (H : Hp) (p : Pt) (v : V) : Prop := ∃ q kd, v = .ref q ∧ H q = some (.tup [.ref kd, .int p.2]) ∧ H kd = some (.tup (p.1.map V.str))
theorem PtR.mono {H H' : Hp} {p : Pt} {v : V} (h : PtR H p v) (s : ISame H H') : PtR H' p v := by
  obtain ⟨q, kd, e, a, b⟩ := h
  exact ⟨q, kd, e, s.tup a, s.tup b⟩
/-- a kind's text -/
def kt (ks : List Str) : Str := Txt.join " " ks
theorem nm_space {z : Str} (h : Nm z) : (32 : Nat) ∉ TL.tl z := fun m => by
  have := h.2.2.2 32 m
  revert this
  decide
theorem kt_split {ks : List Str} (hne : ks ≠ []) (h : ∀ z ∈ ks, Nm z) : Txt.split (kt ks) " " = ks := TL.split_join (y := " ") (s := 32) (S := []) (by decide +kernel) (by decide +kernel) hne fun z hz => nm_space (h z hz)
theorem kt_ne {ks : List Str} (hne : ks ≠ []) (h : ∀ z ∈ ks, Nm z) : kt ks ≠ "" := fun e => by
  have s := kt_split hne h
  rw [e, show Txt.split "" " " = [("" : Str)] by decide +kernel] at s
  rw [← s] at h
  have := (h "" (List.mem_singleton.mpr rfl)).1
  revert this
  decide +kernel
theorem joinL_len (y : List Nat) (n : Nat) : ∀ ps : List (List Nat), (∀ p ∈ ps, p.length ≤ n) → (TL.joinL y ps).length ≤ ps.length * (n + y.length)
  | [], _ => Nat.zero_le _
  | [p], h => by
    have := h p (List.mem_singleton.mpr rfl)
    show p.length ≤ 1 * (n + y.length)
    omega
  | p :: q :: r, h => by
    have := joinL_len y n (q :: r) fun z hz => h z (List.mem_cons_of_mem _ hz)
    have := h p List.mem_cons_self
    show (p ++ (y ++ TL.joinL y (q :: r))).length ≤ (List.length (q :: r) + 1) * (n + y.length)
    rw [List.length_append, List.length_append, Nat.succ_mul]
    omega
theorem kt_len (ks : List Str) (h : ∀ z ∈ ks, Nm z) : (kt ks).length ≤ ks.length * 5 := by
  have e : (kt ks).length = (TL.tl (kt ks)).length := by simp [Str.length, TL.tl]
  rw [e]
  unfold kt
  rw [TL.join_eq, TL.tl_join]
  have := joinL_len (TL.tl " ") 4 (ks.map TL.tl) fun p hp => by
    obtain ⟨z, hz, rfl⟩ := List.mem_map.mp hp
    have := (h z hz).2.1
    simpa [Str.length, TL.tl] using this
  rw [List.length_map] at this
  exact this
theorem kt_nil : kt [] = "" := by decide +kernel
theorem kt_inj {ks ls : List Str} (h : ∀ z ∈ ks, Nm z) (h' : ∀ z ∈ ls, Nm z) (e : kt ks = kt ls) : ks = ls := by
  by_cases a : ks = []
  · by_cases b : ls = []
    · rw [a, b]
    · rw [a, kt_nil] at e
      exact absurd e.symm (kt_ne b h')
  · by_cases b : ls = []
    · rw [b, kt_nil] at e
      exact absurd e (kt_ne a h)
    · rw [← kt_split a h, ← kt_split b h', e]
theorem filter_one {α : Type} {l : List α} (nd : l.Nodup) {a : α} (h : a ∈ l) (p : α → Bool) (hp : ∀ x ∈ l, p x = true ↔ x = a) : l.filter p = [a] := by
  induction l with
  | nil => cases h
  | cons x xs ih =>
    have nd' := List.nodup_cons.mp nd
    rcases List.mem_cons.mp h with e | e
    · rw [List.filter_cons, if_pos ((hp x List.mem_cons_self).mpr e.symm), ← e]
      congr 1
      refine List.filter_eq_nil_iff.mpr fun y hy q => ?_
      have := (hp y (List.mem_cons_of_mem _ hy)).mp q
      rw [this, e] at hy
      exact nd'.1 hy
    · have : ¬ p x = true := fun q => nd'.1 (by rw [(hp x List.mem_cons_self).mp q]; exact e)
      rw [List.filter_cons, if_neg this]
      exact ih nd'.2 e fun y hy => hp y (List.mem_cons_of_mem _ hy)
section
variable {G : Gd} (B : Bl G.mg)
include B
def spIsPart : Sp := fun vs H Q _ => ∃ (p : Pt) (v : V), vs = [v] ∧ PtR H p v ∧ p.1.length < 60 ∧ Asc p.1 p.1 ∧ (∀ y ∈ p.1, Nm y) ∧ 0 ≤ p.2 ∧ ∀ H', Same H H' → Q (.bl true) H'
theorem ok_is_part (C_is_kind : Cal G 3 "is_kind" P_is_kind spIsKind) (C_is_integer : Cal G 1 "is_integer" P_is_integer spIsInt) (F : Df G "is_part" "is_part" s_is_part) : Cal G 4 "is_part" P_is_part spIsPart := by
  refine F.cal (N := N_is_part) sc_is_part (fun _ _ _ _ _ _ us hl => match us, hl with | [_], _ => rfl) (fun vs H Q E h => by obtain ⟨_, _, rfl, _⟩ := h; rfl) fun f cdv A outer s H vs Q E hr h => ?_
  obtain ⟨⟨ks, n⟩, v, rfl, ⟨a, kd, rfl, ha, hk⟩, few, asc, nm, nn, cont⟩ := h
  have S := sc_is_part
  refine ⟨_, (pss_cons (ps_if (PW.pt (pw_or (pt_not (pt_val (pe_callB call_isi rfl B.isinstance (by decide +kernel) (pa_cons (pv 0) (pa_cons (pe_bltn (v := .ty "tuple") rfl B.tuple (by decide +kernel) rfl) pa_nil))))) (pw_or1 (pt_cmpR op_ne (pe_callB call_len_seq rfl B.len (by decide +kernel) (pa_cons (pv 0) pa_nil)) pe_int (nomark _))))) (pss_one (ps_ret pe_bl)) pss_nil)
    (pss_one (ps_ret (pe_and (pe_cal (C_is_kind.mono (by omega)) hr rfl (pa_cons (pe_ix ix_tup (pv 0) pe_int (fun _ _ => rfl)) pa_nil)) (pe_and (pe_cal (C_is_integer.mono (by omega)) hr rfl (pa_cons (pe_ix ix_tup (pv 0) pe_int (fun _ _ => rfl)) pa_nil)) (pe_one (pe_cmpR op_ge (pe_ix ix_tup (pv 0) pe_int (fun _ _ => rfl)) pe_int (nomark _)))))))), ?_⟩
  refine ⟨_, rfl, .ref a, .ty "tuple", _, _, true, rfl, .ty "tuple", .base (.tup ha), kit_ty (by decide +kernel), true, rfl, iteF ?_⟩
  refine ⟨_, rfl, a, _, rfl, .inr (.inl (.inl ha)), rfl, _, rfl, iteN (by simp) ?_⟩
  refine ⟨_, rfl, a, _, 0, _, rfl, rfl, .inl (.inl ha), rfl, kd, ks, rfl, hk, few, asc, nm, fun H1 s1 => ⟨true, rfl, iteT ?_⟩⟩
  have ha1 := s1 _ _ ha
  refine ⟨_, rfl, a, _, 1, _, rfl, rfl, .inl (.inl ha1), rfl, n, rfl, true, rfl, iteT ?_⟩
  refine ⟨_, rfl, a, _, 1, _, rfl, rfl, .inl (.inl ha1), rfl, _, _, rfl, rfl, ?_⟩
  have fin := cont H1 s1
  rw [← decide_eq_true (show (0 : Int) ≤ n from nn)] at fin
  exact fin
/-- what is added up -/
structure Adds (ps L : List Pt) : Prop where
  nd : (L.map (·.1)).Nodup
  mem : ∀ q, q ∈ L ↔ q ∈ ps ∧ 0 < q.2
def spAdded (K : PySem.W.Frag) : Sp := fun vs H Q _ => ∃ (a : Addr) (ps : List Pt) (xs : List V), vs = [.ref a] ∧ SqL K H a xs ∧ Paired (PtR H) ps xs ∧ ps.length < 60 ∧ (ps.map (·.1)).Nodup ∧ (∀ p ∈ ps, p.1.length ≤ 10 ∧ ∀ y ∈ p.1, Nm y) ∧
  ∀ p L ys H', Same H H' → (∃ o : Obj, o.dict = none ∧ H' p = some (.frz o (.tup ys))) → Paired (PtR H') L ys → Adds ps L → Q (.ref p) H'
theorem ok_added (F : Df G "added" "added" s_added) : Cal G 1 "added" P_added (spAdded G.K) := by
  refine F.cal (N := N_added) sc_added (fun _ _ _ _ _ _ us hl => match us, hl with | [_], _ => rfl) (fun vs H Q E h => by obtain ⟨_, _, _, rfl, _⟩ := h; rfl) fun f cdv A outer s H vs Q E hr h => ?_
  obtain ⟨a, ps, xs, rfl, ha, prs, few, nd, nm, cont⟩ := h
  have S := sc_added
  refine ⟨_, (pss_cons (ps_setLc (i := 1) (own := [("kind", 5), ("number", 6)]) rfl S.nd rfl rfl (sw_true rfl rfl rfl (by decide +kernel)) (pi_list (pv 0)) (blkOk_by (own := [("kind", 5), ("number", 6)]) (N := N_added) (sc := defScope s_added) (by decide +kernel)) (fun _ _ _ _ _ => (pg_tupK G.K (by rfl) (n := 2) (by rfl) (pgs_cons (pg_name (i := 5) S.nd rfl (by first | exact Or.inl rfl | exact Or.inr rfl)) (pgs_cons (pg_name (i := 6) S.nd rfl (by first | exact Or.inl rfl | exact Or.inr rfl)) pgs_nil)))) (fun _ _ _ _ _ => pts_nil) (fun _ _ _ _ _ => (pe_tup (pa_cons (pe_joinK G.K (by rfl) pe_str (pv 5)) (pa_cons (pv 6) pa_nil)))))
    (pss_cons (ps_set (i := 2) S.nd rfl (by first | exact Or.inl rfl | exact Or.inr rfl) (pe_lst pa_nil))
    (pss_cons (ps_for PassesOwn.never rfl (pi_list (pe_callB (cr_sortSet rfl) rfl B.sorted (by decide +kernel) (pa_cons (pe_scT (own := [("text", 3), ("number", 6)]) rfl S.nd (pi_list (pv 1)) (blkOk_by (own := [("text", 3), ("number", 6)]) (N := N_added) (sc := defScope s_added) (by decide +kernel)) (fun _ _ _ _ _ => (pg_tupK G.K (by rfl) (n := 2) (by rfl) (pgs_cons (pg_name (i := 3) S.nd rfl (by first | exact Or.inl rfl | exact Or.inr rfl)) (pgs_cons (pg_name (i := 6) S.nd rfl (by first | exact Or.inl rfl | exact Or.inr rfl)) pgs_nil)))) (fun _ _ _ _ _ => pts_nil) (fun _ _ _ _ _ => (pe_callTy SkE.call_str_str rfl B.str (by decide +kernel) (pa_cons (pv 3) pa_nil)))) pa_nil))) (pg_name (i := 3) S.nd rfl (by first | exact Or.inl rfl | exact Or.inr rfl)) (pss_cons (ps_set (i := 4) S.nd rfl (by first | exact Or.inl rfl | exact Or.inr rfl) (pe_callB (cr_sum rfl) rfl B.sum (by decide +kernel) (pa_cons (pe_lc (own := [("other", 7), ("number", 6)]) rfl S.nd (pi_list (pv 1)) (blkOk_by (own := [("other", 7), ("number", 6)]) (N := N_added) (sc := defScope s_added) (by decide +kernel)) (fun _ _ _ _ _ => (pg_tupK G.K (by rfl) (n := 2) (by rfl) (pgs_cons (pg_name (i := 7) S.nd rfl (by first | exact Or.inl rfl | exact Or.inr rfl)) (pgs_cons (pg_name (i := 6) S.nd rfl (by first | exact Or.inl rfl | exact Or.inr rfl)) pgs_nil)))) (fun _ _ _ _ _ => pts_one (pt_cmpR op_eq (pv 7) (pv 3) (nomark _))) (fun _ _ _ _ _ => (pv 6))) pa_nil)))
    (pss_one (ps_expr (pe_bm PySem.F.plainAttrs_list PySem.F.slot_list_extend PySem.F.type_list_extend mt_extend (pv 2) (pa_cons (pe_ifExp (pt_cmpR op_gt (pv 4) pe_int (nomark _)) (pe_lst (pa_cons (pe_tup (pa_cons (pe_ifExp (pt_cmpR op_ne (pv 3) pe_str (nomark _)) (pe_callTy call_tuple_of rfl B.tuple (by decide +kernel) (pa_cons (pe_split (pv 3) pe_str) pa_nil)) (pe_tup pa_nil)) (pa_cons (pv 4) pa_nil))) pa_nil)) (pe_lst pa_nil)) pa_nil))))))
    (pss_one (ps_ret (pe_callTy call_tuple_frz rfl B.tuple (by decide +kernel) (pa_cons (pv 2) pa_nil))))))), ?_⟩
  have lx := paired_len prs
  have ndp : ps.Nodup := (List.pairwise_map.mp nd).imp fun h e => h (by rw [e])
  refine ⟨_, rfl, a, rfl, ⟨_, ha⟩, fun D hD => ?_⟩
  refine lc_map (walk_list (xs := xs)) (fun i y H' => ∃ p q, ps[i]? = some p ∧ y = .ref q ∧ H' q = some (.tup [.str (kt p.1), .int p.2])) (few_lt (by omega)) hD (fun H1 s1 => s1.seq ha) ?_ ?_ ?_
  · rintro i y H1 H2 zs eD sx ⟨p, q, e1, e2, h⟩
    exact ⟨p, q, e1, e2, sx _ _ h fun z => by rw [z, eD] at h; cases h⟩
  · rintro i x H1 H2 Qy hi s1 nd1 ⟨rfl, hx⟩ cy
    obtain ⟨p, hp, q, kd, rfl, hq, hk⟩ := paired_get (paired_flip prs) hx
    have np := nm p (List.mem_of_getElem? hp)
    refine ⟨q, _, rfl, .inl (.inl (s1 _ _ hq)), rfl, _, _, rfl, ?_⟩
    refine ⟨_, _, rfl, rfl, rfl, ?_⟩
    refine ⟨⟨_, rfl⟩, _, rfl, " ", kd, p.1, rfl, rfl, .inr (.inl (.inl (s1 _ _ hk))), ?_, _, rfl, few_line (by show 2 ≤ 1000; decide), fun r hr' => ?_⟩
    · have b1 : ∀ ks : List Str, (∀ y ∈ ks, Nm y) → (ks.map (·.length)).sum ≤ 4 * ks.length := fun ks => by
        induction ks with
        | nil => intro _; exact Nat.le_refl _
        | cons k ks ih =>
          intro h
          have := ih fun y hy => h y (List.mem_cons_of_mem _ hy)
          have := (h k List.mem_cons_self).2.1
          simp only [List.map_cons, List.sum_cons, List.length_cons]
          omega
      have := b1 p.1 np.2
      have := np.1
      rw [show (" " : Str).length = 1 by decide +kernel]
      omega
    · exact cy _ _ (same_upd hr') ⟨p, r, hp, rfl, upd_same⟩
  intro H1 tx s1 hD1 hp1
  have ptx : Paired (fun (p : Pt) y => ∃ q, y = .ref q ∧ H1 q = some (.tup [.str (kt p.1), .int p.2])) ps tx := paired_range (by
    rw [lx]
    exact Paired.mapP hp1 fun i y ⟨p, q, a, b, c⟩ => ⟨p, a, q, b, c⟩)
  have ltx := paired_len ptx
  refine ⟨few_line (Nat.zero_le _), fun L hL => ?_⟩
  have sL := same_upd (o := .lst []) hL
  have dL : D ≠ L := ne_of_none hD1 hL
  refine ⟨_, rfl, D, rfl, ⟨_, SqL.of (sL _ _ hD1)⟩, fun Ds hDs => ?_⟩
  refine sc_map (walk_list (xs := tx)) (fun i => kt (ps.getD i ([], 0)).1) (by omega) hDs (fun H2 s2 => SqL.of (s2 _ _ (sL _ _ hD1))) ?_ ?_
  · rintro i x H2 H3 Qy hi s2 ⟨rfl, hx⟩ cy
    obtain ⟨p, hp, q, rfl, hq⟩ := paired_get (paired_flip ptx) hx
    refine ⟨q, _, rfl, .inl (.inl (s2 _ _ (sL _ _ hq))), rfl, _, _, rfl, ?_⟩
    refine ⟨_, _, rfl, rfl, rfl, ?_⟩
    refine ⟨_, rfl, _, rfl, ?_⟩
    have := cy H3 (Same.refl _)
    rw [List.getD_eq_getElem?_getD, hp] at this
    exact this
  · intro H2 l s2 hs hl ndl
    refine ⟨Ds, l, rfl, hs, fun ts T pm so hT => ?_⟩
    have mem_ts : ∀ z, z ∈ ts ↔ ∃ p, p ∈ ps ∧ kt p.1 = z := fun z => by
      rw [pm.mem_iff, hl z]
      constructor
      · rintro ⟨i, hi, e⟩
        rw [← ltx] at hi
        rw [List.getD_eq_getElem?_getD, List.getElem?_eq_getElem hi] at e
        exact ⟨_, List.getElem_mem hi, e⟩
      · rintro ⟨p, hp, e⟩
        obtain ⟨i, hi, e2⟩ := List.mem_iff_getElem.mp hp
        refine ⟨i, by omega, ?_⟩
        rw [List.getD_eq_getElem?_getD, List.getElem?_eq_getElem hi, e2]
        exact e
    have ndt : ts.Nodup := pm.nodup_iff.mpr ndl
    have sT := same_upd (o := .lst (ts.map V.str)) hT
    have sB := s1.trans (sL.trans (s2.trans sT))
    have tB : ∀ x o, H1 x = some o → _ = some o := fun x o e => sT _ _ (s2 _ _ (sL _ _ e))
    have hLB := sT _ _ (s2 _ _ (upd_same : (L2.upd H1 L (.lst [])) L = some (.lst [])))
    have hTB : (L2.upd H2 T (.lst (ts.map V.str))) T = some (.lst (ts.map V.str)) := upd_same
    have nTL : T ≠ L := fun e => by rw [e, s2 _ _ upd_same] at hT; cases hT
    generalize L2.upd H2 T (.lst (ts.map V.str)) = HB at sT sB tB hLB hTB
    refine ⟨T, rfl, ⟨_, SqL.of hTB⟩, ?_⟩
    refine for_it (walk_list (xs := ts.map V.str)) (fun i σ H3 => SameX L HB H3 ∧ σ[1]? = some (some (.ref D)) ∧ σ[2]? = some (some (.ref L)) ∧ σ.length = 8 ∧ ∃ (zs : List V) (Li : List Pt), H3 L = some (.lst zs) ∧ Paired (PtR H3) Li zs ∧ (Li.map (·.1)).Nodup ∧ (∀ q, q ∈ Li ↔ q ∈ ps ∧ 0 < q.2 ∧ kt q.1 ∈ ts.take i) ∧ zs.length ≤ i)
      ⟨SameX.refl _ _, rfl, rfl, rfl, [], [], hLB, .nil, List.nodup_nil, fun q => by simp, Nat.le_refl _⟩ (fun i σ H3 _ p => SqL.of (p.1 _ _ hTB nTL)) ?_ ?_
    · rintro i x σ H3 H4 hi ⟨sx, e1, e2, el, zs, Li, hz, pz, nz, mz, lz⟩ ⟨rfl, hx⟩
      obtain ⟨z, hzi, rfl⟩ := strs_get hx
      obtain ⟨v0, v1, v2, v3, v4, v5, v6, v7, rfl⟩ : ∃ v0 v1 v2 v3 v4 v5 v6 v7, σ = [v0, v1, v2, v3, v4, v5, v6, v7] := by
        match σ, el with
        | [v0, v1, v2, v3, v4, v5, v6, v7], _ => exact ⟨v0, v1, v2, v3, v4, v5, v6, v7, rfl⟩
      cases e1; cases e2
      have hzt := List.mem_of_getElem? hzi
      obtain ⟨p0, hp0, ez⟩ := (mem_ts z).mp hzt
      have nzt : z ∉ ts.take i := fun m => by
        obtain ⟨j, hj, ej⟩ := List.mem_iff_getElem.mp m
        rw [List.length_take] at hj
        rw [List.getElem_take] at ej
        obtain ⟨hi', ei⟩ := List.getElem?_eq_some_iff.mp hzi
        have := (List.getElem_inj (h₀ := by omega) (h₁ := hi') ndt).mp (ej.trans ei.symm)
        omega
      have hD4 : H4 D = some (.lst tx) := sx _ _ (tB _ _ hD1) dL
      have hts : ∀ q o, H1 q = some (.tup o) → H4 q = some (.tup o) := fun q o e => sx _ _ (tB _ _ e) (ne_of_none e hL)
      refine ⟨_, rfl, D, rfl, ⟨_, SqL.of hD4⟩, fun D3 hD3 => ?_⟩
      refine lc_sel (walk_list (xs := tx)) (fun j => decide (kt (ps.getD j ([], 0)).1 = z)) (fun j y _ => y = .int (ps.getD j ([], 0)).2) (few_lt (by omega)) hD3 (fun H5 s5 => SqL.of (s5 _ _ hD4)) (fun _ _ _ _ _ _ _ h => h) ?_ ?_
      · rintro j x H5 H6 Qy Qn hj s5 nd5 ⟨rfl, hx⟩ cy cn
        obtain ⟨p, hp, q, rfl, hq⟩ := paired_get (paired_flip ptx) hx
        rw [List.getD_eq_getElem?_getD, hp] at cy cn
        refine ⟨q, _, rfl, .inl (.inl (s5 _ _ (hts _ _ hq))), rfl, _, _, rfl, ?_⟩
        refine ⟨_, _, rfl, rfl, rfl, ?_⟩
        refine ⟨_, rfl, _, rfl, rfl, _, rfl, ite2 (fun c => ?_) fun c => ?_⟩
        · exact ⟨_, rfl, cy (decide_eq_true (V.str.inj (of_decide_eq_true c))) _ _ (Same.refl _) rfl⟩
        · exact cn (decide_eq_false fun e => c (decide_eq_true (congrArg V.str e))) _ (Same.refl _)
      intro H5 acc s5 hD5 hp5
      rw [← ltx] at hp5
      have ea := paired_map_eq (f := fun j => V.int (ps.getD j ([], 0)).2) hp5
      have uq : ∀ p ∈ ps, kt p.1 = z → p = p0 := fun p hp e => by
        have e1 := kt_inj (nm p hp).2 (nm p0 hp0).2 (e.trans ez.symm)
        obtain ⟨i1, h1, g1⟩ := List.mem_iff_getElem.mp hp
        obtain ⟨i2, h2, g2⟩ := List.mem_iff_getElem.mp hp0
        have := (List.getElem_inj (h₀ := by simpa using h1) (h₁ := by simpa using h2) nd).mp (by simp [g1, g2, e1])
        subst this
        rw [← g1, ← g2]
      have one := filter_one ndp hp0 (fun p => decide (kt p.1 = z)) fun p hp => by
        rw [decide_eq_true_iff]
        exact ⟨uq p hp, fun e => by rw [e]; exact ez⟩
      have ea2 : acc = [V.int p0.2] := by
        rw [ea, filter_range ([], 0) (fun p : Pt => V.int p.2) (fun p => decide (kt p.1 = z)), one]
        rfl
      refine ⟨D3, [p0.2], rfl, SqL.of (by rw [hD5, ea2]; rfl), ?_⟩
      rw [show ([p0.2] : List Int).sum = p0.2 by simp]
      have hz5 := s5 _ _ hz
      have sx5 : SameX L HB H5 := sx.trans s5.x
      have pz5 : Paired (PtR H5) Li zs := Paired.mapP pz fun _ _ r => r.mono s5.i
      have np0 := nm p0 hp0
      refine ⟨_, rfl, .inl ⟨rfl, _, SqL.of hz5⟩, ?_⟩
      have keepL : ∀ {H6 : Hp} {ys : List V}, Same H5 H6 → SameX L HB (L2.upd H6 L (.lst ys)) := fun s => sx5.trans (s.x.trans samex_upd)
      have rawL : ∀ {H6 : Hp}, Same H5 H6 → Raw H6 L := fun s => raw_lst (s _ _ hz5)
      refine ⟨_, rfl, _, _, rfl, rfl, _, rfl, ite2 (fun c => ?_) fun c => ?_⟩
      · have pos : 0 < p0.2 := of_decide_eq_true c
        have inv : ∀ (kd q E' : Addr) (H6 : Hp), Same H5 H6 → H6 kd = some (.tup (p0.1.map V.str)) → H6 q = none → (L2.upd H6 q (.tup [V.ref kd, V.int p0.2])) E' = none →
            SameX L HB (L2.upd (L2.upd (L2.upd H6 q (.tup [V.ref kd, V.int p0.2])) E' (.lst [V.ref q])) L (.lst (zs ++ [V.ref q]))) ∧ ∃ (zs' : List V) (Li : List Pt), (L2.upd (L2.upd (L2.upd H6 q (.tup [V.ref kd, V.int p0.2])) E' (.lst [V.ref q])) L (.lst (zs ++ [V.ref q]))) L = some (.lst zs') ∧
              Paired (PtR (L2.upd (L2.upd (L2.upd H6 q (.tup [V.ref kd, V.int p0.2])) E' (.lst [V.ref q])) L (.lst (zs ++ [V.ref q])))) Li zs' ∧ (Li.map (·.1)).Nodup ∧ (∀ q, q ∈ Li ↔ q ∈ ps ∧ 0 < q.2 ∧ kt q.1 ∈ ts.take (i + 1)) ∧ zs'.length ≤ i + 1 := by
          intro kd q E' H6 s6 hk hq hE
          have s7 := s6.trans ((same_upd (o := .tup [V.ref kd, V.int p0.2]) hq).trans (same_upd (o := .lst [V.ref q]) hE))
          have i8 : ISame H5 (L2.upd (L2.upd (L2.upd H6 q (.tup [V.ref kd, V.int p0.2])) E' (.lst [V.ref q])) L (.lst (zs ++ [V.ref q]))) := (s7.x.trans samex_upd).i (raw_lst hz5)
          have nq : q ≠ L := fun e => by rw [e, s6 _ _ hz5] at hq; cases hq
          have nqE : q ≠ E' := fun e => by rw [← e, upd_same] at hE; cases hE
          have nk : kd ≠ L := fun e => by rw [e, s6 _ _ hz5] at hk; cases hk
          refine ⟨keepL (s6.trans ((same_upd hq).trans (same_upd hE))), zs ++ [V.ref q], Li ++ [p0], upd_same, ?_, ?_, fun r => ?_, by simp; omega⟩
          · refine paired_snoc (Paired.mapP pz5 fun _ _ r => r.mono i8) ⟨q, kd, rfl, ?_, ?_⟩
            · rw [upd_ne nq, upd_ne nqE, upd_same]
            · rw [upd_ne nk]
              exact (same_upd (o := .lst [V.ref q]) hE) _ _ ((same_upd (o := .tup [V.ref kd, V.int p0.2]) hq) _ _ hk)
          · rw [List.map_append, List.nodup_append]
            refine ⟨nz, by simp, fun x hx y hy e => ?_⟩
            obtain ⟨r, hr1, er⟩ := List.mem_map.mp hx
            rw [List.map_cons, List.map_nil, List.mem_singleton] at hy
            apply nzt
            rw [← ez, ← hy, ← e, ← er]
            exact ((mz r).mp hr1).2.2
          · rw [List.mem_append, List.mem_singleton, mz r, List.take_add_one, hzi]
            simp only [Option.toList, List.mem_append, List.mem_singleton]
            constructor
            · rintro (h | h)
              · exact ⟨h.1, h.2.1, .inl h.2.2⟩
              · rw [h]; exact ⟨hp0, pos, .inr ez⟩
            · rintro ⟨h1, h2, h3 | h3⟩
              · exact .inl ⟨h1, h2, h3⟩
              · exact .inr (uq r h1 h3)
        have zl : zs.length + 1 ≤ 1000 := by
          have h := nodup_le (l := ts) (m := ps.map fun p => kt p.1) ndt fun k hk => by
            obtain ⟨p, hp, e⟩ := (mem_ts k).mp hk
            exact List.mem_map.mpr ⟨p, hp, e⟩
          rw [List.length_map] at h
          have hi2 : i < ts.length := by simpa using hi
          omega
        have two : ∀ {q E' kd : Addr} {H6 : Hp}, Same H5 H6 → H6 q = none → (L2.upd H6 q (.tup [V.ref kd, V.int p0.2])) E' = none → (L2.upd (L2.upd H6 q (.tup [V.ref kd, V.int p0.2])) E' (.lst [V.ref q])) L = some (.lst zs) := fun s6 hq hE =>
          (s6.trans ((same_upd hq).trans (same_upd hE))) _ _ hz5
        refine ⟨_, rfl, rfl, _, rfl, ite2 (fun c2 => ?_) fun c2 => ?_⟩
        · have hne : p0.1 ≠ [] := fun e => by
            rw [e, kt_nil] at ez
            rw [← ez] at c2
            revert c2
            decide
          refine ⟨_, rfl, ⟨_, rfl⟩, z, " ", rfl, rfl, by decide +kernel, ?_, fun p hp => ⟨p, _, rfl, .inl ⟨SqL.of upd_same, fun kd hk => ⟨_, rfl, ?_⟩⟩⟩⟩
          · have := kt_len p0.1 np0.2
            have := np0.1
            rw [← ez, sizeLine_eq]
            omega
          · have s6 := (same_upd (o := .lst ((Txt.split z " ").map V.str)) hp).trans (same_upd (o := .tup ((Txt.split z " ").map V.str)) hk)
            have hk6 : (L2.upd (L2.upd H5 p (.lst ((Txt.split z " ").map V.str))) kd (.tup ((Txt.split z " ").map V.str))) kd = some (.tup (p0.1.map V.str)) := by rw [upd_same, ← ez, kt_split hne np0.2]
            refine ⟨few_line (by show 2 ≤ 1000; decide), fun q hq => ⟨few_line (by show 1 ≤ 1000; decide), fun E' hE => ?_⟩⟩
            obtain ⟨v1, v2⟩ := inv kd q E' _ s6 hk6 hq hE
            exact ⟨L, E', zs, [V.ref q], rfl, rfl, two s6 hq hE, upd_same, few_line zl, v1, rfl, rfl, rfl, v2⟩
        · have e0 : p0.1 = [] := Classical.byContradiction fun hne => c2 (by
            have := kt_ne hne np0.2
            rw [ez] at this
            rw [Bool.not_eq_true', decide_eq_false_iff_not]
            exact fun q => this (V.str.inj q))
          refine ⟨few_line (Nat.zero_le _), fun kd hk => ⟨_, rfl, ?_⟩⟩
          have s6 := same_upd (o := .tup []) hk
          have hk6 : (L2.upd H5 kd (.tup [])) kd = some (.tup (p0.1.map V.str)) := by rw [upd_same, e0]; rfl
          refine ⟨few_line (by show 2 ≤ 1000; decide), fun q hq => ⟨few_line (by show 1 ≤ 1000; decide), fun E' hE => ?_⟩⟩
          obtain ⟨v1, v2⟩ := inv kd q E' _ s6 hk6 hq hE
          exact ⟨L, E', zs, [V.ref q], rfl, rfl, two s6 hq hE, upd_same, few_line zl, v1, rfl, rfl, rfl, v2⟩
      · have npos : ¬ 0 < p0.2 := fun h => c (decide_eq_true h)
        refine ⟨few_line (Nat.zero_le _), fun E' hE => ?_⟩
        have s7 := same_upd (o := .lst []) hE
        refine ⟨L, E', zs, [], rfl, rfl, s7 _ _ hz5, upd_same, ?_, keepL s7, rfl, rfl, rfl, zs ++ [], Li, upd_same, ?_, nz, fun r => ?_, ?_⟩
        · have h := nodup_le (l := ts) (m := ps.map fun p => kt p.1) ndt fun k hk => by
            obtain ⟨p, hp, e⟩ := (mem_ts k).mp hk
            exact List.mem_map.mpr ⟨p, hp, e⟩
          rw [List.length_map] at h
          have hi2 : i < ts.length := by simpa using hi
          exact few_line (by show zs.length + 0 ≤ 1000; omega)
        · rw [List.append_nil]
          exact Paired.mapP pz5 fun _ _ r => r.mono ((s7.x.trans samex_upd).i (raw_lst hz5))
        · rw [mz r, List.take_add_one, hzi]
          simp only [Option.toList, List.mem_append, List.mem_singleton]
          constructor
          · rintro ⟨h1, h2, h3⟩
            exact ⟨h1, h2, .inl h3⟩
          · rintro ⟨h1, h2, h3 | h3⟩
            · exact ⟨h1, h2, h3⟩
            · rw [uq r h1 h3] at h2
              exact absurd h2 npos
        · rw [List.append_nil]; omega
    · rintro σ H3 ⟨sx, e1, e2, el, zs, Li, hz, pz, nz, mz, lz⟩
      refine ⟨_, e2, L, zs, rfl, SqL.of hz, fun p o od hp => ?_⟩
      have fr : Same H (L2.upd H3 p (.frz o (.tup zs))) := fun x o e => same_upd hp _ _ (sx _ _ (sB _ _ e) (ne_of_none (s1 _ _ e) hL))
      refine cont p Li zs _ fr ⟨o, od, upd_same⟩ (Paired.mapP pz fun _ _ r => r.mono (same_upd hp).i) ⟨nz, fun q => ?_⟩
      rw [mz q, List.length_map, List.take_length]
      refine ⟨fun h => ⟨h.1, h.2.1⟩, fun h => ⟨h.1, h.2, (mem_ts _).mpr ⟨q, h.1, rfl⟩⟩⟩
end
end Mc
/-! The walk, 15: a crowd is made. -/
namespace Mc
open PySem PySem.Spec PyProof.Rows L2
abbrev N_Crowd___init__ : List Str := ["self", "parts", "at", "part", "kind", "number"]
abbrev P_Crowd___init__ : List Str := ["self", "parts"]
theorem sc_Crowd___init__ : FnScope N_Crowd___init__ P_Crowd___init__ (defScope s_Crowd___init__) := ⟨rfl, rfl, rfl, by decide +kernel, rfl, by decide +kernel, by decide +kernel⟩

abbrev N_Crowd___len__ : List Str := ["self"]
abbrev P_Crowd___len__ : List Str := ["self"]
theorem sc_Crowd___len__ : FnScope N_Crowd___len__ P_Crowd___len__ (defScope s_Crowd___len__) := ⟨rfl, rfl, rfl, by decide +kernel, rfl, by decide +kernel, by decide +kernel⟩

structure Wc (G : Gd) (C : Addr) : Prop where
  cl : Cls G.K C
  parts : NoAttr G.K C "parts"
  script : NoAttr G.K C "script"
  size : NoAttr G.K C "size"
abbrev wFields (pa sa : Addr) (z : Int) : List (Str × V) := [("parts", .ref pa), ("script", .ref sa), ("size", .int z)]
/-- a crowd of the parts L -/
def WRep (C : Addr) (H : Hp) (L : List Pt) (v : V) : Prop := ∃ (a dx pa sa : Addr) (z : Int) (xs : List V) (o : Obj), v = .ref a ∧ H a = some (.ins C dx (wFields pa sa z)) ∧ o.dict = none ∧ H pa = some (.frz o (.tup xs)) ∧ Paired (PtR H) L xs
theorem WRep.same {C : Addr} {H H' : Hp} {L : List Pt} {v : V} (r : WRep C H L v) (s : Same H H') : WRep C H' L v := by
  obtain ⟨a, dx, pa, sa, z, xs, o, e, h1, h2, h3, h4⟩ := r
  exact ⟨a, dx, pa, sa, z, xs, o, e, s _ _ h1, h2, s _ _ h3, Paired.mapP h4 fun _ _ r => r.mono s.i⟩
theorem PtR.x {H H' : Hp} {g C dx : Addr} {fs : List (Str × V)} {p : Pt} {v : V} (h : PtR H p v) (e : H g = some (.ins C dx fs)) (s : SameX g H H') : PtR H' p v := by
  obtain ⟨q, kd, e1, a, b⟩ := h
  exact ⟨q, kd, e1, s _ _ a fun z => (by rw [z, e] at a; cases a), s _ _ b fun z => (by rw [z, e] at b; cases b)⟩
/-- a part that may stand -/
structure PtOk (p : Pt) : Prop where
  few : p.1.length ≤ 10
  asc : Asc p.1 p.1
  nm : ∀ y ∈ p.1, Nm y
  nn : 0 ≤ p.2
  lt : p.2 < 2 ^ 63
section
variable {G : Gd} (B : Bl G.mg)
include B
def spCrowd (C : Addr) : Sp := fun vs H Q _ => ∃ (g dx a : Addr) (ps : List Pt) (xs : List V), vs = [.ref g, .ref a] ∧ H g = some (.ins C dx []) ∧ H a = some (.lst xs) ∧ Paired (PtR H) ps xs ∧ ps.length < 60 ∧ (ps.map (·.1)).Nodup ∧ (∀ p ∈ ps, PtOk p) ∧
  ∀ L H', SameX g H H' → WRep C H' L (.ref g) → Adds ps L → Q .non H'
theorem body_Crowd {C : Addr} (wc : Wc G C) (C_is_sequence : Cal G 1 "is_sequence" P_is_sequence (spIsSeq G.K)) (C_is_part : Cal G 4 "is_part" P_is_part spIsPart) (C_ascending : Cal G 1 "ascending" P_ascending (spAsc G.K)) (C_added : Cal G 1 "added" P_added (spAdded G.K)) :
    Body G "Crowd.__init__" s_Crowd___init__ N_Crowd___init__ 4 (spCrowd C) := by
  rintro fa cdv A outer s H vs Q E hr ⟨g, dx, a, ps, xs, rfl, hg, ha, prs, few, nd, ok, cont⟩
  have S := sc_Crowd___init__
  refine ⟨_, (pss_cons (ps_if (pt_not (pt_val (pe_cal (C_is_sequence.mono (by omega)) hr rfl (pa_cons (pv 1) pa_nil)))) (pss_one ps_never) pss_nil)
    (pss_cons (ps_for PassesOwn.never rfl (pi_enum (by rfl) B.enumerate (pa_cons (pv 1) pa_nil)) (pg_tup (n := 2) (by rfl) (pgs_cons (pg_name (i := 2) S.nd rfl (by first | exact Or.inl rfl | exact Or.inr rfl)) (pgs_cons (pg_name (i := 3) S.nd rfl (by first | exact Or.inl rfl | exact Or.inr rfl)) pgs_nil))) (pss_one (ps_if (pt_not (pt_val (pe_cal (C_is_part.mono (by omega)) hr rfl (pa_cons (pv 3) pa_nil)))) (pss_one ps_never) pss_nil)))
    (pss_cons (ps_fld (pv 0) (pe_cal (C_added.mono (by omega)) hr rfl (pa_cons (pe_lc (own := [("kind", 4), ("number", 5)]) rfl S.nd (pi_list (pv 1)) (blkOk_by (own := [("kind", 4), ("number", 5)]) (N := N_Crowd___init__) (sc := defScope s_Crowd___init__) (by decide +kernel)) (fun _ _ _ _ _ => (pg_tupK G.K (by rfl) (n := 2) (by rfl) (pgs_cons (pg_name (i := 4) S.nd rfl (by first | exact Or.inl rfl | exact Or.inr rfl)) (pgs_cons (pg_name (i := 5) S.nd rfl (by first | exact Or.inl rfl | exact Or.inr rfl)) pgs_nil)))) (fun _ _ _ _ _ => pts_nil) (fun _ _ _ _ _ => (pe_tup (pa_cons (pe_cal (C_ascending.mono (by omega)) hr rfl (pa_cons (pv 4) pa_nil)) (pa_cons (pv 5) pa_nil))))) pa_nil)) rfl)
    (pss_cons (ps_fld (pv 0) (pe_callTy call_tuple_of rfl B.tuple (by decide +kernel) (pa_cons (pe_lc (own := [("kind", 4), ("number", 5)]) rfl S.nd (pi_tup (pe_fld (pv 0) rfl)) (blkOk_by (own := [("kind", 4), ("number", 5)]) (N := N_Crowd___init__) (sc := defScope s_Crowd___init__) (by decide +kernel)) (fun _ _ _ _ _ => (pg_tupK G.K (by rfl) (n := 2) (by rfl) (pgs_cons (pg_name (i := 4) S.nd rfl (by first | exact Or.inl rfl | exact Or.inr rfl)) (pgs_cons (pg_name (i := 5) S.nd rfl (by first | exact Or.inl rfl | exact Or.inr rfl)) pgs_nil)))) (fun _ _ _ _ _ => pts_nil) (fun _ _ _ _ _ => (pe_joinK G.K (by rfl) pe_str (pe_lst (pa_cons (pe_callTy call_str_int rfl B.str (by decide +kernel) (pa_cons (pv 5) pa_nil)) (pa_starK G.K (by rfl) (pv 4) pa_nil)))))) pa_nil)) rfl)
    (pss_one (ps_fld (pv 0) (pe_callB (cr_sum rfl) rfl B.sum (by decide +kernel) (pa_cons (pe_lc (own := [("kind", 4), ("number", 5)]) rfl S.nd (pi_tup (pe_fld (pv 0) rfl)) (blkOk_by (own := [("kind", 4), ("number", 5)]) (N := N_Crowd___init__) (sc := defScope s_Crowd___init__) (by decide +kernel)) (fun _ _ _ _ _ => (pg_tupK G.K (by rfl) (n := 2) (by rfl) (pgs_cons (pg_name (i := 4) S.nd rfl (by first | exact Or.inl rfl | exact Or.inr rfl)) (pgs_cons (pg_name (i := 5) S.nd rfl (by first | exact Or.inl rfl | exact Or.inr rfl)) pgs_nil)))) (fun _ _ _ _ _ => pts_nil) (fun _ _ _ _ _ => (pv 5))) pa_nil)) rfl)))))), ?_⟩
  have lx := paired_len prs
  refine ⟨_, rfl, a, xs, rfl, .inl ha, fun H1 s1 => ⟨true, rfl, iteF ?_⟩⟩
  refine ⟨_, rfl, a, xs, rfl, SqL.of (s1 _ _ ha), ?_⟩
  refine for_it (walk_enum (xs := xs)) (fun i σ H2 => Same H H2 ∧ σ[0]? = some (some (.ref g)) ∧ σ[1]? = some (some (.ref a)) ∧ σ.length = 6) ⟨s1, rfl, rfl, rfl⟩ (fun i σ H2 _ p => SqL.of (p.1 _ _ ha)) ?_ ?_
  · rintro i x σ H2 H3 hi ⟨s2, e0, e1, el⟩ ⟨TT, p, v, rfl, hT, rfl, ep, ev⟩
    obtain rfl := Option.some.inj ep
    obtain ⟨v0, v1, v2, v3, v4, v5, rfl⟩ : ∃ v0 v1 v2 v3 v4 v5, σ = [v0, v1, v2, v3, v4, v5] := by
      match σ, el with
      | [v0, v1, v2, v3, v4, v5], _ => exact ⟨v0, v1, v2, v3, v4, v5, rfl⟩
    cases e0; cases e1
    have st := same_upd (o := .tup [V.int (i : Nat), v]) hT
    obtain ⟨p, hp, rp⟩ := paired_get (paired_flip prs) ev
    have okp := ok p (List.mem_of_getElem? hp)
    refine ⟨TT, _, rfl, .inl (.inl upd_same), rfl, _, _, rfl, ?_⟩
    refine ⟨_, _, rfl, rfl, ?_⟩
    refine ⟨_, rfl, p, v, rfl, rp.mono (s2.trans st).i, Nat.lt_of_le_of_lt okp.few (by decide), okp.asc, okp.nm, okp.nn, fun H4 s4 => ⟨true, rfl, iteF ⟨s2.trans (st.trans s4), rfl, rfl, rfl⟩⟩⟩
  rintro σ H2 ⟨s2, e0, e1, el⟩
  obtain ⟨v0, v1, v2, v3, v4, v5, rfl⟩ : ∃ v0 v1 v2 v3 v4 v5, σ = [v0, v1, v2, v3, v4, v5] := by
    match σ, el with
    | [v0, v1, v2, v3, v4, v5], _ => exact ⟨v0, v1, v2, v3, v4, v5, rfl⟩
  cases e0; cases e1
  refine ⟨_, rfl, a, rfl, ⟨_, SqL.of (s2 _ _ ha)⟩, fun D hD => ?_⟩
  refine lc_map (walk_list (xs := xs)) (fun i y H' => ∃ p, ps[i]? = some p ∧ ∃ q kd, y = .ref q ∧ H' q = some (.tup [.ref kd, .int p.2]) ∧ H' kd = some (.tup (p.1.map V.str))) (few_lt (by omega)) hD (fun H3 s3 => SqL.of (s3 _ _ (s2 _ _ ha))) ?_ ?_ ?_
  · rintro i y H3 H4 zs eD sx ⟨p, hp, q, kd, e, h1, h2⟩
    exact ⟨p, hp, q, kd, e, sx _ _ h1 fun z => (by rw [z, eD] at h1; cases h1), sx _ _ h2 fun z => (by rw [z, eD] at h2; cases h2)⟩
  · rintro i x H3 H4 Qy hi s3 nd3 ⟨rfl, hx⟩ cy
    obtain ⟨p, hp, rp⟩ := paired_get (paired_flip prs) hx
    have okp := ok p (List.mem_of_getElem? hp)
    obtain ⟨q, kd, rfl, hq, hk⟩ := rp.mono (s2.trans s3).i
    refine ⟨q, _, rfl, .inl (.inl hq), rfl, _, _, rfl, ?_⟩
    refine ⟨_, _, rfl, rfl, rfl, ?_⟩
    refine ⟨_, rfl, kd, p.1, rfl, .inr (.inl (.inl hk)), Nat.lt_of_le_of_lt okp.few (by decide), fun r ys H5 s5 asc hr' => ?_⟩
    have ey : ys = p.1 := asc_uniq asc okp.asc fun _ => Iff.rfl
    refine ⟨_, rfl, few_line (by show 2 ≤ 1000; decide), fun t ht => cy _ _ (s5.trans (same_upd ht)) ⟨p, hp, t, r, rfl, upd_same, ?_⟩⟩
    rw [← ey]
    exact same_upd ht _ _ hr'
  intro H3 acc s3 hD3 hp3
  have p3 : Paired (PtR H3) ps acc := paired_range (by rw [lx]; exact hp3)
  refine ⟨D, ps, acc, rfl, SqL.of hD3, p3, few, nd, fun p hp => ⟨(ok p hp).few, (ok p hp).nm⟩, fun pa L ys H4 s4 ⟨o, od, hpa⟩ pL adds => ?_⟩
  have s24 := s2.trans (s3.trans s4)
  have lL : L.length < 60 := by
    have h := nodup_le (l := L) (m := ps) ((List.pairwise_map.mp adds.nd).imp fun h e => h (by rw [e])) fun q hq => ((adds.mem q).mp hq).1
    omega
  have npa : pa ≠ g := fun e => by rw [e, s24 _ _ hg] at hpa; cases hpa
  refine ⟨_, rfl, g, C, dx, _, rfl, s24 _ _ hg, wc.cl, wc.parts, by show 0 < 1000; decide, ?_⟩
  show tSeq _ _ _ _ (L2.upd H4 g (.ins C dx [("parts", .ref pa)]))
  have x5 : SameX g H4 (L2.upd H4 g (.ins C dx [("parts", .ref pa)])) := samex_upd
  have g5 : (L2.upd H4 g (.ins C dx [("parts", .ref pa)])) g = some (.ins C dx [("parts", .ref pa)]) := upd_same
  generalize (L2.upd H4 g (.ins C dx [("parts", .ref pa)])) = H5 at x5 g5
  have raw4 : Raw H4 g := raw_ins (s24 _ _ hg) rfl
  have pL5 : Paired (PtR H5) L ys := Paired.mapP pL fun _ _ r => r.mono (x5.i raw4)
  have hpa5 := x5 _ _ hpa npa
  have lL2 := paired_len pL
  -- the script
  refine ⟨_, rfl, g, C, dx, _, _, rfl, g5, wc.cl, wc.parts, rfl, pa, rfl, ⟨ys, .inl (.inr ⟨o, hpa5⟩)⟩, fun D2 hD2 => ?_⟩
  refine lc_map (walk_tup (xs := ys)) (fun _ y _ => ∃ z, y = V.str z) (few_lt (by omega)) hD2 (fun H6 s6 => .inl (.inr ⟨o, s6 _ _ hpa5⟩)) (fun _ _ _ _ _ _ _ h => h) ?_ ?_
  · rintro i x H6 H7 Qy hi s6 nd6 ⟨rfl, hx⟩ cy
    obtain ⟨p, hp, rp⟩ := paired_get (paired_flip pL5) hx
    have okp := ok p ((adds.mem p).mp (List.mem_of_getElem? hp)).1
    obtain ⟨q, kd, rfl, hq, hk⟩ := rp.mono s6.i
    have small : p.2.natAbs.log2 < 1920 := by
      by_cases z : p.2.natAbs = 0
      · rw [z]; decide
      · have h1 := okp.nn
        have h2 := okp.lt
        exact Nat.lt_trans ((Nat.log2_lt z).mpr (show p.2.natAbs < 2 ^ 63 by omega)) (by decide)
    refine ⟨q, _, rfl, .inl (.inl hq), rfl, _, _, rfl, ?_⟩
    refine ⟨_, _, rfl, rfl, rfl, ?_⟩
    refine ⟨⟨_, rfl⟩, _, rfl, p.2, rfl, small, _, rfl, kd, _, rfl, .inl (.inl (.inl hk)), few_line ?_, fun M hM => ⟨" ", M, toString p.2 :: p.1, rfl, rfl, .inl (SqL.of ?_), ?_, cy _ _ (same_upd hM) ⟨_, rfl⟩⟩⟩
    · have := okp.few
      simp
      omega
    · rw [upd_same]
      simp
    · have b1 : ∀ ks : List Str, (∀ y ∈ ks, Nm y) → (ks.map (·.length)).sum ≤ 4 * ks.length := fun ks => by
        induction ks with
        | nil => intro _; exact Nat.le_refl _
        | cons k ks ih =>
          intro h
          have := ih fun y hy => h y (List.mem_cons_of_mem _ hy)
          have := (h k List.mem_cons_self).2.1
          simp only [List.map_cons, List.sum_cons, List.length_cons]
          omega
      have h1 := b1 p.1 okp.nm
      have h2 := okp.few
      have h3 := PyProof.Rows.int_text_len_1921 small
      rw [show (" " : Str).length = 1 by decide +kernel, List.map_cons, List.sum_cons, List.length_cons]
      have h4 : (Str.ofString (toString p.2)).length ≤ 1921 := h3
      omega
  intro H6 acc2 s6 hD6 hp6
  refine ⟨D2, acc2, rfl, .inl ⟨SqL.of hD6, fun sa hsa => ?_⟩⟩
  have s67 := s6.upd (o := .tup acc2) hsa
  have nsa : sa ≠ g := fun e => by rw [e, s6 _ _ g5] at hsa; cases hsa
  refine ⟨_, rfl, g, C, dx, _, rfl, s67 _ _ g5, wc.cl, wc.script, by show 1 < 1000; decide, ?_⟩
  dsimp only
  show sFld _ _ _ _ _ _ (L2.upd (L2.upd H6 sa (.tup acc2)) g (.ins C dx [("parts", .ref pa), ("script", .ref sa)]))
  have x8 : SameX g H5 (L2.upd (L2.upd H6 sa (.tup acc2)) g (.ins C dx [("parts", .ref pa), ("script", .ref sa)])) := s67.x.trans samex_upd
  have g8 : (L2.upd (L2.upd H6 sa (.tup acc2)) g (.ins C dx [("parts", .ref pa), ("script", .ref sa)])) g = some (.ins C dx [("parts", .ref pa), ("script", .ref sa)]) := upd_same
  generalize (L2.upd (L2.upd H6 sa (.tup acc2)) g (.ins C dx [("parts", .ref pa), ("script", .ref sa)])) = H8 at x8 g8
  have raw5 : Raw H5 g := raw_ins g5 rfl
  have pL8 : Paired (PtR H8) L ys := Paired.mapP pL5 fun _ _ r => r.mono (x8.i raw5)
  have hpa8 := x8 _ _ hpa5 npa
  refine ⟨_, rfl, g, C, dx, _, _, rfl, g8, wc.cl, wc.parts, rfl, pa, rfl, ⟨ys, .inl (.inr ⟨o, hpa8⟩)⟩, fun D3 hD3 => ?_⟩
  refine lc_map (walk_tup (xs := ys)) (fun i y _ => ∃ p, L[i]? = some p ∧ y = V.int p.2) (few_lt (by omega)) hD3 (fun H9 s9 => .inl (.inr ⟨o, s9 _ _ hpa8⟩)) (fun _ _ _ _ _ _ _ h => h) ?_ ?_
  · rintro i x H9 H10 Qy hi s9 nd9 ⟨rfl, hx⟩ cy
    obtain ⟨p, hp, rp⟩ := paired_get (paired_flip pL8) hx
    obtain ⟨q, kd, rfl, hq, hk⟩ := rp.mono s9.i
    refine ⟨q, _, rfl, .inl (.inl hq), rfl, _, _, rfl, ?_⟩
    exact ⟨_, _, rfl, rfl, rfl, _, rfl, cy _ _ (Same.refl _) ⟨p, hp, rfl⟩⟩
  intro H9 acc3 s9 hD9 hp9
  have ea : acc3 = (L.map (·.2)).map V.int := by
    rw [← lL2] at hp9
    rw [paired_map_eq (f := fun p : Pt => V.int p.2) (paired_range hp9), List.map_map]
    rfl
  rw [ea] at hD9
  refine ⟨D3, L.map (·.2), rfl, SqL.of hD9, _, rfl, g, C, dx, _, rfl, s9 _ _ g8, wc.cl, wc.size, by show 2 < 1000; decide, ?_⟩
  have xx : SameX g H (L2.upd H9 g (.ins C dx (wFields pa sa (L.map (·.2)).sum))) := s24.x.trans (x5.trans (x8.trans (s9.x.trans samex_upd)))
  refine cont L _ xx ⟨g, dx, pa, sa, _, ys, o, rfl, upd_same, od, ?_, ?_⟩ adds
  · rw [upd_ne npa]; exact s9 _ _ hpa8
  · exact Paired.mapP pL8 fun _ _ r => (r.mono s9.i).x (s9 _ _ g8) samex_upd
def spLen (C : Addr) : Sp := fun vs H Q _ => ∃ (L : List Pt) (v : V), vs = [v] ∧ WRep C H L v ∧ Q (.int (L.length : Nat)) H
theorem ok_len {C : Addr} (wc : Wc G C) (F : DfD G C "__len__" "Crowd.__len__" s_Crowd___len__) : CalD G 1 C "__len__" P_Crowd___len__ (spLen C) := by
  refine F.cal (N := N_Crowd___len__) sc_Crowd___len__ (fun _ _ _ _ _ _ us hl => match us, hl with | [_], _ => rfl) (fun vs H Q E h => by obtain ⟨_, _, rfl, _⟩ := h; rfl) ?_
  rintro fa cdv A outer s H vs Q E hr ⟨L, v, rfl, ⟨a, dx, pa, sa, z, xs, o, rfl, h1, h2, h3, h4⟩, cont⟩
  have S := sc_Crowd___len__
  refine ⟨_, (pss_one (ps_ret (pe_callB call_len_seq rfl B.len (by decide +kernel) (pa_cons (pe_fld (pv 0) rfl) pa_nil)))), ?_⟩
  have := paired_len h4
  refine ⟨_, rfl, a, C, dx, _, _, rfl, h1, wc.cl, wc.parts, rfl, pa, xs, rfl, .inr (.inl (.inr ⟨o, h3⟩)), ?_⟩
  rw [← this]
  exact cont
end
end Mc
/-! dict of a tuple of parts. -/
namespace Mc
open PySem PySem.Spec PyProof.Rows L2
/-- a part as a dict has it -/
def ptK (p : Pt) : List Key × V := (p.1.map Sum.inr, .int p.2)
theorem ptK_key (p : Pt) : (ptK p).1.map kV = p.1.map V.str := by
  show (p.1.map Sum.inr).map kV = _
  rw [List.map_map]
  rfl
theorem stored_new {κ : Type} [DecidableEq κ] : ∀ (ps acc : List (κ × Addr × Value)), ((acc ++ ps).map (·.1)).Nodup → storedAllH acc ps = acc ++ ps
  | [], acc, _ => by rw [List.append_nil]; rfl
  | p :: ps, acc, nd => by
    have hn : atKey acc p.1 = none := by
      unfold atKey
      rw [Option.map_eq_none_iff, List.find?_eq_none]
      intro x hx
      rw [List.map_append, List.nodup_append] at nd
      intro e
      have := nd.2.2 x.1 (List.mem_map.mpr ⟨x, hx, rfl⟩) p.1 (by simp)
      exact this (by simpa using e)
    show storedAllH (storedH acc p.1 p.2.1 p.2.2) ps = _
    rw [storedH_new hn]
    rw [stored_new ps (acc ++ [(p.1, p.2.1, p.2.2)]) (by simpa using nd)]
    simp
theorem pts_of {X : Cx} {pins : List (Addr × Obj)} {σ : L2.St} {H : Hp} {s : Shared} (I : L2.Inv X pins σ H s) : ∀ {L : List Pt} {vs : List V} {us : List Value}, Paired (PtR H) L vs → Vals vs us →
    ∃ (Ts : List Addr) (xs : List (List Key × Addr × Value)), us = Ts.map Value.ref ∧ Ts.length = L.length ∧ KT H (L.map ptK) xs ∧ Paired (fun T (x : List Key × Addr × Value) => s.heap.IsTuple T #[.ref x.2.1, x.2.2]) Ts xs
  | [], _, _, .nil, .nil => ⟨[], [], rfl, rfl, .nil, .nil⟩
  | p :: L, _, _, .cons ⟨q, kd, e, hq, hk⟩ t, .cons ru rt => by
    obtain ⟨Ts, xs, e1, l, kt, pr⟩ := pts_of I t rt
    subst e
    cases ru
    obtain ⟨_, its, rv, pl⟩ := (show ObjOk X.prog X.w H s.heap q (.tup [.ref kd, .int p.2]) from I.hok q _ hq)
    cases rv with
    | cons r1 rv =>
      cases rv with
      | cons r2 rv =>
        cases rv
        cases r1
        rename_i u2
        refine ⟨q :: Ts, (p.1.map Sum.inr, kd, u2) :: xs, by rw [e1]; rfl, congrArg Nat.succ l, .cons ⟨rfl, ?_, r2⟩ kt, .cons pl pr⟩
        rw [ptK_key]
        exact hk
theorem call_dictPt {X : Cx} (hc : X.calm = true) (hu : X.A.units + 64 < cLine) : CallR X (.type "dict") (fun xs H Q => ∃ (a : Addr) (o : Obj) (vs : List V) (L : List Pt), xs = [.ref a] ∧ o.dict = none ∧ H a = some (.frz o (.tup vs)) ∧ Paired (PtR H) L vs ∧ (L.map (·.1)).Nodup ∧ L.length ≤ 1000 ∧
    ∀ p, H p = none → Q (.ref p) (upd H p (.dT (L.map ptK)))) := by
  intro pins s σ H xs us Q I r q
  obtain ⟨a, o, vs, L, rfl, od, ha, pL, nd, few, q⟩ := q
  obtain ⟨u, rfl, ru⟩ := vals1 r
  cases ru
  obtain ⟨g, _, its, rv, ⟨o2, g2, c2, n, d2⟩⟩ := I.hok a _ ha
  obtain rfl : o2 = o := by rw [g] at g2; exact (Option.some.inj g2).symm
  obtain ⟨Ts, ks, e1, lT, kt, pr⟩ := pts_of I pL rv
  have lk : ks.length = L.length := by have := paired_len kt; rw [List.length_map] at this; exact this.symm
  have keyed : ks.map (·.1) = L.map fun p => p.1.map Sum.inr := by
    have : ∀ {A : List (List Key × V)} {B : List (List Key × Addr × Value)}, KT H A B → B.map (·.1) = A.map (·.1) := by
      intro A B k
      induction k with
      | nil => rfl
      | cons h t ih => rw [List.map_cons, List.map_cons, ih, h.1]
    rw [this kt, List.map_map]
    rfl
  have ndk : (ks.map (·.1)).Nodup := by
    rw [keyed]
    have : L.map (fun p => (p.1.map Sum.inr : List Key)) = (L.map (·.1)).map fun ks => ks.map Sum.inr := by rw [List.map_map]; rfl
    rw [this]
    refine List.Pairwise.map _ (fun x y h e => h ?_) nd
    exact (List.map_inj_right fun a b h => Sum.inr.inj h).mp e
  let prs : List (Value × Value) := ks.map fun x => (Value.ref x.2.1, x.2.2)
  have ok : PlainSeq "tuple" s.heap a its.toArray ∧ PairItems s.heap its.toArray (fun j => Ts.getD j 0) prs := by
    refine ⟨⟨o2, n, g, c2, od, d2⟩, by simp [prs, e1, lT, lk], fun j k v hj => ?_⟩
    rw [List.getElem?_map] at hj
    cases ej : ks[j]? with
    | none => rw [ej] at hj; cases hj
    | some x =>
      rw [ej] at hj
      obtain ⟨rfl, rfl⟩ : Value.ref x.2.1 = k ∧ x.2.2 = v := by simpa using hj
      obtain ⟨T, hT, h⟩ := paired_get (paired_flip pr) ej
      have eT : Ts.getD j 0 = T := by rw [List.getD_eq_getElem?_getD, hT]; rfl
      refine ⟨?_, ?_⟩
      · show its.toArray[j]? = some (Value.ref (Ts.getD j 0))
        rw [eT, e1]
        simp [hT]
      · show PairAt s.heap (Ts.getD j 0) _ _
        rw [eT]; exact .inl h
  refine PySem.call_dict_pairsH (knd := tupleKind (mixKind X.prog X.w)) (ps := ks) (PairArg.tuple a its.toArray (fun j => Ts.getD j 0) prs) (I.ok.hd hc) (show X.A.units + 1 + 1 < cLine by omega) ok ⟨by simp [prs], fun i key v h => ?_⟩ (fun h' hk x hx => ?_) (by simp only [prs, List.length_map, lk, sizeLine_eq]; omega) fun h' tk hd' k => ?_
  · have h : prs[i]? = some (key, v) := h
    rw [List.getElem?_map] at h
    cases ej : ks[i]? with
    | none => rw [ej] at h; cases h
    | some x =>
      rw [ej] at h
      obtain ⟨rfl, rfl⟩ : Value.ref x.2.1 = key ∧ x.2.2 = v := by simpa using h
      exact ⟨x.1, x.2.1, rfl, rfl⟩
  · obtain ⟨j, hj⟩ := List.mem_iff_getElem?.mp hx
    obtain ⟨kv, _, e, hk2, _⟩ := paired_get (paired_flip kt) hj
    have := key_of I.hok hk2
    rw [e] at this
    obtain ⟨o3, items, n3, h1, h2⟩ := this
    exact ⟨o3, items, n3, hk _ _ (Nat.ne_of_lt (Heap.lt_size h1)) (fun z => nomatch z) h1, h2⟩
  · rw [stored_new ks [] (by simpa using ndk), List.nil_append] at hd'
    have hm : (s.heap.objs.size == sysModules) = false := beq_eq_false_iff_ne.mpr (Nat.ne_of_gt I.big)
    obtain ⟨o3, es, ep, h1, h2, h3, h4, h5, h6⟩ := hd'
    have fr := I.hok.fresh (Nat.le_refl s.heap.objs.size)
    refine ⟨.ref s.heap.objs.size, upd H s.heap.objs.size (.dT (L.map ptK)), I.laid (t' := tk) (fun b o e => k b o (fun z => nomatch z) e) (Nat.le_refl _) (show ObjOk X.prog X.w _ _ _ (.dT (L.map ptK)) from ⟨by rw [List.length_map, sizeLine_eq]; omega, hm, ks, ?_, o3, es, ep, h1, h2, h3, h4, h6⟩), rfl, q _ fr⟩
    exact Paired.mapP kt fun p q ⟨a1, a2, a3⟩ => ⟨a1, by rw [upd_ne (ne_of_none a2 fr)]; exact a2, a3⟩
end Mc
/-! The walk, 7: common part, lowest. -/
namespace Mc
open PySem PySem.Spec PyProof.Rows L2
abbrev N_common_part : List Str := ["numbers", "found", "number", "one", "other"]
abbrev P_common_part : List Str := ["numbers"]
theorem sc_common_part : FnScope N_common_part P_common_part (defScope s_common_part) := ⟨rfl, rfl, rfl, by decide +kernel, rfl, by decide +kernel, by decide +kernel⟩

abbrev N_lowest : List Str := ["numbers", "part", "number"]
abbrev P_lowest : List Str := ["numbers"]
theorem sc_lowest : FnScope N_lowest P_lowest (defScope s_lowest) := ⟨rfl, rfl, rfl, by decide +kernel, rfl, by decide +kernel, by decide +kernel⟩

def gcdL (ns : List Int) : Nat := ns.foldl (fun a n => Nat.gcd a n.natAbs) 0
theorem gcdL_snoc (ns : List Int) (n : Int) : gcdL (ns ++ [n]) = Nat.gcd (gcdL ns) n.natAbs := by simp [gcdL]
theorem gcdL_dvd (ns : List Int) : ∀ n ∈ ns, ((gcdL ns : Nat) : Int) ∣ n := by
  have gen : ∀ (ns : List Int) (a : Nat), (ns.foldl (fun a n => Nat.gcd a n.natAbs) a ∣ a) ∧ ∀ n ∈ ns, ns.foldl (fun a n => Nat.gcd a n.natAbs) a ∣ n.natAbs := fun ns => by
    induction ns with
    | nil => exact fun a => ⟨Nat.dvd_refl _, fun n h => by cases h⟩
    | cons x xs ih =>
      intro a
      obtain ⟨h1, h2⟩ := ih (Nat.gcd a x.natAbs)
      refine ⟨Nat.dvd_trans h1 (Nat.gcd_dvd_left _ _), fun n hn => ?_⟩
      rcases List.mem_cons.mp hn with e | e
      · rw [e]; exact Nat.dvd_trans h1 (Nat.gcd_dvd_right _ _)
      · exact h2 n e
  exact fun n hn => Int.dvd_natAbs.mp (Int.natCast_dvd_natCast.mpr ((gen ns 0).2 n hn))
theorem gcdL_lt (ns : List Int) {K : Nat} (h0 : 0 < K) (h : ∀ n ∈ ns, n.natAbs < K) : gcdL ns < K := by
  have gen : ∀ (ns : List Int) (a : Nat), a < K → (∀ n ∈ ns, n.natAbs < K) → ns.foldl (fun a n => Nat.gcd a n.natAbs) a < K := fun ns => by
    induction ns with
    | nil => exact fun a ha _ => ha
    | cons x xs ih =>
      intro a ha h
      refine ih _ ?_ fun n hn => h n (List.mem_cons_of_mem _ hn)
      have hx := h x List.mem_cons_self
      show Nat.gcd a x.natAbs < K
      by_cases z : a = 0
      · rw [z, Nat.gcd_zero_left]; exact hx
      · exact Nat.lt_of_le_of_lt (Nat.gcd_le_left _ (Nat.pos_of_ne_zero z)) ha
  exact gen ns 0 h0 h
/-- lowest terms -/
def lowL (ns : List Int) : List Int := ns.map fun n => if 0 < gcdL ns then n / (gcdL ns : Nat) else n
theorem lowL_scale (ns : List Int) : ∃ g : Int, 0 < g ∧ ns = (lowL ns).map fun z => g * z := by
  by_cases h : 0 < gcdL ns
  · refine ⟨(gcdL ns : Nat), by omega, ?_⟩
    unfold lowL
    rw [List.map_map]
    symm
    refine (List.map_congr_left fun n hn => ?_).trans (List.map_id _)
    show ((gcdL ns : Nat) : Int) * (if 0 < gcdL ns then n / (gcdL ns : Nat) else n) = n
    rw [if_pos h]
    exact Int.mul_ediv_cancel' (gcdL_dvd ns n hn)
  · refine ⟨1, by decide, ?_⟩
    unfold lowL
    rw [List.map_map]
    symm
    refine (List.map_congr_left fun n hn => ?_).trans (List.map_id _)
    show (1 : Int) * (if 0 < gcdL ns then n / (gcdL ns : Nat) else n) = n
    rw [if_neg h, Int.one_mul]
section
variable {G : Gd} (B : Bl G.mg)
include B
def spCommon (K : PySem.W.Frag) : Sp := fun vs H Q _ => ∃ (a : Addr) (ns : List Int), vs = [.ref a] ∧ SqL K H a (ns.map V.int) ∧ Q (.int (gcdL ns : Nat)) H
theorem ok_common_part (F : Df G "common_part" "common_part" s_common_part) : Cal G 1 "common_part" P_common_part (spCommon G.K) := by
  refine F.cal (N := N_common_part) sc_common_part (fun _ _ _ _ _ _ us hl => match us, hl with | [_], _ => rfl) (fun vs H Q E h => by obtain ⟨_, _, rfl, _⟩ := h; rfl) fun f cdv A outer s H vs Q E hr h => ?_
  obtain ⟨a, ns, rfl, ha, cont⟩ := h
  have S := sc_common_part
  refine ⟨_, (pss_cons (ps_set (i := 1) S.nd rfl (by first | exact Or.inl rfl | exact Or.inr rfl) pe_int)
    (pss_cons (ps_for PassesOwn.never rfl (pi_list (pv 0)) (pg_name (i := 2) S.nd rfl (by first | exact Or.inl rfl | exact Or.inr rfl)) (pss_cons (ps_par (i := 3) (j := 4) rfl S.nd rfl rfl (by decide) rfl rfl (pa_cons (pv 1) (pa_cons (pe_callB call_abs rfl B.abs (by decide +kernel) (pa_cons (pv 2) pa_nil)) pa_nil)) rfl)
    (pss_cons (ps_while PassesOwn.never (pt_cmpR op_gt (pv 4) pe_int (nomark _)) (pss_one (ps_par (i := 3) (j := 4) rfl S.nd rfl rfl (by decide) rfl rfl (pa_cons (pv 4) (pa_cons (pe_op op_mod (pv 3) (pv 4)) pa_nil)) rfl)))
    (pss_one (ps_set (i := 1) S.nd rfl (by first | exact Or.inl rfl | exact Or.inr rfl) (pv 3))))))
    (pss_one (ps_ret (pv 1))))), ?_⟩
  refine ⟨_, rfl, a, rfl, ⟨_, ha⟩, ?_⟩
  refine for_it (walk_list (xs := ns.map V.int)) (fun i σ H1 => H1 = H ∧ σ[1]? = some (some (.int (gcdL (ns.take i) : Nat))) ∧ σ.length = 5) ⟨rfl, rfl, rfl⟩ (fun i σ H1 _ p => by rw [p.1]; exact ha) ?_ ?_
  · rintro i x σ H1 H2 hi ⟨rfl, e1, el⟩ ⟨rfl, hx⟩
    obtain ⟨n, hn, rfl⟩ := ints_get hx
    obtain ⟨v0, v1, v2, v3, v4, rfl⟩ : ∃ v0 v1 v2 v3 v4, σ = [v0, v1, v2, v3, v4] := by
      match σ, el with
      | [v0, v1, v2, v3, v4], _ => exact ⟨v0, v1, v2, v3, v4, rfl⟩
    cases e1
    refine ⟨_, rfl, _, rfl, n, rfl, _, _, rfl, ?_⟩
    let g : Nat := gcdL (ns.take (i + 1))
    have hg : g = Nat.gcd (gcdL (ns.take i)) n.natAbs := by
      show gcdL (ns.take (i + 1)) = _
      rw [List.take_add_one, hn]
      exact gcdL_snoc _ _
    refine ⟨fun m σ H1 => H1 = H2 ∧ ∃ x y : Nat, y = m ∧ Nat.gcd x y = g ∧ σ[3]? = some (some (.int x)) ∧ σ[4]? = some (some (.int y)) ∧ σ.length = 5, ⟨n.natAbs, rfl, gcdL (ns.take i), n.natAbs, rfl, hg.symm, rfl, ?_, rfl⟩, ?_⟩
    · show some (some (V.int (if n < 0 then -n else n))) = _
      rw [show (if n < 0 then -n else n) = (n.natAbs : Int) by split <;> omega]
    · rintro m σ H1 ⟨rfl, x, y, rfl, hxy, e3, e4, el⟩
      obtain ⟨v0, v1, v2, v3, v4, rfl⟩ : ∃ v0 v1 v2 v3 v4, σ = [v0, v1, v2, v3, v4] := by
        match σ, el with
        | [v0, v1, v2, v3, v4], _ => exact ⟨v0, v1, v2, v3, v4, rfl⟩
      cases e3; cases e4
      refine ⟨_, rfl, _, _, rfl, rfl, _, rfl, ite2 (fun c => ?_) fun c => ?_⟩
      · have yp : 0 < y := by have := of_decide_eq_true c; omega
        refine ⟨_, fun σ' H' h => h, _, rfl, _, rfl, _, rfl, _, _, rfl, rfl, by omega, _, _, rfl, x % y, Nat.mod_lt _ yp, rfl, y, x % y, rfl, ?_, rfl, ?_, rfl⟩
        · rw [← hxy, Nat.gcd_comm x y, Nat.gcd_comm y (x % y), Nat.gcd_rec y x]
        · show some (some (V.int ((x : Int) % (y : Int)))) = _
          rw [← Int.natCast_emod]
      · have y0 : y = 0 := by
          have : ¬ (0 : Int) < (y : Int) := fun h => c (decide_eq_true h)
          omega
        subst y0
        rw [Nat.gcd_zero_right] at hxy
        exact ⟨_, rfl, rfl, by rw [hxy]; rfl, rfl⟩
  · rintro σ H1 ⟨rfl, e1, el⟩
    rw [List.length_map, List.take_length] at e1
    exact ⟨_, e1, cont⟩
def spLowest (K : PySem.W.Frag) : Sp := fun vs H Q _ => ∃ (a : Addr) (ns : List Int), vs = [.ref a] ∧ SqL K H a (ns.map V.int) ∧ ns.length ≤ 1000 ∧ (∀ n ∈ ns, n.natAbs < 2 ^ 63) ∧ ∀ p H', Same H H' → H' p = some (.tup ((lowL ns).map V.int)) → Q (.ref p) H'
theorem ok_lowest (C_common_part : Cal G 1 "common_part" P_common_part (spCommon G.K)) (F : Df G "lowest" "lowest" s_lowest) : Cal G 2 "lowest" P_lowest (spLowest G.K) := by
  refine F.cal (N := N_lowest) sc_lowest (fun _ _ _ _ _ _ us hl => match us, hl with | [_], _ => rfl) (fun vs H Q E h => by obtain ⟨_, _, rfl, _⟩ := h; rfl) fun f cdv A outer s H vs Q E hr h => ?_
  obtain ⟨a, ns, rfl, ha, few, bnd, cont⟩ := h
  have S := sc_lowest
  refine ⟨_, (pss_cons (ps_set (i := 1) S.nd rfl (by first | exact Or.inl rfl | exact Or.inr rfl) (pe_cal (C_common_part.mono (by omega)) hr rfl (pa_cons (pv 0) pa_nil)))
    (pss_one (ps_ret (pe_callTy call_tuple_of rfl B.tuple (by decide +kernel) (pa_cons (pe_lc (own := [("number", 2)]) rfl S.nd (pi_list (pv 0)) (blkOk_by (own := [("number", 2)]) (N := N_lowest) (sc := defScope s_lowest) (by decide +kernel)) (fun _ _ _ _ _ => (pg_name (i := 2) S.nd rfl (by first | exact Or.inl rfl | exact Or.inr rfl))) (fun _ _ _ _ _ => pts_nil) (fun _ _ _ _ _ => (pe_ifExp (pt_cmpR op_gt (pv 1) pe_int (nomark _)) (pe_op op_fdivW (pv 2) (pv 1)) (pv 2)))) pa_nil))))), ?_⟩
  refine ⟨_, rfl, a, ns, rfl, ha, ?_⟩
  refine ⟨_, rfl, a, rfl, ⟨_, ha⟩, fun D hD => ?_⟩
  refine lc_map (walk_list (xs := ns.map V.int)) (fun i y _ => ∃ n, ns[i]? = some n ∧ y = .int (if 0 < gcdL ns then n / (gcdL ns : Nat) else n)) (few_lt (by rw [List.length_map]; exact few)) hD (fun H1 s1 => s1.seq ha) (fun _ _ _ _ _ _ _ h => h) ?_ ?_
  · rintro i x H1 H2 Qy hi s1 nd ⟨rfl, hx⟩ cy
    obtain ⟨n, hn, rfl⟩ := ints_get hx
    have hb := bnd n (List.mem_of_getElem? hn)
    refine ⟨rfl, _, rfl, _, _, rfl, rfl, _, rfl, ite2 (fun c => ?_) fun c => ?_⟩
    · have gp : 0 < gcdL ns := by have := of_decide_eq_true c; omega
      refine ⟨_, rfl, _, rfl, _, _, rfl, rfl, ⟨by omega, ?_⟩, cy _ _ (Same.refl _) ⟨n, hn, by rw [if_pos gp]⟩⟩
      have := gcdL_lt ns (by decide : 0 < 2 ^ 63) bnd
      rw [Int.natAbs_natCast]
      exact Nat.lt_trans ((Nat.log2_lt (by omega)).mpr this) (by decide)
    · have gz : ¬ 0 < gcdL ns := fun h => c (decide_eq_true (by omega))
      exact ⟨_, rfl, cy _ _ (Same.refl _) ⟨n, hn, by rw [if_neg gz]⟩⟩
  · intro H1 acc s1 hD1 hp
    rw [List.length_map] at hp
    have ea : acc = (lowL ns).map V.int := by
      rw [paired_map_eq (f := fun n : Int => V.int (if 0 < gcdL ns then n / (gcdL ns : Nat) else n)) (paired_range hp), lowL, List.map_map]
      rfl
    rw [ea] at hD1
    exact ⟨D, _, rfl, .inl ⟨SqL.of hD1, fun l hl => cont l _ (s1.upd hl) upd_same⟩⟩
end
end Mc
/-! The walk, 8: the table. -/
namespace Mc
open PySem PySem.Spec PyProof.Rows L2
abbrev N_Table_turn : List Str := ["self", "at", "column", "chosen", "pivot", "k", "row"]
abbrev P_Table_turn : List Str := ["self", "at", "column"]
theorem sc_Table_turn : FnScope N_Table_turn P_Table_turn (defScope s_Table_turn) := ⟨rfl, rfl, rfl, by decide +kernel, rfl, by decide +kernel, by decide +kernel⟩

abbrev N_Table_cleared : List Str := ["self", "row", "chosen", "column", "pivot", "factor", "one", "two"]
abbrev P_Table_cleared : List Str := ["self", "row", "chosen", "column"]
theorem sc_Table_cleared : FnScope N_Table_cleared P_Table_cleared (defScope s_Table_cleared) := ⟨rfl, rfl, rfl, by decide +kernel, rfl, by decide +kernel, by decide +kernel⟩

abbrev N_Table_leaving : List Str := ["self", "column", "found", "at", "row"]
abbrev P_Table_leaving : List Str := ["self", "column"]
theorem sc_Table_leaving : FnScope N_Table_leaving P_Table_leaving (defScope s_Table_leaving) := ⟨rfl, rfl, rfl, by decide +kernel, rfl, by decide +kernel, by decide +kernel⟩

abbrev N_Table_is_nearer : List Str := ["self", "at", "other", "column", "one", "two", "here", "there"]
abbrev P_Table_is_nearer : List Str := ["self", "at", "other", "column"]
theorem sc_Table_is_nearer : FnScope N_Table_is_nearer P_Table_is_nearer (defScope s_Table_is_nearer) := ⟨rfl, rfl, rfl, by decide +kernel, rfl, by decide +kernel, by decide +kernel⟩

/-- row k of the table of the basis b -/
def rowT (P : Lp) (b : Lp.B) (k : Nat) : List Int := (List.range (P.fin + 1)).map fun c => P.T b k c
theorem rowT_len (P : Lp) (b : Lp.B) (k : Nat) : (rowT P b k).length = P.fin + 1 := by simp [rowT]
theorem rowT_get (P : Lp) (b : Lp.B) (k : Nat) {c : Nat} (h : c ≤ P.fin) : (rowT P b k)[c]? = some (P.T b k c) := by simp [rowT, Nat.lt_succ_of_le h]
abbrev tbFields (RL : Addr) (many u : Int) (BL : Addr) : List (Str × V) := [("rows", .ref RL), ("many", .int many), ("under", .int u), ("basis", .ref BL)]
structure Bc (G : Gd) (C : Addr) : Prop where
  cl : Cls G.K C
  rows : NoAttr G.K C "rows"
  many : NoAttr G.K C "many"
  under : NoAttr G.K C "under"
  basis : NoAttr G.K C "basis"
/-- the table at t: of the basis b, n rows -/
structure Tab (C : Addr) (H : Hp) (t : Addr) (P : Lp) (b : Lp.B) (n : Nat) (dx RL BL : Addr) (xs : List V) : Prop where
  t : H t = some (.ins C dx (tbFields RL P.many (P.U b) BL))
  rl : H RL = some (.lst xs)
  rows : Paired (fun k v => ∃ r, v = .ref r ∧ r ≠ RL ∧ r ≠ BL ∧ H r = some (.lst ((rowT P b k).map V.int))) (List.range n) xs
  bl : H BL = some (.lst ((List.range P.m).map fun k => V.int (b k : Nat)))
  ne : RL ≠ BL
theorem Tab.same {C : Addr} {H H' : Hp} {t : Addr} {P : Lp} {b : Lp.B} {n : Nat} {dx RL BL : Addr} {xs : List V} (T : Tab C H t P b n dx RL BL xs) (s : Same H H') : Tab C H' t P b n dx RL BL xs :=
  ⟨s _ _ T.t, s _ _ T.rl, Paired.mapP T.rows fun _ _ ⟨r, e, n1, n2, h⟩ => ⟨r, e, n1, n2, s _ _ h⟩, s _ _ T.bl, T.ne⟩
theorem Tab.row {C : Addr} {H : Hp} {t : Addr} {P : Lp} {b : Lp.B} {n : Nat} {dx RL BL : Addr} {xs : List V} (T : Tab C H t P b n dx RL BL xs) {k : Nat} (hk : k < n) : ∃ r, xs[k]? = some (.ref r) ∧ r ≠ RL ∧ r ≠ BL ∧ H r = some (.lst ((rowT P b k).map V.int)) := by
  obtain ⟨v, e, r, rfl, n1, n2, h⟩ := paired_get (i := k) (x := k) T.rows (by simp [hk])
  exact ⟨r, e, n1, n2, h⟩
theorem Tab.len {C : Addr} {H : Hp} {t : Addr} {P : Lp} {b : Lp.B} {n : Nat} {dx RL BL : Addr} {xs : List V} (T : Tab C H t P b n dx RL BL xs) : xs.length = n := by
  have := paired_len T.rows
  simpa using this.symm
/-- what the numbers of a search stay below -/
structure Bd63 (P : Lp) : Prop where
  T : ∀ b k c, (P.T b k c).natAbs < 2 ^ 63
  U : ∀ b, (P.U b).natAbs < 2 ^ 63
  y : ∀ b k c, (P.U b - P.T b k c).natAbs < 2 ^ 63
  few : P.fin + 1 ≤ 1000
  rows : P.m + 1 ≤ 1000
theorem at_T {P : Lp} {b : Lp.B} {k c : Nat} (h : c ≤ P.fin) : atI ((rowT P b k).map V.int) (c : Int) = some (V.int (P.T b k c)) := atI_nat (by rw [List.getElem?_map, rowT_get P b k h]; rfl)
theorem at_end {P : Lp} {b : Lp.B} {k : Nat} : atI ((rowT P b k).map V.int) (-1) = some (V.int (P.T b k P.fin)) := by
  have : (rowT P b k).map V.int = ((List.range P.fin).map fun c => V.int (P.T b k c)) ++ [V.int (P.T b k P.fin)] := by
    unfold rowT
    rw [List.range_succ, List.map_append, List.map_append, List.map_map]
    rfl
  rw [this]
  exact atI_last _ _
theorem cmul63 {i j : Int} (h : j.natAbs < 2 ^ 63) : CMul i j := .inr (by omega)
theorem cmul63' {i j : Int} (h : i.natAbs < 2 ^ 63) : CMul i j := .inl (by omega)
section
variable {G : Gd} (B : Bl G.mg)
include B
/-- one row by another -/
def spCleared (C : Addr) : Sp := fun vs H Q _ => ∃ (t dx RL BL r ch : Addr) (many u p f : Int) (q : Nat) (xs ys zs : List Int), vs = [.ref t, .ref r, .ref ch, .int q] ∧ H t = some (.ins C dx (tbFields RL many u BL)) ∧ H r = some (.lst (xs.map V.int)) ∧ H ch = some (.lst (ys.map V.int)) ∧
  xs.length = ys.length ∧ zs.length = xs.length ∧ xs.length ≤ 1000 ∧ ys[q]? = some p ∧ xs[q]? = some f ∧ p.natAbs < 2 ^ 63 ∧ f.natAbs < 2 ^ 63 ∧ 0 < u ∧ u.natAbs < 2 ^ 63 ∧ (∀ (i : Nat) (x y z : Int), xs[i]? = some x → ys[i]? = some y → zs[i]? = some z → x * p - f * y = u * z) ∧
  ∀ D H', Same H H' → H D = none → H' D = some (.lst (zs.map V.int)) → Q (.ref D) H'
theorem ok_cleared {C : Addr} (bc : Bc G C) (F : DfM G C "cleared" "Table.cleared" s_Table_cleared) : CalM G 1 C "cleared" P_Table_cleared (spCleared C) := by
  refine F.cal (N := N_Table_cleared) sc_Table_cleared (fun _ _ _ _ _ _ us hl => match us, hl with | [_, _, _, _], _ => rfl) (fun vs H Q E h => by obtain ⟨_, _, _, _, _, _, _, _, _, _, _, _, _, _, rfl, _⟩ := h; rfl) ?_
  rintro fa cdv A outer s H vs Q E hr ⟨t, dx, RL, BL, r, ch, many, u, p, f, q, xs, ys, zs, rfl, ht, hx, hy, l1, l2, l3, hp, hf, pb, fb, up, ub, key, cont⟩
  have S := sc_Table_cleared
  refine ⟨_, (pss_cons (ps_asg (pe_tup (pa_cons (pe_ix ix_list (pv 2) (pv 3) (fun _ _ => rfl)) (pa_cons (pe_ix ix_list (pv 1) (pv 3) (fun _ _ => rfl)) pa_nil))) (pg_tup (n := 2) (by rfl) (pgs_cons (pg_name (i := 4) S.nd rfl (by first | exact Or.inl rfl | exact Or.inr rfl)) (pgs_cons (pg_name (i := 5) S.nd rfl (by first | exact Or.inl rfl | exact Or.inr rfl)) pgs_nil))))
    (pss_one (ps_ret (pe_lc (own := [("one", 6), ("two", 7)]) rfl S.nd (pi_zip (by rfl) B.zip (pa_cons (pv 1) (pa_cons (pv 2) pa_nil))) (blkOk_by (own := [("one", 6), ("two", 7)]) (N := N_Table_cleared) (sc := defScope s_Table_cleared) (by decide +kernel)) (fun _ _ _ _ _ => (pg_tupK G.K (by rfl) (n := 2) (by rfl) (pgs_cons (pg_name (i := 6) S.nd rfl (by first | exact Or.inl rfl | exact Or.inr rfl)) (pgs_cons (pg_name (i := 7) S.nd rfl (by first | exact Or.inl rfl | exact Or.inr rfl)) pgs_nil)))) (fun _ _ _ _ _ => pts_nil) (fun _ _ _ _ _ => (pe_op op_fdivW (pe_op op_sub (pe_op op_mul (pv 6) (pv 4)) (pe_op op_mul (pv 5) (pv 7))) (pe_fldK G.K (by rfl) (pv 0) rfl))))))), ?_⟩
  refine ⟨_, rfl, _, rfl, ch, _, q, _, rfl, rfl, SqL.of hy, atI_nat (by rw [List.getElem?_map, hp]; rfl), _, rfl, _, rfl, r, _, q, _, rfl, rfl, SqL.of hx, atI_nat (by rw [List.getElem?_map, hf]; rfl), few_line (by show 2 ≤ 1000; decide), fun P hP => ⟨P, _, rfl, .inl (.inl upd_same), rfl, _, _, rfl, _, _, rfl, rfl, ?_⟩⟩
  have s0 := same_upd (o := .tup [V.int p, V.int f]) hP
  replace hx := s0 _ _ hx
  replace hy := s0 _ _ hy
  replace ht := s0 _ _ ht
  refine ⟨_, rfl, _, rfl, r, ch, _, _, rfl, SqL.of hx, SqL.of hy, fun D hD => ?_⟩
  refine lc_map (walk_zip (xs := xs.map V.int) (ys := ys.map V.int) (n := xs.length) (by simp [l1])) (fun i y _ => ∃ z, zs[i]? = some z ∧ y = .int z) (few_lt l3) hD (fun H1 s1 => ⟨s1.seq (SqL.of hx), s1.seq (SqL.of hy)⟩) (fun _ _ _ _ _ _ _ h => h) ?_ ?_
  · rintro i x H1 H2 Qy hi s1 nd ⟨T, x1, y1, rfl, hT, rfl, ex, ey⟩ cy
    obtain ⟨xi, hxi, rfl⟩ := ints_get ex
    obtain ⟨yi, hyi, rfl⟩ := ints_get ey
    have hzi : zs[i]? = some (zs[i]'(by omega)) := List.getElem?_eq_getElem _
    have kk := key i xi yi _ hxi hyi hzi
    refine ⟨T, [V.int xi, V.int yi], rfl, .inl (.inl upd_same), rfl, _, _, rfl, ?_⟩
    refine ⟨_, _, rfl, rfl, rfl, ?_⟩
    refine ⟨_, rfl, _, rfl, _, _, rfl, rfl, cmul63 pb, _, rfl, _, rfl, _, _, rfl, rfl, cmul63' fb, _, _, rfl, rfl, _, rfl, t, C, dx, _, _, rfl, same_upd hT _ _ (s1 _ _ ht), bc.cl, bc.under, rfl, _, _, rfl, rfl, ⟨up, ?_⟩, cy _ _ (same_upd hT) ⟨_, hzi, ?_⟩⟩
    · by_cases z : u.natAbs = 0
      · rw [z]; decide
      · exact Nat.lt_trans ((Nat.log2_lt z).mpr ub) (by decide)
    · show V.int ((xi * p - f * yi) / u) = V.int _
      rw [kk, Int.mul_ediv_cancel_left _ (by omega)]
  · intro H1 acc s1 hD1 hpr
    rw [← l2] at hpr
    have ea := paired_map_eq (f := fun z : Int => V.int z) (paired_range hpr)
    rw [ea] at hD1
    exact cont D _ (s0.trans s1) (none_back s0 hD) hD1
/-- row r is nearer than row k at column q -/
def nearB (P : Lp) (b : Lp.B) (r k q : Nat) : Bool := decide (P.T b r P.fin * P.T b k q < P.T b k P.fin * P.T b r q) || (decide (P.T b r P.fin * P.T b k q = P.T b k P.fin * P.T b r q) && decide ((b r : Int) < (b k : Int)))
def spNearer (C : Addr) : Sp := fun vs H Q _ => ∃ (t dx RL BL : Addr) (P : Lp) (b : Lp.B) (n r k q : Nat) (xs : List V), vs = [.ref t, .int r, .int k, .int q] ∧ Tab C H t P b n dx RL BL xs ∧ Bd63 P ∧ r < P.m ∧ k < P.m ∧ P.m ≤ n ∧ q < P.fin ∧ ∀ H', Same H H' → Q (.bl (nearB P b r k q)) H'
omit B in
theorem Tab.bas {C : Addr} {H : Hp} {t : Addr} {P : Lp} {b : Lp.B} {n : Nat} {dx RL BL : Addr} {xs : List V} (T : Tab C H t P b n dx RL BL xs) {k : Nat} (hk : k < P.m) : atI ((List.range P.m).map fun k => V.int (b k : Nat)) (k : Int) = some (V.int (b k : Nat)) := atI_nat (by rw [List.getElem?_map]; simp [hk])
theorem ok_is_nearer {C : Addr} (bc : Bc G C) (F : DfM G C "is_nearer" "Table.is_nearer" s_Table_is_nearer) : CalM G 1 C "is_nearer" P_Table_is_nearer (spNearer C) := by
  refine F.cal (N := N_Table_is_nearer) sc_Table_is_nearer (fun _ _ _ _ _ _ us hl => match us, hl with | [_, _, _, _], _ => rfl) (fun vs H Q E h => by obtain ⟨_, _, _, _, _, _, _, _, _, _, _, rfl, _⟩ := h; rfl) ?_
  rintro fa cdv A outer s H vs Q E hr ⟨t, dx, RL, BL, P, b, n, r, k, q, xs, rfl, T, bd, hr1, hk1, hmn, hq, cont⟩
  have S := sc_Table_is_nearer
  refine ⟨_, (pss_cons (ps_par (i := 4) (j := 5) rfl S.nd rfl rfl (by decide) rfl rfl (pa_cons (pe_ix ix_list (pe_fld (pv 0) rfl) (pv 1) (fun _ _ => rfl)) (pa_cons (pe_ix ix_list (pe_fld (pv 0) rfl) (pv 2) (fun _ _ => rfl)) pa_nil)) rfl)
    (pss_cons (ps_par (i := 6) (j := 7) rfl S.nd rfl rfl (by decide) rfl rfl (pa_cons (pe_op op_mul (pe_ix ix_list (pv 4) (pe_un un_neg pe_int) (fun _ _ => rfl)) (pe_ix ix_list (pv 5) (pv 3) (fun _ _ => rfl))) (pa_cons (pe_op op_mul (pe_ix ix_list (pv 5) (pe_un un_neg pe_int) (fun _ _ => rfl)) (pe_ix ix_list (pv 4) (pv 3) (fun _ _ => rfl))) pa_nil)) rfl)
    (pss_one (ps_ret (pe_or (pe_cmpR op_lt (pv 6) (pv 7) (nomark _)) (pe_one (pe_and (pe_cmpR op_eq (pv 6) (pv 7) (nomark _)) (pe_one (pe_cmpR op_lt (pe_ix ix_list (pe_fld (pv 0) rfl) (pv 1) (fun _ _ => rfl)) (pe_ix ix_list (pe_fld (pv 0) rfl) (pv 2) (fun _ _ => rfl)) (nomark _)))))))))), ?_⟩
  obtain ⟨R1, x1, n1, m1, h1⟩ := T.row (k := r) (by omega)
  obtain ⟨R2, x2, n2, m2, h2⟩ := T.row (k := k) (by omega)
  refine ⟨_, rfl, t, C, dx, _, _, rfl, T.t, bc.cl, bc.rows, rfl, _, rfl, RL, xs, r, _, rfl, rfl, SqL.of T.rl, atI_nat x1, ?_⟩
  refine ⟨_, rfl, t, C, dx, _, _, rfl, T.t, bc.cl, bc.rows, rfl, _, rfl, RL, xs, k, _, rfl, rfl, SqL.of T.rl, atI_nat x2, _, _, rfl, ?_⟩
  refine ⟨_, rfl, 1, rfl, R1, _, -1, _, rfl, rfl, SqL.of h1, at_end, _, rfl, _, rfl, R2, _, q, _, rfl, rfl, SqL.of h2, at_T (by omega), _, _, rfl, rfl, cmul63 (bd.T _ _ _), ?_⟩
  refine ⟨_, rfl, 1, rfl, R2, _, -1, _, rfl, rfl, SqL.of h2, at_end, _, rfl, _, rfl, R1, _, q, _, rfl, rfl, SqL.of h1, at_T (by omega), _, _, rfl, rfl, cmul63 (bd.T _ _ _), _, _, rfl, ?_⟩
  have fin := cont _ (Same.refl _)
  have T2 := T
  unfold nearB at fin
  refine ⟨_, rfl, _, rfl, _, _, rfl, rfl, _, rfl, ite2 (fun c => ?_) fun c => ?_⟩
  · rw [decide_eq_true (of_decide_eq_true c), Bool.true_or] at fin
    exact fin
  · rw [decide_eq_false (fun z => c (decide_eq_true z)), Bool.false_or] at fin
    refine ⟨_, rfl, _, rfl, rfl, _, rfl, ite2 (fun c2 => ?_) fun c2 => ?_⟩
    · have e := V.int.inj (of_decide_eq_true c2)
      rw [decide_eq_true e, Bool.true_and] at fin
      exact ⟨_, rfl, t, C, dx, _, _, rfl, T2.t, bc.cl, bc.basis, rfl, _, rfl, BL, _, r, _, rfl, rfl, SqL.of T2.bl, T2.bas hr1, _, rfl, t, C, dx, _, _, rfl, T2.t, bc.cl, bc.basis, rfl, _, rfl, BL, _, k, _, rfl, rfl, SqL.of T2.bl, T2.bas hk1, _, _, rfl, rfl, fin⟩
    · have e : ¬ P.T b r P.fin * P.T b k q = P.T b k P.fin * P.T b r q := fun z => c2 (decide_eq_true (congrArg V.int z))
      rw [decide_eq_false e, Bool.false_and] at fin
      exact fin
omit B in
theorem cross {x1 q1 x2 q2 x3 q3 : Int} (h2 : 0 < q2) (h1 : 0 < q1) (h3 : 0 < q3) (a : x1 * q2 ≤ x2 * q1) (c : x2 * q3 ≤ x3 * q2) : x1 * q3 ≤ x3 * q1 ∧ (x1 * q3 = x3 * q1 → x1 * q2 = x2 * q1 ∧ x2 * q3 = x3 * q2) := by
  have e1 : x1 * q2 * q3 ≤ x2 * q1 * q3 := Int.mul_le_mul_of_nonneg_right a (by omega)
  have e2 : x2 * q3 * q1 ≤ x3 * q2 * q1 := Int.mul_le_mul_of_nonneg_right c (by omega)
  have r1 : x1 * q2 * q3 = x1 * q3 * q2 := by rw [Int.mul_assoc, Int.mul_comm q2 q3, ← Int.mul_assoc]
  have r2 : x2 * q1 * q3 = x2 * q3 * q1 := by rw [Int.mul_assoc, Int.mul_comm q1 q3, ← Int.mul_assoc]
  have r3 : x3 * q2 * q1 = x3 * q1 * q2 := by rw [Int.mul_assoc, Int.mul_comm q2 q1, ← Int.mul_assoc]
  refine ⟨Int.le_of_mul_le_mul_right (a := q2) (by omega) h2, fun e => ?_⟩
  rw [e] at r1
  exact ⟨Int.eq_of_mul_eq_mul_right (a := q3) (by omega) (by omega), Int.eq_of_mul_eq_mul_right (a := q1) (by omega) (by omega)⟩
def nearLe (P : Lp) (b : Lp.B) (q r k : Nat) : Prop := P.T b r P.fin * P.T b k q < P.T b k P.fin * P.T b r q ∨ (P.T b r P.fin * P.T b k q = P.T b k P.fin * P.T b r q ∧ b r ≤ b k)
omit B in
theorem near_refl {P : Lp} {b : Lp.B} {q r : Nat} : nearLe P b q r r := .inr ⟨rfl, Nat.le_refl _⟩
omit B in
theorem near_trans {P : Lp} {b : Lp.B} {q r f k : Nat} (hr : 0 < P.T b r q) (hf : 0 < P.T b f q) (hk : 0 < P.T b k q) (h : nearLe P b q r f) (h' : nearLe P b q f k) : nearLe P b q r k := by
  obtain ⟨a, c⟩ := cross hf hr hk (show P.T b r P.fin * P.T b f q ≤ P.T b f P.fin * P.T b r q by rcases h with h | h <;> omega) (show P.T b f P.fin * P.T b k q ≤ P.T b k P.fin * P.T b f q by rcases h' with h | h <;> omega)
  by_cases e : P.T b r P.fin * P.T b k q = P.T b k P.fin * P.T b r q
  · obtain ⟨c1, c2⟩ := c e
    refine .inr ⟨e, ?_⟩
    have z1 : b r ≤ b f := by rcases h with h | h; · omega
                              · exact h.2
    have z2 : b f ≤ b k := by rcases h' with h | h; · omega
                              · exact h.2
    omega
  · exact .inl (by omega)
omit B in
theorem near_yes {P : Lp} {b : Lp.B} {q r f : Nat} (h : nearB P b r f q = true) : nearLe P b q r f := by
  unfold nearB at h
  rcases Bool.or_eq_true _ _ |>.mp h with h | h
  · exact .inl (of_decide_eq_true h)
  · obtain ⟨h1, h2⟩ := Bool.and_eq_true _ _ |>.mp h
    have := of_decide_eq_true h2
    exact .inr ⟨of_decide_eq_true h1, by omega⟩
omit B in
theorem near_no {P : Lp} {b : Lp.B} {q r f : Nat} (h : ¬ nearB P b r f q = true) : nearLe P b q f r := by
  unfold nearB at h
  rw [Bool.or_eq_true, not_or, Bool.and_eq_true, decide_eq_true_iff, decide_eq_true_iff, decide_eq_true_iff] at h
  obtain ⟨h1, h2⟩ := h
  unfold nearLe
  by_cases e : P.T b r P.fin * P.T b f q = P.T b f P.fin * P.T b r q
  · exact .inr ⟨e.symm, by by_cases z : (b r : Int) < b f; · exact absurd ⟨e, z⟩ h2
                           · omega⟩
  · exact .inl (by omega)
/-- what leaves so far -/
def Leaves (P : Lp) (b : Lp.B) (q i : Nat) (v : V) : Prop := (v = .non ∧ ∀ k, k < i → P.T b k q ≤ 0) ∨ ∃ r : Nat, v = .int r ∧ r < i ∧ 0 < P.T b r q ∧ ∀ k, k < i → 0 < P.T b k q → nearLe P b q r k
def spLeaving (C : Addr) : Sp := fun vs H Q _ => ∃ (t dx RL BL : Addr) (P : Lp) (b : Lp.B) (n q : Nat) (xs : List V), vs = [.ref t, .int q] ∧ Tab C H t P b n dx RL BL xs ∧ Bd63 P ∧ P.m ≤ n ∧ q < P.fin ∧ ∀ v H', Same H H' → Leaves P b q P.m v → Q v H'
theorem ok_leaving {C : Addr} (bc : Bc G C) (C_is_nearer : CalM G 1 C "is_nearer" P_Table_is_nearer (spNearer C)) (F : DfM G C "leaving" "Table.leaving" s_Table_leaving) : CalM G 2 C "leaving" P_Table_leaving (spLeaving C) := by
  refine F.cal (N := N_Table_leaving) sc_Table_leaving (fun _ _ _ _ _ _ us hl => match us, hl with | [_, _], _ => rfl) (fun vs H Q E h => by obtain ⟨_, _, _, _, _, _, _, _, _, rfl, _⟩ := h; rfl) ?_
  rintro fa cdv A outer s H vs Q E hr ⟨t, dx, RL, BL, P, b, n, q, xs, rfl, T, bd, hmn, hq, cont⟩
  have S := sc_Table_leaving
  refine ⟨_, (pss_cons (ps_set (i := 2) S.nd rfl (by first | exact Or.inl rfl | exact Or.inr rfl) pe_non)
    (pss_cons (ps_for PassesOwn.never rfl (pi_range1 (by rfl) B.range (pa_cons (pe_callB call_len_seq rfl B.len (by decide +kernel) (pa_cons (pe_fld (pv 0) rfl) pa_nil)) pa_nil)) (pg_name (i := 3) S.nd rfl (by first | exact Or.inl rfl | exact Or.inr rfl)) (pss_cons (ps_set (i := 4) S.nd rfl (by first | exact Or.inl rfl | exact Or.inr rfl) (pe_ix ix_list (pe_fld (pv 0) rfl) (pv 3) (fun _ _ => rfl)))
    (pss_one (ps_if (pt_cmpR op_gt (pe_ix ix_list (pv 4) (pv 1) (fun _ _ => rfl)) pe_int (nomark _)) (pss_one (ps_if (PW.pt (pw_or (pt_cmpR op_isN (pv 2) pe_non (nomark _)) (pw_or1 (pt_val (pe_calm (C_is_nearer.mono (by omega)) bc.cl hr (pv 0) (pa_cons (pv 3) (pa_cons (pv 2) (pa_cons (pv 1) pa_nil)))))))) (pss_one (ps_set (i := 2) S.nd rfl (by first | exact Or.inl rfl | exact Or.inr rfl) (pv 3))) pss_nil)) pss_nil))))
    (pss_one (ps_ret (pv 2))))), ?_⟩
  have bm := bd.rows
  refine ⟨_, rfl, t, C, dx, _, _, rfl, T.t, bc.cl, bc.basis, rfl, BL, _, rfl, .inl (SqL.of T.bl), _, rfl, by omega, by rw [List.length_map, List.length_range]; omega, ?_⟩
  rw [List.length_map, List.length_range, Int.toNat_natCast]
  refine for_it (walk_range (lo := 0)) (fun i σ H1 => Same H H1 ∧ σ[0]? = some (some (.ref t)) ∧ σ[1]? = some (some (.int q)) ∧ σ.length = 5 ∧ ∃ v, σ[2]? = some (some v) ∧ Leaves P b q i v) ⟨Same.refl _, rfl, rfl, rfl, _, rfl, .inl ⟨rfl, fun k hk => absurd hk (Nat.not_lt_zero _)⟩⟩ (fun _ _ _ _ _ => trivial) ?_ ?_
  · rintro i x σ H1 H2 hi ⟨s1, e0, e1, el, v, e2, lv⟩ ⟨rfl, rfl⟩
    obtain ⟨v0, v1, v2, v3, v4, rfl⟩ : ∃ v0 v1 v2 v3 v4, σ = [v0, v1, v2, v3, v4] := by
      match σ, el with
      | [v0, v1, v2, v3, v4], _ => exact ⟨v0, v1, v2, v3, v4, rfl⟩
    cases e0; cases e1; cases e2
    rw [show ((fun i : Nat => V.int (0 + (i : Int))) i) = V.int (i : Int) from by simp]
    have T1 := T.same s1
    obtain ⟨R1, x1, n1, m1, h1⟩ := T1.row (k := i) (by omega)
    refine ⟨_, rfl, t, C, dx, _, _, rfl, T1.t, bc.cl, bc.rows, rfl, _, rfl, RL, xs, i, _, rfl, rfl, SqL.of T1.rl, atI_nat x1, ?_⟩
    refine ⟨_, rfl, _, rfl, R1, _, q, _, rfl, rfl, SqL.of h1, at_T (by omega), _, _, rfl, rfl, _, rfl, ite2 (fun c => ?_) fun c => ?_⟩
    · have pos : 0 < P.T b i q := of_decide_eq_true c
      rcases lv with ⟨rfl, none⟩ | ⟨r, rfl, hri, pr, best⟩
      · refine ⟨_, rfl, rfl, _, rfl, iteP rfl ⟨_, rfl, s1, rfl, rfl, rfl, _, rfl, .inr ⟨i, rfl, by omega, pos, fun k hk pk => ?_⟩⟩⟩
        by_cases e : k = i
        · rw [e]; exact near_refl
        · exact absurd (none k (by omega)) (by omega)
      · refine ⟨_, rfl, rfl, _, rfl, iteN (by simp) ?_⟩
        refine ⟨_, rfl, t, dx, _, rfl, T1.t, rfl, _, rfl, _, rfl, _, rfl, t, dx, RL, BL, P, b, n, i, r, q, xs, rfl, T1, bd, hi, by omega, hmn, hq, fun H3 s3 => ⟨_, rfl, ite2 (fun nb => ?_) fun nb => ?_⟩⟩
        · refine ⟨_, rfl, s1.trans s3, rfl, rfl, rfl, _, rfl, .inr ⟨i, rfl, by omega, pos, fun k hk pk => ?_⟩⟩
          by_cases e : k = i
          · rw [e]; exact near_refl
          · exact near_trans pos pr pk (near_yes nb) (best k (by omega) pk)
        · refine ⟨s1.trans s3, rfl, rfl, rfl, _, rfl, .inr ⟨r, rfl, by omega, pr, fun k hk pk => ?_⟩⟩
          by_cases e : k = i
          · rw [e]; exact near_no nb
          · exact best k (by omega) pk
    · have npos : ¬ 0 < P.T b i q := fun h => c (decide_eq_true h)
      refine ⟨s1, rfl, rfl, rfl, _, rfl, ?_⟩
      rcases lv with ⟨rfl, none⟩ | ⟨r, rfl, hri, pr, best⟩
      · refine .inl ⟨rfl, fun k hk => ?_⟩
        by_cases e : k = i
        · rw [e]; omega
        · exact none k (by omega)
      · refine .inr ⟨r, rfl, by omega, pr, fun k hk pk => ?_⟩
        by_cases e : k = i
        · rw [e] at pk; exact absurd pk npos
        · exact best k (by omega) pk
  · rintro σ H1 ⟨s1, e0, e1, el, v, e2, lv⟩
    exact ⟨_, e2, cont v _ s1 lv⟩
def spTurn (C : Addr) : Sp := fun vs H Q _ => ∃ (t dx RL BL : Addr) (P : Lp) (b : Lp.B) (r q : Nat) (xs : List V), vs = [.ref t, .int r, .int q] ∧ Tab C H t P b (P.m + 1) dx RL BL xs ∧ Bd63 P ∧ r < P.m ∧ q < P.fin ∧ 0 < P.T b r q ∧ 0 < P.U b ∧
  ∀ H' RL' xs', (∀ x o, H x = some o → x ≠ t → x ≠ BL → H' x = some o) → Tab C H' t P (Lp.put b r q) (P.m + 1) dx RL' BL xs' → Q .non H'
theorem ok_turn {C : Addr} (bc : Bc G C) (C_cleared : CalM G 1 C "cleared" P_Table_cleared (spCleared C)) (F : DfM G C "turn" "Table.turn" s_Table_turn) : CalM G 2 C "turn" P_Table_turn (spTurn C) := by
  refine F.cal (N := N_Table_turn) sc_Table_turn (fun _ _ _ _ _ _ us hl => match us, hl with | [_, _, _], _ => rfl) (fun vs H Q E h => by obtain ⟨_, _, _, _, _, _, _, _, _, rfl, _⟩ := h; rfl) ?_
  rintro fa cdv A outer s H vs Q E hr ⟨t, dx, RL, BL, P, b, r, q, xs, rfl, T, bd, hr1, hq, pos, upos, cont⟩
  have S := sc_Table_turn
  refine ⟨_, (pss_cons (ps_set (i := 3) S.nd rfl (by first | exact Or.inl rfl | exact Or.inr rfl) (pe_ix ix_list (pe_fld (pv 0) rfl) (pv 1) (fun _ _ => rfl)))
    (pss_cons (ps_set (i := 4) S.nd rfl (by first | exact Or.inl rfl | exact Or.inr rfl) (pe_ix ix_list (pv 3) (pv 2) (fun _ _ => rfl)))
    (pss_cons (ps_fld (pv 0) (pe_lc (own := [("k", 5), ("row", 6)]) rfl S.nd (pi_enum (by rfl) B.enumerate (pa_cons (pe_fld (pv 0) rfl) pa_nil)) (blkOk_by (own := [("k", 5), ("row", 6)]) (N := N_Table_turn) (sc := defScope s_Table_turn) (by decide +kernel)) (fun _ _ _ _ _ => (pg_tupK G.K (by rfl) (n := 2) (by rfl) (pgs_cons (pg_name (i := 5) S.nd rfl (by first | exact Or.inl rfl | exact Or.inr rfl)) (pgs_cons (pg_name (i := 6) S.nd rfl (by first | exact Or.inl rfl | exact Or.inr rfl)) pgs_nil)))) (fun _ _ _ _ _ => pts_nil) (fun _ _ _ _ _ => (pe_ifExp (pt_cmpR op_eq (pv 5) (pv 1) (nomark _)) (pv 6) (pe_calm (C_cleared.mono (by omega)) bc.cl hr (pv 0) (pa_cons (pv 6) (pa_cons (pv 3) (pa_cons (pv 2) pa_nil))))))) rfl)
    (pss_cons (ps_fld (pv 0) (pv 4) rfl)
    (pss_one (ps_if (pt_cmpR op_lt (pv 1) (pe_callB call_len_seq rfl B.len (by decide +kernel) (pa_cons (pe_fld (pv 0) rfl) pa_nil)) (nomark _)) (pss_one (ps_asg (pv 2) (pg_sub (pe_fld (pv 0) rfl) (pv 1) set_list))) pss_nil)))))), ?_⟩
  obtain ⟨R1, x1, n1, m1, h1⟩ := T.row (k := r) (by omega)
  have bm := bd.rows
  have bf := bd.few
  refine ⟨_, rfl, t, C, dx, _, _, rfl, T.t, bc.cl, bc.rows, rfl, _, rfl, RL, xs, r, _, rfl, rfl, SqL.of T.rl, atI_nat x1, ?_⟩
  refine ⟨_, rfl, _, rfl, R1, _, q, _, rfl, rfl, SqL.of h1, at_T (by omega), ?_⟩
  refine ⟨_, rfl, t, C, dx, _, _, rfl, T.t, bc.cl, bc.rows, rfl, RL, xs, rfl, SqL.of T.rl, fun D hD => ?_⟩
  have nbl : ∀ {x : Addr} {o : HO}, H x = some o → x ≠ D := fun e z => by rw [z, hD] at e; cases e
  refine lc_map (walk_enum (xs := xs)) (fun k y H' => ∃ r', y = .ref r' ∧ r' ≠ D ∧ r' ≠ BL ∧ H' r' = some (.lst ((rowT P (Lp.put b r q) k).map V.int))) (few_lt (by rw [T.len]; exact bm)) hD (fun H1 s1 => s1.seq (SqL.of T.rl)) ?_ ?_ ?_
  · rintro k y H1 H2 ys eD sx ⟨r', e, n1', n2', h⟩
    exact ⟨r', e, n1', n2', sx _ _ h n1'⟩
  · rintro k x2 H1 H2 Qy hk s1 nd ⟨TT, p, v, rfl, hT, rfl, ep, ev⟩ cy
    obtain rfl := Option.some.inj ep
    rw [T.len] at hk
    obtain ⟨Rk, xk, nk, mk, hRk⟩ := T.row hk
    have ev2 : xs[k]? = some v := ev
    rw [xk] at ev2
    obtain rfl := Option.some.inj ev2
    have st := same_upd (o := .tup [V.int (k : Nat), V.ref Rk]) hT
    have s2 := s1.trans st
    refine ⟨TT, [V.int (k : Nat), V.ref Rk], rfl, .inl (.inl upd_same), rfl, _, _, rfl, ?_⟩
    refine ⟨_, _, rfl, rfl, rfl, ?_⟩
    refine ⟨_, rfl, _, rfl, rfl, _, rfl, ite2 (fun c => ?_) fun c => ?_⟩
    · have e := V.int.inj (of_decide_eq_true c)
      have e : k = r := by omega
      subst e
      refine ⟨_, rfl, cy _ _ st ⟨Rk, rfl, nbl hRk, mk, ?_⟩⟩
      rw [s2 _ _ hRk]
      congr 3
      unfold rowT
      exact List.map_congr_left fun c _ => (P.T_put_same b k q c hr1).symm
    · have ne : k ≠ r := fun e => c (decide_eq_true (by rw [e]))
      refine ⟨_, rfl, t, dx, _, rfl, s2 _ _ T.t, rfl, _, rfl, _, rfl, _, rfl, t, dx, RL, BL, Rk, R1, P.many, P.U b, P.T b r q, P.T b k q, q, rowT P b k, rowT P b r, rowT P (Lp.put b r q) k, rfl, s2 _ _ T.t, s2 _ _ hRk, s2 _ _ h1, ?_, ?_, ?_, rowT_get P b r (by omega), rowT_get P b k (by omega), bd.T _ _ _, bd.T _ _ _, upos, bd.U b, ?_, fun Dn H4 s4 hDn hD4 => ?_⟩
      · rw [rowT_len, rowT_len]
      · rw [rowT_len, rowT_len]
      · rw [rowT_len]; omega
      · intro i x y z hx hy hz
        have hi : i ≤ P.fin := by
          obtain ⟨h, _⟩ := List.getElem?_eq_some_iff.mp hx
          rw [rowT_len] at h; omega
        rw [rowT_get P b k hi] at hx
        rw [rowT_get P b r hi] at hy
        rw [rowT_get P _ k hi] at hz
        rw [← Option.some.inj hx, ← Option.some.inj hy, ← Option.some.inj hz]
        exact (P.T_put b r q k i hr1 (by omega) ne).symm
      · refine cy _ _ (st.trans s4) ⟨Dn, rfl, fun e => ?_, fun e => ?_, hD4⟩
        · have h0 := none_back st hDn
          rw [e] at h0
          exact nd h0
        · rw [e, s2 _ _ T.bl] at hDn; cases hDn
  · intro H1 acc s1 hD1 hpr
    rw [T.len] at hpr
    have hpr' := hpr
    refine ⟨_, rfl, t, C, dx, _, rfl, s1 _ _ T.t, bc.cl, bc.rows, by show 4 < 1000; decide, ?_⟩
    refine ⟨_, rfl, _, rfl, t, C, dx, _, rfl, upd_same, bc.cl, bc.under, by show 4 < 1000; decide, ?_⟩
    have tRL : t ≠ RL := fun e => by have := T.t; rw [e, T.rl] at this; cases this
    have tBL : t ≠ BL := fun e => by have := T.t; rw [e, T.bl] at this; cases this
    have tD : t ≠ D := nbl T.t
    have bD : BL ≠ D := nbl T.bl
    have g2 : (L2.upd (L2.upd H1 t (.ins C dx (tbFields D P.many (P.U b) BL))) t (.ins C dx (tbFields D P.many (P.T b r q) BL))) t = some (.ins C dx (tbFields D P.many (P.T b r q) BL)) := upd_same
    have o2 : ∀ x, x ≠ t → (L2.upd (L2.upd H1 t (.ins C dx (tbFields D P.many (P.U b) BL))) t (.ins C dx (tbFields D P.many (P.T b r q) BL))) x = H1 x := fun x hx => by rw [upd_ne hx, upd_ne hx]
    dsimp only
    show tIfS _ _ _ _ _ (L2.upd (L2.upd H1 t (.ins C dx (tbFields D P.many (P.U b) BL))) t (.ins C dx (tbFields D P.many (P.T b r q) BL)))
    generalize (L2.upd (L2.upd H1 t (.ins C dx (tbFields D P.many (P.U b) BL))) t (.ins C dx (tbFields D P.many (P.T b r q) BL))) = H2 at g2 o2
    have b2 := (o2 BL tBL.symm).trans (s1 _ _ T.bl)
    refine ⟨_, rfl, _, rfl, t, C, dx, _, _, rfl, g2, bc.cl, bc.basis, rfl, BL, _, rfl, .inl (SqL.of b2), _, _, rfl, rfl, _, rfl, iteP (decide_eq_true ?_) ?_⟩
    · rw [List.length_map, List.length_range]; omega
    refine ⟨_, rfl, _, rfl, t, C, dx, _, _, rfl, g2, bc.cl, bc.basis, rfl, _, rfl, BL, _, r, r, rfl, rfl, b2, ?_, ?_⟩
    · unfold ixN
      rw [if_pos (Int.natCast_nonneg r), List.length_map, List.length_range, if_pos (by omega), Int.toNat_natCast]
    have dH2 : H2 D = some (.lst acc) := (o2 D tD.symm).trans hD1
    refine cont _ D acc (fun x o hx nt nb => ?_) ⟨?_, ?_, ?_, ?_, bD.symm⟩
    · rw [upd_ne nb, o2 x nt]; exact s1 _ _ hx
    · rw [upd_ne tBL, P.U_put b r q hr1]; exact g2
    · rw [upd_ne bD.symm]; exact dH2
    · refine Paired.mapP hpr fun k v ⟨r', e, k1, k2, h⟩ => ⟨r', e, k1, k2, ?_⟩
      have : r' ≠ t := fun z => by rw [z, s1 _ _ T.t] at h; cases h
      rw [upd_ne k2, o2 r' this]
      exact h
    · rw [upd_same]
      congr 2
      refine List.ext_getElem (by simp) fun i h1 h2 => ?_
      simp only [List.getElem_set, List.getElem_map, List.getElem_range, Lp.put]
      by_cases e : r = i
      · rw [if_pos e, if_pos e.symm]
      · rw [if_neg e, if_neg (Ne.symm e)]
end
end Mc
/-! The walk, 9: the search for counts. -/
namespace Mc
open PySem PySem.Spec PyProof.Rows L2
abbrev N_Table_lessened : List Str := ["self", "goal", "row", "columns", "at", "column"]
abbrev P_Table_lessened : List Str := ["self", "goal"]
theorem sc_Table_lessened : FnScope N_Table_lessened P_Table_lessened (defScope s_Table_lessened) := ⟨rfl, rfl, rfl, by decide +kernel, rfl, by decide +kernel, by decide +kernel⟩

abbrev N_Table_held_at : List Str := ["self", "column", "at", "held"]
abbrev P_Table_held_at : List Str := ["self", "column"]
theorem sc_Table_held_at : FnScope N_Table_held_at P_Table_held_at (defScope s_Table_held_at) := ⟨rfl, rfl, rfl, by decide +kernel, rfl, by decide +kernel, by decide +kernel⟩

theorem atI_end {α : Type} {xs : List α} {n : Nat} {v : α} (h : xs[n]? = some v) (l : xs.length = n + 1) : atI xs (-1) = some v := by
  obtain ⟨hn, e⟩ := List.getElem?_eq_some_iff.mp h
  have : xs = xs.take n ++ [v] := by
    have e2 : xs.take (n + 1) = xs.take n ++ [v] := by rw [List.take_add_one, h]; rfl
    rw [← e2, List.take_of_length_le (by omega)]
  rw [this]
  exact atI_last _ _
theorem first_of {p : Nat → Bool} {n q : Nat} {rest : List Nat} (h : (List.range n).filter p = q :: rest) : q < n ∧ p q = true ∧ ∀ c, c < q → ¬ p c = true := by
  obtain ⟨l1, l2, e, no, yes, _⟩ := List.filter_eq_cons_iff.mp h
  have hq : q = l1.length := by
    have h1 : (List.range n)[l1.length]? = some q := by rw [e]; simp
    obtain ⟨hl, e1⟩ := List.getElem?_eq_some_iff.mp h1
    simpa using e1.symm
  have hn : l1.length < n := by
    have := congrArg List.length e
    simp at this
    omega
  refine ⟨by omega, yes, fun c hc => ?_⟩
  have h1 : (List.range n)[c]? = l1[c]? := by rw [e, List.getElem?_append_left (by omega)]
  rw [List.getElem?_range (by omega)] at h1
  exact no c (List.mem_of_getElem? h1.symm)
section
variable {G : Gd} (B : Bl G.mg)
include B
def spLessened (C : Addr) : Sp := fun vs H Q _ => ∃ (t dx RL BL g : Addr) (P : Lp) (b : Lp.B) (xs : List V), vs = [.ref t, .ref g] ∧ Tab C H t P b P.m dx RL BL xs ∧ H g = some (.lst ((rowT P b P.m).map V.int)) ∧ g ≠ RL ∧ g ≠ BL ∧ Bd63 P ∧ P.Ok b ∧
  ∀ H' b' RL' xs', (∀ x o, H x = some o → x ≠ t → x ≠ BL → x ≠ RL → H' x = some o) → Tab C H' t P b' (P.m + 1) dx RL' BL xs' → P.Ok b' → P.Opt b' → Q (.bl true) H'
theorem ok_lessened {C : Addr} (bc : Bc G C) (C_leaving : CalM G 2 C "leaving" P_Table_leaving (spLeaving C)) (C_turn : CalM G 2 C "turn" P_Table_turn (spTurn C)) (F : DfM G C "lessened" "Table.lessened" s_Table_lessened) : CalM G 3 C "lessened" P_Table_lessened (spLessened C) := by
  refine F.cal (N := N_Table_lessened) sc_Table_lessened (fun _ _ _ _ _ _ us hl => match us, hl with | [_, _], _ => rfl) (fun vs H Q E h => by obtain ⟨_, _, _, _, _, _, _, _, rfl, _⟩ := h; rfl) ?_
  rintro fa cdv A outer s H vs Q E hr ⟨t, dx, RL, BL, g, P, b, xs, rfl, T, hg, ng1, ng2, bd, ok, cont⟩
  have S := sc_Table_lessened
  refine ⟨_, (pss_cons (ps_expr (pe_bm PySem.F.plainAttrs_list PySem.F.slot_list_append PySem.F.type_list_append mt_append (pe_fld (pv 0) rfl) (pa_cons (pv 1) pa_nil)))
    (pss_one (ps_while PassesOwn.never (pt_val pe_bl) (pss_cons (ps_set (i := 2) S.nd rfl (by first | exact Or.inl rfl | exact Or.inr rfl) (pe_ix ix_list (pe_fld (pv 0) rfl) (pe_un un_neg pe_int) (fun _ _ => rfl)))
    (pss_cons (ps_setLc (i := 3) (own := [("column", 5)]) rfl S.nd rfl rfl (sw_true rfl rfl rfl (by decide +kernel)) (pi_range1 (by rfl) B.range (pa_cons (pe_fld (pv 0) rfl) pa_nil)) (blkOk_by (own := [("column", 5)]) (N := N_Table_lessened) (sc := defScope s_Table_lessened) (by decide +kernel)) (fun _ _ _ _ _ => (pg_name (i := 5) S.nd rfl (by first | exact Or.inl rfl | exact Or.inr rfl))) (fun _ _ _ _ _ => pts_one (pt_cmpR op_lt (pe_ix (ix_listK G.K (by rfl)) (pv 2) (pv 5) (fun _ _ => rfl)) pe_int (nomark _))) (fun _ _ _ _ _ => (pv 5)))
    (pss_cons (ps_if (pt_cmpR op_eq (pe_callB call_len_seq rfl B.len (by decide +kernel) (pa_cons (pv 3) pa_nil)) pe_int (nomark _)) (pss_one (ps_ret pe_bl)) pss_nil)
    (pss_cons (ps_set (i := 4) S.nd rfl (by first | exact Or.inl rfl | exact Or.inr rfl) (pe_calm (C_leaving.mono (by omega)) bc.cl hr (pv 0) (pa_cons (pe_ix ix_list (pv 3) pe_int (fun _ _ => rfl)) pa_nil)))
    (pss_cons (ps_if (pt_cmpR op_isN (pv 4) pe_non (nomark _)) (pss_one (ps_ret pe_bl)) pss_nil)
    (pss_one (ps_expr (pe_calm (C_turn.mono (by omega)) bc.cl hr (pv 0) (pa_cons (pv 4) (pa_cons (pe_ix ix_list (pv 3) pe_int (fun _ _ => rfl)) pa_nil))))))))))))), ?_⟩
  have bm := bd.rows
  have bf := bd.few
  have fm : P.fin = P.many + P.m := rfl
  refine ⟨_, rfl, t, C, dx, _, _, rfl, T.t, bc.cl, bc.rows, rfl, .inl ⟨rfl, _, SqL.of T.rl⟩, _, rfl, RL, xs, _, rfl, rfl, T.rl, few_lt (by rw [T.len]; omega), ?_⟩
  have tRL : t ≠ RL := fun e => by have := T.t; rw [e, T.rl] at this; cases this
  have T0 : Tab C (L2.upd H RL (.lst (xs ++ [.ref g]))) t P b (P.m + 1) dx RL BL (xs ++ [.ref g]) := by
    refine ⟨?_, upd_same, ?_, ?_, T.ne⟩
    · rw [upd_ne tRL]; exact T.t
    · rw [List.range_succ]
      refine paired_snoc (Paired.mapP T.rows fun k v ⟨r, e, k1, k2, h⟩ => ⟨r, e, k1, k2, by rw [upd_ne k1]; exact h⟩) ⟨g, rfl, ng1, ng2, by rw [upd_ne ng1]; exact hg⟩
    · rw [upd_ne T.ne.symm]; exact T.bl
  refine ⟨fun m σ H1 => σ[0]? = some (some (.ref t)) ∧ σ.length = 6 ∧ ∃ b1 RL1 xs1, (∀ x o, H x = some o → x ≠ t → x ≠ BL → x ≠ RL → H1 x = some o) ∧ Tab C H1 t P b1 (P.m + 1) dx RL1 BL xs1 ∧ P.Ok b1 ∧ ¬ Lp.Ch P m b1,
    ⟨P.most, rfl, rfl, b, RL, _, fun x o hx _ _ n3 => by rw [upd_ne n3]; exact hx, T0, ok, P.ends ok⟩, ?_⟩
  rintro m σ H1 ⟨e0, el, b1, RL1, xs1, fr, T1, ok1, nch⟩
  obtain ⟨v0, v1, v2, v3, v4, v5, rfl⟩ : ∃ v0 v1 v2 v3 v4 v5, σ = [v0, v1, v2, v3, v4, v5] := by
    match σ, el with
    | [v0, v1, v2, v3, v4, v5], _ => exact ⟨v0, v1, v2, v3, v4, v5, rfl⟩
  cases e0
  refine ⟨true, rfl, iteT ?_⟩
  refine ⟨fun σ' H' => ∃ m', m' < m ∧ (σ'[0]? = some (some (.ref t)) ∧ σ'.length = 6 ∧ ∃ b1 RL1 xs1, (∀ x o, H x = some o → x ≠ t → x ≠ BL → x ≠ RL → H' x = some o) ∧ Tab C H' t P b1 (P.m + 1) dx RL1 BL xs1 ∧ P.Ok b1 ∧ ¬ Lp.Ch P m' b1), fun σ' H' h => h, ?_⟩
  obtain ⟨Rm, xm, nm, mm, hRm⟩ := T1.row (k := P.m) (by omega)
  refine ⟨_, rfl, t, C, dx, _, _, rfl, T1.t, bc.cl, bc.rows, rfl, 1, rfl, RL1, xs1, -1, _, rfl, rfl, SqL.of T1.rl, atI_end xm T1.len, ?_⟩
  refine ⟨_, rfl, t, C, dx, _, _, rfl, T1.t, bc.cl, bc.many, rfl, _, rfl, by omega, by omega, fun D hD => ?_⟩
  rw [Int.toNat_natCast]
  refine lc_sel (walk_range (lo := 0)) (fun c => decide (P.T b1 P.m c < 0)) (fun c y _ => y = .int (c : Nat)) (few_lt (by omega)) hD (fun _ _ => trivial) (fun _ _ _ _ _ _ _ h => h) ?_ ?_
  · rintro c x H2 H3 Qy Qn hc s2 nd ⟨rfl, rfl⟩ cy cn
    rw [show ((fun i : Nat => V.int (0 + (i : Int))) c) = V.int (c : Int) from by simp]
    refine ⟨rfl, _, rfl, _, rfl, Rm, _, c, _, rfl, rfl, SqL.of (s2 _ _ hRm), at_T (by omega), _, _, rfl, rfl, _, rfl, ite2 (fun z => ?_) fun z => ?_⟩
    · exact ⟨_, rfl, cy z _ _ (Same.refl _) rfl⟩
    · exact cn (Bool.eq_false_iff.mpr z) _ (Same.refl _)
  intro H2 acc s2 hD2 hpr
  have ea := paired_map_eq (f := fun c : Nat => V.int (c : Nat)) hpr
  have T2 := T1.same s2
  have fr2 : ∀ x o, H x = some o → x ≠ t → x ≠ BL → x ≠ RL → H2 x = some o := fun x o a b c d => s2 _ _ (fr x o a b c d)
  refine ⟨_, rfl, D, acc, rfl, .inl (SqL.of hD2), rfl, _, rfl, ite2 (fun z => ?_) fun z => ?_⟩
  · have la : acc.length = 0 := by have := V.int.inj (of_decide_eq_true z); omega
    refine cont H2 b1 RL1 xs1 fr2 T2 ok1 fun c hc => ?_
    by_cases e : P.T b1 P.m c < 0
    · have : c ∈ (List.range P.many).filter fun c => decide (P.T b1 P.m c < 0) := List.mem_filter.mpr ⟨List.mem_range.mpr hc, decide_eq_true e⟩
      rw [ea, List.length_map] at la
      rw [List.eq_nil_of_length_eq_zero la] at this
      cases this
    · omega
  · obtain ⟨q, rest, eq⟩ : ∃ q rest, (List.range P.many).filter (fun c => decide (P.T b1 P.m c < 0)) = q :: rest := by
      cases e : (List.range P.many).filter (fun c => decide (P.T b1 P.m c < 0)) with
      | nil => exact absurd (decide_eq_true (by rw [ea, e]; rfl)) z
      | cons q rest => exact ⟨q, rest, rfl⟩
    obtain ⟨hq, neg, least⟩ := first_of eq
    rw [eq] at ea
    have neg := of_decide_eq_true neg
    have a0 : atI acc 0 = some (V.int (q : Nat)) := by
      rw [ea]
      exact atI_nat (j := 0) rfl
    have qf : q < P.fin := by omega
    refine ⟨_, rfl, t, dx, _, rfl, T2.t, rfl, _, rfl, D, acc, 0, _, rfl, rfl, SqL.of hD2, a0, t, dx, RL1, BL, P, b1, P.m + 1, q, xs1, rfl, T2, bd, by omega, qf, fun v H3 s3 lv => ?_⟩
    have T3 := T2.same s3
    obtain ⟨k, hk, pk⟩ := P.bounded ok1 hq neg
    rcases lv with ⟨rfl, none⟩ | ⟨r, rfl, hri, pr, best⟩
    · exact absurd (none k hk) (by omega)
    · refine ⟨_, rfl, rfl, _, rfl, iteN (by simp) ?_⟩
      refine ⟨_, rfl, t, dx, _, rfl, T3.t, rfl, _, rfl, _, rfl, D, acc, 0, _, rfl, rfl, SqL.of (s3 _ _ hD2), a0, t, dx, RL1, BL, P, b1, r, q, xs1, rfl, T3, bd, hri, qf, pr, ok1.pos, fun H4 RL4 xs4 fr4 T4 => ?_⟩
      have turn : P.Turn b1 (Lp.put b1 r q) q r := ⟨hq, neg, fun c hc => by have := least c hc; rw [decide_eq_true_iff] at this; omega, hri, pr, fun k hk pk => best k hk pk, rfl⟩
      cases m with
      | zero => exact absurd trivial nch
      | succ m => exact ⟨m, by omega, rfl, rfl, _, RL4, xs4, fun x o a b c d => fr4 x o (s3 _ _ (fr2 x o a b c d)) b c, T4, turn.ok ok1, fun ch => nch ⟨_, q, r, turn, ch⟩⟩
def spHeldAt (C : Addr) : Sp := fun vs H Q _ => ∃ (t dx RL BL : Addr) (P : Lp) (b : Lp.B) (c : Nat) (xs : List V), vs = [.ref t, .int c] ∧ Tab C H t P b (P.m + 1) dx RL BL xs ∧ Bd63 P ∧ P.Ok b ∧ ∀ H', Same H H' → Q (.int (P.x b c)) H'
theorem ok_held_at {C : Addr} (bc : Bc G C) (F : DfM G C "held_at" "Table.held_at" s_Table_held_at) : CalM G 1 C "held_at" P_Table_held_at (spHeldAt C) := by
  refine F.cal (N := N_Table_held_at) sc_Table_held_at (fun _ _ _ _ _ _ us hl => match us, hl with | [_, _], _ => rfl) (fun vs H Q E h => by obtain ⟨_, _, _, _, _, _, _, _, rfl, _⟩ := h; rfl) ?_
  rintro fa cdv A outer s H vs Q E hr ⟨t, dx, RL, BL, P, b, c, xs, rfl, T, bd, ok, cont⟩
  have S := sc_Table_held_at
  refine ⟨_, (pss_cons (ps_for PassesOwn.never rfl (pi_enum (by rfl) B.enumerate (pa_cons (pe_fld (pv 0) rfl) pa_nil)) (pg_tup (n := 2) (by rfl) (pgs_cons (pg_name (i := 2) S.nd rfl (by first | exact Or.inl rfl | exact Or.inr rfl)) (pgs_cons (pg_name (i := 3) S.nd rfl (by first | exact Or.inl rfl | exact Or.inr rfl)) pgs_nil))) (pss_one (ps_if (pt_cmpR op_eq (pv 3) (pv 1) (nomark _)) (pss_one (ps_ret (pe_ix ix_list (pe_ix ix_list (pe_fld (pv 0) rfl) (pv 2) (fun _ _ => rfl)) (pe_un un_neg pe_int) (fun _ _ => rfl)))) pss_nil)))
    (pss_one (ps_ret pe_int))), ?_⟩
  refine ⟨_, rfl, t, C, dx, _, _, rfl, T.t, bc.cl, bc.basis, rfl, BL, _, rfl, SqL.of T.bl, ?_⟩
  refine for_it (walk_enum (xs := (List.range P.m).map fun k => V.int (b k : Nat))) (fun i σ H1 => Same H H1 ∧ σ[0]? = some (some (.ref t)) ∧ σ[1]? = some (some (.int c)) ∧ σ.length = 4 ∧ ∀ k, k < i → b k ≠ c) ⟨Same.refl _, rfl, rfl, rfl, fun k hk => absurd hk (Nat.not_lt_zero _)⟩ (fun i σ H1 _ p => p.1.seq (SqL.of T.bl)) ?_ ?_
  · rintro i x σ H1 H2 hi ⟨s1, e0, e1, el, no⟩ ⟨TT, p, v, rfl, hT, rfl, ep, ev⟩
    obtain rfl := Option.some.inj ep
    have hi' : i < P.m := by simpa using hi
    have ev2 : v = .int (b i : Nat) := by
      have e : ((List.range P.m).map fun k => V.int (b k : Nat))[i]? = some (V.int (b i : Nat)) := by simp [hi']
      have ev' : ((List.range P.m).map fun k => V.int (b k : Nat))[i]? = some v := ev
      rw [e] at ev'
      exact (Option.some.inj ev').symm
    subst ev2
    obtain ⟨v0, v1, v2, v3, rfl⟩ : ∃ v0 v1 v2 v3, σ = [v0, v1, v2, v3] := by
      match σ, el with
      | [v0, v1, v2, v3], _ => exact ⟨v0, v1, v2, v3, rfl⟩
    cases e0; cases e1
    have s2 := s1.upd (o := .tup [V.int (i : Nat), V.int (b i : Nat)]) hT
    have T2 := T.same s2
    refine ⟨TT, _, rfl, .inl (.inl upd_same), rfl, _, _, rfl, ?_⟩
    refine ⟨_, _, rfl, rfl, ?_⟩
    refine ⟨_, rfl, _, rfl, rfl, _, rfl, ite2 (fun z => ?_) fun z => ?_⟩
    · have e : b i = c := by have := V.int.inj (of_decide_eq_true z); omega
      obtain ⟨R1, x1, n1, m1, h1⟩ := T2.row (k := i) (by omega)
      refine ⟨_, rfl, t, C, dx, _, _, rfl, T2.t, bc.cl, bc.rows, rfl, _, rfl, RL, xs, i, _, rfl, rfl, SqL.of T2.rl, atI_nat x1, 1, rfl, R1, _, -1, _, rfl, rfl, SqL.of h1, at_end, ?_⟩
      have := cont _ s2
      rw [← e, P.x_at ok hi'] at this
      exact this
    · have ne : b i ≠ c := fun e => z (decide_eq_true (by rw [e]))
      exact ⟨s2, rfl, rfl, rfl, fun k hk => by
        by_cases e : k = i
        · rw [e]; exact ne
        · exact no k (by omega)⟩
  · rintro σ H1 ⟨s1, e0, e1, el, no⟩
    have := cont _ s1
    rw [P.x_none fun k hk => no k (by simpa using hk)] at this
    exact this
end
end Mc
/-! The walk, 10: a table is laid. -/
namespace Mc
open PySem PySem.Spec PyProof.Rows L2
abbrev N_Table___init__ : List Str := ["self", "rows", "ends", "many", "at", "row", "helps", "k"]
abbrev P_Table___init__ : List Str := ["self", "rows", "ends", "many"]
theorem sc_Table___init__ : FnScope N_Table___init__ P_Table___init__ (defScope s_Table___init__) := ⟨rfl, rfl, rfl, by decide +kernel, rfl, by decide +kernel, by decide +kernel⟩

theorem range_map_add {α : Type} (f : Nat → α) (n m : Nat) : (List.range (n + m)).map f = (List.range n).map f ++ (List.range m).map fun j => f (n + j) := by
  rw [List.range_add, List.map_append, List.map_map]
  rfl
theorem rowT_b0 (P : Lp) {k : Nat} (hk : k < P.m) : rowT P P.b0 k = (List.range P.many).map (P.a k) ++ ((List.range P.m).map (fun j => if k = j then (1 : Int) else 0) ++ [P.e k]) := by
  unfold rowT
  rw [show P.fin + 1 = P.many + (P.m + 1) from by unfold Lp.fin; omega, range_map_add]
  congr 1
  · refine List.map_congr_left fun c hc => ?_
    rw [P.T_b0 k c hk]
    unfold Lp.t
    rw [if_pos (List.mem_range.mp hc)]
  · rw [range_map_add _ P.m 1]
    congr 1
    · refine List.map_congr_left fun j hj => ?_
      have := List.mem_range.mp hj
      rw [P.T_b0 k _ hk]
      unfold Lp.t
      rw [if_neg (by omega), if_pos (by omega)]
      by_cases e : k = j
      · rw [if_pos e, if_pos (by omega)]
      · rw [if_neg e, if_neg (by omega)]
    · show [P.T P.b0 k (P.many + (P.m + 0))] = [P.e k]
      rw [P.T_b0 k _ hk]
      unfold Lp.t
      rw [if_neg (by omega), if_neg (by omega)]
section
variable {G : Gd} (B : Bl G.mg)
include B
def spTable (K : PySem.W.Frag) (C : Addr) : Sp := fun vs H Q _ => ∃ (g dx W Z : Addr) (P : Lp) (ws : List V), vs = [.ref g, .ref W, .ref Z, .int P.many] ∧ H g = some (.ins C dx []) ∧ H W = some (.lst ws) ∧ H Z = some (.lst ((List.range P.m).map fun k => V.int (P.e k))) ∧
  Paired (fun k v => ∃ r, v = .ref r ∧ H r = some (.lst (((List.range P.many).map (P.a k)).map V.int))) (List.range P.m) ws ∧ Bd63 P ∧
  ∀ H' RL BL xs, SameX g H H' → H RL = none → H BL = none → Tab C H' g P P.b0 P.m dx RL BL xs → Q .non H'
theorem body_Table {C : Addr} (bc : Bc G C) : Body G "Table.__init__" s_Table___init__ N_Table___init__ 0 (spTable G.K C) := by
  rintro fa cdv A outer s H vs Q E hr ⟨g, dx, W, Z, P, ws, rfl, hg, hW, hZ, prs, bd, cont⟩
  have S := sc_Table___init__
  refine ⟨_, (pss_cons (ps_fld (pv 0) (pe_lst pa_nil) rfl)
    (pss_cons (ps_fld (pv 0) (pv 3) rfl)
    (pss_cons (ps_fld (pv 0) pe_int rfl)
    (pss_cons (ps_fld (pv 0) (pe_lst pa_nil) rfl)
    (pss_one (ps_for PassesOwn.never rfl (pi_enum (by rfl) B.enumerate (pa_cons (pv 1) pa_nil)) (pg_tup (n := 2) (by rfl) (pgs_cons (pg_name (i := 4) S.nd rfl (by first | exact Or.inl rfl | exact Or.inr rfl)) (pgs_cons (pg_name (i := 5) S.nd rfl (by first | exact Or.inl rfl | exact Or.inr rfl)) pgs_nil))) (pss_cons (ps_setLc (i := 6) (own := [("k", 7)]) rfl S.nd rfl rfl (sw_true rfl rfl rfl (by decide +kernel)) (pi_range1 (by rfl) B.range (pa_cons (pe_callB call_len_seq rfl B.len (by decide +kernel) (pa_cons (pv 1) pa_nil)) pa_nil)) (blkOk_by (own := [("k", 7)]) (N := N_Table___init__) (sc := defScope s_Table___init__) (by decide +kernel)) (fun _ _ _ _ _ => (pg_name (i := 7) S.nd rfl (by first | exact Or.inl rfl | exact Or.inr rfl))) (fun _ _ _ _ _ => pts_nil) (fun _ _ _ _ _ => (pe_callTy call_int1 rfl B.int (by decide +kernel) (pa_cons (pe_cmpR op_eq (pv 4) (pv 7) (nomark _)) pa_nil))))
    (pss_cons (ps_expr (pe_bm PySem.F.plainAttrs_list PySem.F.slot_list_append PySem.F.type_list_append mt_append (pe_fld (pv 0) rfl) (pa_cons (pe_lst (StX.pa_star (pv 5) (StX.pa_star (pv 6) (pa_cons (pe_ix ix_list (pv 2) (pv 4) (fun _ _ => rfl)) pa_nil)))) pa_nil)))
    (pss_one (ps_expr (pe_bm PySem.F.plainAttrs_list PySem.F.slot_list_append PySem.F.type_list_append mt_append (pe_fld (pv 0) rfl) (pa_cons (pe_op op_add (pv 3) (pv 4)) pa_nil)))))))))))), ?_⟩
  have bm := bd.rows
  have bf := bd.few
  have fm : P.fin = P.many + P.m := rfl
  have lw : ws.length = P.m := by have := paired_len prs; simpa using this.symm
  refine ⟨few_line (Nat.zero_le _), fun RL hRL => ⟨_, rfl, g, C, dx, _, rfl, same_upd hRL _ _ hg, bc.cl, bc.rows, by show 0 < 1000; decide, ?_⟩⟩
  have nRL : RL ≠ g := fun e => by rw [e, hg] at hRL; cases hRL
  refine ⟨_, rfl, _, rfl, g, C, dx, _, rfl, upd_same, bc.cl, bc.many, by show 1 < 1000; decide, ?_⟩
  refine ⟨_, rfl, g, C, dx, _, rfl, upd_same, bc.cl, bc.under, by show 2 < 1000; decide, ?_⟩
  refine ⟨few_line (Nat.zero_le _), fun BL hBL => ⟨_, rfl, g, C, dx, _, rfl, same_upd hBL _ _ upd_same, bc.cl, bc.basis, by show 3 < 1000; decide, ?_⟩⟩
  have nBL : BL ≠ g := fun e => by rw [e, upd_same] at hBL; cases hBL
  have n2 : BL ≠ RL := fun e => by rw [e, upd_ne nRL, upd_ne nRL, upd_ne nRL, upd_same] at hBL; cases hBL
  have hBL0 : H BL = none := by rw [upd_ne nBL, upd_ne nBL, upd_ne nBL, upd_ne n2] at hBL; exact hBL
  have f1 : ∀ x o, H x = some o → x ≠ g → x ≠ RL ∧ x ≠ BL := fun x o hx _ => ⟨ne_of_none hx hRL, ne_of_none hx hBL0⟩
  have fr1 : ∀ x o, H x = some o → x ≠ g → (L2.upd (L2.upd (L2.upd (L2.upd (L2.upd (L2.upd H RL (.lst [])) g (.ins C dx [("rows", .ref RL)])) g (.ins C dx [("rows", .ref RL), ("many", .int P.many)])) g (.ins C dx [("rows", .ref RL), ("many", .int P.many), ("under", .int 1)])) BL (.lst [])) g (.ins C dx (tbFields RL P.many 1 BL))) x = some o := fun x o hx hn => by
    obtain ⟨a, b⟩ := f1 x o hx hn
    rw [upd_ne hn, upd_ne b, upd_ne hn, upd_ne hn, upd_ne hn, upd_ne a]
    exact hx
  have g1 : (L2.upd (L2.upd (L2.upd (L2.upd (L2.upd (L2.upd H RL (.lst [])) g (.ins C dx [("rows", .ref RL)])) g (.ins C dx [("rows", .ref RL), ("many", .int P.many)])) g (.ins C dx [("rows", .ref RL), ("many", .int P.many), ("under", .int 1)])) BL (.lst [])) g (.ins C dx (tbFields RL P.many 1 BL))) g = some (.ins C dx (tbFields RL P.many 1 BL)) := upd_same
  have r1 : (L2.upd (L2.upd (L2.upd (L2.upd (L2.upd (L2.upd H RL (.lst [])) g (.ins C dx [("rows", .ref RL)])) g (.ins C dx [("rows", .ref RL), ("many", .int P.many)])) g (.ins C dx [("rows", .ref RL), ("many", .int P.many), ("under", .int 1)])) BL (.lst [])) g (.ins C dx (tbFields RL P.many 1 BL))) RL = some (.lst []) := by rw [upd_ne nRL, upd_ne n2.symm, upd_ne nRL, upd_ne nRL, upd_ne nRL, upd_same]
  have b1 : (L2.upd (L2.upd (L2.upd (L2.upd (L2.upd (L2.upd H RL (.lst [])) g (.ins C dx [("rows", .ref RL)])) g (.ins C dx [("rows", .ref RL), ("many", .int P.many)])) g (.ins C dx [("rows", .ref RL), ("many", .int P.many), ("under", .int 1)])) BL (.lst [])) g (.ins C dx (tbFields RL P.many 1 BL))) BL = some (.lst []) := by rw [upd_ne nBL, upd_same]
  dsimp only
  show tFor _ _ _ _ _ (L2.upd (L2.upd (L2.upd (L2.upd (L2.upd (L2.upd H RL (.lst [])) g (.ins C dx [("rows", .ref RL)])) g (.ins C dx [("rows", .ref RL), ("many", .int P.many)])) g (.ins C dx [("rows", .ref RL), ("many", .int P.many), ("under", .int 1)])) BL (.lst [])) g (.ins C dx (tbFields RL P.many 1 BL)))
  generalize (L2.upd (L2.upd (L2.upd (L2.upd (L2.upd (L2.upd H RL (.lst [])) g (.ins C dx [("rows", .ref RL)])) g (.ins C dx [("rows", .ref RL), ("many", .int P.many)])) g (.ins C dx [("rows", .ref RL), ("many", .int P.many), ("under", .int 1)])) BL (.lst [])) g (.ins C dx (tbFields RL P.many 1 BL))) = H1 at fr1 g1 r1 b1
  have hW1 := fr1 _ _ hW (fun e => by rw [e, hg] at hW; cases hW)
  have nW : W ≠ g := fun e => by rw [e, hg] at hW; cases hW
  have nZ : Z ≠ g := fun e => by rw [e, hg] at hZ; cases hZ
  obtain ⟨nWR, nWB⟩ := f1 _ _ hW nW
  obtain ⟨nZR, nZB⟩ := f1 _ _ hZ nZ
  have gRL : g ≠ RL := nRL.symm
  have gBL : g ≠ BL := nBL.symm
  refine ⟨_, rfl, W, ws, rfl, SqL.of hW1, ?_⟩
  refine for_it (walk_enum (xs := ws)) (fun i σ H2 => (∀ x o, H x = some o → x ≠ g → H2 x = some o) ∧ H2 g = some (.ins C dx (tbFields RL P.many 1 BL)) ∧ H2 BL = some (.lst ((List.range i).map fun k => V.int ((P.b0 k : Nat) : Int))) ∧
    (∃ xs, H2 RL = some (.lst xs) ∧ Paired (fun k v => ∃ r, v = .ref r ∧ r ≠ RL ∧ r ≠ BL ∧ H2 r = some (.lst ((rowT P P.b0 k).map V.int))) (List.range i) xs) ∧ σ[0]? = some (some (.ref g)) ∧ σ[1]? = some (some (.ref W)) ∧ σ[2]? = some (some (.ref Z)) ∧ σ[3]? = some (some (.int P.many)) ∧ σ.length = 8)
    ⟨fr1, g1, b1, ⟨[], r1, .nil⟩, rfl, rfl, rfl, rfl, rfl⟩ (fun i σ H2 _ p => SqL.of (p.1 _ _ hW nW)) ?_ ?_
  · rintro i x σ H2 H3 hi ⟨fr2, g2, b2, ⟨xs, r2, pr2⟩, e0, e1, e2, e3, el⟩ ⟨TT, p, v, rfl, hT, rfl, ep, ev⟩
    obtain rfl := Option.some.inj ep
    obtain ⟨v0, v1, v2, v3, v4, v5, v6, v7, rfl⟩ : ∃ v0 v1 v2 v3 v4 v5 v6 v7, σ = [v0, v1, v2, v3, v4, v5, v6, v7] := by
      match σ, el with
      | [v0, v1, v2, v3, v4, v5, v6, v7], _ => exact ⟨v0, v1, v2, v3, v4, v5, v6, v7, rfl⟩
    cases e0; cases e1; cases e2; cases e3
    rw [lw] at hi
    obtain ⟨v', ev', R, rfl, hR⟩ := paired_get (i := i) (x := i) prs (by simp [hi])
    obtain rfl : v = .ref R := by have ev2 : ws[i]? = some v := ev; rw [ev'] at ev2; exact (Option.some.inj ev2).symm
    have nR : R ≠ g := fun e => by rw [e, hg] at hR; cases hR
    have s3 := same_upd (H := H2) (o := .tup [V.int (i : Nat), V.ref R]) hT
    have fr3 : ∀ x o, H x = some o → x ≠ g → _ = some o := fun x o a b => s3 _ _ (fr2 x o a b)
    refine ⟨TT, _, rfl, .inl (.inl upd_same), rfl, _, _, rfl, ?_⟩
    refine ⟨_, _, rfl, rfl, ?_⟩
    refine ⟨_, rfl, W, ws, rfl, .inl (SqL.of (fr3 _ _ hW nW)), _, rfl, by omega, by omega, fun D hD => ?_⟩
    rw [Int.toNat_natCast, lw]
    refine lc_map (walk_range (lo := 0)) (fun j y _ => y = .int (if i = j then 1 else 0)) (few_lt (by omega)) hD (fun _ _ => trivial) (fun _ _ _ _ _ _ _ h => h) ?_ ?_
    · rintro j x H4 H5 Qy hj s4 nd ⟨rfl, rfl⟩ cy
      rw [show ((fun i : Nat => V.int (0 + (i : Int))) j) = V.int (j : Int) from by simp]
      refine ⟨rfl, _, rfl, _, rfl, rfl, .inr ⟨_, rfl, cy _ _ (Same.refl _) ?_⟩⟩
      by_cases e : i = j
      · rw [if_pos e, decide_eq_true (by rw [e])]; rfl
      · rw [if_neg e, decide_eq_false (fun z => e (by have := V.int.inj z; omega))]; rfl
    intro H4 acc s4 hD4 hp4
    have ea := paired_map_eq (f := fun j : Nat => V.int (if i = j then 1 else 0)) hp4
    have s34 := s3.trans s4
    have fr4 : ∀ x o, H x = some o → x ≠ g → H4 x = some o := fun x o a b => s34 _ _ (fr2 x o a b)
    have r4 := s34 _ _ r2
    have b4 := s34 _ _ b2
    have g4 := s34 _ _ g2
    refine ⟨_, rfl, g, C, dx, _, _, rfl, g4, bc.cl, bc.rows, rfl, .inl ⟨rfl, _, SqL.of r4⟩, ?_⟩
    have hZ4 := fr4 _ _ hZ nZ
    have eZ : atI ((List.range P.m).map fun k => V.int (P.e k)) (i : Int) = some (V.int (P.e i)) := atI_nat (by simp [hi])
    refine ⟨_, rfl, R, _, rfl, .inr (SqL.of (fr4 _ _ hR nR)), _, rfl, D, _, rfl, .inr (SqL.of hD4), _, rfl, _, rfl, Z, _, i, _, rfl, rfl, SqL.of hZ4, eZ, ?_, fun N hN => ?_⟩
    · rw [ea]
      exact few_line (by simp; omega)
    have erow : ((List.range P.many).map (P.a i)).map V.int ++ (acc ++ [V.int (P.e i)]) = (rowT P P.b0 i).map V.int := by
      rw [rowT_b0 P hi, List.map_append, List.map_append, ea, List.map_map (l := List.range P.m)]
      rfl
    show ∃ l xs y, _
    have lxs : xs.length = i := by have := paired_len pr2; simpa using this.symm
    have nN : N ≠ g ∧ N ≠ RL ∧ N ≠ BL := ⟨fun e => (by rw [e, g4] at hN; cases hN), fun e => (by rw [e, r4] at hN; cases hN), fun e => (by rw [e, b4] at hN; cases hN)⟩
    refine ⟨RL, xs, _, rfl, rfl, by rw [upd_ne nN.2.1.symm]; exact r4, few_lt (by omega), ?_⟩
    refine ⟨_, rfl, g, C, dx, tbFields RL P.many 1 BL, .ref BL, rfl, by rw [upd_ne gRL, upd_ne nN.1.symm]; exact g4, bc.cl, bc.basis, rfl, .inl ⟨rfl, _, SqL.of (by rw [upd_ne n2, upd_ne nN.2.2.symm]; exact b4)⟩, ?_⟩
    refine ⟨_, rfl, _, rfl, _, _, rfl, rfl, BL, _, _, rfl, rfl, by rw [upd_ne n2, upd_ne nN.2.2.symm]; exact b4, few_lt (by simp; omega), ?_⟩
    refine ⟨fun x o hx hn => ?_, ?_, ?_, ⟨xs ++ [.ref N], ?_, ?_⟩, rfl, rfl, rfl, rfl, rfl⟩
    · obtain ⟨a, b⟩ := f1 x o hx hn
      rw [upd_ne b, upd_ne a, upd_ne (ne_of_none (fr4 x o hx hn) hN)]
      exact fr4 x o hx hn
    · rw [upd_ne gBL, upd_ne gRL, upd_ne nN.1.symm]; exact g4
    · rw [upd_same, List.range_succ, List.map_append]
      rfl
    · rw [upd_ne n2.symm, upd_same]
    · rw [List.range_succ]
      refine paired_snoc (Paired.mapP pr2 fun k v ⟨r, e, k1, k2, h⟩ => ⟨r, e, k1, k2, ?_⟩) ⟨N, rfl, nN.2.1, nN.2.2, ?_⟩
      · rw [upd_ne k2, upd_ne k1, upd_ne (ne_of_none (s34 _ _ h) hN)]
        exact s34 _ _ h
      · rw [upd_ne nN.2.2, upd_ne nN.2.1, upd_same, ← erow]
  · rintro σ H2 ⟨fr2, g2, b2, ⟨xs, r2, pr2⟩, -⟩
    rw [lw] at b2 pr2
    refine cont H2 RL BL xs fr2 hRL hBL0 ⟨?_, r2, pr2, b2, n2.symm⟩
    rw [P.U_b0]
    exact g2
end
end Mc
/-! The walk, 11: solved and barred. -/
namespace Mc
open PySem PySem.Spec PyProof.Rows L2
def scT : Scope := { kind := .function, names := [(".0", .local), ("at", .cell), ("row", .local), ("slacks", .cell)], isGenerator := false, isCoroutine := false }
abbrev N_table_of : List Str := ["rows", "sorts", "ends", "slacks", "wide", "many", "at", "sort", "row", "slack"]
abbrev P_table_of : List Str := ["rows", "sorts", "ends"]
theorem sc_table_of : FnScope N_table_of P_table_of (defScope s_table_of) := ⟨rfl, rfl, rfl, by decide +kernel, rfl, by decide +kernel, by decide +kernel⟩

abbrev N_gone_through : List Str := ["rows", "sorts", "table", "sort"]
abbrev P_gone_through : List Str := ["rows", "sorts"]
theorem sc_gone_through : FnScope N_gone_through P_gone_through (defScope s_gone_through) := ⟨rfl, rfl, rfl, by decide +kernel, rfl, by decide +kernel, by decide +kernel⟩

abbrev N_solved : List Str := ["rows", "sorts", "size", "table", "is_kept", "column"]
abbrev P_solved : List Str := ["rows", "sorts", "size"]
theorem sc_solved : FnScope N_solved P_solved (defScope s_solved) := ⟨rfl, rfl, rfl, by decide +kernel, rfl, by decide +kernel, by decide +kernel⟩

abbrev N_barred : List Str := ["rows", "sorts", "table", "is_kept", "costs", "at"]
abbrev P_barred : List Str := ["rows", "sorts"]
theorem sc_barred : FnScope N_barred P_barred (defScope s_barred) := ⟨rfl, rfl, rfl, by decide +kernel, rfl, by decide +kernel, by decide +kernel⟩

abbrev N_Table_helped : List Str := ["self", "sums", "column", "at", "one"]
abbrev P_Table_helped : List Str := ["self"]
theorem sc_Table_helped : FnScope N_Table_helped P_Table_helped (defScope s_Table_helped) := ⟨rfl, rfl, rfl, by decide +kernel, rfl, by decide +kernel, by decide +kernel⟩

/-- a sort by its word -/
def so (z : Str) : So := if z = "even" then .even else if z = "more" then .more else .least
theorem Bd63.x {P : Lp} (bd : Bd63 P) {b : Lp.B} (ok : P.Ok b) (c : Nat) : (P.x b c).natAbs < 2 ^ 63 := by
  by_cases h : ∃ k, k < P.m ∧ b k = c
  · obtain ⟨k, hk, e⟩ := h
    rw [← e, P.x_at ok hk]
    exact bd.T _ _ _
  · rw [P.x_none fun k hk e => h ⟨k, hk, e⟩]
    decide
theorem so_more (w : Str) : so w = .more ↔ w = "more" := by
  unfold so
  by_cases e : w = "even"
  · rw [if_pos e]
    subst e
    decide
  · rw [if_neg e]
    by_cases e2 : w = "more"
    · rw [if_pos e2]; exact ⟨fun _ => e2, fun _ => rfl⟩
    · rw [if_neg e2]; exact ⟨fun q => (by cases q), fun q => absurd q e2⟩
theorem so_even (w : Str) : so w = .even ↔ w = "even" := by
  unfold so
  by_cases e : w = "even"
  · rw [if_pos e]; exact ⟨fun _ => e, fun _ => rfl⟩
  · rw [if_neg e]
    refine ⟨fun q => ?_, fun q => absurd q e⟩
    split at q <;> cases q
/-- rows of numbers, each a list or a tuple -/
def RowsR (K : PySem.W.Frag) (H : Hp) (a : Addr) (m size : Nat) (R : Nat → Nat → Int) : Prop := ∃ xs, SqL K H a xs ∧ Paired (fun k v => ∃ r, v = .ref r ∧ (SqT K H r (((List.range size).map (R k)).map V.int) ∨ SqL K H r (((List.range size).map (R k)).map V.int))) (List.range m) xs
theorem RowsR.same {K : PySem.W.Frag} {H H' : Hp} {a : Addr} {m size : Nat} {R : Nat → Nat → Int} (r : RowsR K H a m size R) (s : Same H H') : RowsR K H' a m size R := by
  obtain ⟨xs, h, p⟩ := r
  exact ⟨xs, s.seq h, Paired.mapP p fun k v ⟨r, e, q⟩ => ⟨r, e, q.imp (fun z => s.tup z) fun z => s.seq z⟩⟩
section
variable {G : Gd} (B : Bl G.mg)
include B
/-- the search that rows and sorts give -/
abbrev lpS (size : Nat) (R : Nat → Nat → Int) (ss : List Str) : Lp := lpOf ss.length size R fun k => so (ss.getD k "")
def spTableOf (K : PySem.W.Frag) (C : Addr) : Sp := fun vs H Q _ => ∃ (a b z : Addr) (size : Nat) (R : Nat → Nat → Int) (ss : List Str), vs = [.ref a, .ref b, .ref z] ∧ RowsR K H a ss.length size R ∧ SqL K H b (ss.map V.str) ∧ H z = some (.lst ((List.range ss.length).map fun k => V.int ((lpS size R ss).e k))) ∧
  1 ≤ ss.length ∧ Bd63 (lpS size R ss) ∧ ∀ t dx RL BL xs H', Same H H' → H t = none → H RL = none → H BL = none → Tab C H' t (lpS size R ss) (lpS size R ss).b0 ss.length dx RL BL xs → Q (.ref t) H'
theorem ok_table_of {C : Addr} (g_Table : G.mg "Table" = some (.ref C)) (C_Table : CalC G 1 C P_Table___init__ [] (spTable G.K C)) (F : Df G "table_of" "table_of" s_table_of) : Cal G 3 "table_of" P_table_of (spTableOf G.K C) := by
  refine F.cal (N := N_table_of) sc_table_of (fun _ _ _ _ _ _ us hl => match us, hl with | [_, _, _], _ => rfl) (fun vs H Q E h => by obtain ⟨_, _, _, _, _, _, rfl, _⟩ := h; rfl) fun f cdv A outer s H vs Q E hr h => ?_
  obtain ⟨a, b, z, size, R, ss, rfl, ⟨rs, hrs, prs⟩, hb, hz, m1, bd, cont⟩ := h
  have S := sc_table_of
  refine ⟨_, (pss_cons (ps_set (i := 3) S.nd rfl (by first | exact Or.inl rfl | exact Or.inr rfl) (pe_lc (own := [("at", 6), ("sort", 7)]) rfl S.nd (pi_enum (by rfl) B.enumerate (pa_cons (pv 1) pa_nil)) (blkOk_by (own := [("at", 6), ("sort", 7)]) (N := N_table_of) (sc := defScope s_table_of) (by decide +kernel)) (fun _ _ _ _ _ => (pg_tupK G.K (by rfl) (n := 2) (by rfl) (pgs_cons (pg_name (i := 6) S.nd rfl (by first | exact Or.inl rfl | exact Or.inr rfl)) (pgs_cons (pg_name (i := 7) S.nd rfl (by first | exact Or.inl rfl | exact Or.inr rfl)) pgs_nil)))) (fun _ _ _ _ _ => pts_one (pt_cmpR op_ne (pv 7) pe_str (nomark _))) (fun _ _ _ _ _ => (pv 6))))
    (pss_cons (ps_setLc (i := 4) (own := [("at", 6), ("row", 8)]) rfl S.nd rfl rfl (sw_true rfl rfl rfl (by decide +kernel)) (pi_enum (by rfl) B.enumerate (pa_cons (pv 0) pa_nil)) (blkOk_by (own := [("at", 6), ("row", 8)]) (N := N_table_of) (sc := defScope s_table_of) (by decide +kernel)) (fun _ _ _ _ _ => (pg_tupK G.K (by rfl) (n := 2) (by rfl) (pgs_cons (pg_name (i := 6) S.nd rfl (by first | exact Or.inl rfl | exact Or.inr rfl)) (pgs_cons (pg_name (i := 8) S.nd rfl (by first | exact Or.inl rfl | exact Or.inr rfl)) pgs_nil)))) (fun _ _ _ _ _ => pts_nil) (fun _ _ _ _ _ => (pe_lst (pa_starK G.K (by rfl) (pv 8) (pa_starK G.K (by rfl) (pe_lc (own := [("slack", 9)]) rfl S.nd (pi_listK G.K (by rfl) (pv 3)) (blkOk_by (own := [("slack", 9)]) (N := N_table_of) (sc := scT) (by decide +kernel)) (fun _ _ _ _ _ => (pg_name (i := 9) S.nd rfl (by first | exact Or.inl rfl | exact Or.inr rfl))) (fun _ _ _ _ _ => pts_nil) (fun _ _ _ _ _ => (pe_un un_neg (pe_callTy call_int1 rfl B.int (by decide +kernel) (pa_cons (pe_cmpR op_eq (pv 6) (pv 9) (nomark _)) pa_nil))))) pa_nil)))))
    (pss_cons (ps_set (i := 5) S.nd rfl (by first | exact Or.inl rfl | exact Or.inr rfl) (pe_ifExp (pt_cmpR op_gt (pe_callB call_len_seq rfl B.len (by decide +kernel) (pa_cons (pv 4) pa_nil)) pe_int (nomark _)) (pe_callB call_len_seq rfl B.len (by decide +kernel) (pa_cons (pe_ix ix_list (pv 4) pe_int (fun _ _ => rfl)) pa_nil)) pe_int))
    (pss_one (ps_ret (pe_calc C_Table (hr.mono (by omega)) rfl g_Table (pa_cons (pv 4) (pa_cons (pv 2) (pa_cons (pv 5) pa_nil))))))))), ?_⟩
  let P := lpS size R ss
  let S' : Nat → So := fun k => so (ss.getD k "")
  have bm : ss.length + 1 ≤ 1000 := bd.rows
  have bf : P.fin + 1 ≤ 1000 := bd.few
  have fm : P.fin = (size + (slk ss.length S').length) + ss.length := rfl
  have lrs : rs.length = ss.length := by have := paired_len prs; simpa using this.symm
  refine ⟨_, rfl, b, _, rfl, hb, fun D1 hD1 => ?_⟩
  refine lc_sel (walk_enum (xs := ss.map V.str)) (fun k => decide (S' k ≠ .even)) (fun k y _ => y = .int (k : Nat)) (few_lt (by rw [List.length_map]; omega)) hD1 (fun H1 s1 => s1.seq hb) (fun _ _ _ _ _ _ _ h => h) ?_ ?_
  · rintro k x H1 H2 Qy Qn hk s1 nd ⟨T, p, v, rfl, hT, rfl, ep, ev⟩ cy cn
    obtain ⟨w, hw, rfl⟩ := strs_get ev
    obtain rfl := Option.some.inj ep
    have st := same_upd (o := .tup [V.int (k : Nat), V.str w]) hT
    have es : S' k = so w := by show so (ss.getD k "") = _; rw [List.getD_eq_getElem?_getD, hw]; rfl
    refine ⟨T, [V.int (k : Nat), V.str w], rfl, .inl (.inl upd_same), rfl, _, _, rfl, ?_⟩
    refine ⟨_, _, rfl, rfl, rfl, ?_⟩
    refine ⟨_, rfl, rfl, _, rfl, ite2 (fun c => ?_) fun c => ?_⟩
    · refine ⟨_, rfl, cy (decide_eq_true ?_) _ _ st rfl⟩
      rw [es]
      unfold so
      rw [if_neg fun e => by rw [e] at c; revert c; decide]
      split <;> decide
    · refine cn (decide_eq_false ?_) _ st
      have : w = "even" := by
        have c' : (!decide (V.str w = V.str "even")) = false := Bool.eq_false_iff.mpr c
        rw [Bool.not_eq_false'] at c'
        exact V.str.inj (of_decide_eq_true c')
      rw [es, this]
      exact fun n => n rfl
  intro H1 sl s1 hD1' hp1
  rw [List.length_map] at hp1
  have es := paired_map_eq (f := fun k : Nat => V.int (k : Nat)) hp1
  have es' : sl = (slk ss.length S').map fun k : Nat => V.int (k : Nat) := es
  have hrs1 := s1.seq hrs
  refine ⟨_, rfl, a, rs, rfl, hrs1, fun D2 hD2 => ?_⟩
  refine lc_map (walk_enum (xs := rs)) (fun k y H' => ∃ r, y = .ref r ∧ r ≠ D2 ∧ H' r = some (.lst (((List.range P.many).map (P.a k)).map V.int))) (few_lt (by omega)) hD2 (fun H2 s2 => s2.seq hrs1) ?_ ?_ ?_
  · rintro k y H2 H3 ys eD sx ⟨r, e, n, h⟩
    exact ⟨r, e, n, sx _ _ h n⟩
  · rintro k x H2 H3 Qy hk s2 nd ⟨T, p, v, rfl, hT, rfl, ep, ev⟩ cy
    obtain rfl := Option.some.inj ep
    rw [lrs] at hk
    obtain ⟨v', ev', r, rfl, hr0⟩ := paired_get (i := k) (x := k) prs (by simp [hk])
    obtain rfl : v = .ref r := by have ev2 : rs[k]? = some v := ev; rw [ev'] at ev2; exact (Option.some.inj ev2).symm
    have st := same_upd (o := .tup [V.int (k : Nat), V.ref r]) hT
    have s02 := s1.trans (s2.trans st)
    refine ⟨T, [V.int (k : Nat), V.ref r], rfl, .inl (.inl upd_same), rfl, _, _, rfl, ?_⟩
    refine ⟨_, _, rfl, rfl, rfl, ?_⟩
    have hDs := (s2.trans st) _ _ hD1'
    refine ⟨_, rfl, r, _, rfl, hr0.imp (fun q => s02.tup q) (fun q => s02.seq q), _, rfl, D1, rfl, ⟨_, SqL.of hDs⟩, fun D3 hD3 => ?_⟩
    refine lc_map (walk_list (xs := sl)) (fun j y _ => y = .int (if (slk ss.length S')[j]? = some k then -1 else 0)) (few_lt (by rw [es', List.length_map]; omega)) hD3 (fun H4 s4 => s4.seq (SqL.of hDs)) (fun _ _ _ _ _ _ _ h => h) ?_ ?_
    · rintro j x2 H4 H5 Qy2 hj s4 nd4 ⟨rfl, hx2⟩ cy2
      rw [es', List.getElem?_map] at hx2
      cases ej : (slk ss.length S')[j]? with
      | none => rw [ej] at hx2; cases hx2
      | some kj =>
        rw [ej] at hx2
        obtain rfl := Option.some.inj hx2
        refine ⟨rfl, _, rfl, _, rfl, rfl, .inr ⟨_, rfl, _, rfl, cy2 _ _ (Same.refl _) ?_⟩⟩
        show V.int (-(if decide (V.int ((k : Nat) : Int) = V.int ((kj : Nat) : Int)) = true then 1 else 0)) = _
        rw [ej]
        by_cases e : kj = k
        · rw [if_pos (decide_eq_true (by rw [e])), if_pos (by rw [e])]
        · rw [if_neg (fun q => e (by have := V.int.inj (of_decide_eq_true q); omega)), if_neg fun q => e (Option.some.inj q)]; rfl
    intro H4 acc s4 hD4 hp4
    have ea := paired_map_eq (f := fun j : Nat => V.int (if (slk ss.length S')[j]? = some k then -1 else 0)) hp4
    have lsl : sl.length = (slk ss.length S').length := by rw [es', List.length_map]
    rw [lsl] at ea
    have ew : ((List.range size).map (R k)).map V.int ++ (acc ++ []) = ((List.range P.many).map (P.a k)).map V.int := by
      rw [List.append_nil, ea, show P.many = size + (slk ss.length S').length from rfl, range_map_add, List.map_append]
      congr 1
      · congr 1
        exact List.map_congr_left fun c hc => by show _ = (if c < size then R k c else _); rw [if_pos (List.mem_range.mp hc)]
      · rw [List.map_map]
        refine List.map_congr_left fun j hj => ?_
        show V.int _ = V.int (if size + j < size then _ else if (slk ss.length S')[size + j - size]? = some k then -1 else 0)
        rw [if_neg (show ¬ size + j < size by omega), show size + j - size = j by omega]
    refine ⟨D3, acc, rfl, .inr (SqL.of hD4), few_line ?_, fun N hN => ?_⟩
    · rw [ew, List.length_map, List.length_map, List.length_range]; have : P.many = size + (slk ss.length S').length := rfl; omega
    · have nD : N ≠ D2 := fun e => by
        cases eD : H2 D2 with
        | none => exact nd eD
        | some o => have := (st.trans s4) _ _ eD; rw [← e, hN] at this; cases this
      exact cy _ _ (st.trans (s4.upd hN)) ⟨N, rfl, nD, by rw [upd_same, ew]⟩
  intro H2 ws s2 hD2' hp2
  rw [lrs] at hp2
  have lws : ws.length = ss.length := by have := paired_len hp2; simpa using this.symm
  have s12 := s1.trans s2
  have hD2'' : SqL G.K H2 D2 ws := SqL.of hD2'
  obtain ⟨v0, ev0, r0, rfl, n0, h0⟩ := paired_get (i := 0) (x := 0) hp2 (List.getElem?_range (by omega))
  refine ⟨_, rfl, D2, ws, rfl, .inl hD2'', _, _, rfl, rfl, _, rfl, iteP (decide_eq_true (by omega)) ?_⟩
  refine ⟨_, rfl, D2, ws, 0, _, rfl, rfl, hD2'', atI_nat (j := 0) ev0, r0, _, rfl, .inl (SqL.of h0), ?_⟩
  refine ⟨_, rfl, _, rfl, _, rfl, fun t dx ht hdx _ => ?_⟩
  have lm : (((List.range P.many).map (P.a 0)).map V.int).length = P.many := by rw [List.length_map, List.length_map, List.length_range]
  have sm' := same_mk (C := C) (fs := []) ht hdx
  refine ⟨t, dx, D2, z, P, ws, by rw [lm]; rfl, upd_same, sm' _ _ hD2', sm' _ _ (s12 _ _ hz), Paired.mapP hp2 fun k v ⟨r, e, _, h⟩ => ⟨r, e, sm' _ _ h⟩, bd, fun H' RL BL xs sx hRL hBL T => ⟨rfl, ?_⟩⟩
  have s' := s12.trans (same_made ht hdx sx)
  exact cont t dx RL BL xs H' s' (none_back s12 ht) (none_back (s12.trans sm') hRL) (none_back (s12.trans sm') hBL) T
def spHelped (C : Addr) : Sp := fun vs H Q _ => ∃ (t dx RL BL : Addr) (P : Lp) (xs : List V), vs = [.ref t] ∧ Tab C H t P P.b0 P.m dx RL BL xs ∧ 1 ≤ P.m ∧ P.m ≤ 6 ∧ Bd63 P ∧ ∀ D H', Same H H' → H D = none → H' D = some (.lst ((rowT P P.b0 P.m).map V.int)) → Q (.ref D) H'
/-- what is searched: rows, sorts -/
def Srch (K : PySem.W.Frag) (H : Hp) (a b : Addr) (size : Nat) (R : Nat → Nat → Int) (ss : List Str) : Prop := RowsR K H a ss.length size R ∧ SqL K H b (ss.map V.str) ∧ 1 ≤ ss.length ∧ ss.length ≤ 6 ∧ Bd63 (lpS size R ss)
theorem Srch.same {K : PySem.W.Frag} {H H' : Hp} {a b : Addr} {size : Nat} {R : Nat → Nat → Int} {ss : List Str} (h : Srch K H a b size R ss) (s : Same H H') : Srch K H' a b size R ss := ⟨h.1.same s, s.seq h.2.1, h.2.2⟩
def spGone (K : PySem.W.Frag) (C : Addr) : Sp := fun vs H Q _ => ∃ (a b : Addr) (size : Nat) (R : Nat → Nat → Int) (ss : List Str), vs = [.ref a, .ref b] ∧ Srch K H a b size R ss ∧
  ∀ p t bb dx RL BL xs H', Same H H' → H' p = some (.tup [.ref t, .bl (decide ((lpS size R ss).T bb ss.length (lpS size R ss).fin = 0))]) → Tab C H' t (lpS size R ss) bb (ss.length + 1) dx RL BL xs → (lpS size R ss).Ok bb → (lpS size R ss).Opt bb → Q (.ref p) H'
theorem ok_gone_through {C : Addr} (bc : Bc G C) (C_table_of : Cal G 3 "table_of" P_table_of (spTableOf G.K C)) (C_helped : CalM G 1 C "helped" P_Table_helped (spHelped C)) (C_lessened : CalM G 3 C "lessened" P_Table_lessened (spLessened C)) (F : Df G "gone_through" "gone_through" s_gone_through) : Cal G 4 "gone_through" P_gone_through (spGone G.K C) := by
  refine F.cal (N := N_gone_through) sc_gone_through (fun _ _ _ _ _ _ us hl => match us, hl with | [_, _], _ => rfl) (fun vs H Q E h => by obtain ⟨_, _, _, _, _, rfl, _⟩ := h; rfl) fun f cdv A outer s H vs Q E hr h => ?_
  obtain ⟨a, b, size, R, ss, rfl, ⟨hra, hb, m1, m6, bd⟩, cont⟩ := h
  have S := sc_gone_through
  refine ⟨_, (pss_cons (ps_set (i := 2) S.nd rfl (by first | exact Or.inl rfl | exact Or.inr rfl) (pe_cal (C_table_of.mono (by omega)) hr rfl (pa_cons (pv 0) (pa_cons (pv 1) (pa_cons (pe_lc (own := [("sort", 3)]) rfl S.nd (pi_list (pv 1)) (blkOk_by (own := [("sort", 3)]) (N := N_gone_through) (sc := defScope s_gone_through) (by decide +kernel)) (fun _ _ _ _ _ => (pg_name (i := 3) S.nd rfl (by first | exact Or.inl rfl | exact Or.inr rfl))) (fun _ _ _ _ _ => pts_nil) (fun _ _ _ _ _ => (pe_callTy call_int1 rfl B.int (by decide +kernel) (pa_cons (pe_cmpR op_eq (pv 3) pe_str (nomark _)) pa_nil)))) pa_nil)))))
    (pss_cons (ps_expr (pe_calm (C_lessened.mono (by omega)) bc.cl hr (pv 2) (pa_cons (pe_calm0 (C_helped.mono (by omega)) bc.cl hr (pv 2)) pa_nil)))
    (pss_one (ps_ret (pe_tup (pa_cons (pv 2) (pa_cons (pe_cmpR op_eq (pe_ix ix_list (pe_ix ix_list (pe_fld (pv 2) rfl) (pe_un un_neg pe_int) (fun _ _ => rfl)) (pe_un un_neg pe_int) (fun _ _ => rfl)) pe_int (nomark _)) pa_nil))))))), ?_⟩
  let P := lpS size R ss
  refine ⟨_, rfl, _, rfl, _, rfl, b, rfl, ⟨_, hb⟩, fun D hD => ?_⟩
  refine lc_map (walk_list (xs := ss.map V.str)) (fun k y _ => y = .int (P.e k)) (few_lt (by rw [List.length_map]; omega)) hD (fun H1 s1 => s1.seq hb) (fun _ _ _ _ _ _ _ h => h) ?_ ?_
  · rintro k x H1 H2 Qy hk s1 nd ⟨rfl, hx⟩ cy
    obtain ⟨w, hw, rfl⟩ := strs_get hx
    refine ⟨rfl, _, rfl, rfl, .inr ⟨_, rfl, cy _ _ (Same.refl _) ?_⟩⟩
    show V.int (if decide (V.str w = V.str "more") = true then 1 else 0) = V.int (if so (ss.getD k "") = .more then 1 else 0)
    rw [List.getD_eq_getElem?_getD, hw]
    show _ = V.int (if so w = .more then 1 else 0)
    by_cases e : w = "more"
    · rw [if_pos (decide_eq_true (by rw [e])), if_pos ((so_more w).mpr e)]
    · rw [if_neg (fun q => e (V.str.inj (of_decide_eq_true q))), if_neg fun q => e ((so_more w).mp q)]
  intro H1 es s1 hD1 hp1
  rw [List.length_map] at hp1
  have ee := paired_map_eq (f := fun k : Nat => V.int (P.e k)) hp1
  rw [ee] at hD1
  refine ⟨a, b, D, size, R, ss, rfl, hra.same s1, s1.seq hb, hD1, m1, bd, fun t dx RL BL xs H2 s2 ft fRL fBL T => ?_⟩
  refine ⟨_, rfl, t, dx, _, rfl, T.t, rfl, _, rfl, t, dx, _, rfl, T.t, rfl, t, dx, RL, BL, P, xs, rfl, T, m1, m6, bd, fun g H3 s3 fg hg => ?_⟩
  have T3 := T.same s3
  refine ⟨t, dx, RL, BL, g, P, P.b0, xs, rfl, T3, hg, fun e => (by rw [e, T.rl] at fg; cases fg), fun e => (by rw [e, T.bl] at fg; cases fg), bd, P.ok_b0, fun H4 bb RL4 xs4 fr T4 ok op => ?_⟩
  have s4 : Same H H4 := fun x o hx => fr x o (s3 _ _ (s2 _ _ (s1 _ _ hx))) (ne_of_none (s1 _ _ hx) ft) (ne_of_none (s1 _ _ hx) fBL) (ne_of_none (s1 _ _ hx) fRL)
  obtain ⟨Rm, xm, nm, mm, hRm⟩ := T4.row (k := ss.length) (Nat.lt_succ_self _)
  refine ⟨_, rfl, _, rfl, t, C, dx, _, _, rfl, T4.t, bc.cl, bc.rows, rfl, 1, rfl, RL4, xs4, -1, _, rfl, rfl, SqL.of T4.rl, atI_end xm T4.len, 1, rfl, Rm, _, -1, _, rfl, rfl, SqL.of hRm, at_end, rfl, few_line (by show 2 ≤ 1000; decide), fun p hp => ?_⟩
  refine cont p t bb dx RL4 BL xs4 _ (s4.upd hp) ?_ (T4.same (same_upd hp)) ok op
  rw [upd_same]
  congr 5
  exact decide_eq_decide.mpr ⟨fun q => V.int.inj q, fun q => congrArg V.int q⟩
def spSolved (K : PySem.W.Frag) : Sp := fun vs H Q _ => ∃ (a b : Addr) (size : Nat) (R : Nat → Nat → Int) (ss : List Str), vs = [.ref a, .ref b, .int size] ∧ Srch K H a b size R ss ∧
  (∀ y H', Same H H' → Bar ss.length size R (fun k => so (ss.getD k "")) y → Q .non H') ∧
  ∀ p (zs : List Int) H', Same H H' → H' p = some (.tup (zs.map V.int)) → zs.length = size → Kept ss.length size R (fun k => so (ss.getD k "")) (fun c => zs.getD c 0) → (∃ L : List Nat, L.length ≤ ss.length ∧ ∀ c, c < size → zs.getD c 0 ≠ 0 → c ∈ L) → (∀ z ∈ zs, z < 2 ^ 63) → Q (.ref p) H'
theorem ok_solved {C : Addr} (bc : Bc G C) (C_gone_through : Cal G 4 "gone_through" P_gone_through (spGone G.K C)) (C_held_at : CalM G 1 C "held_at" P_Table_held_at (spHeldAt C)) (C_lowest : Cal G 2 "lowest" P_lowest (spLowest G.K)) (F : Df G "solved" "solved" s_solved) : Cal G 5 "solved" P_solved (spSolved G.K) := by
  refine F.cal (N := N_solved) sc_solved (fun _ _ _ _ _ _ us hl => match us, hl with | [_, _, _], _ => rfl) (fun vs H Q E h => by obtain ⟨_, _, _, _, _, rfl, _⟩ := h; rfl) fun f cdv A outer s H vs Q E hr h => ?_
  obtain ⟨a, b, size, R, ss, rfl, sr, cn, cp⟩ := h
  have sr0 := sr
  obtain ⟨⟨rs, hrs, prs⟩, hb, m1, m6, bd⟩ := sr0
  have S := sc_solved
  refine ⟨_, (pss_cons (ps_if (pt_cmpR op_eq (pe_callB call_len_seq rfl B.len (by decide +kernel) (pa_cons (pv 0) pa_nil)) pe_int (nomark _)) (pss_one (ps_ret (pe_callTy call_tuple_of rfl B.tuple (by decide +kernel) (pa_cons (pe_op op_mul (pe_lst (pa_cons pe_int pa_nil)) (pv 2)) pa_nil)))) pss_nil)
    (pss_cons (ps_asg (pe_cal (C_gone_through.mono (by omega)) hr rfl (pa_cons (pv 0) (pa_cons (pv 1) pa_nil))) (pg_tup (n := 2) (by rfl) (pgs_cons (pg_name (i := 3) S.nd rfl (by first | exact Or.inl rfl | exact Or.inr rfl)) (pgs_cons (pg_name (i := 4) S.nd rfl (by first | exact Or.inl rfl | exact Or.inr rfl)) pgs_nil))))
    (pss_cons (ps_if (pt_not (pt_val (pv 4))) (pss_one (ps_ret pe_non)) pss_nil)
    (pss_one (ps_ret (pe_cal (C_lowest.mono (by omega)) hr rfl (pa_cons (pe_lc (own := [("column", 5)]) rfl S.nd (pi_range1 (by rfl) B.range (pa_cons (pv 2) pa_nil)) (blkOk_by (own := [("column", 5)]) (N := N_solved) (sc := defScope s_solved) (by decide +kernel)) (fun _ _ _ _ _ => (pg_name (i := 5) S.nd rfl (by first | exact Or.inl rfl | exact Or.inr rfl))) (fun _ _ _ _ _ => pts_nil) (fun _ _ _ _ _ => (pe_calm (C_held_at.mono (by omega)) bc.cl hr (pv 3) (pa_cons (pv 5) pa_nil)))) pa_nil))))))), ?_⟩
  let P := lpS size R ss
  have fm : P.fin = (size + (slk ss.length fun k => so (ss.getD k "")).length) + ss.length := rfl
  have bf : P.fin + 1 ≤ 1000 := bd.few
  have lrs : rs.length = ss.length := by have := paired_len prs; simpa using this.symm
  refine ⟨_, rfl, a, rs, rfl, .inl hrs, rfl, _, rfl, iteN ?_ ?_⟩
  · intro q
    have := V.int.inj (of_decide_eq_true q)
    omega
  refine ⟨_, rfl, _, rfl, a, b, size, R, ss, rfl, sr, fun p t bb dx RL BL xs H1 s1 hp T ok op => ?_⟩
  refine ⟨p, _, rfl, .inl (.inl hp), rfl, _, _, rfl, ?_⟩
  refine ⟨_, _, rfl, rfl, ?_⟩
  refine ⟨_, rfl, _, rfl, ite2 (fun c => ?_) fun c => ?_⟩
  · rw [Bool.not_eq_true', decide_eq_false_iff_not] at c
    exact cn _ H1 s1 (barred_bar ok op c)
  · rw [Bool.not_eq_true', decide_eq_false_iff_not, Classical.not_not] at c
    refine ⟨_, rfl, _, rfl, by omega, by omega, fun D hD => ?_⟩
    rw [Int.toNat_natCast]
    refine lc_map (walk_range (lo := 0)) (fun c y _ => y = .int (P.x bb c)) (few_lt (by omega)) hD (fun _ _ => trivial) (fun _ _ _ _ _ _ _ h => h) ?_ ?_
    · rintro c x H2 H3 Qy hc s2 nd ⟨rfl, rfl⟩ cy
      rw [show ((fun i : Nat => V.int (0 + (i : Int))) c) = V.int (c : Int) from by simp]
      have T2 := T.same s2
      exact ⟨rfl, _, rfl, t, dx, _, rfl, T2.t, rfl, _, rfl, t, dx, RL, BL, P, bb, c, xs, rfl, T2, bd, ok, fun H4 s4 => cy _ _ s4 rfl⟩
    intro H2 acc s2 hD2 hp2
    have ea := paired_map_eq (f := fun c : Nat => V.int (P.x bb c)) hp2
    let ns : List Int := (List.range size).map fun c => P.x bb c
    have en : acc = ns.map V.int := by rw [ea, List.map_map]; rfl
    rw [en] at hD2
    refine ⟨D, ns, rfl, SqL.of hD2, by simp [ns]; omega, fun n hn => ?_, fun p2 H3 s3 hp3 => ?_⟩
    · obtain ⟨c, _, rfl⟩ := List.mem_map.mp hn
      exact bd.x ok c
    · obtain ⟨g, gp, eg⟩ := lowL_scale ns
      have xs' : ∀ c, c < size → P.x bb c = g * (lowL ns).getD c 0 := fun c hc => by
        have h1 : ns[c]? = some (P.x bb c) := by simp [ns, hc]
        rw [eg, List.getElem?_map] at h1
        rw [List.getD_eq_getElem?_getD]
        cases e : (lowL ns)[c]? with
        | none => rw [e] at h1; cases h1
        | some z => rw [e] at h1; exact (Option.some.inj h1).symm
      have ll : (lowL ns).length = size := by simp [lowL, ns]
      have low : ∀ z ∈ lowL ns, z < 2 ^ 63 := fun z hz => by
        obtain ⟨c, hc⟩ := List.mem_iff_getElem?.mp hz
        have lc : c < size := by rw [← ll]; exact (List.getElem?_eq_some_iff.mp hc).1
        have h1 := xs' c lc
        rw [List.getD_eq_getElem?_getD, hc] at h1
        have h2 := bd.x ok c
        rw [show (lpS size R ss).x bb c = g * z from h1, Int.natAbs_mul] at h2
        have h3 : z.natAbs ≤ g.natAbs * z.natAbs := Nat.le_mul_of_pos_left _ (by omega)
        omega
      refine cp p2 (lowL ns) H3 (s1.trans (s2.trans s3)) hp3 ll ((solved_kept ok c).scale gp xs') ⟨(List.range ss.length).map bb, by simp, fun c hc nz => ?_⟩ low
      obtain ⟨k, hk, e⟩ := few (m := ss.length) (size := size) (R := R) (S := fun k => so (ss.getD k "")) (b := bb) c (fun z => nz (by
        have h := xs' c hc
        rw [show P.x bb c = 0 from z] at h
        rcases Int.mul_eq_zero.mp h.symm with q | q
        · omega
        · exact q))
      exact List.mem_map.mpr ⟨k, List.mem_range.mpr hk, e⟩
def spBarred (K : PySem.W.Frag) : Sp := fun vs H Q _ => ∃ (a b : Addr) (size : Nat) (R : Nat → Nat → Int) (ss : List Str), vs = [.ref a, .ref b] ∧ Srch K H a b size R ss ∧
  (∀ x H', Same H H' → Kept ss.length size R (fun k => so (ss.getD k "")) x → Q .non H') ∧
  ∀ p (zs : List Int) H', Same H H' → H' p = some (.tup (zs.map V.int)) → zs.length = ss.length → Bar ss.length size R (fun k => so (ss.getD k "")) (fun c => zs.getD c 0) → Q (.ref p) H'
theorem ok_barred {C : Addr} (bc : Bc G C) (C_gone_through : Cal G 4 "gone_through" P_gone_through (spGone G.K C)) (C_lowest : Cal G 2 "lowest" P_lowest (spLowest G.K)) (F : Df G "barred" "barred" s_barred) : Cal G 5 "barred" P_barred (spBarred G.K) := by
  refine F.cal (N := N_barred) sc_barred (fun _ _ _ _ _ _ us hl => match us, hl with | [_, _], _ => rfl) (fun vs H Q E h => by obtain ⟨_, _, _, _, _, rfl, _⟩ := h; rfl) fun f cdv A outer s H vs Q E hr h => ?_
  obtain ⟨a, b, size, R, ss, rfl, sr, cn, cp⟩ := h
  have sr0 := sr
  obtain ⟨⟨rs, hrs, prs⟩, hb, m1, m6, bd⟩ := sr0
  have S := sc_barred
  refine ⟨_, (pss_cons (ps_if (pt_cmpR op_eq (pe_callB call_len_seq rfl B.len (by decide +kernel) (pa_cons (pv 0) pa_nil)) pe_int (nomark _)) (pss_one (ps_ret pe_non)) pss_nil)
    (pss_cons (ps_asg (pe_cal (C_gone_through.mono (by omega)) hr rfl (pa_cons (pv 0) (pa_cons (pv 1) pa_nil))) (pg_tup (n := 2) (by rfl) (pgs_cons (pg_name (i := 2) S.nd rfl (by first | exact Or.inl rfl | exact Or.inr rfl)) (pgs_cons (pg_name (i := 3) S.nd rfl (by first | exact Or.inl rfl | exact Or.inr rfl)) pgs_nil))))
    (pss_cons (ps_if (pt_val (pv 3)) (pss_one (ps_ret pe_non)) pss_nil)
    (pss_cons (ps_set (i := 4) S.nd rfl (by first | exact Or.inl rfl | exact Or.inr rfl) (pe_ix ix_list (pe_fld (pv 2) rfl) (pe_un un_neg pe_int) (fun _ _ => rfl)))
    (pss_one (ps_ret (pe_cal (C_lowest.mono (by omega)) hr rfl (pa_cons (pe_lc (own := [("at", 5)]) rfl S.nd (pi_range1 (by rfl) B.range (pa_cons (pe_callB call_len_seq rfl B.len (by decide +kernel) (pa_cons (pv 0) pa_nil)) pa_nil)) (blkOk_by (own := [("at", 5)]) (N := N_barred) (sc := defScope s_barred) (by decide +kernel)) (fun _ _ _ _ _ => (pg_name (i := 5) S.nd rfl (by first | exact Or.inl rfl | exact Or.inr rfl))) (fun _ _ _ _ _ => pts_nil) (fun _ _ _ _ _ => (pe_op op_sub (pe_fldK G.K (by rfl) (pv 2) rfl) (pe_ix (ix_listK G.K (by rfl)) (pv 4) (pe_op op_add (pe_fldK G.K (by rfl) (pv 2) rfl) (pv 5)) (fun _ _ => rfl))))) pa_nil)))))))), ?_⟩
  let P := lpS size R ss
  have fm : P.fin = P.many + ss.length := rfl
  have bf : P.fin + 1 ≤ 1000 := bd.few
  have lrs : rs.length = ss.length := by have := paired_len prs; simpa using this.symm
  refine ⟨_, rfl, a, rs, rfl, .inl hrs, rfl, _, rfl, iteN ?_ ?_⟩
  · intro q
    have := V.int.inj (of_decide_eq_true q)
    omega
  refine ⟨_, rfl, _, rfl, a, b, size, R, ss, rfl, sr, fun p t bb dx RL BL xs H1 s1 hp T ok op => ?_⟩
  refine ⟨p, _, rfl, .inl (.inl hp), rfl, _, _, rfl, ?_⟩
  refine ⟨_, _, rfl, rfl, ?_⟩
  refine ⟨_, rfl, _, rfl, ite2 (fun c => ?_) fun c => ?_⟩
  · exact cn _ H1 s1 (solved_kept ok (of_decide_eq_true c))
  · have c' : P.T bb ss.length P.fin ≠ 0 := fun q => c (decide_eq_true q)
    obtain ⟨Rm, xm, nm, mm, hRm⟩ := T.row (k := ss.length) (Nat.lt_succ_self _)
    refine ⟨_, rfl, t, C, dx, _, _, rfl, T.t, bc.cl, bc.rows, rfl, 1, rfl, RL, xs, -1, _, rfl, rfl, SqL.of T.rl, atI_end xm T.len, ?_⟩
    refine ⟨_, rfl, a, rs, rfl, .inl (s1.seq hrs), _, rfl, by omega, by omega, fun D hD => ?_⟩
    rw [lrs, Int.toNat_natCast]
    refine lc_map (walk_range (lo := 0)) (fun c y _ => y = .int (P.y bb c)) (few_lt (by omega)) hD (fun _ _ => trivial) (fun _ _ _ _ _ _ _ h => h) ?_ ?_
    · rintro c x H2 H3 Qy hc s2 nd ⟨rfl, rfl⟩ cy
      rw [show ((fun i : Nat => V.int (0 + (i : Int))) c) = V.int (c : Int) from by simp]
      have T2 := T.same s2
      refine ⟨rfl, _, rfl, t, C, dx, _, _, rfl, T2.t, bc.cl, bc.under, rfl, _, rfl, _, rfl, t, C, dx, _, _, rfl, T2.t, bc.cl, bc.many, rfl, _, rfl, _, _, rfl, rfl, Rm, _, _, .int (P.T bb ss.length (P.many + c)), rfl, rfl, SqL.of (s2 _ _ hRm), ?_, _, _, rfl, rfl, cy _ _ (Same.refl _) ?_⟩
      · have := at_T (P := P) (b := bb) (k := ss.length) (c := P.many + c) (by omega)
        rw [Int.natCast_add] at this
        exact this
      · rfl
    intro H2 acc s2 hD2 hp2
    have ea := paired_map_eq (f := fun c : Nat => V.int (P.y bb c)) hp2
    let ns : List Int := (List.range ss.length).map fun c => P.y bb c
    have en : acc = ns.map V.int := by rw [ea, List.map_map]; rfl
    rw [en] at hD2
    refine ⟨D, ns, rfl, SqL.of hD2, by simp [ns]; omega, fun n hn => ?_, fun p2 H3 s3 hp3 => ?_⟩
    · obtain ⟨c, _, rfl⟩ := List.mem_map.mp hn
      exact bd.y bb ss.length (P.many + c)
    · obtain ⟨g, gp, eg⟩ := lowL_scale ns
      have xs' : ∀ c, c < ss.length → P.y bb c = g * (lowL ns).getD c 0 := fun c hc => by
        have h1 : ns[c]? = some (P.y bb c) := by simp [ns, hc]
        rw [eg, List.getElem?_map] at h1
        rw [List.getD_eq_getElem?_getD]
        cases e : (lowL ns)[c]? with
        | none => rw [e] at h1; cases h1
        | some z => rw [e] at h1; exact (Option.some.inj h1).symm
      have ll : (lowL ns).length = ss.length := by simp [lowL, ns]
      exact cp p2 (lowL ns) H3 (s1.trans (s2.trans s3)) hp3 ll ((barred_bar ok op c').scale gp xs')
end
end Mc
/-! The walk, 12: deciding: names, rows, sorts. -/
namespace Mc
open PySem PySem.Spec PyProof.Rows L2
abbrev N_names_of_2 : List Str := ["things", "thing", "name"]
abbrev P_names_of_2 : List Str := ["things"]
theorem sc_names_of_2 : FnScope N_names_of_2 P_names_of_2 (defScope s_names_of_2) := ⟨rfl, rfl, rfl, by decide +kernel, rfl, by decide +kernel, by decide +kernel⟩

abbrev N_rows_of_2 : List Str := ["claims", "names", "claim"]
abbrev P_rows_of_2 : List Str := ["claims", "names"]
theorem sc_rows_of_2 : FnScope N_rows_of_2 P_rows_of_2 (defScope s_rows_of_2) := ⟨rfl, rfl, rfl, by decide +kernel, rfl, by decide +kernel, by decide +kernel⟩

abbrev N_sorts_of : List Str := ["claims", "claim"]
abbrev P_sorts_of : List Str := ["claims"]
theorem sc_sorts_of : FnScope N_sorts_of P_sorts_of (defScope s_sorts_of) := ⟨rfl, rfl, rfl, by decide +kernel, rfl, by decide +kernel, by decide +kernel⟩

section
variable {G : Gd} (B : Bl G.mg)
include B
def spNames2 (K : PySem.W.Frag) : Sp := fun vs H Q _ => ∃ (a : Addr) (zss : List (List Str)) (xs : List V), vs = [.ref a] ∧ SqL K H a xs ∧ Paired (NRep K H) zss xs ∧ zss.flatten.length < 60 ∧ zss.length < 1000 ∧
  ∀ p ys H', Same H H' → Asc zss.flatten ys → NT H' p ys → Q (.ref p) H'
theorem ok_names_of_2 {y : Str} (F : Df G y "names_of" s_names_of_2) : Cal G 1 y P_names_of_2 (spNames2 G.K) := by
  refine F.cal (N := N_names_of_2) sc_names_of_2 (fun _ _ _ _ _ _ us hl => match us, hl with | [_], _ => rfl) (fun vs H Q E h => by obtain ⟨_, _, _, rfl, _⟩ := h; rfl) fun f cdv A outer s H vs Q E hr h => ?_
  obtain ⟨a, zss, xs, rfl, ha, prs, few, few2, cont⟩ := h
  have S := sc_names_of_2
  have hu := hr.units
  refine ⟨_, (pss_one (ps_ret (pe_callTy call_tuple_frz rfl B.tuple (by decide +kernel) (pa_cons (pe_callB (cr_sortSet rfl) rfl B.sorted (by decide +kernel) (pa_cons (pe_callTy (cr_setOf rfl hu) rfl B.set (by decide +kernel) (pa_cons (pe_lc2 (own := [("thing", 1), ("name", 2)]) (vs1 := [2]) rfl S.nd (pi_seq G.K (by rfl) (pv 0) mono_var) (blkOk_by (own := [("thing", 1), ("name", 2)]) (N := N_names_of_2) (sc := defScope s_names_of_2) (by decide +kernel)) (by decide) (fun _ _ _ _ _ => (pg_name (i := 1) S.nd rfl (by first | exact Or.inl rfl | exact Or.inr rfl))) (fun _ _ _ _ _ => pts_nil) (fun _ _ _ _ _ => (pi_tupK G.K (by rfl) (pe_fldK G.K (by rfl) (pv 1) rfl))) (fun _ _ _ _ _ => (pg_name (i := 2) S.nd rfl (by first | exact Or.inl rfl | exact Or.inr rfl))) (fun _ _ _ _ _ => pts_nil) (fun _ _ _ _ _ => (pe_callTy SkE.call_str_str rfl B.str (by decide +kernel) (pa_cons (pv 2) pa_nil)))) pa_nil)) pa_nil)) pa_nil)))), ?_⟩
  have lx : xs.length = zss.length := (paired_len prs).symm
  let m : Nat → Nat := fun i => (zss.getD i []).length
  have bnd : ∀ k, k ≤ xs.length → ((List.range k).map m).sum < sizeLine := fun k hk => by
    have e : ((List.range k).map m).sum = (zss.take k).flatten.length := by
      rw [List.length_flatten]
      congr 1
      refine List.ext_getElem (by simp; omega) fun i h1 h2 => ?_
      simp at h1 h2 ⊢
      simp [m, List.getElem?_eq_getElem (show i < zss.length by omega)]
    have : (zss.take k).flatten.length ≤ zss.flatten.length := by
      rw [List.length_flatten, List.length_flatten, List.map_take]
      exact sum_take _ _
    rw [e, sizeLine_eq]
    omega
  refine ⟨_, rfl, a, xs, rfl, .inl ha, fun J Gp w _ hg D hD => ?_⟩
  refine lc2_flat w m (fun i j y _ => y = .str ((zss.getD i []).getD j "")) bnd hD hg (fun _ _ _ _ _ _ _ _ h => h) ?_ fun H1 acc s1 hD1 pr => ?_
  · rintro i x H1 H2 C hi s1 nd ⟨rfl, hx⟩ c
    obtain ⟨zs, hz, b, Cl, dx, na, fs, rfl, hb, cl, no, lk, hna⟩ := paired_get (paired_flip prs) hx
    have ez : zss.getD i [] = zs := by rw [List.getD_eq_getElem?_getD, hz]; rfl
    have hna1 := s1.tup hna
    refine ⟨rfl, _, rfl, b, Cl, dx, fs, _, rfl, s1 _ _ hb, cl, no, lk, na, rfl, ⟨_, hna1⟩, ?_⟩
    refine c _ _ _ (fun H => SqT G.K H na (zs.map V.str)) (YAt (zs.map V.str)) (Same.refl _) ?_ (fun H5 sx => (same_x hD s1 sx).tup hna) ?_
    · have : m i = (zs.map V.str).length := by rw [List.length_map]; exact congrArg _ ez
      rw [this]
      exact walk_tup
    · rintro j x1 H5 H6 Qy hj sx s5 nd5 ⟨rfl, hx1⟩ cy
      obtain ⟨z, hz1, rfl⟩ := strs_get hx1
      refine ⟨rfl, _, rfl, z, rfl, cy _ _ (Same.refl _) ?_⟩
      rw [ez, List.getD_eq_getElem?_getD, hz1]
      rfl
  · have e : acc = zss.flatten.map V.str := by
      rw [paired_map_eq (f := fun (ij : Nat × Nat) => V.str ((zss.getD ij.1 []).getD ij.2 "")) pr, lx, flat_get ("" : Str) zss, List.map_map]
      rfl
    rw [e] at hD1
    refine ⟨D, zss.flatten, rfl, SqL.of hD1, few, fun p l hp hl nd => ?_⟩
    refine ⟨p, l, rfl, upd_same, fun ys q pm so hq => ?_⟩
    refine ⟨q, _, rfl, SqL.of upd_same, fun r o od hr' => ?_⟩
    exact cont r ys _ (s1.trans ((same_upd hp).trans ((same_upd hq).trans (same_upd hr')))) ⟨so, pm.nodup_iff.mpr nd, fun k => by rw [pm.mem_iff, hl k]⟩ ⟨o, od, upd_same⟩
/-- the claims' rows over the kinds of ys -/
def rowsC (ys : List Str) (cs : List Cf) : Nat → Nat → Int := fun i k => wt (inK ys k) (cs.getD i ("", [])).2
/-- a list of claims -/
def CsR (C CT CC : Addr) (K : PySem.W.Frag) (H : Hp) (a : Addr) (cs : List Cf) : Prop := ∃ xs, SqL K H a xs ∧ Paired (CRep C CT CC H) cs xs
omit B in
theorem CsR.same {C CT CC : Addr} {K : PySem.W.Frag} {H H' : Hp} {a : Addr} {cs : List Cf} (h : CsR C CT CC K H a cs) (s : Same H H') : CsR C CT CC K H' a cs := by
  obtain ⟨xs, h, p⟩ := h
  exact ⟨xs, s.seq h, Paired.mapP p fun _ _ r => r.mono s.i⟩
/-- what the claims are made of -/
def Made (d : Nat) (ys : List Str) (cs : List Cf) : Prop := ∀ c ∈ cs, c.2.length ≤ 9 ∧ ∀ t ∈ c.2, Good ys t.2 ∧ depth t.2 < d
def spRowsOf (C CT CC : Addr) (K : PySem.W.Frag) (d : Nat) : Sp := fun vs H Q _ => ∃ (a n : Addr) (cs : List Cf) (ys : List Str), vs = [.ref a, .ref n] ∧ CsR C CT CC K H a cs ∧ cs.length ≤ 6 ∧ NT H n ys ∧ ys.Nodup ∧ ys.length ≤ 10 ∧ Made d ys cs ∧
  ∀ p H', Same H H' → RowsR K H' p cs.length (2 ^ ys.length) (rowsC ys cs) → (∃ xs, H' p = some (.lst xs)) → Q (.ref p) H'
theorem ok_rows_of_2 {y : Str} {C CT CC : Addr} {d : Nat} (kc : Kc G CC) (C_row_of : Cal G (d + 3) "row_of" P_row_of (spRow C CT d)) (F : Df G y "rows_of" s_rows_of_2) : Cal G (d + 4) y P_rows_of_2 (spRowsOf C CT CC G.K d) := by
  refine F.cal (N := N_rows_of_2) sc_rows_of_2 (fun _ _ _ _ _ _ us hl => match us, hl with | [_, _], _ => rfl) (fun vs H Q E h => by obtain ⟨_, _, _, _, rfl, _⟩ := h; rfl) fun f cdv A outer s H vs Q E hr h => ?_
  obtain ⟨a, n, cs, ys, rfl, ⟨xs, ha, prs⟩, few, nt, nd, small, made, cont⟩ := h
  have S := sc_rows_of_2
  refine ⟨_, (pss_one (ps_ret (pe_lc (own := [("claim", 2)]) rfl S.nd (pi_list (pv 0)) (blkOk_by (own := [("claim", 2)]) (N := N_rows_of_2) (sc := defScope s_rows_of_2) (by decide +kernel)) (fun _ _ _ _ _ => (pg_name (i := 2) S.nd rfl (by first | exact Or.inl rfl | exact Or.inr rfl))) (fun _ _ _ _ _ => pts_nil) (fun _ _ _ _ _ => (pe_cal (C_row_of.mono (by omega)) hr rfl (pa_cons (pe_fldK G.K (by rfl) (pv 2) rfl) (pa_cons (pv 1) pa_nil))))))), ?_⟩
  have lx := paired_len prs
  refine ⟨_, rfl, a, rfl, ⟨_, ha⟩, fun D hD => ?_⟩
  refine lc_map (walk_list (xs := xs)) (fun i y H' => ∃ r, y = .ref r ∧ H' r = some (.tup (((List.range (2 ^ ys.length)).map (rowsC ys cs i)).map V.int))) (few_lt (by omega)) hD (fun H1 s1 => s1.seq ha) ?_ ?_ ?_
  · rintro i y H1 H2 zs eD sx ⟨r, e, h⟩
    exact ⟨r, e, sx _ _ h fun z => by rw [z, eD] at h; cases h⟩
  · rintro i x H1 H2 Qy hi s1 nd1 ⟨rfl, hx⟩ cy
    obtain ⟨c, hc, rc⟩ := paired_get (paired_flip prs) hx
    obtain ⟨b, dx, na, sa, tv, nms, scr, rfl, hb, ht, -⟩ := rc.mono s1.i
    have md := made c (List.mem_of_getElem? hc)
    refine ⟨rfl, _, rfl, b, CC, dx, _, _, rfl, hb, kc.cl, kc.tally, rfl, _, rfl, c.2, tv, n, ys, rfl, ht, nt.same s1, nd, small, md.2, by omega, fun p H3 s3 hp => ?_⟩
    refine cy _ _ s3 ⟨p, rfl, ?_⟩
    rw [hp]
    congr 3
    unfold rowL rowsC
    rw [List.getD_eq_getElem?_getD, hc]
    rfl
  · intro H1 acc s1 hD1 hp
    refine cont D H1 s1 ⟨acc, SqL.of hD1, ?_⟩ ⟨acc, hD1⟩
    rw [lx]
    exact Paired.mapP hp fun i v ⟨r, e, h⟩ => ⟨r, e, .inl (.inl (.inl h))⟩
def spSortsOf (C CT CC : Addr) (K : PySem.W.Frag) : Sp := fun vs H Q _ => ∃ (a : Addr) (cs : List Cf), vs = [.ref a] ∧ CsR C CT CC K H a cs ∧ cs.length ≤ 6 ∧ ∀ p H', Same H H' → H' p = some (.lst ((cs.map (·.1)).map V.str)) → Q (.ref p) H'
theorem ok_sorts_of {C CT CC : Addr} (kc : Kc G CC) (F : Df G "sorts_of" "sorts_of" s_sorts_of) : Cal G 1 "sorts_of" P_sorts_of (spSortsOf C CT CC G.K) := by
  refine F.cal (N := N_sorts_of) sc_sorts_of (fun _ _ _ _ _ _ us hl => match us, hl with | [_], _ => rfl) (fun vs H Q E h => by obtain ⟨_, _, rfl, _⟩ := h; rfl) fun f cdv A outer s H vs Q E hr h => ?_
  obtain ⟨a, cs, rfl, ⟨xs, ha, prs⟩, few, cont⟩ := h
  have S := sc_sorts_of
  refine ⟨_, (pss_one (ps_ret (pe_lc (own := [("claim", 1)]) rfl S.nd (pi_list (pv 0)) (blkOk_by (own := [("claim", 1)]) (N := N_sorts_of) (sc := defScope s_sorts_of) (by decide +kernel)) (fun _ _ _ _ _ => (pg_name (i := 1) S.nd rfl (by first | exact Or.inl rfl | exact Or.inr rfl))) (fun _ _ _ _ _ => pts_nil) (fun _ _ _ _ _ => (pe_fldK G.K (by rfl) (pv 1) rfl))))), ?_⟩
  have lx := paired_len prs
  refine ⟨_, rfl, a, rfl, ⟨_, ha⟩, fun D hD => ?_⟩
  refine lc_map (walk_list (xs := xs)) (fun i y _ => ∃ c, cs[i]? = some c ∧ y = .str c.1) (few_lt (by omega)) hD (fun H1 s1 => s1.seq ha) (fun _ _ _ _ _ _ _ h => h) ?_ ?_
  · rintro i x H1 H2 Qy hi s1 nd1 ⟨rfl, hx⟩ cy
    obtain ⟨c, hc, rc⟩ := paired_get (paired_flip prs) hx
    obtain ⟨b, dx, na, sa, tv, nms, scr, rfl, hb, ht, -⟩ := rc.mono s1.i
    exact ⟨rfl, _, rfl, b, CC, dx, _, _, rfl, hb, kc.cl, kc.word, rfl, cy _ _ (Same.refl _) ⟨c, hc, rfl⟩⟩
  · intro H1 acc s1 hD1 hp
    have ea : acc = (cs.map (·.1)).map V.str := by
      rw [← lx] at hp
      rw [paired_map_eq (f := fun c : Cf => V.str c.1) (paired_range hp), List.map_map]
      rfl
    rw [ea] at hD1
    exact cont D H1 s1 hD1
end
end Mc
/-! The walk, 13: claims at large: their names, whether they can be, what bars them. -/
namespace Mc
open PySem PySem.Spec PyProof.Rows L2
/-! ### plain -/
mutual
theorem good_words {ws : List Str} : ∀ (f : Gf), Good ws f → ∀ w ∈ wordsF f, w ∈ ws
  | .mk s w n ps, h, u, hu => by
    rw [wordsF] at hu
    by_cases e : s = "name"
    · rw [if_pos e] at hu
      rw [List.mem_singleton.mp hu]
      exact h.2.1 e
    · rw [if_neg e] at hu
      exact goods_words ps h.2.2.2.2 u hu
theorem goods_words {ws : List Str} : ∀ (fs : List Gf), Goods ws fs → ∀ w ∈ wordsFs fs, w ∈ ws
  | [], _, _, h => by cases h
  | f :: fs, h, u, hu => by
    rw [wordsFs, List.mem_append] at hu
    rcases hu with hu | hu
    · exact good_words f h.1 u hu
    · exact goods_words fs h.2 u hu
end
mutual
theorem Good.to {ws ys : List Str} : ∀ (f : Gf), Good ws f → (∀ w ∈ wordsF f, w ∈ ys) → Good ys f
  | .mk s w n ps, h, k => by
    refine ⟨h.1, fun e => k w ?_, h.2.2.1, h.2.2.2.1, ?_⟩
    · rw [wordsF, if_pos e]; exact List.mem_singleton.mpr rfl
    · by_cases e : s = "name"
      · have hp : ps = [] := by
          rcases h.1 with ⟨_, l⟩ | ⟨z, _⟩ | ⟨z, _⟩ | ⟨z, _⟩ | ⟨z, _⟩ | ⟨z, _⟩ | ⟨z, _⟩ | ⟨z, _⟩ | ⟨z, _⟩
          · exact List.eq_nil_of_length_eq_zero l
          all_goals (rw [e] at z; exact absurd z (by decide))
        rw [hp]
        exact trivial
      · rw [wordsF, if_neg e] at k
        exact Goods.to ps h.2.2.2.2 k
theorem Goods.to {ws ys : List Str} : ∀ (fs : List Gf), Goods ws fs → (∀ w ∈ wordsFs fs, w ∈ ys) → Goods ys fs
  | [], _, _ => trivial
  | f :: fs, h, k => by
    rw [wordsFs] at k
    exact ⟨Good.to f h.1 fun w hw => k w (List.mem_append_left _ hw), Goods.to fs h.2 fun w hw => k w (List.mem_append_right _ hw)⟩
end
/-- claims that are searched: few, of the words ws, of small numbers -/
structure CsOk (d : Nat) (ws : List Str) (cs : List Cf) : Prop where
  one : 1 ≤ cs.length
  six : cs.length ≤ 6
  made : Made d ws cs
  ws3 : ws.length ≤ 3
  sum : ∀ c ∈ cs, (c.2.map fun t => t.1.natAbs).sum ≤ 15
theorem wt_le (p : Str → Bool) : ∀ ts : List Tm, (wt p ts).natAbs ≤ (ts.map fun t => t.1.natAbs).sum
  | [] => Nat.le_refl _
  | t :: ts => by
    have := wt_le p ts
    rw [wt, List.map_cons, List.sum_cons]
    split <;> omega
theorem rowsC_le {d : Nat} {ws : List Str} {cs : List Cf} (h : CsOk d ws cs) (ys : List Str) (i k : Nat) : (rowsC ys cs i k).natAbs ≤ 15 := by
  unfold rowsC
  rw [List.getD_eq_getElem?_getD]
  cases e : cs[i]? with
  | none => exact Nat.zero_le _
  | some c => exact Nat.le_trans (wt_le _ _) (h.sum c (List.mem_of_getElem? e))
theorem slk_le (m : Nat) (S : Nat → So) : (slk m S).length ≤ m := by
  unfold slk
  exact Nat.le_trans (List.length_filter_le _ _) (by simp)
theorem bd_of {size : Nat} {R : Nat → Nat → Int} {ss : List Str} (hs : ss.length ≤ 6) (hz : size ≤ 8) (h : ∀ i, i < ss.length → ∀ c, c < size → (R i c).natAbs ≤ 15) : Bd63 (lpS size R ss) := by
  have sm := sml_of (m := ss.length) (size := size) (R := R) (S := fun k => so (ss.getD k "")) (K := 15) (by decide) h
  have lid : (lpS size R ss).lid 15 < 2 ^ 62 := by
    show (2 * ss.length * 15 + 15) ^ (ss.length + 1) < 2 ^ 62
    have h1 : (2 * ss.length * 15 + 15) ^ (ss.length + 1) ≤ 195 ^ (ss.length + 1) := Nat.pow_le_pow_left (by omega) _
    have h2 : 195 ^ (ss.length + 1) ≤ 195 ^ 7 := Nat.pow_le_pow_right (by decide) (by omega)
    exact Nat.lt_of_le_of_lt (Nat.le_trans h1 h2) (by decide)
  have hT := fun b k c => (lpS size R ss).T_lid sm b k c
  have hU := fun b => (lpS size R ss).U_lid sm b
  have sl := slk_le ss.length fun k => so (ss.getD k "")
  have fm : (lpS size R ss).fin = (size + (slk ss.length fun k => so (ss.getD k "")).length) + ss.length := rfl
  refine ⟨fun b k c => ?_, fun b => ?_, fun b k c => ?_, by omega, by show ss.length + 1 ≤ 1000; omega⟩
  · have := hT b k c; omega
  · have := hU b; omega
  · have := hT b k c; have := hU b; omega
theorem made_to {d : Nat} {ws ys : List Str} {cs : List Cf} (h : Made d ws cs) (k : ∀ w ∈ wordsC cs, w ∈ ys) : Made d ys cs := fun c hc => ⟨(h c hc).1, fun t ht => ⟨Good.to _ ((h c hc).2 t ht).1 fun w hw => k w (List.mem_flatMap.mpr ⟨c, hc, List.mem_flatMap.mpr ⟨t, ht, hw⟩⟩), ((h c hc).2 t ht).2⟩⟩
theorem made_words {d : Nat} {ws : List Str} {cs : List Cf} (h : Made d ws cs) : ∀ w ∈ wordsC cs, w ∈ ws := fun w hw => by
  obtain ⟨c, hc, hw⟩ := List.mem_flatMap.mp hw
  obtain ⟨t, ht, hw⟩ := List.mem_flatMap.mp hw
  exact good_words _ ((h c hc).2 t ht).1 w hw
abbrev N_counts_for : List Str := ["claims", "names"]
abbrev P_counts_for : List Str := ["claims", "names"]
theorem sc_counts_for : FnScope N_counts_for P_counts_for (defScope s_counts_for) := ⟨rfl, rfl, rfl, by decide +kernel, rfl, by decide +kernel, by decide +kernel⟩

abbrev N_possible : List Str := ["claims"]
abbrev P_possible : List Str := ["claims"]
theorem sc_possible : FnScope N_possible P_possible (defScope s_possible) := ⟨rfl, rfl, rfl, by decide +kernel, rfl, by decide +kernel, by decide +kernel⟩

abbrev N_paper : List Str := ["claims"]
abbrev P_paper : List Str := ["claims"]
theorem sc_paper : FnScope N_paper P_paper (defScope s_paper) := ⟨rfl, rfl, rfl, by decide +kernel, rfl, by decide +kernel, by decide +kernel⟩

section
variable {G : Gd} (B : Bl G.mg)
include B
omit B in
theorem claim_names {C CT CC : Addr} (kc : Kc G CC) (ws : List Str) {H : Hp} : ∀ {cs : List Cf} {xs : List V}, Paired (CRep C CT CC H) cs xs → (∀ c ∈ cs, ∀ w ∈ wordsT c.2, w ∈ ws) →
    ∃ zss : List (List Str), Paired (NRep G.K H) zss xs ∧ (∀ k, k ∈ zss.flatten ↔ k ∈ wordsC cs) ∧ zss.flatten.length ≤ cs.length * ws.length ∧ zss.length = cs.length
  | _, _, .nil, _ => ⟨[], .nil, fun _ => Iff.rfl, Nat.zero_le _, rfl⟩
  | c :: cs, _, .cons r t, h => by
    obtain ⟨zss, a, b, e, l⟩ := claim_names kc ws t fun c hc => h c (List.mem_cons_of_mem _ hc)
    obtain ⟨g, dx, na, sa, tv, ys, zs, rfl, hg, ht, hn, asc, -⟩ := r
    have l1 := asc_sub asc (h _ List.mem_cons_self)
    refine ⟨ys :: zss, .cons ⟨g, CC, dx, na, _, rfl, hg, kc.cl, kc.names, rfl, .inl (.inl hn)⟩ a, fun k => ?_, ?_, congrArg Nat.succ l⟩
    · rw [List.flatten_cons, List.mem_append, asc.2.2 k, b k]
      unfold wordsC
      rw [List.flatMap_cons, List.mem_append]
    · rw [List.flatten_cons, List.length_append, List.length_cons, Nat.succ_mul]
      omega
/-- the claims at hand -/
structure At (C CT CC : Addr) (K : PySem.W.Frag) (d : Nat) (ws : List Str) (H : Hp) (a : Addr) (cs : List Cf) : Prop where
  rep : CsR C CT CC K H a cs
  ok : CsOk d ws cs
omit B in
theorem At.same {C CT CC : Addr} {K : PySem.W.Frag} {d : Nat} {ws : List Str} {H H' : Hp} {a : Addr} {cs : List Cf} (h : At C CT CC K d ws H a cs) (s : Same H H') : At C CT CC K d ws H' a cs := ⟨h.rep.same s, h.ok⟩
/-- names_of_deciding(claims) -/
theorem names_call {C CT CC : Addr} {d : Nat} {ws : List Str} {H : Hp} {a : Addr} {cs : List Cf} {Q : VK} {E : XK} (kc : Kc G CC) (h : At C CT CC G.K d ws H a cs) (k : ∀ p ys H', Same H H' → Asc (wordsC cs) ys → NT H' p ys → Q (.ref p) H') : spNames2 G.K [.ref a] H Q E := by
  obtain ⟨xs, ha, prs⟩ := h.rep
  have mw := made_words h.ok.made
  obtain ⟨zss, pz, mz, lz1, lz2⟩ := claim_names kc ws prs fun c hc w hw => mw w (List.mem_flatMap.mpr ⟨c, hc, hw⟩)
  have : cs.length * ws.length ≤ 6 * 3 := Nat.mul_le_mul h.ok.six h.ok.ws3
  have := h.ok.six
  exact ⟨a, zss, xs, rfl, ha, pz, by omega, by omega, fun p ys H' s asc nt => k p ys H' s ⟨asc.1, asc.2.1, fun w => (asc.2.2 w).trans (mz w)⟩ nt⟩
/-- counts_for: what solved says -/
abbrev ssC (cs : List Cf) : Nat → So := fun k => so ((cs.map (·.1)).getD k "")
def spCountsFor (C CT CC : Addr) (K : PySem.W.Frag) (d : Nat) : Sp := fun vs H Q _ => ∃ (a n : Addr) (ws : List Str) (cs : List Cf) (ys : List Str), vs = [.ref a, .ref n] ∧ At C CT CC K d ws H a cs ∧ NT H n ys ∧ Asc (wordsC cs) ys ∧
  (∀ y H', Same H H' → Bar cs.length (2 ^ ys.length) (rowsC ys cs) (ssC cs) y → Q .non H') ∧
  ∀ p H' x, Same H H' → Kept cs.length (2 ^ ys.length) (rowsC ys cs) (ssC cs) x → Q (.ref p) H'
theorem ok_counts_for {C CT CC : Addr} {d : Nat} (C_rows_of_deciding : Cal G (d + 4) "rows_of_deciding" P_rows_of_2 (spRowsOf C CT CC G.K d)) (C_sorts_of : Cal G 1 "sorts_of" P_sorts_of (spSortsOf C CT CC G.K)) (C_kinds : Cal G 3 "kinds" P_kinds (spKinds G.K)) (C_solved : Cal G 5 "solved" P_solved (spSolved G.K))
    (F : Df G "counts_for" "counts_for" s_counts_for) : Cal G (d + 6) "counts_for" P_counts_for (spCountsFor C CT CC G.K d) := by
  refine F.cal (N := N_counts_for) sc_counts_for (fun _ _ _ _ _ _ us hl => match us, hl with | [_, _], _ => rfl) (fun vs H Q E h => by obtain ⟨_, _, _, _, _, rfl, _⟩ := h; rfl) fun f cdv A outer s H vs Q E hr h => ?_
  obtain ⟨a, n, ws, cs, ys, rfl, at', nt, asc, cn, cp⟩ := h
  have S := sc_counts_for
  refine ⟨_, (pss_one (ps_ret (pe_cal (C_solved.mono (by omega)) hr rfl (pa_cons (pe_cal (C_rows_of_deciding.mono (by omega)) hr rfl (pa_cons (pv 0) (pa_cons (pv 1) pa_nil))) (pa_cons (pe_cal (C_sorts_of.mono (by omega)) hr rfl (pa_cons (pv 0) pa_nil)) (pa_cons (pe_callB call_len_seq rfl B.len (by decide +kernel) (pa_cons (pe_cal (C_kinds.mono (by omega)) hr rfl (pa_cons (pv 1) pa_nil)) pa_nil)) pa_nil)))))), ?_⟩
  have ok := at'.ok
  have ysl : ys.length ≤ 3 := Nat.le_trans (asc_sub asc (made_words ok.made)) ok.ws3
  have le8 : 2 ^ ys.length ≤ 2 ^ 3 := Nat.pow_le_pow_right (by decide) ysl
  have my := made_to ok.made fun w hw => (asc.2.2 w).mpr hw
  refine ⟨_, rfl, _, rfl, a, n, cs, ys, rfl, at'.rep, ok.six, nt, asc.2.1, by omega, my, fun p H1 s1 rr _ => ?_⟩
  refine ⟨_, rfl, a, cs, rfl, at'.rep.same s1, ok.six, fun q H2 s2 hq => ?_⟩
  refine ⟨_, rfl, n, ys, ys, rfl, (nt.same (s1.trans s2)).sq, by omega, asc_self asc, by omega, fun r xs H3 s3 hr3 prs => ?_⟩
  have lxs : xs.length = 2 ^ ys.length := by have := paired_len prs; simpa using this.symm
  have lss : (cs.map (·.1)).length = cs.length := List.length_map ..
  have s13 := s1.trans (s2.trans s3)
  refine ⟨r, xs, rfl, .inr (.inl (.inl hr3)), p, q, 2 ^ ys.length, rowsC ys cs, cs.map (·.1), by rw [lxs]; rfl, ⟨by rw [lss]; exact rr.same (s2.trans s3), s3.seq (SqL.of hq), by rw [lss]; exact ok.one, by rw [lss]; exact ok.six, bd_of (by rw [lss]; exact ok.six) (by omega) fun i _ c _ => rowsC_le ok ys i c⟩, fun y H4 s4 br => ?_, fun p4 zs H4 s4 _ _ kp _ _ => ?_⟩
  · rw [lss] at br
    exact cn y H4 (s13.trans s4) br
  · rw [lss] at kp
    exact cp p4 H4 _ (s13.trans s4) kp
def spPossible (C CT CC : Addr) (K : PySem.W.Frag) (d : Nat) : Sp := fun vs H Q _ => ∃ (a : Addr) (ws : List Str) (cs : List Cf), vs = [.ref a] ∧ At C CT CC K d ws H a cs ∧
  ∀ ys H', Same H H' → Asc (wordsC cs) ys → ((∀ y, Bar cs.length (2 ^ ys.length) (rowsC ys cs) (ssC cs) y → Q (.bl false) H') ∧ ∀ x, Kept cs.length (2 ^ ys.length) (rowsC ys cs) (ssC cs) x → Q (.bl true) H')
theorem ok_possible {C CT CC : Addr} {d : Nat} (kc : Kc G CC) (C_names_of_deciding : Cal G 1 "names_of_deciding" P_names_of_2 (spNames2 G.K)) (C_counts_for : Cal G (d + 6) "counts_for" P_counts_for (spCountsFor C CT CC G.K d)) (F : Df G "possible" "possible" s_possible) : Cal G (d + 7) "possible" P_possible (spPossible C CT CC G.K d) := by
  refine F.cal (N := N_possible) sc_possible (fun _ _ _ _ _ _ us hl => match us, hl with | [_], _ => rfl) (fun vs H Q E h => by obtain ⟨_, _, _, rfl, _⟩ := h; rfl) fun f cdv A outer s H vs Q E hr h => ?_
  obtain ⟨a, ws, cs, rfl, at', cont⟩ := h
  have S := sc_possible
  refine ⟨_, (pss_one (ps_ret (pe_cmpR op_notN (pe_cal (C_counts_for.mono (by omega)) hr rfl (pa_cons (pv 0) (pa_cons (pe_cal (C_names_of_deciding.mono (by omega)) hr rfl (pa_cons (pv 0) pa_nil)) pa_nil))) pe_non (nomark _)))), ?_⟩
  refine ⟨_, rfl, _, rfl, ?_⟩
  dsimp only [tNil]
  refine names_call B kc at' fun p ys H1 s1 asc nt => ?_
  refine ⟨a, p, ws, cs, ys, rfl, at'.same s1, nt, asc, fun y H2 s2 br => ⟨rfl, ?_⟩, fun q H2 x s2 kp => ⟨rfl, ?_⟩⟩
  · exact (cont ys H2 (s1.trans s2) asc).1 y br
  · exact (cont ys H2 (s1.trans s2) asc).2 x kp
def spPaper (C CT CC : Addr) (K : PySem.W.Frag) (d : Nat) : Sp := fun vs H Q _ => ∃ (a : Addr) (ws : List Str) (cs : List Cf), vs = [.ref a] ∧ At C CT CC K d ws H a cs ∧
  (∀ ys x H', Same H H' → Asc (wordsC cs) ys → Kept cs.length (2 ^ ys.length) (rowsC ys cs) (ssC cs) x → Q .non H') ∧
  ∀ ys p (zs : List Int) H', Same H H' → Asc (wordsC cs) ys → H' p = some (.tup (zs.map V.int)) → zs.length = cs.length → Bar cs.length (2 ^ ys.length) (rowsC ys cs) (ssC cs) (fun c => zs.getD c 0) → Q (.ref p) H'
theorem ok_paper {C CT CC : Addr} {d : Nat} (kc : Kc G CC) (C_names_of_deciding : Cal G 1 "names_of_deciding" P_names_of_2 (spNames2 G.K)) (C_rows_of_deciding : Cal G (d + 4) "rows_of_deciding" P_rows_of_2 (spRowsOf C CT CC G.K d)) (C_sorts_of : Cal G 1 "sorts_of" P_sorts_of (spSortsOf C CT CC G.K)) (C_barred : Cal G 5 "barred" P_barred (spBarred G.K))
    (F : Df G "paper" "paper" s_paper) : Cal G (d + 6) "paper" P_paper (spPaper C CT CC G.K d) := by
  refine F.cal (N := N_paper) sc_paper (fun _ _ _ _ _ _ us hl => match us, hl with | [_], _ => rfl) (fun vs H Q E h => by obtain ⟨_, _, _, rfl, _⟩ := h; rfl) fun f cdv A outer s H vs Q E hr h => ?_
  obtain ⟨a, ws, cs, rfl, at', cn, cp⟩ := h
  have S := sc_paper
  refine ⟨_, (pss_one (ps_ret (pe_cal (C_barred.mono (by omega)) hr rfl (pa_cons (pe_cal (C_rows_of_deciding.mono (by omega)) hr rfl (pa_cons (pv 0) (pa_cons (pe_cal (C_names_of_deciding.mono (by omega)) hr rfl (pa_cons (pv 0) pa_nil)) pa_nil))) (pa_cons (pe_cal (C_sorts_of.mono (by omega)) hr rfl (pa_cons (pv 0) pa_nil)) pa_nil))))), ?_⟩
  have ok := at'.ok
  refine ⟨_, rfl, _, rfl, ?_⟩
  dsimp only [tNil]
  refine names_call B kc at' fun n ys H1 s1 asc nt => ?_
  have ysl : ys.length ≤ 3 := Nat.le_trans (asc_sub asc (made_words ok.made)) ok.ws3
  have le8 : 2 ^ ys.length ≤ 2 ^ 3 := Nat.pow_le_pow_right (by decide) ysl
  have my := made_to ok.made fun w hw => (asc.2.2 w).mpr hw
  refine ⟨a, n, cs, ys, rfl, at'.rep.same s1, ok.six, nt, asc.2.1, by omega, my, fun p H2 s2 rr _ => ?_⟩
  have s12 := s1.trans s2
  refine ⟨_, rfl, a, cs, rfl, at'.rep.same s12, ok.six, fun q H3 s3 hq => ?_⟩
  have lss : (cs.map (·.1)).length = cs.length := List.length_map ..
  have s13 := s12.trans s3
  refine ⟨p, q, 2 ^ ys.length, rowsC ys cs, cs.map (·.1), rfl, ⟨by rw [lss]; exact rr.same s3, SqL.of hq, by rw [lss]; exact ok.one, by rw [lss]; exact ok.six, bd_of (by rw [lss]; exact ok.six) (by omega) fun i _ c _ => rowsC_le ok ys i c⟩, fun x H4 s4 kp => ?_, fun p4 zs H4 s4 hp4 lz br => ?_⟩
  · rw [lss] at kp
    exact cn ys x H4 (s13.trans s4) asc kp
  · rw [lss] at br lz
    exact cp ys p4 zs H4 (s13.trans s4) asc hp4 lz br
end
end Mc
/-! sum of a tuple of numbers. -/
namespace Mc
open PySem PySem.Spec PyProof.Rows L2
theorem sum_intTup {prog : Program} {w : World} {A : Around} {E : Value → Shared → Prop} {s : Shared} {l : Addr} {xs : Array (Int × Tok)} {Q : Value → Shared → Prop} (hh : A.handled = none) (hl : s.heap.IsTuple l (intItems xs))
    (h : ∀ h' tk t', (∀ b o, s.heap.get? b = some o → h'.get? b = some o) → Q (.int (preSum (numAt xs) xs.size) t') { s with heap := h', toks := tk }) :
    wpAny (model prog w) A (call (.builtin "sum") [.ref l]) Q E s := by
  have hlt : l < s.heap.objs.size := by obtain ⟨_, e, _⟩ := hl; exact Heap.lt_size e
  refine call_sum_walkG (wpAny_pyIter_tuple hl ⟨_, _, _, _, _, _, numAt xs, rfl, Walks.tuple (A := A.in1) hh _ l (Nat.ne_of_lt hlt) (intItems xs), ⟨⟨_, Heap.get?_push_size _ rfl, rfl, rfl⟩, hl.push _⟩, fun b hb => ?_, (fun _ _ => intItems_at), fun h' tk t' hk => ?_⟩)
  · show b < (s.heap.push _).objs.size
    rw [Heap.size_push]
    rcases List.mem_cons.mp hb with rfl | hb
    · exact Nat.lt_succ_self _
    · rw [List.mem_singleton.mp hb]
      exact Nat.lt_succ_of_lt hlt
  · have hk' : ∀ b o, s.heap.get? b = some o → h'.get? b = some o := fun b o e => by
      refine hk b o (fun hm => ?_) (Heap.get?_push_of_some _ e)
      rcases List.mem_cons.mp hm with e1 | hm
      · exact absurd (e1 ▸ Heap.lt_size e) (Nat.lt_irrefl _)
      · cases hm
    have := h h' tk t' hk'
    simpa [intItems] using this
theorem sum_rawT {prog : Program} {w : World} {A : Around} {E : Value → Shared → Prop} {s : Shared} {l : Addr} {its : List Value} {ns : List Int} {Q : Value → Shared → Prop} (hh : A.handled = none) (hl : s.heap.IsTuple l its.toArray) (hi : IntsAre its ns)
    (h : ∀ h' tk t', (∀ b o, s.heap.get? b = some o → h'.get? b = some o) → Q (.int ns.sum t') { s with heap := h', toks := tk }) : wpAny (model prog w) A (call (.builtin "sum") [.ref l]) Q E s := by
  obtain ⟨xs, e⟩ := hi.allInts.items
  have hn : numsOf (intItems xs).toList = ns := by rw [← e]; exact hi.numsOf
  rw [nums_intItems] at hn
  rw [e] at hl
  refine sum_intTup hh hl fun h' tk t' hk => ?_
  have := h h' tk t' hk
  rw [preSum_eq, List.take_of_length_le (by simp), hn]; exact this
theorem cr_sumT {X : Cx} (K : PySem.W.Frag) (hK : X.K = K) (hc : X.calm = true) : CallR X (.builtin "sum") (fun vs H Q => ∃ (a : Addr) (ns : List Int), vs = [V.ref a] ∧ SqT K H a (ns.map V.int) ∧ Q (.int ns.sum) H) := by
  subst hK
  intro pins s σ H vs us Q I r h
  obtain ⟨a, ns, rfl, hs, q⟩ := h
  obtain ⟨its, rv, hl, _⟩ := I.tuple hs
  rw [Vals.ref1 r]
  exact sum_rawT (I.ok.hd hc) hl rv.ints fun h' tk t' hk => ⟨.int _, H, I.kept hk, ⟨_, rfl⟩, q⟩
end Mc
/-! The walk, 16: the costs. -/
namespace Mc
open PySem PySem.Spec PyProof.Rows L2
theorem sm_sum (n : Nat) (f : Nat → Int) : ((List.range n).map f).sum = sm n f := by
  induction n with
  | zero => rfl
  | succ n ih =>
    rw [List.range_succ, List.map_append, List.sum_append, ih]
    simp [sm]
section
variable {G : Gd} (B : Bl G.mg)
include B
theorem ok_helped {C : Addr} (bc : Bc G C) (F : DfM G C "helped" "Table.helped" s_Table_helped) : CalM G 1 C "helped" P_Table_helped (spHelped C) := by
  refine F.cal (N := N_Table_helped) sc_Table_helped (fun _ _ _ _ _ _ us hl => match us, hl with | [_], _ => rfl) (fun vs H Q E h => by obtain ⟨_, _, _, _, _, _, rfl, _⟩ := h; rfl) ?_
  rintro fa cdv A outer s H vs Q E hr ⟨t, dx, RL, BL, P, xs, rfl, T, m1, m6, bd, cont⟩
  have S := sc_Table_helped
  refine ⟨_, (pss_cons (ps_set (i := 1) S.nd rfl (by first | exact Or.inl rfl | exact Or.inr rfl) (pe_lc (own := [("column", 2)]) rfl S.nd (pi_zipStar G.K (by rfl) (by rfl) B.zip (pe_fld (pv 0) rfl)) (blkOk_by (own := [("column", 2)]) (N := N_Table_helped) (sc := defScope s_Table_helped) (by decide +kernel)) (fun _ _ _ _ _ => (pg_name (i := 2) S.nd rfl (by first | exact Or.inl rfl | exact Or.inr rfl))) (fun _ _ _ _ _ => pts_nil) (fun _ _ _ _ _ => (pe_callB (cr_sumT G.K (by rfl) rfl) rfl B.sum (by decide +kernel) (pa_cons (pv 2) pa_nil)))))
    (pss_one (ps_ret (pe_lc (own := [("at", 3), ("one", 4)]) rfl S.nd (pi_enum (by rfl) B.enumerate (pa_cons (pv 1) pa_nil)) (blkOk_by (own := [("at", 3), ("one", 4)]) (N := N_Table_helped) (sc := defScope s_Table_helped) (by decide +kernel)) (fun _ _ _ _ _ => (pg_tupK G.K (by rfl) (n := 2) (by rfl) (pgs_cons (pg_name (i := 3) S.nd rfl (by first | exact Or.inl rfl | exact Or.inr rfl)) (pgs_cons (pg_name (i := 4) S.nd rfl (by first | exact Or.inl rfl | exact Or.inr rfl)) pgs_nil)))) (fun _ _ _ _ _ => pts_nil) (fun _ _ _ _ _ => (pe_op op_sub (pe_callTy call_int1 rfl B.int (by decide +kernel) (pa_cons (pe_chain op_le op_lt (pe_fldK G.K (by rfl) (pv 0) rfl) (pv 3) (pe_op op_sub (pe_callB (call_len_seqK G.K (by rfl)) rfl B.len (by decide +kernel) (pa_cons (pv 1) pa_nil)) pe_int)) pa_nil)) (pv 4))))))), ?_⟩
  have bf := bd.few
  have fm : P.fin = P.many + P.m := rfl
  -- the rows
  have rows : ∃ rs : List Addr, xs = rs.map V.ref ∧ Paired (fun k r => H r = some (.lst ((rowT P P.b0 k).map V.int))) (List.range P.m) rs := by
    have : ∀ {ks : List Nat} {xs : List V}, Paired (fun k v => ∃ r, v = .ref r ∧ r ≠ RL ∧ r ≠ BL ∧ H r = some (.lst ((rowT P P.b0 k).map V.int))) ks xs → ∃ rs : List Addr, xs = rs.map V.ref ∧ Paired (fun k r => H r = some (.lst ((rowT P P.b0 k).map V.int))) ks rs := by
      intro ks xs p
      induction p with
      | nil => exact ⟨[], rfl, .nil⟩
      | cons h t ih =>
        obtain ⟨r, rfl, _, _, h⟩ := h
        obtain ⟨rs, e, p⟩ := ih
        exact ⟨r :: rs, by rw [e]; rfl, .cons h p⟩
    exact this T.rows
  obtain ⟨rs, rfl, prs⟩ := rows
  have lrs : rs.length = P.m := by have := paired_len prs; simpa using this.symm
  let ps : List (Addr × Bool) := rs.map fun r => (r, false)
  have eps : ps.map (fun p => V.ref p.1) = rs.map V.ref := by simp [ps]
  have pss : ∀ H1, Same H H1 → Paired (SqB G.K H1) ps ((List.range P.m).map fun k => (rowT P P.b0 k).map V.int) := fun H1 s1 => by
    have : ∀ {ks : List Nat} {rs : List Addr}, Paired (fun k r => H r = some (.lst ((rowT P P.b0 k).map V.int))) ks rs → Paired (SqB G.K H1) (rs.map fun r => (r, false)) (ks.map fun k => (rowT P P.b0 k).map V.int) := by
      intro ks rs p
      induction p with
      | nil => exact .nil
      | cons h t ih => exact .cons (.inr ⟨rfl, SqL.of (s1 _ _ h)⟩) ih
    exact this prs
  have lps : ps.length = P.m := by simp [ps, lrs]
  refine ⟨_, rfl, t, C, dx, _, _, rfl, T.t, bc.cl, bc.rows, rfl, RL, ps, rfl, .inr (SqL.of (by rw [eps]; exact T.rl)), fun e => (by rw [e] at lps; simp at lps; omega), by omega, fun p hp => ?_, fun D hD => ?_⟩
  · obtain ⟨i, hi⟩ := List.mem_iff_getElem?.mp hp
    obtain ⟨zs, _, h⟩ := paired_get (pss H (Same.refl _)) hi
    exact ⟨zs, h⟩
  refine lc_map (walk_zn (n := P.fin + 1) (xss := (List.range P.m).map fun k => (rowT P P.b0 k).map V.int) (by rw [lps]; simp) (fun zs hz => ?_) (fun e => by rw [e] at lps; simp at lps; omega)) (fun c y _ => y = .int (sm P.m fun k => P.T P.b0 k c)) (few_lt bf) hD (fun H1 s1 => pss H1 s1) (fun _ _ _ _ _ _ _ h => h) ?_ ?_
  · obtain ⟨k, _, rfl⟩ := List.mem_map.mp hz
    rw [List.length_map, rowT_len]
  · rintro c x H1 H2 Qy hc s1 nd ⟨TT, vs, rfl, hT, rfl, pv⟩ cy
    have ev : vs = ((List.range P.m).map fun k => P.T P.b0 k c).map V.int := by
      rw [List.map_map]
      refine paired_map_eq (f := fun k => V.int (P.T P.b0 k c)) (Paired.mapP (paired_of_map pv) fun k v h => ?_)
      rw [List.getElem?_map, rowT_get P P.b0 k (by omega)] at h
      exact (Option.some.inj h).symm
    refine ⟨rfl, _, rfl, TT, (List.range P.m).map fun k => P.T P.b0 k c, rfl, .inl (.inl (by rw [upd_same, ev])), cy _ _ (same_upd hT) (congrArg V.int (sm_sum _ _))⟩
  intro H1 acc s1 hD1 hp1
  have ea := paired_map_eq (f := fun c => V.int (sm P.m fun k => P.T P.b0 k c)) hp1
  have T1 := T.same s1
  have lacc : acc.length = P.fin + 1 := by rw [ea]; simp
  refine ⟨_, rfl, D, acc, rfl, SqL.of hD1, fun D2 hD2 => ?_⟩
  refine lc_map (walk_enum (xs := acc)) (fun c y _ => y = .int (P.T P.b0 P.m c)) (few_lt (by omega)) hD2 (fun H2 s2 => s2.seq (SqL.of hD1)) (fun _ _ _ _ _ _ _ h => h) ?_ ?_
  · rintro c x H2 H3 Qy hc s2 nd ⟨TT, p, v, rfl, hT, rfl, ep, ev⟩ cy
    obtain rfl := Option.some.inj ep
    rw [lacc] at hc
    obtain rfl : v = .int (sm P.m fun k => P.T P.b0 k c) := by
      have ev2 : acc[c]? = some v := ev
      rw [ea, List.getElem?_map, List.getElem?_range hc] at ev2
      exact (Option.some.inj ev2).symm
    have st := same_upd (o := .tup [V.int (c : Nat), V.int (sm P.m fun k => P.T P.b0 k c)]) hT
    have T2 := T1.same (s2.trans st)
    have hD2' := (s2.trans st) _ _ hD1
    refine ⟨TT, _, rfl, .inl (.inl upd_same), rfl, _, _, rfl, ?_⟩
    refine ⟨_, _, rfl, rfl, rfl, ?_⟩
    have key : (if (decide ((P.many : Int) ≤ (c : Int)) && decide ((c : Int) < ((acc.length : Nat) : Int) - 1)) = true then (1 : Int) else 0) - (sm P.m fun k => P.T P.b0 k c) = P.T P.b0 P.m c := by
      rw [P.T_b0_cost c, lacc]
      congr 1
      · unfold Lp.hp
        by_cases h1 : P.many ≤ c ∧ c < P.many + P.m
        · rw [if_pos h1, if_pos (by rw [Bool.and_eq_true, decide_eq_true_iff, decide_eq_true_iff]; omega)]
        · rw [if_neg h1, if_neg (by rw [Bool.and_eq_true, decide_eq_true_iff, decide_eq_true_iff]; omega)]
      · refine sm_congr fun k hk => ?_
        exact P.T_b0 k c hk
    refine ⟨_, rfl, t, C, dx, _, _, rfl, T2.t, bc.cl, bc.many, rfl, _, rfl, _, _, rfl, rfl, _, rfl, ite2 (fun z => ?_) fun z => ?_⟩
    · refine ⟨_, rfl, D, acc, rfl, .inl (SqL.of hD2'), _, _, rfl, rfl, _, _, rfl, rfl, .inr ⟨_, rfl, _, rfl, _, _, rfl, rfl, cy _ _ st ?_⟩⟩
      have z' : decide ((P.many : Int) ≤ (c : Int)) = true := z
      rw [z', Bool.true_and] at key
      exact congrArg V.int key
    · refine .inr ⟨_, rfl, _, rfl, _, _, rfl, rfl, cy _ _ st ?_⟩
      have z' : decide ((P.many : Int) ≤ (c : Int)) = false := Bool.eq_false_iff.mpr z
      rw [z', Bool.false_and] at key
      exact congrArg V.int key
  · intro H2 acc2 s2 hD3 hp2
    have eb := paired_map_eq (f := fun c => V.int (P.T P.b0 P.m c)) hp2
    rw [lacc] at eb
    refine cont D2 H2 (s1.trans s2) (none_back s1 hD2) ?_
    rw [hD3, eb]
    unfold rowT
    rw [List.map_map]
    rfl
end
end Mc
/-! The walk, 17: what a crowd has at a kind; counted. -/
namespace Mc
open PySem PySem.Spec PyProof.Rows L2
abbrev N_Crowd___getitem__ : List Str := ["self", "kind"]
abbrev P_Crowd___getitem__ : List Str := ["self", "kind"]
theorem sc_Crowd___getitem__ : FnScope N_Crowd___getitem__ P_Crowd___getitem__ (defScope s_Crowd___getitem__) := ⟨rfl, rfl, rfl, by decide +kernel, rfl, by decide +kernel, by decide +kernel⟩

abbrev N_counted : List Str := ["counts", "names", "kind", "number"]
abbrev P_counted : List Str := ["counts", "names"]
theorem sc_counted : FnScope N_counted P_counted (defScope s_counted) := ⟨rfl, rfl, rfl, by decide +kernel, rfl, by decide +kernel, by decide +kernel⟩

/-- how many of a kind -/
def valP (L : List Pt) (ks : List Str) : Int := ((L.find? fun p => decide (p.1 = ks)).map (·.2)).getD 0
theorem valV_pt (L : List Pt) (ks : List Str) : (valV (L.map ptK) (ks.map Sum.inr : List Key)).getD (.int 0) = .int (valP L ks) := by
  unfold valV valP
  induction L with
  | nil => rfl
  | cons p L ih =>
    rw [List.map_cons, List.find?_cons, List.find?_cons]
    have e : decide ((ptK p).1 = (ks.map Sum.inr : List Key)) = decide (p.1 = ks) := decide_eq_decide.mpr (List.map_inj_right fun a b h => Sum.inr.inj h)
    rw [e]
    cases decide (p.1 = ks) with
    | true => rfl
    | false => exact ih
theorem pw_sorted : ∀ {l : List Str}, l.Pairwise leS → sortedS l = true := fun h => sortedS_of_pairwise _ (h.imp fun {a b} hab => by
  rw [ltCps_eq, decide_eq_false_iff_not]
  exact hab)
theorem asc_sublist {l ys : List Str} (a : Asc ys ys) (h : l.Sublist ys) : Asc l l := ⟨pw_sorted ((sorted_pw a.1).sublist h), a.2.1.sublist h, fun _ => Iff.rfl⟩
theorem kindL_sub (ys : List Str) (k : Nat) : (kindL ys k).Sublist ys := by
  have e : (List.range ys.length).map (fun i => ys.getD i "") = ys := by
    refine List.ext_getElem (by simp) fun i h1 h2 => ?_
    simp [List.getElem?_eq_getElem h2]
  have := (List.filter_sublist (l := List.range ys.length) (p := fun i => k.testBit i)).map fun i => ys.getD i ""
  rw [e] at this
  exact this
theorem kindL_inj {ys : List Str} (nd : ys.Nodup) {k l : Nat} (hk : k < 2 ^ ys.length) (hl : l < 2 ^ ys.length) (e : kindL ys k = kindL ys l) : k = l := by
  refine Nat.eq_of_testBit_eq fun i => ?_
  by_cases hi : i < ys.length
  · have h1 := inK_at nd (List.getElem?_eq_getElem hi) k
    have h2 := inK_at nd (List.getElem?_eq_getElem hi) l
    rw [← h1, ← h2]
    unfold inK
    rw [e]
  · have le : 2 ^ ys.length ≤ 2 ^ i := Nat.pow_le_pow_right (by decide) (by omega)
    rw [Nat.testBit_lt_two_pow (by omega), Nat.testBit_lt_two_pow (by omega)]
/-- the parts that counts over the kinds of ys give -/
def ptsOf (ys : List Str) (zs : List Int) : List Pt := (List.range (2 ^ ys.length)).map fun k => (kindL ys k, zs.getD k 0)
section
variable {G : Gd} (B : Bl G.mg)
include B
def spItem (K : PySem.W.Frag) (C : Addr) : Sp := fun vs H Q _ => ∃ (L : List Pt) (v : V) (a : Addr) (ks : List Str), vs = [v, .ref a] ∧ WRep C H L v ∧ (L.map (·.1)).Nodup ∧ L.length ≤ 1000 ∧ H a = some (.tup (ks.map V.str)) ∧ ks.length < 60 ∧ Asc ks ks ∧ ∀ H', Same H H' → Q (.int (valP L ks)) H'
theorem ok_item {C : Addr} (wc : Wc G C) (C_ascending : Cal G 1 "ascending" P_ascending (spAsc G.K)) (F : DfD G C "__getitem__" "Crowd.__getitem__" s_Crowd___getitem__) : CalD G 2 C "__getitem__" P_Crowd___getitem__ (spItem G.K C) := by
  refine F.cal (N := N_Crowd___getitem__) sc_Crowd___getitem__ (fun _ _ _ _ _ _ us hl => match us, hl with | [_, _], _ => rfl) (fun vs H Q E h => by obtain ⟨_, _, _, _, rfl, _⟩ := h; rfl) ?_
  rintro fa cdv A outer s H vs Q E hr ⟨L, v, a, ks, rfl, ⟨g, dx, pa, sa, z, xs, o, rfl, h1, h2, h3, h4⟩, nd, lL, ha, few, asc, cont⟩
  have S := sc_Crowd___getitem__
  have hu := hr.units
  refine ⟨_, (pss_one (ps_ret (pe_dget2 (Nat.lt_of_le_of_lt (Nat.add_le_add_left (by decide) _) hu) (pe_callTy (call_dictPt rfl hu) rfl B.dict (by decide +kernel) (pa_cons (pe_fld (pv 0) rfl) pa_nil)) (pe_cal (C_ascending.mono (by omega)) hr rfl (pa_cons (pv 1) pa_nil)) pe_int ⟨rfl, rfl, rfl, rfl⟩))), ?_⟩
  refine ⟨_, rfl, g, C, dx, _, _, rfl, h1, wc.cl, wc.parts, rfl, pa, o, xs, L, rfl, h2, h3, h4, nd, lL, fun p hp => ?_⟩
  have s1 := same_upd (o := .dT (L.map ptK)) hp
  refine ⟨p, rfl, .inr ⟨_, .inl upd_same⟩, _, rfl, a, ks, rfl, .inr (.inl (.inl (s1 _ _ ha))), few, fun q ys H2 s2 asc2 hq => ?_⟩
  obtain rfl : ys = ks := asc_uniq asc2 asc fun _ => Iff.rfl
  refine ⟨_, DGet.t (k := ys.map Sum.inr) (s2 _ _ upd_same) (by rw [List.map_map]; exact hq), ?_⟩
  rw [valV_pt]
  exact cont H2 (s1.trans s2)
def spCounted (K : PySem.W.Frag) (C : Addr) : Sp := fun vs H Q _ => ∃ (c n : Addr) (ys : List Str) (zs : List Int), vs = [.ref c, .ref n] ∧ SqL K H c (zs.map V.int) ∧ zs.length = 2 ^ ys.length ∧ NT H n ys ∧ Asc ys ys ∧ ys.length ≤ 3 ∧ (∀ y ∈ ys, Nm y) ∧ (∀ z ∈ zs, 0 ≤ z ∧ z < 2 ^ 63) ∧
  ∀ L v H', Same H H' → WRep C H' L v → Adds (ptsOf ys zs) L → Q v H'
theorem ok_counted {C : Addr} (g_Crowd : G.mg "Crowd" = some (.ref C)) (C_kinds : Cal G 3 "kinds" P_kinds (spKinds G.K)) (C_Crowd : CalC G 5 C P_Crowd___init__ [] (spCrowd C)) (F : Df G "counted" "counted" s_counted) : Cal G 7 "counted" P_counted (spCounted G.K C) := by
  refine F.cal (N := N_counted) sc_counted (fun _ _ _ _ _ _ us hl => match us, hl with | [_, _], _ => rfl) (fun vs H Q E h => by obtain ⟨_, _, _, _, rfl, _⟩ := h; rfl) fun f cdv A outer s H vs Q E hr h => ?_
  obtain ⟨c, n, ys, zs, rfl, hc, lz, nt, asc, small, nm, nn, cont⟩ := h
  have S := sc_counted
  refine ⟨_, (pss_one (ps_ret (pe_calc C_Crowd hr rfl g_Crowd (pa_cons (pe_lc (own := [("kind", 2), ("number", 3)]) rfl S.nd (pi_zipN G.K (by rfl) (by rfl) B.zip (pa_cons (pe_cal (C_kinds.mono (by omega)) hr rfl (pa_cons (pv 1) pa_nil)) (pa_cons (pv 0) pa_nil))) (blkOk_by (own := [("kind", 2), ("number", 3)]) (N := N_counted) (sc := defScope s_counted) (by decide +kernel)) (fun _ _ _ _ _ => (pg_tupK G.K (by rfl) (n := 2) (by rfl) (pgs_cons (pg_name (i := 2) S.nd rfl (by first | exact Or.inl rfl | exact Or.inr rfl)) (pgs_cons (pg_name (i := 3) S.nd rfl (by first | exact Or.inl rfl | exact Or.inr rfl)) pgs_nil)))) (fun _ _ _ _ _ => pts_nil) (fun _ _ _ _ _ => (pe_tup (pa_cons (pv 2) (pa_cons (pv 3) pa_nil))))) pa_nil)))), ?_⟩
  have le8 : 2 ^ ys.length ≤ 2 ^ 3 := Nat.pow_le_pow_right (by decide) small
  refine ⟨_, rfl, n, ys, ys, rfl, nt.sq, by omega, asc, by omega, fun p xs H1 s1 hp prs => ?_⟩
  have lx : xs.length = 2 ^ ys.length := by have := paired_len prs; simpa using this.symm
  have hc1 := s1.seq hc
  refine ⟨_, rfl, [(p, true), (c, false)], rfl, by simp, by simp, ?_, fun D hD => ?_⟩
  · intro q hq
    rcases List.mem_cons.mp hq with rfl | hq
    · exact ⟨xs, .inl ⟨rfl, .inl (.inl hp)⟩⟩
    · rw [List.mem_singleton.mp hq]
      exact ⟨_, .inr ⟨rfl, hc1⟩⟩
  refine lc_map (walk_zn (n := 2 ^ ys.length) (xss := [xs, zs.map V.int]) rfl (fun l hl => ?_) (by simp)) (fun k y H' => ∃ q kd, y = .ref q ∧ H' q = some (.tup [.ref kd, .int (zs.getD k 0)]) ∧ H' kd = some (.tup ((kindL ys k).map V.str))) (few_lt (by omega)) hD (fun H2 s2 => .cons (.inl ⟨rfl, .inl (.inl (s2 _ _ hp))⟩) (.cons (.inr ⟨rfl, s2.seq hc1⟩) .nil)) ?_ ?_ ?_
  · rcases List.mem_cons.mp hl with rfl | hl
    · exact lx
    · rw [List.mem_singleton.mp hl, List.length_map, lz]
  · rintro k y H2 H3 ws eD sx ⟨q, kd, e, h1, h2⟩
    exact ⟨q, kd, e, sx _ _ h1 fun z => (by rw [z, eD] at h1; cases h1), sx _ _ h2 fun z => (by rw [z, eD] at h2; cases h2)⟩
  · rintro k x H2 H3 Qy hk s2 nd ⟨T, vs, rfl, hT, rfl, pv⟩ cy
    obtain ⟨x1, x2, rfl, e1, e2⟩ : ∃ x1 x2, vs = [x1, x2] ∧ xs[k]? = some x1 ∧ (zs.map V.int)[k]? = some x2 := by
      cases pv with
      | cons a t => cases t with
        | cons b t => cases t; exact ⟨_, _, rfl, a, b⟩
    obtain ⟨z, hz, rfl⟩ := ints_get e2
    obtain ⟨k', hk', kd, rfl, hkd⟩ := paired_get (paired_flip prs) e1
    obtain rfl : k' = k := by
      rw [List.getElem?_range (by omega)] at hk'
      exact (Option.some.inj hk').symm
    have st := same_upd (H := H2) (o := .tup [V.ref kd, V.int z]) hT
    refine ⟨T, [V.ref kd, V.int z], rfl, .inl (.inl upd_same), rfl, _, _, rfl, ?_⟩
    refine ⟨_, _, rfl, rfl, rfl, ?_⟩
    refine ⟨_, rfl, _, rfl, few_line (by show 2 ≤ 1000; decide), fun q hq => cy _ _ (st.trans (same_upd hq)) ⟨q, kd, rfl, ?_, (same_upd hq) _ _ (st _ _ (s2 _ _ hkd))⟩⟩
    rw [upd_same, List.getD_eq_getElem?_getD, hz]
    rfl
  intro H2 acc s2 hD2 hp2
  have pp : Paired (PtR H2) (ptsOf ys zs) acc := paired_to_map (f := fun k => (kindL ys k, zs.getD k 0)) hp2
  have hx' : ∀ p ∈ ptsOf ys zs, PtOk p := fun p hp => by
    obtain ⟨k, hk, rfl⟩ := List.mem_map.mp hp
    have hk' : k < zs.length := by rw [lz]; exact List.mem_range.mp hk
    have sub := kindL_sub ys k
    have zz := nn (zs.getD k 0) (by rw [List.getD_eq_getElem?_getD, List.getElem?_eq_getElem hk']; exact List.getElem_mem hk')
    exact ⟨Nat.le_trans sub.length_le (by omega), asc_sublist asc sub, fun y hy => nm y (sub.subset hy), zz.1, zz.2⟩
  intro x dx hx hdx _
  have sm' := same_mk (C := C) (fs := []) hx hdx
  refine ⟨x, dx, D, ptsOf ys zs, acc, rfl, upd_same, sm' _ _ hD2, Paired.mapP pp fun _ _ r => r.mono sm'.i, by simp [ptsOf]; omega, ?_, hx', fun L H3 sx w adds => ⟨rfl, cont L _ H3 (s1.trans (s2.trans (same_made hx hdx sx))) w adds⟩⟩
  unfold ptsOf
  rw [List.map_map]
  refine List.pairwise_map.mpr ((List.nodup_range (n := 2 ^ ys.length)).imp_of_mem fun {a b} ha hb hab e => hab ?_)
  exact kindL_inj asc.2.1 (List.mem_range.mp ha) (List.mem_range.mp hb) e
end
end Mc
/-! Counts over some of the places. -/
namespace Mc
/-- a sum over the places that count -/
theorem sm_places : ∀ (pl : List Nat) (size : Nat) (f : Nat → Int), pl.Nodup → (∀ k ∈ pl, k < size) → (∀ c, c < size → c ∉ pl → f c = 0) → sm size f = sm pl.length fun k => f (pl.getD k 0)
  | [], size, f, _, _, h => by
    rw [sm_zero fun i hi => h i hi (by simp)]
    rfl
  | k :: t, size, f, nd, lt, h => by
    obtain ⟨nk, nt⟩ := List.nodup_cons.mp nd
    have hk := lt k (by simp)
    have ih := sm_places t size (fun c => if c = k then 0 else f c) nt (fun x hx => lt x (by simp [hx])) fun c hc hn => by
      by_cases e : c = k
      · exact if_pos e
      · simp only [if_neg e]
        exact h c hc fun hm => by
          rcases List.mem_cons.mp hm with q | q
          · exact e q
          · exact hn q
    have e1 : sm size f = sm size (fun c => if c = k then f k else 0) + sm size (fun c => if c = k then 0 else f c) := by
      rw [← sm_add]
      refine sm_congr fun i _ => ?_
      by_cases e : i = k
      · subst e; simp
      · simp [e]
    rw [e1, ih, sm_one hk (fun i _ n => if_neg n), List.length_cons, sm_front]
    have e0 : (if k = k then f k else 0) = f k := if_pos rfl
    rw [e0]
    show _ + _ = f k + _
    congr 1
    refine sm_congr fun i hi => ?_
    have hm : t.getD i 0 ∈ t := by rw [List.getD_eq_getElem?_getD, List.getElem?_eq_getElem hi]; exact List.getElem_mem hi
    have hne : ¬ t.getD i 0 = k := fun e => nk (by rw [← e]; exact hm)
    show (if t.getD i 0 = k then 0 else f (t.getD i 0)) = f (t.getD i 0)
    rw [if_neg hne]
theorem kept_sub {m size : Nat} {R : Nat → Nat → Int} {S : Nat → So} {x : Nat → Int} {pl : List Nat} (nd : pl.Nodup) (lt : ∀ k ∈ pl, k < size) (z : ∀ c, c < size → c ∉ pl → x c = 0) (k : Kept m size R S x) : Kept m pl.length (fun i j => R i (pl.getD j 0)) S fun j => x (pl.getD j 0) := by
  have at' : ∀ j, j < pl.length → pl.getD j 0 < size := fun j hj => lt _ (by rw [List.getD_eq_getElem?_getD, List.getElem?_eq_getElem hj]; exact List.getElem_mem hj)
  refine ⟨fun c hc => k.1 _ (at' c hc), fun i hi => ?_⟩
  have := k.2 i hi
  rw [sm_places pl size _ nd lt fun c hc hn => by rw [z c hc hn]; simp] at this
  exact this
theorem kept_sup {m size : Nat} {R : Nat → Nat → Int} {S : Nat → So} {x y : Nat → Int} {pl : List Nat} (nd : pl.Nodup) (lt : ∀ k ∈ pl, k < size) (z : ∀ c, c < size → c ∉ pl → x c = 0) (e : ∀ j, j < pl.length → x (pl.getD j 0) = y j) (k : Kept m pl.length (fun i j => R i (pl.getD j 0)) S y) : Kept m size R S x := by
  refine ⟨fun c hc => ?_, fun i hi => ?_⟩
  · by_cases hm : c ∈ pl
    · obtain ⟨j, hj⟩ := List.mem_iff_getElem?.mp hm
      obtain ⟨hl, hj'⟩ := List.getElem?_eq_some_iff.mp hj
      have := e j hl
      rw [List.getD_eq_getElem?_getD, hj] at this
      rw [show x c = y j from this]
      exact k.1 j hl
    · rw [z c hc hm]; exact Int.le_refl _
  · rw [sm_places pl size _ nd lt fun c hc hn => by rw [z c hc hn]; simp]
    have := k.2 i hi
    rw [sm_congr fun j hj => by rw [e j hj]]
    exact this
/-- where the next may begin -/
def lst (one : List Nat) : Nat := match one.getLast? with | none => 0 | some k => k + 1
/-- the rising lists -/
def someL (size : Nat) : Nat → List (List Nat)
  | 0 => [[]]
  | m + 1 => (someL size m).flatMap fun one => (List.range (size - lst one)).map fun j => one ++ [lst one + j]
theorem lst_snoc (l : List Nat) (k : Nat) : lst (l ++ [k]) = k + 1 := by
  unfold lst
  rw [List.getLast?_append]
  rfl
/-- what they are -/
theorem someL_is (size : Nat) : ∀ (m : Nat) (l : List Nat), l ∈ someL size m ↔ l.length = m ∧ l.Pairwise (· < ·) ∧ ∀ k ∈ l, k < size
  | 0, l => by
    show l ∈ [[]] ↔ _
    rw [List.mem_singleton]
    exact ⟨fun e => by subst e; simp, fun h => List.length_eq_zero_iff.mp h.1⟩
  | m + 1, l => by
    show l ∈ (someL size m).flatMap _ ↔ _
    rw [List.mem_flatMap]
    constructor
    · rintro ⟨one, ho, hl⟩
      obtain ⟨j, hj, rfl⟩ := List.mem_map.mp hl
      have hj := List.mem_range.mp hj
      obtain ⟨h1, h2, h3⟩ := (someL_is size m one).mp ho
      refine ⟨by simp [h1], List.pairwise_append.mpr ⟨h2, by simp, fun a ha b hb => ?_⟩, fun k hk => ?_⟩
      · rw [List.mem_singleton.mp hb]
        exact Nat.lt_of_lt_of_le (below h2 a ha) (Nat.le_add_right _ _)
      · rcases List.mem_append.mp hk with q | q
        · exact h3 k q
        · rw [List.mem_singleton.mp q]; omega
    · rintro ⟨h1, h2, h3⟩
      obtain ⟨one, k, rfl⟩ : ∃ one k, l = one ++ [k] := ⟨l.dropLast, l.getLast (fun e => by rw [e] at h1; cases h1), (List.dropLast_concat_getLast _).symm⟩
      obtain ⟨p1, _, p3⟩ := List.pairwise_append.mp h2
      refine ⟨one, (someL_is size m one).mpr ⟨by simpa using h1, p1, fun x hx => h3 x (by simp [hx])⟩, List.mem_map.mpr ⟨k - lst one, ?_, ?_⟩⟩
      · have := h3 k (by simp)
        have := low p3
        rw [List.mem_range]
        omega
      · have := low p3
        rw [Nat.add_sub_cancel' this]
where
  below {one : List Nat} (h : one.Pairwise (· < ·)) (a : Nat) (ha : a ∈ one) : a < lst one := by
    rcases List.eq_nil_or_concat one with rfl | ⟨t, k, rfl⟩
    · cases ha
    · rw [List.concat_eq_append] at ha h ⊢
      rw [lst_snoc]
      obtain ⟨_, _, p⟩ := List.pairwise_append.mp h
      rcases List.mem_append.mp ha with q | q
      · have := p a q k (by simp); omega
      · rw [List.mem_singleton.mp q]; omega
  low {one : List Nat} {k : Nat} (h : ∀ a ∈ one, ∀ b ∈ [k], a < b) : lst one ≤ k := by
    rcases List.eq_nil_or_concat one with rfl | ⟨t, j, rfl⟩
    · exact Nat.zero_le _
    · rw [List.concat_eq_append] at h ⊢
      rw [lst_snoc]
      have := h j (by simp) k (by simp)
      omega
/-- a few places that count are a rising list -/
theorem someL_few_at {size m : Nat} {x : Nat → Int} {L : List Nat} (lL : L.length ≤ m) (h : ∀ c, c < size → x c ≠ 0 → c ∈ L) : ∃ many, many ≤ m ∧ ∃ pl ∈ someL size many, ∀ c, c < size → c ∉ pl → x c = 0 := by
  let pl := (List.range size).filter fun c => decide (x c ≠ 0)
  have nd : pl.Nodup := List.nodup_range.filter _
  refine ⟨pl.length, ?_, pl, (someL_is size _ pl).mpr ⟨rfl, (List.pairwise_lt_range).filter _, fun k hk => List.mem_range.mp (List.mem_filter.mp hk).1⟩, fun c hc hn => ?_⟩
  · refine Nat.le_trans ?_ lL
    exact nodup_le nd fun k hk => by
      obtain ⟨h1, h2⟩ := List.mem_filter.mp hk
      exact h k (List.mem_range.mp h1) (of_decide_eq_true h2)
  · by_cases e : x c = 0
    · exact e
    · exact absurd (List.mem_filter.mpr ⟨List.mem_range.mpr hc, decide_eq_true e⟩) hn
/-- the counts at the places, none elsewhere -/
def look (pl : List Nat) (zs : List Int) (c : Nat) : Int := (((pl.zip zs).find? fun p => decide (p.1 = c)).map (·.2)).getD 0
theorem look_out {pl : List Nat} {zs : List Int} {c : Nat} (h : c ∉ pl) : look pl zs c = 0 := by
  unfold look
  rw [List.find?_eq_none.mpr fun p hp e => h (by have := (List.of_mem_zip hp).1; rw [of_decide_eq_true e] at this; exact this)]
  rfl
theorem look_at : ∀ {pl : List Nat} {zs : List Int} {j : Nat}, pl.Nodup → pl.length = zs.length → j < pl.length → look pl zs (pl.getD j 0) = zs.getD j 0
  | k :: t, z :: zs, 0, _, _, _ => by simp [look]
  | k :: t, z :: zs, j + 1, nd, e, hj => by
    obtain ⟨nk, nt⟩ := List.nodup_cons.mp nd
    have hj' : j < t.length := by simpa using hj
    have ih := look_at nt (Nat.succ.inj e) hj'
    have hm : t.getD j 0 ∈ t := by rw [List.getD_eq_getElem?_getD, List.getElem?_eq_getElem hj']; exact List.getElem_mem hj'
    show look (k :: t) (z :: zs) (t.getD j 0) = zs.getD j 0
    rw [← ih]
    unfold look
    rw [List.zip_cons_cons, List.find?_cons, decide_eq_false (fun e => nk (by rw [show k = t.getD j 0 from e]; exact hm))]
theorem look_mem {pl : List Nat} {zs : List Int} {c : Nat} : look pl zs c = 0 ∨ look pl zs c ∈ zs := by
  unfold look
  cases e : (pl.zip zs).find? fun p => decide (p.1 = c) with
  | none => exact .inl rfl
  | some p => exact .inr (List.of_mem_zip (List.mem_of_find?_eq_some e)).2
end Mc
/-! The walk, 18: the fewest kinds. -/
namespace Mc
open PySem PySem.Spec PyProof.Rows L2
abbrev N_some_of : List Str := ["size", "many", "found", "turn", "one", "more"]
abbrev P_some_of : List Str := ["size", "many"]
theorem sc_some_of : FnScope N_some_of P_some_of (defScope s_some_of) := ⟨rfl, rfl, rfl, by decide +kernel, rfl, by decide +kernel, by decide +kernel⟩

theorem someL_few : ∀ size, size < 9 → ∀ m, m < 7 → (someL size m).length ≤ 100 := by decide +kernel
theorem someL_low : ∀ size, size < 9 → ∀ m, m < 7 → ∀ l ∈ someL size m, lst l ≤ 8 ∧ l.length = m := by decide +kernel
theorem someL_flat (size m : Nat) : someL size (m + 1) = ((List.range (someL size m).length).flatMap fun i => (List.range (size - lst ((someL size m).getD i []))).map fun j => (i, j)).map fun (ij : Nat × Nat) => (someL size m).getD ij.1 [] ++ [lst ((someL size m).getD ij.1 []) + ij.2] := by
  have e : (List.range (someL size m).length).map (fun i => (someL size m).getD i []) = someL size m := by
    refine List.ext_getElem (by simp) fun i h1 h2 => ?_
    simp [List.getElem?_eq_getElem h2]
  show (someL size m).flatMap _ = _
  conv => lhs; rw [← e]
  rw [List.flatMap_map, List.map_flatMap]
  congr 1
  funext i
  rw [List.map_map]
  rfl
theorem sum_le (m : Nat → Nat) (c : Nat) (h : ∀ i, m i ≤ c) : ∀ k, ((List.range k).map m).sum ≤ k * c
  | 0 => by simp
  | k + 1 => by
    rw [List.range_succ, List.map_append, List.sum_append, Nat.succ_mul]
    have := sum_le m c h k
    have := h k
    simp
    omega
theorem lst_nil : lst [] = 0 := rfl
theorem lst_end {l : List Nat} {n : Nat} {k : Nat} (e : l.length = n + 1) (h : l[n]? = some k) : lst l = k + 1 := by
  unfold lst
  rw [List.getLast?_eq_getElem?, e, Nat.add_sub_cancel, h]
section
variable {G : Gd} (B : Bl G.mg)
include B
/-- the rising lists, as they lie -/
def SmR (H : Hp) (L : List (List Nat)) (xs : List V) : Prop := Paired (fun l v => ∃ p, v = .ref p ∧ H p = some (.tup (l.map fun k : Nat => V.int k))) L xs
omit B in
theorem SmR.same {H H' : Hp} {L : List (List Nat)} {xs : List V} (h : SmR H L xs) (s : Same H H') : SmR H' L xs := Paired.mapP h fun _ _ ⟨p, e, q⟩ => ⟨p, e, s _ _ q⟩
def spSomeOf (K : PySem.W.Frag) : Sp := fun vs H Q _ => ∃ (size many : Nat), vs = [.int size, .int many] ∧ size ≤ 8 ∧ many ≤ 6 ∧
  ∀ r xs H', Same H H' → H' r = some (.lst xs) → SmR H' (someL size many) xs → Q (.ref r) H'
theorem ok_some_of (F : Df G "some_of" "some_of" s_some_of) : Cal G 1 "some_of" P_some_of (spSomeOf G.K) := by
  refine F.cal (N := N_some_of) sc_some_of (fun _ _ _ _ _ _ us hl => match us, hl with | [_, _], _ => rfl) (fun vs H Q E h => by obtain ⟨_, _, rfl, _⟩ := h; rfl) fun f cdv A outer s H vs Q E hr h => ?_
  obtain ⟨size, many, rfl, s8, m6, cont⟩ := h
  have S := sc_some_of
  refine ⟨_, (pss_cons (ps_set (i := 2) S.nd rfl (by first | exact Or.inl rfl | exact Or.inr rfl) (pe_lst (pa_cons (pe_tup pa_nil) pa_nil)))
    (pss_cons (ps_for PassesOwn.never rfl (pi_range1 (by rfl) B.range (pa_cons (pv 1) pa_nil)) (pg_name (i := 3) S.nd rfl (by first | exact Or.inl rfl | exact Or.inr rfl)) (pss_one (ps_setLc2 (i := 2) (own := [("one", 4), ("more", 5)]) (vs1 := [5]) rfl S.nd rfl rfl (sw_true rfl rfl rfl (by decide +kernel)) (pi_list (pv 2)) (blkOk_by (own := [("one", 4), ("more", 5)]) (N := N_some_of) (sc := defScope s_some_of) (by decide +kernel)) (by decide) (fun _ _ _ _ _ => (pg_name (i := 4) S.nd rfl (by first | exact Or.inl rfl | exact Or.inr rfl))) (fun _ _ _ _ _ => pts_nil) (fun _ _ _ _ _ => (pi_range2 (by rfl) B.range (pa_cons (pe_ifExp (pt_cmpR op_gt (pe_callB (call_len_seqK G.K (by rfl)) rfl B.len (by decide +kernel) (pa_cons (pv 4) pa_nil)) pe_int (nomark _)) (pe_op op_add (pe_ix (ix_tupK G.K (by rfl)) (pv 4) (pe_un un_neg pe_int) (fun _ _ => rfl)) pe_int) pe_int) (pa_cons (pv 0) pa_nil)))) (fun _ _ _ _ _ => (pg_name (i := 5) S.nd rfl (by first | exact Or.inl rfl | exact Or.inr rfl))) (fun _ _ _ _ _ => pts_nil) (fun _ _ _ _ _ => (pe_tup (pa_starK G.K (by rfl) (pv 4) (pa_cons (pv 5) pa_nil)))))))
    (pss_one (ps_ret (pv 2))))), ?_⟩
  refine ⟨few_line (by show 0 ≤ 1000; decide), fun p hp => ⟨few_line (by show 1 ≤ 1000; decide), fun F0 hF0 => ?_⟩⟩
  have s0 : Same H (L2.upd (L2.upd H p (.tup [])) F0 (.lst [.ref p])) := (same_upd hp).trans (same_upd hF0)
  refine ⟨_, rfl, many, rfl, by omega, by omega, ?_⟩
  refine for_it walk_range (fun i σ H1 => Same H H1 ∧ ∃ D xs, H1 D = some (.lst xs) ∧ SmR H1 (someL size i) xs ∧ σ[0]? = some (some (.int size)) ∧ σ[2]? = some (some (.ref D)) ∧ σ.length = 6)
    ⟨s0, F0, _, upd_same, .cons ⟨p, rfl, (same_upd hF0) _ _ upd_same⟩ .nil, rfl, rfl, rfl⟩ (fun _ _ _ _ _ => trivial) ?_ ?_
  · rintro i x σ H1 H2 hi ⟨s1, D, xs, hD, pr, e0, e2, el⟩ ⟨rfl, rfl⟩
    obtain ⟨v0, v1, v2, v3, v4, v5, rfl⟩ : ∃ v0 v1 v2 v3 v4 v5, σ = [v0, v1, v2, v3, v4, v5] := by
      match σ, el with
      | [v0, v1, v2, v3, v4, v5], _ => exact ⟨v0, v1, v2, v3, v4, v5, rfl⟩
    cases e0; cases e2
    have hi' : i < 7 := by have : i < (many : Int).toNat := hi; omega
    have lx := paired_len pr
    have l100 := someL_few size (by omega) i hi'
    let ones := someL size i
    let m : Nat → Nat := fun k => size - lst (ones.getD k [])
    refine ⟨_, rfl, D, rfl, ⟨_, SqL.of hD⟩, fun D2 hD2 => ?_⟩
    refine lc2_flat (walk_list (xs := xs)) m (fun k j y H' => ∃ p, y = .ref p ∧ H' p = some (.tup ((ones.getD k [] ++ [lst (ones.getD k []) + j]).map fun k : Nat => V.int k))) (fun k hk => ?_) hD2 (fun H2 s2 => s2.seq (SqL.of hD)) ?_ ?_ ?_
    · have := sum_le m 8 (fun i => by show size - _ ≤ 8; omega) k
      rw [sizeLine_eq]
      omega
    · rintro i j y H3 H4 ys eD sx ⟨p, e, h⟩
      exact ⟨p, e, sx _ _ h fun z => by rw [z, eD] at h; cases h⟩
    · rintro k x H3 H4 C hk s3 nd ⟨rfl, hx⟩ c
      obtain ⟨one, hone, q, rfl, hq⟩ := paired_get (paired_flip pr) hx
      have eone : ones.getD k [] = one := by show (someL size i).getD k [] = _; rw [List.getD_eq_getElem?_getD, hone]; rfl
      have sq : SqT G.K H4 q (one.map fun k : Nat => V.int k) := .inl (.inl (s3 _ _ hq))
      refine ⟨rfl, _, rfl, q, _, rfl, .inr sq, _, _, rfl, rfl, _, rfl, ?_⟩
      obtain ⟨l8, len⟩ : lst one ≤ 8 ∧ one.length = i := someL_low size (by omega) i hi' one (List.mem_of_getElem? hone)
      have mk : m k = ((size : Int) - ((lst one : Nat) : Int)).toNat := by show size - lst (ones.getD k []) = _; rw [eone]; omega
      have key : C (([some (V.int size), v1, some (V.ref D), v3, none, none] : L2.St).set 3 (some (.int (0 + (i : Nat)))) |>.set 4 (some (V.ref q))) (Itr ((lst one : Nat) : Int) ((size : Int) - ((lst one : Nat) : Int)).toNat) H4 := by
        refine c _ _ _ (fun _ => True) (YFn fun j => .int (((lst one : Nat) : Int) + (j : Nat))) (Same.refl _) (by rw [mk]; exact walk_range) (fun _ _ => trivial) ?_
        rintro j x1 H5 H6 Qy hj sx s5 nd5 ⟨rfl, rfl⟩ cy
        refine ⟨rfl, _, rfl, q, _, rfl, .inl (s5.tup (.inl (.inl hq))), ?_⟩
        refine ⟨_, rfl, few_line (by rw [List.length_append, List.length_map]; show one.length + 1 ≤ 1000; omega), fun p hp => cy _ _ (same_upd hp) ⟨p, rfl, upd_same.trans ?_⟩⟩
        rw [eone, List.map_append]
        rfl
      by_cases e : one = []
      · subst e
        dsimp only
        rw [if_neg (by decide)]
        exact ⟨_, rfl, _, _, rfl, by omega, key⟩
      · obtain ⟨n, hn⟩ : ∃ n, one.length = n + 1 := ⟨one.length - 1, by have := List.length_pos_iff.mpr e; omega⟩
        have hk : one[n]? = some one[n] := List.getElem?_eq_getElem (by omega)
        have el := lst_end hn hk
        dsimp only
        rw [if_pos (decide_eq_true (by rw [List.length_map]; omega))]
        refine ⟨_, rfl, 1, rfl, q, _, -1, _, rfl, rfl, sq, atI_end (n := n) (v := V.int (one[n] : Nat)) (by rw [List.getElem?_map, hk]; rfl) (by rw [List.length_map]; exact hn), _, _, rfl, rfl, ?_⟩
        have ec : ((one[n] : Nat) : Int) + 1 = ((lst one : Nat) : Int) := by rw [el]; rfl
        dsimp only
        rw [ec]
        exact ⟨_, rfl, _, _, rfl, by omega, key⟩
    · intro H3 acc s3 hD3 pr3
      dsimp only
      refine ⟨s1.trans s3, D2, acc, hD3, ?_, rfl, rfl, rfl⟩
      show Paired _ _ _
      rw [someL_flat]
      refine paired_to_map (f := fun (ij : Nat × Nat) => (someL size i).getD ij.1 [] ++ [lst ((someL size i).getD ij.1 []) + ij.2]) ?_
      rw [lx]
      exact pr3
  · rintro σ H1 ⟨s1, D, xs, hD, pr, e0, e2, el⟩
    obtain ⟨v0, v1, v2, v3, v4, v5, rfl⟩ : ∃ v0 v1 v2 v3 v4 v5, σ = [v0, v1, v2, v3, v4, v5] := by
      match σ, el with
      | [v0, v1, v2, v3, v4, v5], _ => exact ⟨v0, v1, v2, v3, v4, v5, rfl⟩
    cases e2
    refine ⟨_, rfl, ?_⟩
    exact cont D xs H1 s1 hD pr
end
end Mc
/-! The walk, 19: the fewest kinds. -/
namespace Mc
open PySem PySem.Spec PyProof.Rows L2
abbrev N_fewest : List Str := ["claims", "names", "rows", "sorts", "size", "many", "places", "counts", "held", "row", "at"]
abbrev P_fewest : List Str := ["claims"]
theorem sc_fewest : FnScope N_fewest P_fewest (defScope s_fewest) := ⟨rfl, rfl, rfl, by decide +kernel, rfl, by decide +kernel, by decide +kernel⟩

theorem ix_seqK {X : Cx} (K : PySem.W.Frag) (hK : X.K = K) : IxR X (rIx K) := by subst hK; exact ix_seq
section
variable {G : Gd} (B : Bl G.mg)
include B
omit B in
theorem look_val : ∀ (pl : List Nat) (zs : List Int) (c : Nat), (valV (((pl.map fun k : Nat => (k : Int)).map (Sum.inl : Int → Key)).zip (zs.map V.int)) (Sum.inl (c : Int) : Key)).getD (.int 0) = .int (look pl zs c)
  | [], zs, c => rfl
  | k :: pl, [], c => rfl
  | k :: pl, z :: zs, c => by
    have ih := look_val pl zs c
    show (valV ((Sum.inl (k : Int), V.int z) :: _) _).getD _ = V.int (look (k :: pl) (z :: zs) c)
    unfold look
    rw [List.zip_cons_cons, List.find?_cons]
    by_cases e : k = c
    · subst e
      rw [valV_pos rfl, decide_eq_true rfl]
      rfl
    · rw [valV_neg (fun q => e (by have := Sum.inl.inj q; omega)), decide_eq_false e]
      exact ih
/-- these counts use the fewest kinds -/
def Fewest (m size : Nat) (R : Nat → Nat → Int) (S : Nat → So) (zs : List Int) : Prop := ∃ many, many ≤ m ∧ (∃ pl ∈ someL size many, ∀ c, c < size → c ∉ pl → zs.getD c 0 = 0) ∧ ∀ j, j < many → ∀ q ∈ someL size j, ∃ y, Bar m j (fun i k => R i (q.getD k 0)) S y
def spFewest (C CT CC CW : Addr) (K : PySem.W.Frag) (d : Nat) : Sp := fun vs H Q _ => ∃ (a : Addr) (ws : List Str) (cs : List Cf), vs = [.ref a] ∧ At C CT CC K d ws H a cs ∧ (∀ w ∈ ws, Nm w) ∧
  (∀ ys y H', Same H H' → Asc (wordsC cs) ys → Bar cs.length (2 ^ ys.length) (rowsC ys cs) (ssC cs) y → Q .non H') ∧
  ∀ ys (zs : List Int) L v H', Same H H' → Asc (wordsC cs) ys → zs.length = 2 ^ ys.length → Kept cs.length (2 ^ ys.length) (rowsC ys cs) (ssC cs) (fun c => zs.getD c 0) → Fewest cs.length (2 ^ ys.length) (rowsC ys cs) (ssC cs) zs → WRep CW H' L v → Adds (ptsOf ys zs) L → Q v H'
def scR : Scope := { kind := .function, names := [(".0", .local), ("row", .cell), ("places", .cell)], isGenerator := false, isCoroutine := false }
theorem ok_fewest {C CT CC CW : Addr} {d : Nat} (kc : Kc G CC) (C_names_of_deciding : Cal G 1 "names_of_deciding" P_names_of_2 (spNames2 G.K)) (C_rows_of_deciding : Cal G (d + 4) "rows_of_deciding" P_rows_of_2 (spRowsOf C CT CC G.K d)) (C_sorts_of : Cal G 1 "sorts_of" P_sorts_of (spSortsOf C CT CC G.K)) (C_kinds : Cal G 3 "kinds" P_kinds (spKinds G.K)) (C_solved : Cal G 5 "solved" P_solved (spSolved G.K))
    (C_some_of : Cal G 1 "some_of" P_some_of (spSomeOf G.K)) (C_counted : Cal G 7 "counted" P_counted (spCounted G.K CW)) (F : Df G "fewest" "fewest" s_fewest) : Cal G (d + 8) "fewest" P_fewest (spFewest C CT CC CW G.K d) := by
  refine F.cal (N := N_fewest) sc_fewest (fun _ _ _ _ _ _ us hl => match us, hl with | [_], _ => rfl) (fun vs H Q E h => by obtain ⟨_, _, _, rfl, _⟩ := h; rfl) fun f cdv A outer s H vs Q E hr h => ?_
  obtain ⟨a, ws, cs, rfl, at', wn, cn, cp⟩ := h
  have S := sc_fewest
  refine ⟨_, (pss_cons (ps_set (i := 1) S.nd rfl (by first | exact Or.inl rfl | exact Or.inr rfl) (pe_cal (C_names_of_deciding.mono (by omega)) hr rfl (pa_cons (pv 0) pa_nil)))
    (pss_cons (ps_par3 (i := 2) (j := 3) (l := 4) rfl S.nd rfl rfl rfl (by decide) (by decide) (by decide) rfl rfl rfl (pa_cons (pe_cal (C_rows_of_deciding.mono (by omega)) hr rfl (pa_cons (pv 0) (pa_cons (pv 1) pa_nil))) (pa_cons (pe_cal (C_sorts_of.mono (by omega)) hr rfl (pa_cons (pv 0) pa_nil)) (pa_cons (pe_callB call_len_seq rfl B.len (by decide +kernel) (pa_cons (pe_cal (C_kinds.mono (by omega)) hr rfl (pa_cons (pv 1) pa_nil)) pa_nil)) pa_nil))) rfl)
    (pss_cons (ps_if (pt_cmpR op_isN (pe_cal (C_solved.mono (by omega)) hr rfl (pa_cons (pv 2) (pa_cons (pv 3) (pa_cons (pv 4) pa_nil)))) pe_non (nomark _)) (pss_one (ps_ret pe_non)) pss_nil)
    (pss_cons (ps_for PassesOwn.never rfl (pi_range1 (by rfl) B.range (pa_cons (pe_op op_add (pe_callB call_len_seq rfl B.len (by decide +kernel) (pa_cons (pv 0) pa_nil)) pe_int) pa_nil)) (pg_name (i := 5) S.nd rfl (by first | exact Or.inl rfl | exact Or.inr rfl)) (pss_one (ps_for PassesOwn.never rfl (pi_list (pe_cal (C_some_of.mono (by omega)) hr rfl (pa_cons (pv 4) (pa_cons (pv 5) pa_nil)))) (pg_name (i := 6) S.nd rfl (by first | exact Or.inl rfl | exact Or.inr rfl)) (pss_cons (ps_set (i := 7) S.nd rfl (by first | exact Or.inl rfl | exact Or.inr rfl) (pe_cal (C_solved.mono (by omega)) hr rfl (pa_cons (pe_lc (own := [("row", 9)]) rfl S.nd (pi_list (pv 2)) (blkOk_by (own := [("row", 9)]) (N := N_fewest) (sc := defScope s_fewest) (by decide +kernel)) (fun _ _ _ _ _ => (pg_name (i := 9) S.nd rfl (by first | exact Or.inl rfl | exact Or.inr rfl))) (fun _ _ _ _ _ => pts_nil) (fun _ _ _ _ _ => (pe_lc (own := [("at", 10)]) rfl S.nd (pi_tupK G.K (by rfl) (pv 6)) (blkOk_by (own := [("at", 10)]) (N := N_fewest) (sc := scR) (by decide +kernel)) (fun _ _ _ _ _ => (pg_name (i := 10) S.nd rfl (by first | exact Or.inl rfl | exact Or.inr rfl))) (fun _ _ _ _ _ => pts_nil) (fun _ _ _ _ _ => (pe_ix (ix_seqK G.K (by rfl)) (pv 9) (pv 10) (fun _ _ => rfl)))))) (pa_cons (pv 3) (pa_cons (pv 5) pa_nil)))))
    (pss_one (ps_if (pt_cmpR op_notN (pv 7) pe_non (nomark _)) (pss_cons (ps_set (i := 8) S.nd rfl (by first | exact Or.inl rfl | exact Or.inr rfl) (pe_dictZip rfl (by rfl) B.dict (by rfl) B.zip (pa_cons (pv 6) (pa_cons (pv 7) pa_nil))))
    (pss_one (ps_ret (pe_cal (C_counted.mono (by omega)) hr rfl (pa_cons (pe_lc (own := [("at", 10)]) rfl S.nd (pi_range1 (by rfl) B.range (pa_cons (pv 4) pa_nil)) (blkOk_by (own := [("at", 10)]) (N := N_fewest) (sc := defScope s_fewest) (by decide +kernel)) (fun _ _ _ _ _ => (pg_name (i := 10) S.nd rfl (by first | exact Or.inl rfl | exact Or.inr rfl))) (fun _ _ _ _ _ => pts_nil) (fun _ _ _ _ _ => (pe_dget2 (Nat.lt_of_le_of_lt (Nat.add_le_add_left (by decide) _) hr.units) (pv 8) (pv 10) pe_int ⟨rfl, rfl, rfl, rfl⟩))) (pa_cons (pv 1) pa_nil)))))) pss_nil))))))
    (pss_one (ps_ret pe_non)))))), ?_⟩
  have ok := at'.ok
  refine ⟨_, rfl, ?_⟩
  dsimp only [tNil]
  refine names_call B kc at' fun n ys H1 s1 asc nt => ?_
  have ysl : ys.length ≤ 3 := Nat.le_trans (asc_sub asc (made_words ok.made)) ok.ws3
  have le8 : 2 ^ ys.length ≤ 2 ^ 3 := Nat.pow_le_pow_right (by decide) ysl
  have my := made_to ok.made fun w hw => (asc.2.2 w).mpr hw
  refine ⟨_, rfl, _, rfl, a, n, cs, ys, rfl, at'.rep.same s1, ok.six, nt, asc.2.1, by omega, my, fun p H2 s2 rr _ => ?_⟩
  have s12 := s1.trans s2
  refine ⟨_, rfl, a, cs, rfl, at'.rep.same s12, ok.six, fun q H3 s3 hq => ?_⟩
  have s13 := s12.trans s3
  refine ⟨_, rfl, n, ys, ys, rfl, (nt.same (s2.trans s3)).sq, by omega, asc_self asc, by omega, fun r xs H4 s4 hr4 prs => ?_⟩
  have lxs : xs.length = 2 ^ ys.length := by have := paired_len prs; simpa using this.symm
  have lss : (cs.map (·.1)).length = cs.length := List.length_map ..
  have s14 := s13.trans s4
  have rr4 := rr.same (s3.trans s4)
  have hq4 : SqL G.K H4 q ((cs.map (·.1)).map V.str) := s4.seq (SqL.of hq)
  refine ⟨r, xs, rfl, .inr (.inl (.inl hr4)), _, _, _, rfl, ?_⟩
  dsimp only
  have sr : ∀ size R, RowsR G.K H4 p cs.length size R → size ≤ 8 → (∀ i c, (R i c).natAbs ≤ 15) → True := fun _ _ _ _ _ => trivial
  refine ⟨_, rfl, _, rfl, _, rfl, p, q, 2 ^ ys.length, rowsC ys cs, cs.map (·.1), by rw [lxs]; rfl, ⟨by rw [lss]; exact rr4, hq4, by rw [lss]; exact ok.one, by rw [lss]; exact ok.six, bd_of (by rw [lss]; exact ok.six) (by omega) fun i _ c _ => rowsC_le ok ys i c⟩, fun y H5 s5 br => ?_, fun p5 zs0 H5 s5 _ lz0 kp0 su0 _ => ?_⟩
  · rw [lss] at br
    refine ⟨rfl, _, rfl, iteP (decide_eq_true rfl) ?_⟩
    exact cn ys y H5 (s14.trans s5) asc br
  rw [lss] at kp0 su0
  refine ⟨rfl, _, rfl, iteN (fun z => by cases of_decide_eq_true z) ?_⟩
  have s15 := s14.trans s5
  obtain ⟨as, has, pas⟩ := at'.rep.same s15
  have las := paired_len pas
  have six := ok.six
  refine ⟨_, rfl, a, as, rfl, .inl has, _, _, rfl, rfl, _, rfl, by omega, by omega, ?_⟩
  let size := 2 ^ ys.length
  let R := rowsC ys cs
  let S' := ssC cs
  refine for_it walk_range (fun many σ H6 => Same H5 H6 ∧ (∀ j, j < many → ∀ q ∈ someL size j, ∃ y, Bar cs.length j (fun i k => R i (q.getD k 0)) S' y) ∧ σ[1]? = some (some (.ref n)) ∧ σ[2]? = some (some (.ref p)) ∧ σ[3]? = some (some (.ref q)) ∧ σ[4]? = some (some (.int size)) ∧ σ.length = 11)
    ⟨Same.refl _, fun j hj => absurd hj (Nat.not_lt_zero _), rfl, rfl, rfl, by show some (some (V.int (xs.length : Int))) = _; rw [lxs], rfl⟩ (fun _ _ _ _ _ => trivial) ?_ ?_
  · rintro many x σ H6 H7 hm ⟨s6, bars, e1, e2, e3, e4, el⟩ ⟨rfl, rfl⟩
    obtain ⟨v0, v1, v2, v3, v4, v5, v6, v7, v8, v9, v10, rfl⟩ : ∃ v0 v1 v2 v3 v4 v5 v6 v7 v8 v9 v10, σ = [v0, v1, v2, v3, v4, v5, v6, v7, v8, v9, v10] := by
      match σ, el with
      | [v0, v1, v2, v3, v4, v5, v6, v7, v8, v9, v10], _ => exact ⟨v0, v1, v2, v3, v4, v5, v6, v7, v8, v9, v10, rfl⟩
    cases e1; cases e2; cases e3; cases e4
    have hm6 : many ≤ 6 ∧ many ≤ cs.length := by have : many < ((as.length : Int) + 1).toNat := hm; omega
    refine ⟨_, rfl, _, rfl, size, many, by simp, by omega, hm6.1, fun D ps H7 s7 hD pps => ?_⟩
    have lps := paired_len pps
    refine ⟨D, rfl, ⟨_, SqL.of hD⟩, ?_⟩
    refine for_it (walk_list (xs := ps)) (fun i σ H8 => Same H7 H8 ∧ (∀ q ∈ (someL size many).take i, ∃ y, Bar cs.length many (fun i k => R i (q.getD k 0)) S' y) ∧ σ[1]? = some (some (.ref n)) ∧ σ[2]? = some (some (.ref p)) ∧ σ[3]? = some (some (.ref q)) ∧ σ[4]? = some (some (.int size)) ∧ σ[5]? = some (some (.int many)) ∧ σ.length = 11)
      ⟨Same.refl _, fun q hq => by simp at hq, rfl, rfl, rfl, rfl, by simp, rfl⟩ (fun i σ H8 _ h => h.1.seq (SqL.of hD)) ?_ ?_
    · rintro i x σ H8 H9 hi ⟨s8, bars2, e1, e2, e3, e4, e5, el⟩ ⟨rfl, hx⟩
      obtain ⟨v0, v1, v2, v3, v4, v5, v6, v7, v8, v9, v10, rfl⟩ : ∃ v0 v1 v2 v3 v4 v5 v6 v7 v8 v9 v10, σ = [v0, v1, v2, v3, v4, v5, v6, v7, v8, v9, v10] := by
        match σ, el with
        | [v0, v1, v2, v3, v4, v5, v6, v7, v8, v9, v10], _ => exact ⟨v0, v1, v2, v3, v4, v5, v6, v7, v8, v9, v10, rfl⟩
      cases e1; cases e2; cases e3; cases e4; cases e5
      obtain ⟨pl, hpl, P, rfl, hP⟩ := paired_get (paired_flip pps) hx
      obtain ⟨lp, pp, pz⟩ := (someL_is _ _ pl).mp (List.mem_of_getElem? hpl)
      have nd : pl.Nodup := pp.imp fun {a b} h => Nat.ne_of_lt h
      have hP8 : SqT G.K H9 P (pl.map fun k : Nat => V.int k) := s8.tup (.inl (.inl hP))
      obtain ⟨rs, hrs, prs2⟩ := (rr4.same (s5.trans (s6.trans (s7.trans s8))))
      have lrs : rs.length = cs.length := by have := paired_len prs2; simpa using this.symm
      refine ⟨_, rfl, p, rfl, ⟨_, hrs⟩, fun D2 hD2 => ?_⟩
      have sub : ∀ H10, Same H9 H10 → True := fun _ _ => trivial
      refine lc_map (walk_list (xs := rs)) (fun k y H' => ∃ r, y = .ref r ∧ r ≠ D2 ∧ H' r = some (.lst (((List.range many).map fun j => R k (pl.getD j 0)).map V.int))) (few_lt (by omega)) hD2 (fun H10 s10 => s10.seq hrs) ?_ ?_ ?_
      · rintro k y H10 H11 ys eD sx ⟨r, e, nr, h⟩
        exact ⟨r, e, nr, sx _ _ h nr⟩
      · rintro k x H10 H11 Qy hk s10 nd10 ⟨rfl, hx2⟩ cy
        obtain ⟨k', hk', r, rfl, hr0⟩ := paired_get (paired_flip prs2) hx2
        obtain rfl : k = k' := by
          rw [List.getElem?_range (by omega)] at hk'
          exact Option.some.inj hk'
        refine ⟨rfl, _, rfl, P, rfl, ⟨_, s10.tup hP8⟩, fun D3 hD3 => ?_⟩
        refine lc_map (walk_tup (xs := pl.map fun k : Nat => V.int k)) (fun j y _ => y = .int (R k (pl.getD j 0))) (few_lt (by rw [List.length_map]; omega)) hD3 (fun H12 s12 => (s10.trans s12).tup hP8) (fun _ _ _ _ _ _ _ h => h) ?_ ?_
        · rintro j x3 H12 H13 Qy2 hj s12 nd12 ⟨rfl, hx3⟩ cy2
          rw [List.getElem?_map] at hx3
          cases ej : pl[j]? with
          | none => rw [ej] at hx3; cases hx3
          | some c =>
            rw [ej] at hx3
            obtain rfl := Option.some.inj hx3
            have hc : c < size := pz c (List.mem_of_getElem? ej)
            have ix : ((List.range size).map (R k) |>.map V.int)[c]? = some (V.int (R k (pl.getD j 0))) := by
              rw [List.getElem?_map, List.getElem?_map, List.getElem?_range hc, List.getD_eq_getElem?_getD, ej]; rfl
            refine ⟨rfl, _, rfl, _, rfl, ?_⟩
            rcases hr0 with h | h
            · exact .inr (.inl ⟨r, _, (c : Int), _, rfl, rfl, (s10.trans s12).tup h, atI_nat ix, cy2 _ _ (Same.refl _) rfl⟩)
            · exact .inl ⟨r, _, (c : Int), _, rfl, rfl, (s10.trans s12).seq h, atI_nat ix, cy2 _ _ (Same.refl _) rfl⟩
        · intro H12 acc s12 hD12 hp12
          have ea := paired_map_eq (f := fun j : Nat => V.int (R k (pl.getD j 0))) hp12
          rw [List.length_map, lp] at ea
          have n3 : D3 ≠ D2 := fun e => by rw [e] at hD3; exact nd10 hD3
          refine cy _ _ s12 ⟨D3, rfl, n3, ?_⟩
          rw [hD12, ea, List.map_map]
          rfl
      intro H10 acc s10 hD10 hp10
      rw [lrs] at hp10
      have s510 := (s5.trans (s6.trans (s7.trans (s8.trans s10))))
      let R' : Nat → Nat → Int := fun i j => R i (pl.getD j 0)
      have rr' : RowsR G.K H10 D2 cs.length many R' := ⟨acc, SqL.of hD10, Paired.mapP hp10 fun k v ⟨r, e, _, h⟩ => ⟨r, e, .inr (SqL.of h)⟩⟩
      refine ⟨_, rfl, _, rfl, D2, q, many, R', cs.map (·.1), rfl, ⟨by rw [lss]; exact rr', s510.seq hq4, by rw [lss]; exact ok.one, by rw [lss]; exact ok.six, bd_of (by rw [lss]; exact ok.six) (by omega) fun i _ c _ => rowsC_le ok ys i _⟩, fun y H11 s11 br => ?_, fun p6 zs H11 s11 hp6 lz kp su bz => ?_⟩
      · rw [lss] at br
        refine ⟨_, rfl, rfl, _, rfl, iteN (by simp) ?_⟩
        refine ⟨s8.trans (s10.trans s11), fun u hu => ?_, rfl, rfl, rfl, rfl, rfl, rfl⟩
        rw [List.take_add_one, List.mem_append] at hu
        rcases hu with hu | hu
        · exact bars2 u hu
        · rw [hpl, Option.toList_some, List.mem_singleton] at hu
          subst hu
          exact ⟨y, br⟩
      · rw [lss] at kp
        refine ⟨_, rfl, rfl, _, rfl, iteP (by simp) ?_⟩
        have s511 := s510.trans s11
        have nt11 := nt.same ((s2.trans (s3.trans s4)).trans s511)
        refine ⟨_, rfl, _, rfl, P, p6, pl.map fun k : Nat => (k : Int), zs.map V.int, rfl, ?_, .inl (.inl hp6), by simp [lp, lz], ?_, by simp; omega, fun hd hhd => ?_⟩
        · rw [List.map_map]; exact (s10.trans s11).tup hP8
        · exact nd.map _ fun x y h e => h (by omega)
        refine ⟨_, rfl, size, rfl, by omega, by omega, fun D4 hD4 => ?_⟩
        rw [Int.toNat_natCast]
        refine lc_map (walk_range (lo := 0)) (fun c y _ => y = .int (look pl zs c)) (few_lt (by omega)) hD4 (fun _ _ => trivial) (fun _ _ _ _ _ _ _ h => h) ?_ ?_
        · rintro c x H12 H13 Qy hc s12 nd12 ⟨rfl, rfl⟩ cy
          rw [show ((fun i : Nat => V.int (0 + (i : Int))) c) = V.int (c : Int) from by simp]
          refine ⟨rfl, _, rfl, hd, rfl, .inl ⟨_, .inl (s12 _ _ upd_same)⟩, _, rfl, _, DGet.k (k := Sum.inl (c : Int)) (s12 _ _ upd_same), ?_⟩
          rw [look_val]
          exact cy _ _ (Same.refl _) rfl
        · intro H12 acc s12 hD12 hp12
          have ea := paired_map_eq (f := fun c : Nat => V.int (look pl zs c)) hp12
          have s512 := (s511.trans (same_upd hhd)).trans s12
          have hget : ∀ c, c < size → ((List.range size).map (look pl zs)).getD c 0 = look pl zs c := fun c hc => by
            rw [List.getD_eq_getElem?_getD, List.getElem?_map, List.getElem?_range hc]; rfl
          have out : ∀ c, c < size → c ∉ pl → ((List.range size).map (look pl zs)).getD c 0 = 0 := fun c hc hn => by rw [hget c hc, look_out hn]
          have kept : Kept cs.length size R S' fun c => ((List.range size).map (look pl zs)).getD c 0 := by
            refine kept_sup (y := fun c => zs.getD c 0) nd pz out (fun j hj => ?_) (by rw [lp]; exact kp)
            have hm : pl.getD j 0 ∈ pl := by rw [List.getD_eq_getElem?_getD, List.getElem?_eq_getElem hj]; exact List.getElem_mem hj
            rw [hget _ (pz _ hm)]
            exact look_at nd (by rw [lp, lz]) hj
          refine ⟨_, rfl, D4, n, ys, (List.range size).map (look pl zs), rfl, SqL.of (by rw [hD12, ea, List.map_map]; rfl), by simp [size], nt11.same ((same_upd hhd).trans s12), asc_self asc, ysl, fun y hy => wn y (made_words ok.made y ((asc.2.2 y).mp hy)), fun z hz => ?_, fun L v H13 s13' w adds => ?_⟩
          · obtain ⟨c, hc, rfl⟩ := List.mem_map.mp hz
            rcases look_mem (pl := pl) (zs := zs) (c := c) with h | h
            · rw [h]; decide
            · refine ⟨?_, bz _ h⟩
              have := kept.1 c (List.mem_range.mp hc)
              dsimp only at this
              rw [hget c (List.mem_range.mp hc)] at this
              exact this
          · exact cp ys _ L v H13 (s14.trans (s512.trans s13')) asc (by simp [size]) kept ⟨many, hm6.2, ⟨pl, List.mem_of_getElem? hpl, out⟩, bars⟩ w adds
    · rintro σ H8 ⟨s8, bars2, e1, e2, e3, e4, e5, el⟩
      refine ⟨s6.trans (s7.trans s8), fun j hj => ?_, e1, e2, e3, e4, el⟩
      rcases Nat.lt_succ_iff_lt_or_eq.mp hj with h | rfl
      · exact bars j h
      · rw [← lps, List.take_length] at bars2
        exact bars2
  · rintro σ H6 ⟨s6, bars, _⟩
    exfalso
    obtain ⟨L, lL, hL⟩ := su0
    obtain ⟨many, hm, pl, hpl, zz⟩ := someL_few_at lL hL
    obtain ⟨h1, h2, h3⟩ := (someL_is _ _ pl).mp hpl
    obtain ⟨y, br⟩ := bars many (by show many < ((as.length : Int) + 1).toNat; omega) pl hpl
    have nd : pl.Nodup := h2.imp fun {a b} h => Nat.ne_of_lt h
    subst h1
    exact kept_bar (kept_sub nd h3 zz kp0) br
end
end Mc
/-! The law's cells as data: in, not in, index. -/
namespace Mc
open PySem PySem.Spec PyProof.Rows L2
def cellD (ks : List Str) : PyData := .tuple (ks.map PyData.str)
theorem eqvAll_strs : ∀ a b : List Str, PyData.eqvAll (a.map PyData.str) (b.map PyData.str) = decide (a = b)
  | [], [] => rfl
  | [], _ :: _ => rfl
  | _ :: _, [] => rfl
  | x :: a, y :: b => by
    rw [List.map_cons, List.map_cons, PyData.eqvAll, eqvAll_strs a b, PyData.eqv]
    by_cases e : x = y
    · subst e
      by_cases e2 : a = b
      · subst e2; simp
      · simp [e2]
    · simp [e]
theorem eqv_cell (a b : List Str) : PyData.eqv (cellD a) (cellD b) = decide (a = b) := by
  unfold cellD
  rw [PyData.eqv]
  exact eqvAll_strs a b
theorem any_cell (L : List (List Str)) (k : List Str) : (L.map cellD).any (fun z => PyData.eqv z (cellD k)) = decide (k ∈ L) := by
  induction L with
  | nil => rfl
  | cons x L ih =>
    rw [List.map_cons, List.any_cons, ih, eqv_cell]
    by_cases e : x = k
    · subst e; simp
    · simp [e, Ne.symm e]
theorem dp_strs {K : PySem.W.Frag} {H : Hp} : ∀ ks : List Str, DpAll K H (ks.map V.str) (ks.map PyData.str)
  | [] => .nil
  | k :: ks => .cons (.str k) (dp_strs ks)
/-- v is a cell -/
def CellR (H : Hp) (ks : List Str) (v : V) : Prop := ∃ p, v = .ref p ∧ H p = some (.tup (ks.map V.str))
theorem CellR.mono {H H' : Hp} {ks : List Str} {v : V} (h : CellR H ks v) (s : ISame H H') : CellR H' ks v := let ⟨p, e, q⟩ := h; ⟨p, e, s.tup q⟩
theorem CellR.dp {K : PySem.W.Frag} {H : Hp} {ks : List Str} {v : V} (h : CellR H ks v) : Dp K H v (cellD ks) := by
  obtain ⟨p, rfl, h⟩ := h
  exact .tup (.inl (.inl h)) (dp_strs ks)
theorem cells_dp {K : PySem.W.Frag} {H : Hp} : ∀ {L : List (List Str)} {xs : List V}, Paired (CellR H) L xs → DpAll K H xs (L.map cellD)
  | _, _, .nil => .nil
  | _, _, .cons h t => .cons h.dp (cells_dp t)
theorem nm_ok {k : Str} (h : Nm k) : PyData.strOk k = true := by
  unfold PyData.strOk
  rw [← Array.all_toList, List.all_eq_true]
  intro c hc
  have hm := h.2.2.2 c hc
  have : ∀ c ∈ letters.cps.toList, c < 1114112 := by decide
  exact decide_eq_true (this c hm)
theorem strs_lay : ∀ ks : List Str, (∀ k ∈ ks, Nm k) → PyData.canLayAll0 (ks.map PyData.str) = true ∧ PyData.depthAll (ks.map PyData.str) ≤ 3
  | [], _ => by simp [PyData.canLayAll0, PyData.depthAll]
  | k :: ks, h => by
    have := strs_lay ks fun k hk => h k (List.mem_cons_of_mem _ hk)
    have hk := nm_ok (h k List.mem_cons_self)
    rw [List.map_cons, PyData.canLayAll0, PyData.depthAll]
    simp only [PyData.canLay0, PyData.depth, this.1, Bool.and_self, Bool.true_and, true_and]
    have := this.2
    rw [Nat.zero_max, hk]
    exact ⟨rfl, this⟩
theorem cell_lay (ks : List Str) (h : ∀ k ∈ ks, Nm k) : (cellD ks).canLay0 = true ∧ (cellD ks).depth ≤ 4 := by
  have := strs_lay ks h
  unfold cellD
  refine ⟨?_, ?_⟩
  · rw [PyData.canLay0]; exact this.1
  · rw [PyData.depth]; omega
theorem cells_lay : ∀ L : List (List Str), (∀ ks ∈ L, ∀ k ∈ ks, Nm k) → PyData.canLayAll0 (L.map cellD) = true ∧ PyData.depthAll (L.map cellD) ≤ 4
  | [], _ => by simp [PyData.canLayAll0, PyData.depthAll]
  | k :: L, hh => by
    have h := cells_lay L fun k hk => hh k (List.mem_cons_of_mem _ hk)
    have h2 := cell_lay k (hh k List.mem_cons_self)
    rw [List.map_cons, PyData.canLayAll0, PyData.depthAll, h.1, h2.1]
    exact ⟨rfl, Nat.max_le.mpr ⟨h2.2, h.2⟩⟩
theorem cell_shaped (ks : List Str) (h : ∀ k ∈ ks, Nm k) : SeqAt.shaped (cellD ks) = true := by
  have := cell_lay ks h
  unfold SeqAt.shaped
  rw [this.1, decide_eq_true (by omega)]
  rfl
theorem cells_shaped (L : List (List Str)) (h : ∀ ks ∈ L, ∀ k ∈ ks, Nm k) : SeqAt.shaped (.list (L.map cellD)) = true ∧ SeqAt.shaped (.tuple (L.map cellD)) = true := by
  have := cells_lay L h
  unfold SeqAt.shaped
  constructor
  · rw [PyData.canLay0, PyData.depth, this.1, decide_eq_true (by omega)]
    rfl
  · rw [PyData.canLay0, PyData.depth, this.1, decide_eq_true (by omega)]
    rfl
section
variable {X : Cx}
def rNotInC (K : PySem.W.Frag) : R2 := fun x y H Q => ∃ (ks : List Str) (a : Addr) (L : List (List Str)) (xs : List V), CellR H ks x ∧ y = .ref a ∧ (SqL K H a xs ∨ SqT K H a xs) ∧ Paired (CellR H) L xs ∧ (∀ k ∈ ks, Nm k) ∧ (∀ ks ∈ L, ∀ k ∈ ks, Nm k) ∧ Q (.bl (!decide (ks ∈ L))) H
theorem op_notInC (K : PySem.W.Frag) (hK : X.K = K) (hu : X.A.units + 65 < cLine) : OpR X (compareOp .NotIn) (rNotInC K) := by
  subst hK
  intro pins s σ H x y v u Q I rx ry h
  obtain ⟨ks, a, L, xs, hx, rfl, ha, pr, hn, hl, q⟩ := h
  obtain ⟨as, r1⟩ := Dp.reads I (cellD ks) x v hx.dp rx
  rw [← any_cell] at q
  rcases ha with ha | ha
  · obtain ⟨bs, r2⟩ := Dp.reads I (.list (L.map cellD)) (.ref a) u (.lst ha (cells_dp pr)) ry
    exact SeqAt.notIn_list_reads r2 r1 (SeqAt.canLay_of_shaped (cells_shaped L hl).1) (SeqAt.canLay_of_shaped (cell_shaped ks hn)) (room_in_shaped (cell_shaped ks hn) hu) ⟨.bl _, H, I, rfl, q⟩
  · obtain ⟨bs, r2⟩ := Dp.reads I (.tuple (L.map cellD)) (.ref a) u (.tup ha (cells_dp pr)) ry
    exact SeqAt.notIn_tuple_reads r2 r1 (SeqAt.canLay_of_shaped (cells_shaped L hl).2) (SeqAt.canLay_of_shaped (cell_shaped ks hn)) (room_in_shaped (cell_shaped ks hn) hu) ⟨.bl _, H, I, rfl, q⟩
end
end Mc

/-! The walk, 20: the law's kinds. -/
namespace Mc
open PySem PySem.Spec PyProof.Rows L2
abbrev N__law_cells : List Str := ["_law_words_here", "_law_order", "_law_found", "_law_word", "_law_cell"]
abbrev P__law_cells : List Str := ["_law_words_here"]
theorem sc__law_cells : FnScope N__law_cells P__law_cells (defScope s__law_cells) := ⟨rfl, rfl, rfl, by decide +kernel, rfl, by decide +kernel, by decide +kernel⟩

theorem op_catAK {X : Cx} (K : PySem.W.Frag) (hK : X.K = K) : OpR X (binaryOp .Add) (rCatA K) := by subst hK; exact op_catA
theorem kinds_snoc (ys : List Str) (w : Str) : (List.range (2 ^ (ys ++ [w]).length)).map (kindL (ys ++ [w])) = (List.range (2 ^ ys.length)).map (kindL ys) ++ (List.range (2 ^ ys.length)).map fun k => kindL ys k ++ [w] := by
  have low : ∀ k, kindL (ys ++ [w]) k = kindL ys k ++ if k.testBit ys.length then [w] else [] := fun k => by
    unfold kindL
    rw [List.length_append, List.length_singleton, List.range_succ, List.filter_append, List.map_append]
    congr 1
    · refine List.map_congr_left fun i hi => ?_
      have hi := List.mem_range.mp (List.mem_filter.mp hi).1
      rw [List.getD_eq_getElem?_getD, List.getElem?_append_left hi, List.getD_eq_getElem?_getD]
    · rw [List.filter_cons]
      by_cases e : k.testBit ys.length = true
      · rw [if_pos e, if_pos e]
        simp
      · rw [if_neg e, if_neg e]
        rfl
  rw [List.length_append, List.length_singleton, Nat.pow_succ, Nat.mul_two, List.range_add, List.map_append, List.map_map]
  congr 1
  · refine List.map_congr_left fun k hk => ?_
    rw [low, Nat.testBit_lt_two_pow (List.mem_range.mp hk)]
    simp
  · refine List.map_congr_left fun k hk => ?_
    show kindL (ys ++ [w]) (2 ^ ys.length + k) = _
    rw [low, Nat.testBit_two_pow_add_eq, Nat.testBit_lt_two_pow (List.mem_range.mp hk)]
    show kindL ys (2 ^ ys.length + k) ++ [w] = _
    congr 1
    unfold kindL
    congr 1
    refine List.filter_congr fun i hi => ?_
    rw [Nat.testBit_two_pow_add_gt (List.mem_range.mp hi)]
section
variable {G : Gd} (B : Bl G.mg)
include B
/-- the kinds of ys, as they lie -/
def KsR (H : Hp) (ys : List Str) (xs : List V) : Prop := Paired (CellR H) ((List.range (2 ^ ys.length)).map (kindL ys)) xs
def spLCells (K : PySem.W.Frag) : Sp := fun vs H Q _ => ∃ (a : Addr) (ws : List Str), vs = [.ref a] ∧ SqL K H a (ws.map V.str) ∧ ws.length ≤ 3 ∧ ws.Nodup ∧
  ∀ r ys xs H', Same H H' → H' r = some (.lst xs) → Asc ws ys → KsR H' ys xs → Q (.ref r) H'
theorem ok__law_cells (F : Df G "_law_cells" "_law_cells" s__law_cells) : Cal G 1 "_law_cells" P__law_cells (spLCells G.K) := by
  refine F.cal (N := N__law_cells) sc__law_cells (fun _ _ _ _ _ _ us hl => match us, hl with | [_], _ => rfl) (fun vs H Q E h => by obtain ⟨_, _, rfl, _⟩ := h; rfl) fun f cdv A outer s H vs Q E hr h => ?_
  obtain ⟨a, ws, rfl, ha, w3, nd, cont⟩ := h
  have S := sc__law_cells
  refine ⟨_, (pss_cons (ps_par (i := 1) (j := 2) rfl S.nd rfl rfl (by decide) rfl rfl (pa_cons (pe_callB cr_sortedS rfl B.sorted (by decide +kernel) (pa_cons (pe_lc (own := [("_law_word", 3)]) rfl S.nd (pi_list (pv 0)) (blkOk_by (own := [("_law_word", 3)]) (N := N__law_cells) (sc := defScope s__law_cells) (by decide +kernel)) (fun _ _ _ _ _ => (pg_name (i := 3) S.nd rfl (by first | exact Or.inl rfl | exact Or.inr rfl))) (fun _ _ _ _ _ => pts_nil) (fun _ _ _ _ _ => (pe_callTy SkE.call_str_str rfl B.str (by decide +kernel) (pa_cons (pv 3) pa_nil)))) pa_nil)) (pa_cons (pe_lst (pa_cons (pe_tup pa_nil) pa_nil)) pa_nil)) rfl)
    (pss_cons (ps_for PassesOwn.never rfl (pi_list (pv 1)) (pg_name (i := 3) S.nd rfl (by first | exact Or.inl rfl | exact Or.inr rfl)) (pss_one (ps_set (i := 2) S.nd rfl (by first | exact Or.inl rfl | exact Or.inr rfl) (pe_op op_cat (pv 2) (pe_lc (own := [("_law_cell", 4)]) rfl S.nd (pi_list (pv 2)) (blkOk_by (own := [("_law_cell", 4)]) (N := N__law_cells) (sc := defScope s__law_cells) (by decide +kernel)) (fun _ _ _ _ _ => (pg_name (i := 4) S.nd rfl (by first | exact Or.inl rfl | exact Or.inr rfl))) (fun _ _ _ _ _ => pts_nil) (fun _ _ _ _ _ => (pe_op (op_catAK G.K (by rfl)) (pv 4) (pe_tup (pa_cons (pv 3) pa_nil)))))))))
    (pss_one (ps_ret (pv 2))))), ?_⟩
  refine ⟨_, rfl, a, rfl, ⟨_, ha⟩, fun D hD => ?_⟩
  refine lc_map (walk_list (xs := ws.map V.str)) (fun i y _ => ∃ w, ws[i]? = some w ∧ y = .str w) (few_lt (by rw [List.length_map]; omega)) hD (fun H1 s1 => s1.seq ha) (fun _ _ _ _ _ _ _ h => h) ?_ ?_
  · rintro i x H1 H2 Qy hi s1 nd1 ⟨rfl, hx⟩ cy
    obtain ⟨w, hw, rfl⟩ := strs_get hx
    exact ⟨rfl, _, rfl, _, rfl, cy _ _ (Same.refl _) ⟨w, hw, rfl⟩⟩
  intro H1 acc s1 hD1 hp1
  have ea : acc = ws.map V.str := by
    rw [List.length_map] at hp1
    have h2 : Paired (fun i y => y = V.str (ws.getD i "")) (List.range ws.length) acc := Paired.mapP hp1 fun i y ⟨w, hw, e⟩ => by rw [e, List.getD_eq_getElem?_getD, hw]; rfl
    rw [paired_map_eq h2]
    refine List.ext_getElem (by simp) fun i h1 h2 => ?_
    simp at h1
    simp [List.getElem?_eq_getElem h1]
  rw [ea] at hD1
  refine ⟨D, ws, rfl, SqL.of hD1, by omega, fun ys p pm so hp => ?_⟩
  have lys : ys.length = ws.length := pm.length_eq
  have asc : Asc ws ys := ⟨so, pm.nodup_iff.mpr nd, fun k => pm.mem_iff⟩
  refine ⟨few_line (by show 0 ≤ 1000; decide), fun p0 hp0 => ⟨few_line (by show 1 ≤ 1000; decide), fun F0 hF0 => ?_⟩⟩
  refine ⟨_, _, rfl, ?_⟩
  dsimp only
  have s2 : Same H (L2.upd (L2.upd (L2.upd H1 p (.lst (ys.map V.str))) p0 (.tup [])) F0 (.lst [.ref p0])) := s1.trans ((same_upd hp).trans ((same_upd hp0).trans (same_upd hF0)))
  have hys : SqL G.K (L2.upd (L2.upd (L2.upd H1 p (.lst (ys.map V.str))) p0 (.tup [])) F0 (.lst [.ref p0])) p (ys.map V.str) := SqL.of ((same_upd hF0) _ _ ((same_upd hp0) _ _ upd_same))
  refine ⟨_, rfl, p, rfl, ⟨_, hys⟩, ?_⟩
  refine for_it (walk_list (xs := ys.map V.str)) (fun i σ H2 => Same (L2.upd (L2.upd (L2.upd H1 p (.lst (ys.map V.str))) p0 (.tup [])) F0 (.lst [.ref p0])) H2 ∧ ∃ F xs, H2 F = some (.lst xs) ∧ KsR H2 (ys.take i) xs ∧ σ[2]? = some (some (.ref F)) ∧ σ.length = 5)
    ⟨Same.refl _, F0, _, upd_same, .cons ⟨p0, rfl, (same_upd hF0) _ _ upd_same⟩ .nil, rfl, rfl⟩ (fun i σ H2 _ h => h.1.seq hys) ?_ ?_
  · rintro i x σ H2 H3 hi ⟨s3, F, xs, hF, ks, e2, el⟩ ⟨rfl, hx⟩
    obtain ⟨v0, v1, v2, v3, v4, rfl⟩ : ∃ v0 v1 v2 v3 v4, σ = [v0, v1, v2, v3, v4] := by
      match σ, el with
      | [v0, v1, v2, v3, v4], _ => exact ⟨v0, v1, v2, v3, v4, rfl⟩
    cases e2
    obtain ⟨w, hw, rfl⟩ := strs_get hx
    have lxs : xs.length = 2 ^ (ys.take i).length := by have := paired_len ks; simpa using this.symm
    have li : (ys.take i).length = i := by simp at hi ⊢; omega
    have i3 : i < 3 := by simp at hi; omega
    have le8 : 2 ^ i ≤ 2 ^ 3 := Nat.pow_le_pow_right (by decide) (by omega)
    have lx8 : xs.length ≤ 8 := by rw [lxs, li]; exact le8
    refine ⟨_, rfl, _, rfl, F, rfl, ⟨_, SqL.of hF⟩, fun D3 hD3 => ?_⟩
    refine lc_map (walk_list (xs := xs)) (fun j y H' => ∃ p, y = .ref p ∧ p ≠ D3 ∧ H' p = some (.tup ((kindL (ys.take i) j ++ [w]).map V.str))) (few_lt (by omega)) hD3 (fun H s => s.seq (SqL.of hF)) ?_ ?_ ?_
    · rintro j y H5 H6 zs eD sx ⟨p, e, n, h⟩
      exact ⟨p, e, n, sx _ _ h n⟩
    · rintro j x H5 H6 Qy hj s5 nd5 ⟨rfl, hx⟩ cy
      obtain ⟨j', hj', q, rfl, hq⟩ := paired_get (paired_flip (paired_of_map ks)) hx
      obtain rfl : j = j' := by
        rw [List.getElem?_range (by rw [← lxs]; exact hj)] at hj'
        exact Option.some.inj hj'
      refine ⟨rfl, _, rfl, _, rfl, few_line (by show 1 ≤ 1000; decide), fun b hb => ?_⟩
      have nb : b ≠ D3 := fun e => by rw [e] at hb; exact nd5 hb
      have nq : q ≠ D3 := fun e => by rw [e, hD3] at hq; cases hq
      have hq6 : (L2.upd H6 b (.tup [.str w])) q = some (.tup ((kindL (ys.take i) j).map V.str)) := (same_upd hb) _ _ (s5 _ _ hq)
      refine ⟨q, b, _, [.str w], rfl, rfl, .inl (.inl hq6), .inl (.inl upd_same), few_line (by have := (kindL_sub (ys.take i) j).length_le; rw [List.length_map, List.length_singleton]; omega), fun e => ?_, fun _ e => (by cases e), fun _ _ r hr => ?_⟩
      · have e' : kindL (ys.take i) j = [] := List.map_eq_nil_iff.mp e
        refine cy _ _ (same_upd hb) ⟨b, rfl, nb, ?_⟩
        rw [e']
        exact upd_same
      · refine cy _ _ ((same_upd hb).trans (same_upd hr)) ⟨r, rfl, fun e => by rw [e, upd_ne (Ne.symm nb)] at hr; exact nd5 hr, ?_⟩
        rw [List.map_append]
        exact upd_same
    intro H5 acc s5 hD5 hp5
    have lacc : acc.length = 2 ^ i := by have := paired_len hp5; rw [List.length_range] at this; rw [← this, lxs, li]
    refine ⟨F, D3, xs, acc, rfl, rfl, s5 _ _ hF, hD5, few_line (by omega), fun p6 hp6 => ?_⟩
    dsimp only
    have s6 : Same H3 (L2.upd H5 p6 (.lst (xs ++ acc))) := s5.trans (same_upd hp6)
    refine ⟨s3.trans s6, p6, _, upd_same, ?_, rfl, rfl⟩
    have etk : ys.take (i + 1) = ys.take i ++ [w] := by
      rw [List.take_add_one, hw]; rfl
    unfold KsR
    rw [etk, kinds_snoc]
    rw [lxs] at hp5
    refine paired_app (Paired.mapP ks fun _ _ r => r.mono s6.i) (paired_to_map (Paired.mapP hp5 ?_))
    rintro j y ⟨r, e, _, h⟩
    exact ⟨r, e, (same_upd hp6) _ _ h⟩
  · rintro σ H2 ⟨s3, F, xs, hF, ks, e2, el⟩
    refine ⟨_, e2, ?_⟩
    rw [List.length_map, List.take_length] at ks
    exact cont F ys xs H2 (s2.trans s3) hF asc ks
end
end Mc
/-! Counts carried along a map of the places. -/
namespace Mc
def push (n : Nat) (φ : Nat → Nat) (x : Nat → Int) (k : Nat) : Int := sm n fun j => if φ j = k then x j else 0
theorem sm_push {n n' : Nat} {φ : Nat → Nat} (hφ : ∀ j, j < n → φ j < n') (r x : Nat → Int) : sm n' (fun k => r k * push n φ x k) = sm n fun j => r (φ j) * x j := by
  have e1 : sm n' (fun k => r k * push n φ x k) = sm n' fun k => sm n fun j => r k * (if φ j = k then x j else 0) := sm_congr fun k _ => (sm_mul _ _).symm
  rw [e1, sm_comm]
  refine sm_congr fun j hj => ?_
  rw [sm_one (hφ j hj) fun k _ hk => by rw [if_neg (fun e => hk e.symm)]; simp]
  rw [if_pos rfl]
theorem kept_push {m n n' : Nat} {R R' : Nat → Nat → Int} {S : Nat → So} {x : Nat → Int} {φ : Nat → Nat} (hφ : ∀ j, j < n → φ j < n') (e : ∀ i, i < m → ∀ j, j < n → R i j = R' i (φ j)) (k : Kept m n R S x) : Kept m n' R' S (push n φ x) := by
  refine ⟨fun c _ => sm_nonneg fun j hj => ?_, fun i hi => ?_⟩
  · split
    · exact k.1 j hj
    · exact Int.le_refl _
  · rw [sm_push hφ]
    have := k.2 i hi
    rw [sm_congr (g := fun c => R' i (φ c) * x c) fun j hj => by rw [e i hi j hj]] at this
    exact this
theorem bar_pull {m n n' : Nat} {R R' : Nat → Nat → Int} {S : Nat → So} {y : Nat → Int} {φ : Nat → Nat} (hφ : ∀ j, j < n → φ j < n') (e : ∀ i, i < m → ∀ j, j < n → R i j = R' i (φ j)) (b : Bar m n' R' S y) : Bar m n R S y := by
  refine ⟨b.1, b.2.1, fun c hc => ?_⟩
  have := b.2.2 (φ c) (hφ c hc)
  rw [sm_congr fun i hi => by rw [e i hi c hc]]
  exact this
/-- where it is not 0 -/
theorem push_ne {n : Nat} {φ : Nat → Nat} {x : Nat → Int} {k : Nat} (h : push n φ x k ≠ 0) : ∃ j, j < n ∧ φ j = k ∧ x j ≠ 0 := by
  refine Classical.byContradiction fun q => h (sm_zero fun j hj => ?_)
  by_cases e : φ j = k
  · rw [if_pos e]
    exact Classical.byContradiction fun z => q ⟨j, hj, e, z⟩
  · rw [if_neg e]
theorem push_at {n : Nat} {φ : Nat → Nat} {x : Nat → Int} {k : Nat} (hk : k < n) (inj : ∀ j, j < n → φ j = φ k → j = k) : push n φ x (φ k) = x k := by
  unfold push
  rw [sm_one hk fun j hj hn => if_neg fun e => hn (inj j hj e), if_pos rfl]
theorem push_out {n : Nat} {φ : Nat → Nat} {x : Nat → Int} {k : Nat} (h : ∀ j, j < n → φ j ≠ k) : push n φ x k = 0 := sm_zero fun j hj => if_neg (h j hj)
end Mc
/-! Kinds of some names and kinds of more: what is kept, what bars. -/
namespace Mc
open PySem PySem.Spec PyProof.Rows L2
mutual
theorem hasF_congr {p q : Str → Bool} : ∀ f : Gf, (∀ w ∈ wordsF f, p w = q w) → hasF p f = hasF q f
  | .mk s w n ps, h => by
    rw [hasF, hasF]
    by_cases e : s = "name"
    · rw [wordsF, if_pos e] at h
      unfold sgn
      rw [if_pos e, if_pos e]
      exact h w (List.mem_singleton.mpr rfl)
    · rw [wordsF, if_neg e] at h
      rw [hasFs_congr ps h]
      unfold sgn
      rw [if_neg e, if_neg e]
theorem hasFs_congr {p q : Str → Bool} : ∀ fs : List Gf, (∀ w ∈ wordsFs fs, p w = q w) → hasFs p fs = hasFs q fs
  | [], _ => rfl
  | f :: fs, h => by
    rw [wordsFs] at h
    rw [hasFs, hasFs, hasF_congr f fun w hw => h w (List.mem_append_left _ hw), hasFs_congr fs fun w hw => h w (List.mem_append_right _ hw)]
end
theorem wt_congr {p q : Str → Bool} : ∀ ts : List Tm, (∀ w ∈ wordsT ts, p w = q w) → wt p ts = wt q ts
  | [], _ => rfl
  | t :: ts, h => by
    unfold wordsT at h
    rw [List.flatMap_cons] at h
    rw [wt, wt, hasF_congr t.2 fun w hw => h w (List.mem_append_left _ hw), wt_congr ts fun w hw => h w (List.mem_append_right _ hw)]
/-- the kind of dst that is k's of src -/
def prj (src dst : List Str) (k : Nat) : Nat := msk (fun i => inK src k (dst.getD i "")) dst.length
theorem prj_lt (src dst : List Str) (k : Nat) : prj src dst k < 2 ^ dst.length := msk_lt _ _
theorem prj_in {src dst : List Str} (nd : dst.Nodup) (k : Nat) (w : Str) : inK dst (prj src dst k) w = (decide (w ∈ dst) && inK src k w) := by
  by_cases hw : w ∈ dst
  · obtain ⟨j, hj⟩ := List.mem_iff_getElem?.mp hw
    obtain ⟨hl, hj'⟩ := List.getElem?_eq_some_iff.mp hj
    rw [inK_at nd hj]
    unfold prj
    rw [msk_bit, decide_eq_true hl, decide_eq_true hw, List.getD_eq_getElem?_getD, hj]
    rfl
  · rw [decide_eq_false hw, Bool.false_and]
    unfold inK
    exact decide_eq_false fun h => hw ((kindL_sub _ _).subset h)
theorem rows_prj {src dst : List Str} {cs : List Cf} (nd : dst.Nodup) (h : ∀ w ∈ wordsC cs, w ∈ dst) (i k : Nat) : rowsC src cs i k = rowsC dst cs i (prj src dst k) := by
  unfold rowsC
  refine wt_congr _ fun w hw => ?_
  have hm : w ∈ wordsC cs := by
    rw [List.getD_eq_getElem?_getD] at hw
    cases e : cs[i]? with
    | none => rw [e] at hw; cases hw
    | some c =>
      rw [e] at hw
      exact List.mem_flatMap.mpr ⟨c, List.mem_of_getElem? e, hw⟩
  rw [prj_in nd, decide_eq_true (h w hm), Bool.true_and]
theorem rows_emb {src dst : List Str} {cs : List Cf} (nd : dst.Nodup) (h : ∀ w ∈ src, w ∈ dst) (i k : Nat) : rowsC src cs i k = rowsC dst cs i (prj src dst k) := by
  unfold rowsC
  refine wt_congr _ fun w hw => ?_
  rw [prj_in nd]
  by_cases e : w ∈ src
  · rw [decide_eq_true (h w e), Bool.true_and]
  · have : inK src k w = false := decide_eq_false fun z => e ((kindL_sub _ _).subset z)
    rw [this, Bool.and_false]
/-- what is kept with some names is kept with more -/
theorem kept_more {m : Nat} {ys us : List Str} {cs : List Cf} {S : Nat → So} {x : Nat → Int} (nu : us.Nodup) (sub : ∀ w ∈ ys, w ∈ us) (k : Kept m (2 ^ ys.length) (rowsC ys cs) S x) : Kept m (2 ^ us.length) (rowsC us cs) S (push (2 ^ ys.length) (prj ys us) x) :=
  kept_push (fun j _ => prj_lt _ _ _) (fun i _ j _ => rows_emb nu sub i j) k
theorem kept_less {m : Nat} {ys us : List Str} {cs : List Cf} {S : Nat → So} {x : Nat → Int} (ny : ys.Nodup) (sub : ∀ w ∈ wordsC cs, w ∈ ys) (k : Kept m (2 ^ us.length) (rowsC us cs) S x) : Kept m (2 ^ ys.length) (rowsC ys cs) S (push (2 ^ us.length) (prj us ys) x) :=
  kept_push (fun j _ => prj_lt _ _ _) (fun i _ j _ => rows_prj ny sub i j) k
theorem bar_more {m : Nat} {ys us : List Str} {cs : List Cf} {S : Nat → So} {y : Nat → Int} (ny : ys.Nodup) (sub : ∀ w ∈ wordsC cs, w ∈ ys) (b : Bar m (2 ^ ys.length) (rowsC ys cs) S y) : Bar m (2 ^ us.length) (rowsC us cs) S y :=
  bar_pull (fun j _ => prj_lt _ _ _) (fun i _ j _ => rows_prj ny sub i j) b
/-- a kind is told by its words -/
theorem kindL_asc {zs ys : List Str} (a : Asc zs ys) (k : Nat) : Asc (kindL ys k) (kindL ys k) :=
  ⟨pw_sorted ((sorted_pw a.1).sublist (kindL_sub ys k)), a.2.1.sublist (kindL_sub ys k), fun _ => Iff.rfl⟩
theorem kindL_ext {ys us : List Str} {a b : List Str} (ay : Asc a ys) (au : Asc b us) {k j : Nat} (h : ∀ w, inK ys k w = inK us j w) : kindL ys k = kindL us j :=
  asc_uniq (kindL_asc ay k) (kindL_asc au j) fun w => by
    have := h w
    unfold inK at this
    exact decide_eq_decide.mp this
theorem inK_mem {ys : List Str} {k : Nat} {w : Str} : inK ys k w = true ↔ w ∈ kindL ys k := decide_eq_true_iff
theorem kind_emb {ys us a b : List Str} (ay : Asc a ys) (au : Asc b us) (sub : ∀ w ∈ ys, w ∈ us) (k : Nat) : kindL us (prj ys us k) = kindL ys k :=
  kindL_ext au ay fun w => by
    rw [prj_in au.2.1]
    by_cases e : w ∈ ys
    · rw [decide_eq_true (sub w e), Bool.true_and]
    · have : inK ys k w = false := decide_eq_false fun z => e ((kindL_sub _ _).subset z)
      rw [this, Bool.and_false]
theorem emb_of {ys us a b : List Str} (ay : Asc a ys) (au : Asc b us) (sub : ∀ w ∈ ys, w ∈ us) {k j : Nat} (hj : j < 2 ^ us.length) (e : kindL ys k = kindL us j) : prj ys us k = j :=
  kindL_inj au.2.1 (prj_lt _ _ _) hj (by rw [kind_emb ay au sub, e])
/-- what the crowd holds at a cell -/
theorem val_cell {ys us a b : List Str} {zs : List Int} {L : List Pt} (ay : Asc a ys) (au : Asc b us) (sub : ∀ w ∈ ys, w ∈ us) (ad : Adds (ptsOf ys zs) L) (nn : ∀ k, k < 2 ^ ys.length → 0 ≤ zs.getD k 0) {j : Nat} (hj : j < 2 ^ us.length) :
    valP L (kindL us j) = push (2 ^ ys.length) (prj ys us) (fun c => zs.getD c 0) j := by
  by_cases h : ∃ k, k < 2 ^ ys.length ∧ prj ys us k = j
  · obtain ⟨k, hk, e⟩ := h
    have inj : ∀ k', k' < 2 ^ ys.length → prj ys us k' = prj ys us k → k' = k := fun k' hk' e' => kindL_inj ay.2.1 hk' hk (by rw [← kind_emb ay au sub, ← kind_emb ay au sub, e'])
    rw [← e, push_at hk inj, kind_emb ay au sub]
    by_cases z : 0 < zs.getD k 0
    · have hm : (kindL ys k, zs.getD k 0) ∈ L := (ad.mem _).mpr ⟨List.mem_map.mpr ⟨k, List.mem_range.mpr hk, rfl⟩, z⟩
      exact at_val ad.nd hm
    · have e0 : zs.getD k 0 = 0 := by have := nn k hk; omega
      rw [e0]
      refine no_val fun p hp e1 => ?_
      obtain ⟨hp1, hp2⟩ := (ad.mem _).mp hp
      obtain ⟨k', hk', rfl⟩ := List.mem_map.mp hp1
      have := kindL_inj ay.2.1 (List.mem_range.mp hk') hk e1
      subst this
      exact z hp2
  · rw [push_out fun k hk e => h ⟨k, hk, e⟩]
    refine no_val fun p hp e1 => ?_
    obtain ⟨hp1, hp2⟩ := (ad.mem _).mp hp
    obtain ⟨k', hk', rfl⟩ := List.mem_map.mp hp1
    exact h ⟨k', List.mem_range.mp hk', emb_of ay au sub hj e1⟩
where
  at_val {L : List Pt} (nd : (L.map (·.1)).Nodup) {p : Pt} (h : p ∈ L) : valP L p.1 = p.2 := by
    unfold valP
    induction L with
    | nil => cases h
    | cons q L ih =>
      rw [List.map_cons] at nd
      obtain ⟨n1, n2⟩ := List.nodup_cons.mp nd
      rw [List.find?_cons]
      rcases List.mem_cons.mp h with e | e
      · subst e
        simp
      · have : ¬ q.1 = p.1 := fun z => n1 (by rw [z]; exact List.mem_map.mpr ⟨p, e, rfl⟩)
        rw [decide_eq_false this]
        exact ih n2 e
  no_val {L : List Pt} {ks : List Str} (h : ∀ p ∈ L, p.1 ≠ ks) : valP L ks = 0 := by
    unfold valP
    rw [List.find?_eq_none.mpr fun p hp e => h p hp (of_decide_eq_true e)]
    rfl
theorem part_cell {ys us a b : List Str} {zs : List Int} {L : List Pt} (ay : Asc a ys) (au : Asc b us) (sub : ∀ w ∈ ys, w ∈ us) (ad : Adds (ptsOf ys zs) L) {p : Pt} (hp : p ∈ L) : p.1 ∈ (List.range (2 ^ us.length)).map (kindL us) := by
  obtain ⟨hp1, hp2⟩ := (ad.mem _).mp hp
  obtain ⟨k', hk', rfl⟩ := List.mem_map.mp hp1
  exact List.mem_map.mpr ⟨prj ys us k', List.mem_range.mpr (prj_lt _ _ _), kind_emb ay au sub k'⟩
/-- the crowd has no more parts than places that count -/
theorem parts_few {ys : List Str} {zs : List Int} {L : List Pt} {pl : List Nat} (ad : Adds (ptsOf ys zs) L) (z : ∀ c, c < 2 ^ ys.length → c ∉ pl → zs.getD c 0 = 0) : L.length ≤ pl.length := by
  have h := nodup_le (l := L.map (·.1)) (m := pl.map (kindL ys)) ad.nd fun k hk => by
    obtain ⟨p, hp, rfl⟩ := List.mem_map.mp hk
    obtain ⟨hp1, hp2⟩ := (ad.mem _).mp hp
    obtain ⟨c, hc, rfl⟩ := List.mem_map.mp hp1
    refine List.mem_map.mpr ⟨c, Classical.byContradiction fun q => ?_, rfl⟩
    have := z c (List.mem_range.mp hc) q
    dsimp only at hp2
    omega
  simpa using h
/-- no crowd of fewer kinds keeps the claims -/
theorem fewest_beats {m wide : Nat} {ys us a b : List Str} {cs : List Cf} {S : Nat → So} {zs : List Int} {L : List Pt} {x : Nat → Int} {chosen : List (List Str)} (ny : ys.Nodup) (nu : us.Nodup) (sub : ∀ w ∈ wordsC cs, w ∈ ys)
    (f : Fewest m (2 ^ ys.length) (rowsC ys cs) S zs) (ad : Adds (ptsOf ys zs) L) (k : Kept m (2 ^ us.length) (rowsC us cs) S x) (hz : ∀ j, j < 2 ^ us.length → kindL us j ∉ chosen → x j = 0) (lt : chosen.length < L.length) : False := by
  obtain ⟨many, hm, ⟨pl, hpl, z⟩, bars⟩ := f
  have l1 := parts_few ad z
  rw [((someL_is _ _ _).mp hpl).1] at l1
  have k' := kept_less (us := us) ny sub k
  let js := (List.range (2 ^ us.length)).filter fun j => decide (kindL us j ∈ chosen)
  have ljs : js.length ≤ chosen.length := by
    have nd : (js.map (kindL us)).Nodup := by
      have nj : js.Nodup := List.nodup_range.filter _
      refine List.pairwise_map.mpr (List.Pairwise.imp_of_mem ?_ nj)
      intro p q hp hq ne e
      exact ne (kindL_inj nu (List.mem_range.mp (List.mem_filter.mp hp).1) (List.mem_range.mp (List.mem_filter.mp hq).1) e)
    have := nodup_le nd fun c hc => by
      obtain ⟨j, hj, rfl⟩ := List.mem_map.mp hc
      exact of_decide_eq_true (List.mem_filter.mp hj).2
    simpa using this
  obtain ⟨many', hm', pl', hpl', zz⟩ := someL_few_at (size := 2 ^ ys.length) (m := js.length) (x := push (2 ^ us.length) (prj us ys) x) (L := js.map (prj us ys)) (by simp) fun c hc ne => by
    obtain ⟨j, hj, e, xn⟩ := push_ne ne
    refine List.mem_map.mpr ⟨j, List.mem_filter.mpr ⟨List.mem_range.mpr hj, decide_eq_true (Classical.byContradiction fun q => xn (hz j hj q))⟩, e⟩
  obtain ⟨y, br⟩ := bars many' (by omega) pl' hpl'
  obtain ⟨h1, h2, h3⟩ := (someL_is _ _ pl').mp hpl'
  have nd : pl'.Nodup := h2.imp fun {a b} h => Nat.ne_of_lt h
  subst h1
  exact kept_bar (kept_sub nd h3 zz k') br
/-! ### the wish for fewer kinds -/
theorem sgn_name (b : Bool) (n : Nat) (bs : List Bool) : sgn "name" b n bs = b := by simp [sgn]
theorem sgn_and (b : Bool) (n : Nat) (x y : Bool) : sgn "&" b n [x, y] = (x && y) := by
  unfold sgn
  rw [if_neg (by decide), if_neg (by decide), if_pos rfl]
  rfl
theorem sgn_sub (b : Bool) (n : Nat) (x y : Bool) : sgn "-" b n [x, y] = (x && !y) := by
  unfold sgn
  rw [if_neg (by decide), if_neg (by decide), if_neg (by decide), if_neg (by decide), if_neg (by decide), if_pos rfl]
  rfl
theorem sgn_all (b : Bool) (n : Nat) (bs : List Bool) : sgn "all" b n bs = true := by
  unfold sgn
  rw [if_neg (by decide), if_neg (by decide), if_neg (by decide), if_neg (by decide), if_neg (by decide), if_neg (by decide), if_neg (by decide), if_pos rfl]
def onlyF (ks ws : List Str) : Gf := ws.foldl (fun f w => .mk (if w ∈ ks then "&" else "-") "" 0 [f, .mk "name" w 0 []]) (.mk "all" "" 0 [])
theorem onlyF_has {p : Str → Bool} {ks : List Str} : ∀ (ws : List Str) (f : Gf), hasF p (ws.foldl (fun f w => .mk (if w ∈ ks then "&" else "-") "" 0 [f, .mk "name" w 0 []]) f) = (hasF p f && decide (∀ w ∈ ws, p w = decide (w ∈ ks)))
  | [], f => by simp
  | w :: ws, f => by
    rw [List.foldl_cons, onlyF_has ws]
    have h1 : hasF p (.mk (if w ∈ ks then "&" else "-") "" 0 [f, .mk "name" w 0 []]) = (hasF p f && decide (p w = decide (w ∈ ks))) := by
      rw [hasF, hasFs, hasFs, hasFs, hasF]
      by_cases e : w ∈ ks
      · rw [if_pos e, decide_eq_true e, sgn_and, sgn_name]
        cases p w <;> cases hasF p f <;> rfl
      · rw [if_neg e, decide_eq_false e, sgn_sub, sgn_name]
        cases p w <;> cases hasF p f <;> rfl
    rw [h1, Bool.and_assoc]
    congr 1
    rw [← Bool.decide_and]
    congr 1
    simp [List.forall_mem_cons]
theorem only_self {us ws : List Str} {k : Nat} : hasF (inK us k) (onlyF (kindL us k) ws) = true := by
  unfold onlyF
  rw [onlyF_has, hasF, sgn_all, Bool.true_and]
  exact decide_eq_true fun w _ => rfl
theorem only_good {us ks : List Str} : ∀ (ws : List Str) (f : Gf), Good us f → (∀ w ∈ ws, w ∈ us) → Good us (ws.foldl (fun f w => .mk (if w ∈ ks then "&" else "-") "" 0 [f, .mk "name" w 0 []]) f) ∧ depth (ws.foldl (fun f w => .mk (if w ∈ ks then "&" else "-") "" 0 [f, .mk "name" w 0 []]) f) ≤ depth f + ws.length
  | [], f, g, _ => ⟨g, Nat.le_refl _⟩
  | w :: ws, f, g, h => by
    have hw := h w List.mem_cons_self
    have nm : Good us (.mk "name" w 0 []) := ⟨.inl ⟨rfl, rfl⟩, fun _ => hw, fun e => absurd rfl e, by omega, trivial⟩
    have g1 : Good us (.mk (if w ∈ ks then "&" else "-") "" 0 [f, .mk "name" w 0 []]) := by
      by_cases e : w ∈ ks
      · rw [if_pos e]
        exact ⟨.inr (.inr (.inr (.inr (.inr (.inl ⟨rfl, rfl⟩))))), fun e => absurd e (by decide), fun _ => rfl, by omega, g, nm, trivial⟩
      · rw [if_neg e]
        exact ⟨.inr (.inr (.inr (.inr (.inr (.inr (.inr (.inl ⟨rfl, rfl⟩))))))), fun e => absurd e (by decide), fun _ => rfl, by omega, g, nm, trivial⟩
    have ih := only_good (ks := ks) ws _ g1 fun w hw => h w (List.mem_cons_of_mem _ hw)
    rw [List.foldl_cons]
    refine ⟨ih.1, Nat.le_trans ih.2 ?_⟩
    rw [List.length_cons]
    simp only [depth, depths]
    omega
theorem onlyF_good {us ks ws : List Str} (h : ∀ w ∈ ws, w ∈ us) : Good us (onlyF ks ws) ∧ depth (onlyF ks ws) ≤ ws.length := by
  have := only_good (us := us) (ks := ks) ws (.mk "all" "" 0 []) ⟨.inr (.inl ⟨rfl, rfl⟩), fun e => absurd e (by decide), fun _ => rfl, by omega, trivial⟩ h
  refine ⟨this.1, Nat.le_trans this.2 ?_⟩
  simp [depth, depths]
theorem wt_ones {p : Str → Bool} : ∀ ts : List Tm, (∀ t ∈ ts, t.1 = 1) → 0 ≤ wt p ts ∧ ((∃ t ∈ ts, hasF p t.2 = true) → 1 ≤ wt p ts)
  | [], _ => ⟨Int.le_refl _, fun ⟨t, h, _⟩ => by cases h⟩
  | t :: ts, h => by
    have ih := wt_ones (p := p) ts fun t ht => h t (List.mem_cons_of_mem _ ht)
    have h1 := h t List.mem_cons_self
    rw [wt, h1]
    refine ⟨by split <;> omega, fun ⟨u, hu, e⟩ => ?_⟩
    rcases List.mem_cons.mp hu with q | q
    · subst q
      rw [if_pos e]
      omega
    · have := ih.2 ⟨u, q, e⟩
      split <;> omega
/-- the claims, and that no other kind is there -/
def wish (cs : List Cf) (others : List (List Str)) (ws : List Str) : List Cf := cs ++ [((("even" : Str), others.map fun ks => ((1 : Int), onlyF ks ws)) : Cf)]
theorem wish_kept {us ws : List Str} {cs : List Cf} {others : List (List Str)} {x : Nat → Int} (k : Kept (cs.length + 1) (2 ^ us.length) (rowsC us (wish cs others ws)) (ssC (wish cs others ws)) x) :
    Kept cs.length (2 ^ us.length) (rowsC us cs) (ssC cs) x ∧ ∀ j, j < 2 ^ us.length → kindL us j ∈ others → x j = 0 := by
  have row : ∀ i, i < cs.length → (wish cs others ws)[i]? = cs[i]? := fun i hi => List.getElem?_append_left hi
  have last : (wish cs others ws)[cs.length]? = some ((("even" : Str), others.map fun ks => ((1 : Int), onlyF ks ws)) : Cf) := by
    unfold wish
    rw [List.getElem?_append_right (Nat.le_refl _), Nat.sub_self]
    rfl
  refine ⟨⟨k.1, fun i hi => ?_⟩, fun j hj ho => ?_⟩
  · have := k.2 i (by omega)
    rw [sm_congr (g := fun c => rowsC us cs i c * x c) fun c _ => by unfold rowsC; rw [List.getD_eq_getElem?_getD, List.getD_eq_getElem?_getD, row i hi]] at this
    have e : ssC (wish cs others ws) i = ssC cs i := by
      show so _ = so _
      rw [List.getD_eq_getElem?_getD, List.getD_eq_getElem?_getD, List.getElem?_map, List.getElem?_map, row i hi]
    rw [e] at this
    exact this
  · have := k.2 cs.length (by omega)
    have e : ssC (wish cs others ws) cs.length = .even := by
      show so _ = _
      rw [List.getD_eq_getElem?_getD, List.getElem?_map, last]
      show so "even" = _
      decide
    rw [e] at this
    have z : sm (2 ^ us.length) (fun c => rowsC us (wish cs others ws) cs.length c * x c) = 0 := this
    have ones : ∀ c, 0 ≤ rowsC us (wish cs others ws) cs.length c ∧ (kindL us c ∈ others → 1 ≤ rowsC us (wish cs others ws) cs.length c) := fun c => by
      unfold rowsC
      rw [List.getD_eq_getElem?_getD, last]
      have := wt_ones (p := inK us c) (others.map fun ks => ((1 : Int), onlyF ks ws)) fun t ht => by
        obtain ⟨_, _, rfl⟩ := List.mem_map.mp ht
        rfl
      exact ⟨this.1, fun h => this.2 ⟨_, List.mem_map.mpr ⟨_, h, rfl⟩, only_self⟩⟩
    have each := sm_zero_each (fun c hc => Int.mul_nonneg (ones c).1 (k.1 c hc)) z j hj
    rcases Int.mul_eq_zero.mp each with q | q
    · have := (ones j).2 ho
      omega
    · exact q
end Mc
/-! The walk, 21: the law's sets of kinds. -/
namespace Mc
open PySem PySem.Spec PyProof.Rows L2
abbrev N__law_next : List Str := ["_law_cells_here", "_law_one"]
abbrev P__law_next : List Str := ["_law_cells_here", "_law_one"]
theorem sc__law_next : FnScope N__law_next P__law_next (defScope s__law_next) := ⟨rfl, rfl, rfl, by decide +kernel, rfl, by decide +kernel, by decide +kernel⟩

abbrev N__law_sets : List Str := ["_law_cells_here", "_law_wide", "_law_found", "_law_turn", "_law_longer", "_law_one", "_law_cell"]
abbrev P__law_sets : List Str := ["_law_cells_here", "_law_wide"]
theorem sc__law_sets : FnScope N__law_sets P__law_sets (defScope s__law_sets) := ⟨rfl, rfl, rfl, by decide +kernel, rfl, by decide +kernel, by decide +kernel⟩

theorem room65 {k : Nat} {A : Around} (r : Room k A) : A.units + 65 < cLine := by have := r.un; omega
theorem cells_get {H : Hp} {L : List (List Str)} {xs : List V} (h : Paired (CellR H) L xs) {i : Nat} {x : V} (e : xs[i]? = some x) : ∃ ks, L[i]? = some ks ∧ CellR H ks x := by
  obtain ⟨ks, a, b⟩ := paired_get (paired_flip h) e
  exact ⟨ks, a, b⟩
section
variable {G : Gd} (B : Bl G.mg)
include B
def spLNext (K : PySem.W.Frag) : Sp := fun vs H Q _ => ∃ (c o : Addr) (L M : List (List Str)) (xs ys : List V), vs = [.ref c, .ref o] ∧ SqL K H c xs ∧ Paired (CellR H) L xs ∧ (∀ ks ∈ L, ∀ k ∈ ks, Nm k) ∧ SqT K H o ys ∧ Paired (CellR H) M ys ∧ (∀ k ∈ M, k ∈ L) ∧ M.length ≤ 8 ∧
  ∀ (n : Nat) H', Same H H' → Q (.int n) H'
theorem ok__law_next (F : Df G "_law_next" "_law_next" s__law_next) : Cal G 1 "_law_next" P__law_next (spLNext G.K) := by
  refine F.cal (N := N__law_next) sc__law_next (fun _ _ _ _ _ _ us hl => match us, hl with | [_, _], _ => rfl) (fun vs H Q E h => by obtain ⟨_, _, _, _, _, _, rfl, _⟩ := h; rfl) fun f cdv A outer s H vs Q E hr h => ?_
  obtain ⟨c, o, L, M, xs, ys, rfl, hc, pl, nm, ho, pm, sub, m8, cont⟩ := h
  have S := sc__law_next
  have hu := hr.units
  have hu2 := room65 hr
  refine ⟨_, (pss_one (ps_ret (pe_ifExp (pt_cmpR (op_neNil hu) (pv 1) (pe_tup pa_nil) (nomark _)) (pe_op op_add (pe_bm PySem.F.plainAttrs_list PySem.F.slot_list_index PySem.F.type_list_index (mt_indexD hu2) (pv 0) (pa_cons (pe_ix ix_tup (pv 1) (pe_un un_neg pe_int) (fun _ _ => rfl)) pa_nil)) pe_int) pe_int))), ?_⟩
  refine ⟨_, rfl, few_line (by show 0 ≤ 1000; decide), fun p hp => ?_⟩
  refine ⟨o, p, ys, rfl, rfl, .inr ⟨(same_upd hp).tup ho, .inl (.inl upd_same)⟩, ?_⟩
  have s1 := same_upd (o := HO.tup []) hp
  have lm := paired_len pm
  by_cases e : ys = []
  · subst e
    refine ⟨false, rfl, ?_⟩
    dsimp only
    rw [if_neg (by decide)]
    exact cont 0 _ s1
  · obtain ⟨n, hn⟩ : ∃ n, ys.length = n + 1 := ⟨ys.length - 1, by have := List.length_pos_iff.mpr e; omega⟩
    have hk : ys[n]? = some ys[n] := List.getElem?_eq_getElem (by omega)
    obtain ⟨ks, hks, cr⟩ := cells_get pm hk
    have hm := sub ks (List.mem_of_getElem? hks)
    refine ⟨true, (by cases ys with | nil => exact absurd rfl e | cons _ _ => rfl), ?_⟩
    dsimp only
    rw [if_pos rfl]
    have pl1 : Paired (CellR (L2.upd H p (.tup []))) L xs := Paired.mapP pl fun _ _ r => r.mono s1.i
    refine ⟨_, rfl, ?_, _, rfl, 1, rfl, o, _, -1, _, rfl, rfl, s1.tup ho, atI_end hk hn, ?_⟩
    · exact .inl ⟨rfl, _, s1.seq hc⟩
    let j := L.findIdx fun z => decide (z = ks)
    have hj : j < L.length := List.findIdx_lt_length_of_exists ⟨ks, hm, decide_eq_true rfl⟩
    have ej : L[j] = ks := of_decide_eq_true (List.findIdx_getElem (w := hj))
    refine ⟨c, _, cellD ks, L.map cellD, j, cellD ks, rfl, rfl, .lst (s1.seq hc) (cells_dp pl1), (cr.mono s1.i).dp, (cells_shaped L nm).1, cell_shaped ks (nm ks hm), ?_, ?_, fun m z' hm' hz' => ?_, ?_⟩
    · rw [List.getElem?_map, List.getElem?_eq_getElem hj, ej]; rfl
    · rw [eqv_cell]; exact decide_eq_true rfl
    · rw [List.getElem?_map] at hz'
      have := List.not_of_lt_findIdx (xs := L) (p := fun z => decide (z = ks)) hm'
      rw [List.getElem?_eq_getElem (by omega)] at hz'
      have hz' := Option.some.inj hz'
      rw [← hz', eqv_cell]
      simpa using this
    · dsimp only
      refine ⟨_, _, rfl, rfl, ?_⟩
      exact cont (j + 1) _ s1
/-- some of the cells -/
def ChR (H : Hp) (L : List (List Str)) (n : Nat) (v : V) : Prop := ∃ p M ys, v = .ref p ∧ H p = some (.tup ys) ∧ Paired (CellR H) M ys ∧ M.length = n ∧ ∀ k ∈ M, k ∈ L
omit B in
theorem ChR.mono {H H' : Hp} {L : List (List Str)} {n : Nat} {v : V} (h : ChR H L n v) (s : ISame H H') : ChR H' L n v := by
  obtain ⟨p, M, ys, e, hp, pr, l, sub⟩ := h
  exact ⟨p, M, ys, e, s.tup hp, Paired.mapP pr fun _ _ r => r.mono s, l, sub⟩
def spLSets (K : PySem.W.Frag) : Sp := fun vs H Q _ => ∃ (c : Addr) (L : List (List Str)) (xs : List V) (wide : Nat), vs = [.ref c, .int wide] ∧ SqL K H c xs ∧ Paired (CellR H) L xs ∧ (∀ ks ∈ L, ∀ k ∈ ks, Nm k) ∧ L.length ≤ 8 ∧ wide ≤ 5 ∧
  ∀ r rs H', Same H H' → H' r = some (.lst rs) → (∀ v ∈ rs, ChR H' L wide v) → rs.length ≤ 8 ^ wide → Q (.ref r) H'
omit B in
theorem cut_sub {xs : List V} {lo hi : Option Int} : ∀ v ∈ cutV xs lo hi, v ∈ xs := fun v hv => List.mem_of_mem_drop (List.mem_of_mem_take hv)
theorem ok__law_sets (C_law_next : Cal G 1 "_law_next" P__law_next (spLNext G.K)) (F : Df G "_law_sets" "_law_sets" s__law_sets) : Cal G 2 "_law_sets" P__law_sets (spLSets G.K) := by
  refine F.cal (N := N__law_sets) sc__law_sets (fun _ _ _ _ _ _ us hl => match us, hl with | [_, _], _ => rfl) (fun vs H Q E h => by obtain ⟨_, _, _, _, rfl, _⟩ := h; rfl) fun f cdv A outer s H vs Q E hr h => ?_
  obtain ⟨c, L, xs, wide, rfl, hc, pl, nm, l8, w5, cont⟩ := h
  have S := sc__law_sets
  refine ⟨_, (pss_cons (ps_set (i := 2) S.nd rfl (by first | exact Or.inl rfl | exact Or.inr rfl) (pe_lst (pa_cons (pe_tup pa_nil) pa_nil)))
    (pss_cons (ps_for PassesOwn.never rfl (pi_range1 (by rfl) B.range (pa_cons (pv 1) pa_nil)) (pg_name (i := 3) S.nd rfl (by first | exact Or.inl rfl | exact Or.inr rfl)) (pss_cons (ps_set (i := 4) S.nd rfl (by first | exact Or.inl rfl | exact Or.inr rfl) (pe_lst pa_nil))
    (pss_cons (ps_for PassesOwn.never rfl (pi_list (pv 2)) (pg_name (i := 5) S.nd rfl (by first | exact Or.inl rfl | exact Or.inr rfl)) (pss_one (ps_set (i := 4) S.nd rfl (by first | exact Or.inl rfl | exact Or.inr rfl) (pe_op op_cat (pv 4) (pe_lc (own := [("_law_cell", 6)]) rfl S.nd (pi_list (pe_slice sl_list (pv 0) (po_some (pe_cal (C_law_next.mono (by omega)) hr rfl (pa_cons (pv 0) (pa_cons (pv 5) pa_nil)))) po_none)) (blkOk_by (own := [("_law_cell", 6)]) (N := N__law_sets) (sc := defScope s__law_sets) (by decide +kernel)) (fun _ _ _ _ _ => (pg_name (i := 6) S.nd rfl (by first | exact Or.inl rfl | exact Or.inr rfl))) (fun _ _ _ _ _ => pts_nil) (fun _ _ _ _ _ => (pe_op (op_catAK G.K (by rfl)) (pv 5) (pe_tup (pa_cons (pv 6) pa_nil)))))))))
    (pss_one (ps_set (i := 2) S.nd rfl (by first | exact Or.inl rfl | exact Or.inr rfl) (pv 4))))))
    (pss_one (ps_ret (pv 2))))), ?_⟩
  refine ⟨few_line (by show 0 ≤ 1000; decide), fun p hp => ⟨few_line (by show 1 ≤ 1000; decide), fun F0 hF0 => ?_⟩⟩
  have s0 : Same H (L2.upd (L2.upd H p (.tup [])) F0 (.lst [.ref p])) := (same_upd hp).trans (same_upd hF0)
  refine ⟨_, rfl, wide, rfl, by omega, by omega, ?_⟩
  have lx := paired_len pl
  have p8 : ∀ i, i ≤ 5 → 8 ^ i ≤ 8 ^ 5 := fun i h => Nat.pow_le_pow_right (by decide) h
  have e85 : 8 ^ 5 = 32768 := by decide
  refine for_it walk_range (fun i σ H1 => Same H H1 ∧ ∃ D rs, H1 D = some (.lst rs) ∧ (∀ v ∈ rs, ChR H1 L i v) ∧ rs.length ≤ 8 ^ i ∧ σ[0]? = some (some (.ref c)) ∧ σ[2]? = some (some (.ref D)) ∧ σ.length = 7)
    ⟨s0, F0, _, upd_same, (fun v hv => ?_), Nat.le_refl _, rfl, rfl, rfl⟩ (fun _ _ _ _ _ => trivial) ?_ ?_
  · rw [List.mem_singleton.mp hv]
    exact ⟨p, [], [], rfl, (same_upd hF0) _ _ upd_same, .nil, rfl, fun k hk => by cases hk⟩
  · rintro i x σ H1 H2 hi ⟨s1, D, rs, hD, ch, lr, e0, e2, el⟩ ⟨rfl, rfl⟩
    obtain ⟨v0, v1, v2, v3, v4, v5, v6, rfl⟩ : ∃ v0 v1 v2 v3 v4 v5 v6, σ = [v0, v1, v2, v3, v4, v5, v6] := by
      match σ, el with
      | [v0, v1, v2, v3, v4, v5, v6], _ => exact ⟨v0, v1, v2, v3, v4, v5, v6, rfl⟩
    cases e0; cases e2
    have hi' : i < 5 := by have : i < (wide : Int).toNat := hi; omega
    have q1 := p8 i (by omega)
    refine ⟨few_line (by show 0 ≤ 1000; decide), fun L0 hL0 => ?_⟩
    refine ⟨_, rfl, D, rfl, ⟨_, SqL.of ((same_upd hL0) _ _ hD)⟩, ?_⟩
    have sL := same_upd (o := HO.lst []) hL0
    have lrs : rs.length ≤ 8 ^ 4 := Nat.le_trans lr (Nat.pow_le_pow_right (by decide) (by omega))
    have e84 : 8 ^ 4 = 4096 := by decide
    refine for_it (walk_list (xs := rs)) (fun j σ H3 => Same H2 H3 ∧ ∃ Lg ls, H3 Lg = some (.lst ls) ∧ (∀ v ∈ ls, ChR H3 L (i + 1) v) ∧ ls.length ≤ 8 * j ∧ σ[0]? = some (some (.ref c)) ∧ σ[4]? = some (some (.ref Lg)) ∧ σ.length = 7)
      ⟨sL, L0, _, upd_same, (fun v hv => by cases hv), Nat.le_refl _, rfl, rfl, rfl⟩ (fun j σ H3 _ h => SqL.of (h.1 _ _ hD)) ?_ ?_
    · rintro j x σ H3 H4 hj ⟨s3, Lg, ls, hL, chl, ll, e0, e4, el⟩ ⟨rfl, hx⟩
      obtain ⟨v0, v1, v2, v3, v4, v5, v6, rfl⟩ : ∃ v0 v1 v2 v3 v4 v5 v6, σ = [v0, v1, v2, v3, v4, v5, v6] := by
        match σ, el with
        | [v0, v1, v2, v3, v4, v5, v6], _ => exact ⟨v0, v1, v2, v3, v4, v5, v6, rfl⟩
      cases e0; cases e4
      have s13 := s1.trans s3
      obtain ⟨p1, M, ys, rfl, hp1, pm, lm, sub⟩ := (ch x (List.mem_of_getElem? hx)).mono s3.i
      refine ⟨_, rfl, _, rfl, _, rfl, _, rfl, c, p1, L, M, xs, ys, rfl, s13.seq hc, Paired.mapP pl fun _ _ r => r.mono s13.i, nm, .inl (.inl hp1), pm, sub, by omega, fun n H5 s5 => ?_⟩
      refine ⟨_, rfl, c, xs, rfl, (s13.trans s5).seq hc, fun p6 hp6 => ?_⟩
      have s6 := s5.trans (same_upd (o := HO.lst (cutV xs (some (n : Int)) none)) hp6)
      have lcut := cutV_length xs (some (n : Int)) none
      refine ⟨p6, rfl, ⟨_, SqL.of upd_same⟩, fun D2 hD2 => ?_⟩
      refine lc_map (walk_list (xs := cutV xs (some (n : Int)) none)) (fun _ v H' => ∃ p, v = .ref p ∧ p ≠ D2 ∧ ChR H' L (i + 1) v) (few_lt (by omega)) hD2 (fun H7 s7 => SqL.of (s7 _ _ upd_same)) ?_ ?_ ?_
      · rintro k v H7 H8 zs eD sx ⟨q, rfl, ne, q', M', ys', e, h1, h2, h3, h4⟩
        obtain rfl := V.ref.inj e
        refine ⟨q, rfl, ne, q, M', ys', rfl, sx _ _ h1 ne, Paired.mapP h2 fun ks v ⟨p, e, h⟩ => ⟨p, e, sx _ _ h fun z => by rw [z, eD] at h; cases h⟩, h3, h4⟩
      · rintro k v H7 H8 Qy hk s7 nd7 ⟨rfl, hv⟩ cy
        have s38 := s6.trans s7
        obtain ⟨ks, hks, cr⟩ := cells_get (Paired.mapP pl fun _ _ r => r.mono (s13.trans s38).i) (List.getElem?_of_mem (cut_sub v (List.mem_of_getElem? hv))).choose_spec
        have hm := List.mem_of_getElem? hks
        refine ⟨rfl, _, rfl, _, rfl, few_line (by show 1 ≤ 1000; decide), fun b hb => ?_⟩
        have nb : b ≠ D2 := fun e => by rw [e] at hb; exact nd7 hb
        have sb := same_upd (o := HO.tup [v]) hb
        have hq6 : (L2.upd H8 b (.tup [v])) p1 = some (.tup ys) := sb _ _ (s38 _ _ hp1)
        have lys := paired_len pm
        refine ⟨p1, b, ys, [v], rfl, rfl, .inl (.inl hq6), .inl (.inl upd_same), few_line (by rw [List.length_singleton]; omega), fun e => ?_, fun _ e => (by cases e), fun _ _ r hr => ?_⟩
        · subst e
          refine cy _ _ sb ⟨b, rfl, nb, b, [ks], [v], rfl, upd_same, .cons (cr.mono sb.i) .nil, ?_, fun k hk => by rw [List.mem_singleton.mp hk]; exact hm⟩
          rw [← lm, lys]; rfl
        · have sr := sb.trans (same_upd (o := HO.tup (ys ++ [v])) hr)
          refine cy _ _ sr ⟨r, rfl, fun e => by rw [e, upd_ne (Ne.symm nb)] at hr; exact nd7 hr, r, M ++ [ks], ys ++ [v], rfl, upd_same, paired_snoc (Paired.mapP pm fun _ _ r => r.mono (s38.trans sr).i) (cr.mono sr.i), ?_, fun k hk => ?_⟩
          · rw [List.length_append, lm]; rfl
          · rcases List.mem_append.mp hk with h | h
            · exact sub k h
            · rw [List.mem_singleton.mp h]; exact hm
      intro H7 acc s7 hD7 hp7
      have s37 := s6.trans s7
      have lacc := paired_len hp7
      rw [List.length_range] at lacc
      refine ⟨Lg, D2, ls, acc, rfl, rfl, s37 _ _ hL, hD7, by rw [sizeLine_eq]; omega, fun p8 hp8 => ?_⟩
      dsimp only
      have s38 := s37.trans (same_upd (o := HO.lst (ls ++ acc)) hp8)
      refine ⟨s3.trans s38, p8, _, upd_same, fun v hv => ?_, by rw [List.length_append]; omega, rfl, rfl, rfl⟩
      rcases List.mem_append.mp hv with h | h
      · exact (chl v h).mono s38.i
      · obtain ⟨k, hk⟩ := List.mem_iff_getElem?.mp h
        obtain ⟨_, _, p, _, _, c'⟩ := paired_get (paired_flip hp7) hk
        exact c'.mono (same_upd hp8).i
    · rintro σ H3 ⟨s3, Lg, ls, hL, chl, ll, e0, e4, el⟩
      refine ⟨_, e4, ?_⟩
      obtain ⟨v0, v1, v2, v3, v4, v5, v6, rfl⟩ : ∃ v0 v1 v2 v3 v4 v5 v6, σ = [v0, v1, v2, v3, v4, v5, v6] := by
        match σ, el with
        | [v0, v1, v2, v3, v4, v5, v6], _ => exact ⟨v0, v1, v2, v3, v4, v5, v6, rfl⟩
      cases e0; cases e4
      exact ⟨s1.trans s3, Lg, ls, hL, chl, by rw [Nat.pow_succ]; omega, rfl, rfl, rfl⟩
  · rintro σ H1 ⟨s1, D, rs, hD, ch, lr, e0, e2, el⟩
    refine ⟨_, e2, ?_⟩
    exact cont D rs H1 s1 hD ch lr
end
end Mc
/-! The walk, 22: the form that tells one kind; the wish for fewer. -/
namespace Mc
open PySem PySem.Spec PyProof.Rows L2
abbrev N__law_only : List Str := ["_law_cell", "_law_words_here", "_law_found", "_law_word"]
abbrev P__law_only : List Str := ["_law_cell", "_law_words_here"]
theorem sc__law_only : FnScope N__law_only P__law_only (defScope s__law_only) := ⟨rfl, rfl, rfl, by decide +kernel, rfl, by decide +kernel, by decide +kernel⟩

abbrev N__law_few : List Str := ["_law_some", "_law_words_here", "_law_chosen", "_law_others", "_law_cell"]
abbrev P__law_few : List Str := ["_law_some", "_law_words_here", "_law_chosen"]
theorem sc__law_few : FnScope N__law_few P__law_few (defScope s__law_few) := ⟨rfl, rfl, rfl, by decide +kernel, rfl, by decide +kernel, by decide +kernel⟩

theorem onlyF_snoc (ks ws : List Str) (w : Str) : onlyF ks (ws ++ [w]) = .mk (if w ∈ ks then "&" else "-") "" 0 [onlyF ks ws, .mk "name" w 0 []] := by
  unfold onlyF
  rw [List.foldl_append]
  rfl
section
variable {G : Gd} (B : Bl G.mg)
include B
def spLOnly (K : PySem.W.Frag) : Sp := fun vs H Q _ => ∃ (c w : Addr) (ks ws : List Str), vs = [.ref c, .ref w] ∧ H c = some (.tup (ks.map V.str)) ∧ SqL K H w (ws.map V.str) ∧ ws.length ≤ 3 ∧ ks.length ≤ 3 ∧
  ∀ v H', Same H H' → FRep H' (onlyF ks ws) v → Q v H'
theorem ok__law_only (F : Df G "_law_only" "_law_only" s__law_only) : Cal G 1 "_law_only" P__law_only (spLOnly G.K) := by
  refine F.cal (N := N__law_only) sc__law_only (fun _ _ _ _ _ _ us hl => match us, hl with | [_, _], _ => rfl) (fun vs H Q E h => by obtain ⟨_, _, _, _, rfl, _⟩ := h; rfl) fun f cdv A outer s H vs Q E hr h => ?_
  obtain ⟨c, w, ks, ws, rfl, hc, hw, w3, k3, cont⟩ := h
  have S := sc__law_only
  refine ⟨_, (pss_cons (ps_set (i := 2) S.nd rfl (by first | exact Or.inl rfl | exact Or.inr rfl) (pe_tup (pa_cons pe_str pa_nil)))
    (pss_cons (ps_for PassesOwn.never rfl (pi_list (pv 1)) (pg_name (i := 3) S.nd rfl (by first | exact Or.inl rfl | exact Or.inr rfl)) (pss_one (ps_set (i := 2) S.nd rfl (by first | exact Or.inl rfl | exact Or.inr rfl) (pe_tup (pa_cons (pe_ifExp (pt_cmpR op_in_seq (pv 3) (pv 0) rfl) pe_str pe_str) (pa_cons (pv 2) (pa_cons (pe_tup (pa_cons pe_str (pa_cons (pv 3) pa_nil))) pa_nil)))))))
    (pss_one (ps_ret (pv 2))))), ?_⟩
  refine ⟨few_line (by show 1 ≤ 1000; decide), fun p hp => ?_⟩
  refine ⟨_, rfl, w, rfl, ⟨_, (same_upd hp).seq hw⟩, ?_⟩
  refine for_it (walk_list (xs := ws.map V.str)) (fun i σ H1 => Same H H1 ∧ ∃ v, FRep H1 (onlyF ks (ws.take i)) v ∧ σ[0]? = some (some (.ref c)) ∧ σ[2]? = some (some v) ∧ σ.length = 4)
    ⟨same_upd hp, .ref p, ⟨p, rfl, .inr (.inr ⟨by decide, by decide, rfl, [], upd_same, rfl⟩)⟩, rfl, rfl, rfl⟩ (fun i σ H1 _ h => h.1.seq hw) ?_ ?_
  · rintro i x σ H1 H2 hi ⟨s1, v, fr, e0, e2, el⟩ ⟨rfl, hx⟩
    obtain ⟨v0, v1, v2, v3, rfl⟩ : ∃ v0 v1 v2 v3, σ = [v0, v1, v2, v3] := by
      match σ, el with
      | [v0, v1, v2, v3], _ => exact ⟨v0, v1, v2, v3, rfl⟩
    cases e0; cases e2
    obtain ⟨z, hz, rfl⟩ := strs_get hx
    have etk : ws.take (i + 1) = ws.take i ++ [z] := by
      rw [List.take_add_one, hz]; rfl
    have hc2 : SqT G.K H2 c (ks.map V.str) := .inl (.inl (s1 _ _ hc))
    refine ⟨_, rfl, _, rfl, c, _, rfl, .inr hc2, rfl, flat_str ks, ?_⟩
    refine ⟨decide (z ∈ ks), congrArg V.bl inV_str, ?_⟩
    have done : ∀ (sg : Str) (q r : Addr), sg ≠ "name" → sg ≠ "at" → sg = (if z ∈ ks then ("&" : Str) else ("-" : Str)) → H2 q = none → (L2.upd H2 q (.tup [.str "name", .str z])) r = none →
        FRep (L2.upd (L2.upd H2 q (.tup [.str "name", .str z])) r (.tup [.str sg, v, .ref q])) (onlyF ks (ws.take (i + 1))) (.ref r) := fun sg q r n1 n2 e hq hr => by
      have s2 := (same_upd (o := HO.tup [.str "name", .str z]) hq).trans (same_upd (o := HO.tup [.str sg, v, .ref q]) hr)
      rw [etk, onlyF_snoc, ← e]
      exact ⟨r, rfl, .inr (.inr ⟨n1, n2, rfl, [v, .ref q], upd_same, v, [.ref q], rfl, fr.mono s2.i, .ref q, [], rfl, ⟨q, rfl, .inl ⟨rfl, rfl, (same_upd hr) _ _ upd_same⟩⟩, rfl⟩)⟩
    by_cases e : z ∈ ks
    · rw [decide_eq_true e]
      dsimp only
      rw [if_pos rfl]
      refine ⟨_, rfl, _, rfl, few_line (by show 2 ≤ 1000; decide), fun q hq => ?_⟩
      dsimp only [tNil]
      refine ⟨few_line (by show 3 ≤ 1000; decide), fun r hr => ?_⟩
      exact ⟨s1.trans ((same_upd hq).trans (same_upd hr)), _, done "&" q r (by decide) (by decide) (by rw [if_pos e]) hq hr, rfl, rfl, rfl⟩
    · rw [decide_eq_false e]
      dsimp only
      rw [if_neg (by decide)]
      refine ⟨_, rfl, _, rfl, few_line (by show 2 ≤ 1000; decide), fun q hq => ?_⟩
      dsimp only [tNil]
      refine ⟨few_line (by show 3 ≤ 1000; decide), fun r hr => ?_⟩
      exact ⟨s1.trans ((same_upd hq).trans (same_upd hr)), _, done "-" q r (by decide) (by decide) (by rw [if_neg e]) hq hr, rfl, rfl, rfl⟩
  · rintro σ H1 ⟨s1, v, fr, e0, e2, el⟩
    refine ⟨_, e2, ?_⟩
    rw [List.length_map, List.take_length] at fr
    exact cont v H1 s1 fr
/-- the law's claims -/
def LsR (H : Hp) (a : Addr) (cs : List Cf) : Prop := ∃ xs, H a = some (.lst xs) ∧ Paired (LRep H) cs xs
omit B in
theorem LsR.same {H H' : Hp} {a : Addr} {cs : List Cf} (h : LsR H a cs) (s : Same H H') : LsR H' a cs := let ⟨xs, e, p⟩ := h; ⟨xs, s _ _ e, Paired.mapP p fun _ _ r => r.mono s.i⟩
/-- the kinds that are not chosen -/
def othersL (us : List Str) (M : List (List Str)) : List (List Str) := ((List.range (2 ^ us.length)).map (kindL us)).filter fun ks => decide (ks ∉ M)
def spLFew (K : PySem.W.Frag) : Sp := fun vs H Q _ => ∃ (a w c : Addr) (cs : List Cf) (ws : List Str) (M : List (List Str)) (ys : List V), vs = [.ref a, .ref w, .ref c] ∧ LsR H a cs ∧ cs.length ≤ 5 ∧ SqL K H w (ws.map V.str) ∧ ws.length ≤ 3 ∧ ws.Nodup ∧ (∀ k ∈ ws, Nm k) ∧
  SqT K H c ys ∧ Paired (CellR H) M ys ∧ (∀ ks ∈ M, ∀ k ∈ ks, Nm k) ∧ ∀ us r H', Same H H' → Asc ws us → LsR H' r (wish cs (othersL us M) ws) → Q (.ref r) H'
theorem ok__law_few (C_law_cells : Cal G 1 "_law_cells" P__law_cells (spLCells G.K)) (C_law_only : Cal G 1 "_law_only" P__law_only (spLOnly G.K)) (F : Df G "_law_few" "_law_few" s__law_few) : Cal G 2 "_law_few" P__law_few (spLFew G.K) := by
  refine F.cal (N := N__law_few) sc__law_few (fun _ _ _ _ _ _ us hl => match us, hl with | [_, _, _], _ => rfl) (fun vs H Q E h => by obtain ⟨_, _, _, _, _, _, _, rfl, _⟩ := h; rfl) fun f cdv A outer s H vs Q E hr h => ?_
  obtain ⟨a, w, c, cs, ws, M, ys, rfl, ⟨xs, ha, prs⟩, l5, hw, w3, nd, nm, hc, pm, nmM, cont⟩ := h
  have S := sc__law_few
  refine ⟨_, (pss_cons (ps_setLc (i := 3) (own := [("_law_cell", 4)]) rfl S.nd rfl rfl (sw_true rfl rfl rfl (by decide +kernel)) (pi_list (pe_cal (C_law_cells.mono (by omega)) hr rfl (pa_cons (pv 1) pa_nil))) (blkOk_by (own := [("_law_cell", 4)]) (N := N__law_few) (sc := defScope s__law_few) (by decide +kernel)) (fun _ _ _ _ _ => (pg_name (i := 4) S.nd rfl (by first | exact Or.inl rfl | exact Or.inr rfl))) (fun _ _ _ _ _ => pts_one (pt_cmpR (op_notInC G.K (by rfl) (room65 hr)) (pv 4) (pv 2) rfl)) (fun _ _ _ _ _ => (pv 4)))
    (pss_one (ps_ret (pe_op op_cat (pv 0) (pe_lst (pa_cons (pe_tup (pa_cons pe_str (pa_cons (pe_callTy call_tuple_of rfl B.tuple (by decide +kernel) (pa_cons (pe_lc (own := [("_law_cell", 4)]) rfl S.nd (pi_list (pv 3)) (blkOk_by (own := [("_law_cell", 4)]) (N := N__law_few) (sc := defScope s__law_few) (by decide +kernel)) (fun _ _ _ _ _ => (pg_name (i := 4) S.nd rfl (by first | exact Or.inl rfl | exact Or.inr rfl))) (fun _ _ _ _ _ => pts_nil) (fun _ _ _ _ _ => (pe_tup (pa_cons pe_int (pa_cons (pe_cal (C_law_only.mono (by omega)) hr rfl (pa_cons (pv 4) (pa_cons (pv 1) pa_nil))) pa_nil))))) pa_nil)) pa_nil))) pa_nil)))))), ?_⟩
  refine ⟨_, rfl, w, ws, rfl, hw, w3, nd, fun r us zs H1 s1 hr1 asc ks => ?_⟩
  have lus : us.length ≤ 3 := Nat.le_trans (asc_sub asc fun _ h => h) w3
  have le8 : 2 ^ us.length ≤ 2 ^ 3 := Nat.pow_le_pow_right (by decide) lus
  have lzs : zs.length = 2 ^ us.length := by have := paired_len ks; simpa using this.symm
  refine ⟨r, rfl, ⟨_, SqL.of hr1⟩, fun D hD => ?_⟩
  have kn : ∀ k, ∀ x ∈ kindL us k, Nm x := fun k x hx => nm x ((asc.2.2 x).mp ((kindL_sub us k).subset hx))
  refine lc_sel (walk_list (xs := zs)) (fun k => decide (kindL us k ∉ M)) (fun k y H' => CellR H' (kindL us k) y) (few_lt (by omega)) hD (fun H2 s2 => SqL.of (s2 _ _ hr1)) ?_ ?_ ?_
  · rintro k y H2 H3 vs eD sx ⟨p, e, h⟩
    exact ⟨p, e, sx _ _ h fun z => by rw [z, eD] at h; cases h⟩
  · rintro k x H2 H3 Qy Qn hk s2 nd2 ⟨rfl, hx⟩ cy cn
    obtain ⟨k', hk', cr⟩ := paired_get (paired_flip (paired_of_map ks)) hx
    obtain rfl : k = k' := by
      rw [List.getElem?_range (by omega)] at hk'
      exact Option.some.inj hk'
    have cr3 := cr.mono s2.i
    have s13 := s1.trans s2
    refine ⟨rfl, _, rfl, _, rfl, kindL us k, c, M, ys, cr3, rfl, .inr (s13.tup hc), Paired.mapP pm fun _ _ r => r.mono s13.i, kn k, nmM, ?_⟩
    refine ⟨_, rfl, ?_⟩
    by_cases e : kindL us k ∈ M
    · rw [decide_eq_true e]
      dsimp only
      rw [if_neg (by decide)]
      exact cn (by show decide (kindL us k ∉ M) = false; exact decide_eq_false fun z => z e) _ (Same.refl _)
    · rw [decide_eq_false e]
      dsimp only
      rw [if_pos (by decide)]
      exact ⟨_, rfl, cy (by show decide (kindL us k ∉ M) = true; exact decide_eq_true e) _ _ (Same.refl _) cr3⟩
  · intro H2 acc s2 hD2 hp2
    have s12 := s1.trans s2
    have hp3 : Paired (CellR H2) (othersL us M) acc := by
      unfold othersL
      rw [List.filter_map]
      rw [lzs] at hp2
      exact paired_to_map hp2
    have lacc := paired_len hp3
    have lo : (othersL us M).length ≤ 8 := by
      refine Nat.le_trans (List.length_filter_le _ _) ?_
      rw [List.length_map, List.length_range]
      omega
    refine ⟨_, rfl, _, rfl, D, rfl, ⟨_, SqL.of hD2⟩, fun D2 hD2' => ?_⟩
    refine lc_map (walk_list (xs := acc)) (fun j y H' => ∃ ks, (othersL us M)[j]? = some ks ∧ Two FRep H' (1, onlyF ks ws) y) (few_lt (by omega)) hD2' (fun H3 s3 => SqL.of (s3 _ _ hD2)) ?_ ?_ ?_
    · rintro j y H3 H4 vs eD sx ⟨ks, e, t⟩
      have i := SameX.i sx (raw_lst eD)
      exact ⟨ks, e, t.mono i (FRep.mono i)⟩
    · rintro j x H3 H4 Qy hj s3 nd3 ⟨rfl, hx⟩ cy
      obtain ⟨ks, hks, p, rfl, hp⟩ := cells_get hp3 hx
      have k3 : ks.length ≤ 3 := by
        obtain ⟨k, _, rfl⟩ := List.mem_map.mp (List.mem_filter.mp (List.mem_of_getElem? hks)).1
        exact Nat.le_trans (kindL_sub us k).length_le lus
      refine ⟨rfl, _, rfl, _, rfl, p, w, ks, ws, rfl, s3 _ _ hp, (s12.trans s3).seq hw, w3, k3, fun v H5 s5 fr => ?_⟩
      dsimp only [tNil]
      refine ⟨few_line (by show 2 ≤ 1000; decide), fun b hb => ?_⟩
      exact cy _ _ (s5.trans (same_upd hb)) ⟨ks, hks, b, v, rfl, upd_same, fr.mono (same_upd hb).i⟩
    intro H3 acc2 s3 hD3 hp3'
    have s13 := s12.trans s3
    refine ⟨D2, acc2, rfl, .inl ⟨SqL.of hD3, fun l hl => ?_⟩⟩
    dsimp only [tNil]
    refine ⟨few_line (by show 2 ≤ 1000; decide), fun b hb => ?_⟩
    refine ⟨few_line (by show 1 ≤ 1000; decide), fun e he => ?_⟩
    have s3e := (same_upd (o := HO.tup acc2) hl).trans ((same_upd (o := HO.tup [.str "even", .ref l]) hb).trans (same_upd (o := HO.lst [.ref b]) he))
    have lxs := paired_len prs
    refine ⟨a, e, xs, [.ref b], rfl, rfl, s3e _ _ (s13 _ _ ha), upd_same, few_line (by rw [List.length_singleton]; omega), fun r2 hr2 => ?_⟩
    have s3r := s3e.trans (same_upd (o := HO.lst (xs ++ [.ref b])) hr2)
    refine cont us r2 _ (s13.trans s3r) asc ⟨_, upd_same, ?_⟩
    unfold wish
    refine paired_snoc (Paired.mapP prs fun _ _ r => r.mono (s13.trans s3r).i) ?_
    refine ⟨b, l, acc2, rfl, (same_upd hr2) _ _ ((same_upd he) _ _ upd_same), (same_upd hr2) _ _ ((same_upd he) _ _ ((same_upd hb) _ _ upd_same)), paired_to_map ?_⟩
    rw [← lacc] at hp3'
    exact paired_range (Paired.mapP hp3' fun j y ⟨ks, e, t⟩ => ⟨ks, e, t.mono s3r.i (FRep.mono s3r.i)⟩)
end
end Mc
/-! The walk, 23: what a form has. -/
namespace Mc
open PySem PySem.Spec PyProof.Rows L2
theorem unit1 {k : Nat} {A : Around} (r : Room k A) : A.units + 1 < cLine := by have := r.un; omega
abbrev N__law_has : List Str := ["_law_form_here", "_law_inside", "_law_here", "_law_there", "_law_one"]
abbrev P__law_has : List Str := ["_law_form_here", "_law_inside"]
theorem sc__law_has : FnScope N__law_has P__law_has (defScope s__law_has) := ⟨rfl, rfl, rfl, by decide +kernel, rfl, by decide +kernel, by decide +kernel⟩

section
variable {G : Gd} (B : Bl G.mg)
include B
omit B in
theorem t_and {i : Nat} {σ : L2.St} {H : Hp} {Q : VK} {x y : Bool} (h : σ[i]? = some (some (.bl x))) {tb : TE} (hb : ∀ Q' : VK, Q' (.bl y) H → tb σ H Q') (q : Q (.bl (x && y)) H) : tAndV (tVar i) tb σ H Q := by
  refine ⟨_, h, x, rfl, ?_⟩
  cases x
  · exact iteN (by decide) q
  · exact iteP rfl (hb _ q)
omit B in
theorem t_or {i : Nat} {σ : L2.St} {H : Hp} {Q : VK} {x y : Bool} (h : σ[i]? = some (some (.bl x))) {tb : TE} (hb : ∀ Q' : VK, Q' (.bl y) H → tb σ H Q') (q : Q (.bl (x || y)) H) : tOrV (tVar i) tb σ H Q := by
  refine ⟨_, h, x, rfl, ?_⟩
  cases x
  · exact iteN (by decide) (hb _ q)
  · exact iteP rfl q
omit B in
theorem count_map {α : Type} (p : α → Bool) (l : List α) : (l.map p).count true = (l.filter p).length := by
  induction l with
  | nil => rfl
  | cons x l ih =>
    rw [List.map_cons, List.count_cons, List.filter_cons, ih]
    cases p x <;> simp
omit B in
theorem disp4 (v1 v2 v3 v4 : V) : let kvs := mergeK [] [((Sum.inr "&" : Key), v1), (Sum.inr "|", v2), (Sum.inr "-", v3), (Sum.inr "^", v4)]
    valV kvs (Sum.inr "&") = some v1 ∧ valV kvs (Sum.inr "|") = some v2 ∧ valV kvs (Sum.inr "-") = some v3 ∧ valV kvs (Sum.inr "^") = some v4 := ⟨rfl, rfl, rfl, rfl⟩
omit B in
theorem sgn_or (b : Bool) (n : Nat) (x y : Bool) : sgn "|" b n [x, y] = (x || y) := by
  unfold sgn
  rw [if_neg (by decide), if_neg (by decide), if_neg (by decide), if_pos rfl]
  rfl
omit B in
theorem sgn_xor (b : Bool) (n : Nat) (x y : Bool) : sgn "^" b n [x, y] = (!decide (V.bl x = V.bl y)) := by
  unfold sgn
  rw [if_neg (by decide), if_neg (by decide), if_neg (by decide), if_neg (by decide), if_pos rfl]
  cases x <;> cases y <;> decide
omit B in
theorem at0 (x : V) (xs : List V) : atI (x :: xs) 0 = some x := atI_nat (xs := x :: xs) (j := 0) rfl
def spLHas (d : Nat) : Sp := fun vs H Q _ => ∃ (f : Gf) (us ks : List Str) (v : V) (c : Addr), vs = [v, .ref c] ∧ FRep H f v ∧ Good us f ∧ depth f < d ∧ H c = some (.tup (ks.map V.str)) ∧ ks.length ≤ 3 ∧
  ∀ H', Same H H' → Q (.bl (hasF (fun w => decide (w ∈ ks)) f)) H'
theorem ok__law_has (F : Df G "_law_has" "_law_has" s__law_has) : ∀ d, Cal G (d + 1) "_law_has" P__law_has (spLHas d)
  | 0 => (F.cal (N := N__law_has) sc__law_has (fun _ _ _ _ _ _ us hl => match us, hl with | [_, _], _ => rfl) (fun vs H Q E h => by obtain ⟨_, _, _, _, _, _, _, _, h, _⟩ := h; exact absurd h (Nat.not_lt_zero _))
      fun f cdv A outer s H vs Q E hr h => by obtain ⟨_, _, _, _, _, _, _, _, h, _⟩ := h; exact absurd h (Nat.not_lt_zero _) : Cal G 1 "_law_has" P__law_has (spLHas 0))
  | d + 1 => by
    have C_law_has := ok__law_has F d
    refine F.cal (N := N__law_has) sc__law_has (fun _ _ _ _ _ _ us hl => match us, hl with | [_, _], _ => rfl) (fun vs H Q E h => by obtain ⟨_, _, _, _, _, rfl, _⟩ := h; rfl) fun fa cdv A outer s H vs Q E hr h => ?_
    obtain ⟨⟨sg, w, n, ps⟩, us, ks, v, c, rfl, fr, good, dep, hc, k3, cont⟩ := h
    have S := sc__law_has
    have hu := unit1 hr
    refine ⟨_, (pss_cons (ps_if (pt_cmpR op_eq (pe_ix ix_tup (pv 0) pe_int (fun _ _ => rfl)) pe_str (nomark _)) (pss_one (ps_ret (pe_cmpR op_in_seq (pe_ix ix_tup (pv 0) pe_int (fun _ _ => rfl)) (pv 1) rfl))) pss_nil)
    (pss_cons (ps_if (pt_cmpR op_in_seq (pe_ix ix_tup (pv 0) pe_int (fun _ _ => rfl)) (pe_tup (pa_cons pe_str (pa_cons pe_str pa_nil))) rfl) (pss_one (ps_ret (pe_cmpR op_eq (pe_ix ix_tup (pv 0) pe_int (fun _ _ => rfl)) pe_str (nomark _)))) pss_nil)
    (pss_cons (ps_if (pt_cmpR op_eq (pe_ix ix_tup (pv 0) pe_int (fun _ _ => rfl)) pe_str (nomark _)) (pss_one (ps_ret (pe_not (pe_cal (C_law_has.mono (by omega)) hr rfl (pa_cons (pe_ix ix_tup (pv 0) pe_int (fun _ _ => rfl)) (pa_cons (pv 1) pa_nil)))))) pss_nil)
    (pss_cons (ps_if (pt_cmpR op_eq (pe_ix ix_tup (pv 0) pe_int (fun _ _ => rfl)) pe_str (nomark _)) (pss_one (ps_ret (pe_cmpR op_ge (pe_callB call_len_seq rfl B.len (by decide +kernel) (pa_cons (pe_lc (own := [("_law_one", 4)]) rfl S.nd (pi_tup (pe_ix ix_tup (pv 0) pe_int (fun _ _ => rfl))) (blkOk_by (own := [("_law_one", 4)]) (N := N__law_has) (sc := defScope s__law_has) (by decide +kernel)) (fun _ _ _ _ _ => (pg_name (i := 4) S.nd rfl (by first | exact Or.inl rfl | exact Or.inr rfl))) (fun _ _ _ _ _ => pts_one (pt_val (pe_cal (C_law_has.mono (by omega)) hr rfl (pa_cons (pv 4) (pa_cons (pv 1) pa_nil))))) (fun _ _ _ _ _ => (pv 4))) pa_nil)) (pe_ix ix_tup (pv 0) pe_int (fun _ _ => rfl)) (nomark _)))) pss_nil)
    (pss_cons (ps_par (i := 2) (j := 3) rfl S.nd rfl rfl (by decide) rfl rfl (pa_cons (pe_cal (C_law_has.mono (by omega)) hr rfl (pa_cons (pe_ix ix_tup (pv 0) pe_int (fun _ _ => rfl)) (pa_cons (pv 1) pa_nil))) (pa_cons (pe_cal (C_law_has.mono (by omega)) hr rfl (pa_cons (pe_ix ix_tup (pv 0) pe_int (fun _ _ => rfl)) (pa_cons (pv 1) pa_nil))) pa_nil)) rfl)
    (pss_one (ps_ret (pe_dget hu (pe_disp (pps_cons pe_str (pe_and (pv 2) (pe_one (pv 3))) (pps_cons pe_str (pe_or (pv 2) (pe_one (pv 3))) (pps_cons pe_str (pe_and (pv 2) (pe_one (pe_not (pv 3)))) (pps_cons pe_str (pe_cmpR op_ne (pv 2) (pv 3) (nomark _)) pps_nil)))) (by rfl) (by rfl) (fun z => by cases z) (by decide)) (pe_ix ix_tup (pv 0) pe_int (fun _ _ => rfl)) (fun _ _ => rfl))))))))), ?_⟩
    obtain ⟨a, rfl, fr⟩ := fr
    have ha0 : ∃ xs, H a = some (.tup (.str sg :: xs)) := by
      rcases fr with ⟨rfl, _, h⟩ | ⟨rfl, pa, xs, h, _⟩ | ⟨_, _, _, xs, h, _⟩
      · exact ⟨_, h⟩
      · exact ⟨_, h⟩
      · exact ⟨_, h⟩
    obtain ⟨xs0, ha⟩ := ha0
    refine ⟨_, rfl, a, .str sg :: xs0, 0, .str sg, rfl, rfl, .inl (.inl ha), at0 _ _, rfl, _, rfl, ?_⟩
    by_cases e : sg = "name"
    · subst e
      refine iteP (decide_eq_true rfl) ?_
      have h : H a = some (.tup [.str "name", .str w]) := by
        rcases fr with ⟨_, _, h⟩ | ⟨e, _⟩ | ⟨e, _⟩
        · exact h
        · exact absurd e (by decide)
        · exact absurd rfl e
      refine ⟨_, rfl, a, _, 1, _, rfl, rfl, .inl (.inl h), rfl, _, rfl, c, _, rfl, .inr (.inl (.inl hc)), rfl, flat_str ks, ?_⟩
      have := cont H (Same.refl _)
      rw [hasF, sgn_name, ← inV_str] at this
      exact this
    refine iteN (fun q => e (V.str.inj (of_decide_eq_true q))) ?_
    refine ⟨_, rfl, a, .str sg :: xs0, 0, .str sg, rfl, rfl, .inl (.inl ha), at0 _ _, few_line (by show 2 ≤ 1000; decide), fun p hp => ?_⟩
    have s1 := same_upd (o := HO.tup [.str "all", .str "none"]) hp
    have ha1 := s1 _ _ ha
    have hc1 := s1 _ _ hc
    have T1 : SqT G.K (L2.upd H p (.tup [.str "all", .str "none"])) a (.str sg :: xs0) := .inl (.inl ha1)
    refine ⟨p, _, rfl, .inr (.inl (.inl upd_same)), rfl, rfl, _, rfl, ?_⟩
    have hh : ∀ H', Same (L2.upd H p (.tup [.str "all", .str "none"])) H' → Q (.bl (hasF (fun w => decide (w ∈ ks)) (.mk sg w n ps))) H' := fun H' s => cont H' (s1.trans s)
    rcases fr with ⟨e', _⟩ | ⟨rfl, pa, xs, h, hpa, frs⟩ | ⟨_, nat, rfl, xs, h, frs⟩
    · exact absurd e' e
    · -- at
      refine iteN (by decide) ?_
      refine ⟨_, rfl, a, .str _ :: _, 0, .str _, rfl, rfl, T1, at0 _ _, rfl, _, rfl, iteN (by decide) ?_⟩
      refine ⟨_, rfl, a, .str _ :: _, 0, .str _, rfl, rfl, T1, at0 _ _, rfl, _, rfl, iteP (decide_eq_true rfl) ?_⟩
      rw [ha] at h
      have h := HO.tup.inj (Option.some.inj h)
      have prs := freps_paired.mp frs
      have lps := paired_len prs
      have pa1 := s1 _ _ hpa
      have l3 : ps.length ≤ 3 := by
        rcases good.1 with ⟨_, e⟩ | ⟨_, e⟩ | ⟨_, e⟩ | ⟨_, e⟩ | ⟨_, e⟩ | ⟨_, e⟩ | ⟨_, e⟩ | ⟨_, e⟩ | ⟨_, e⟩ <;> omega
      refine ⟨_, rfl, a, _, 2, _, rfl, rfl, T1, (by rw [h]; rfl : _ = some (V.ref pa)), pa, rfl, ⟨xs, .inl (.inl pa1)⟩, fun D hD => ?_⟩
      refine lc_sel (walk_tup (xs := xs)) (fun j => hasF (fun w => decide (w ∈ ks)) (ps.getD j (.mk "" "" 0 []))) (fun j y _ => True) (few_lt (by omega)) hD (fun H2 s2 => .inl (.inl (s2 _ _ pa1))) (fun _ _ _ _ _ _ _ h => h) ?_ ?_
      · rintro j x H2 H3 Qy Qn hj s2 nd2 ⟨rfl, hx⟩ cy cn
        obtain ⟨g, hg, rg⟩ := paired_get (paired_flip prs) hx
        have eg : ps.getD j (.mk "" "" 0 []) = g := by rw [List.getD_eq_getElem?_getD, hg]; rfl
        rw [eg] at cy cn
        have mg := List.mem_of_getElem? hg
        have dg : depth g < d := by rw [depth] at dep; have := depths_mem mg; omega
        refine ⟨rfl, _, rfl, _, rfl, g, us, ks, x, c, rfl, rg.mono (s1.trans s2).i, goods_mem good.2.2.2.2 g mg, dg, s2 _ _ hc1, k3, fun H4 s4 => ⟨_, rfl, ?_⟩⟩
        refine ite2 (fun c => ?_) fun c => ?_
        · exact ⟨_, rfl, cy c _ _ s4 trivial⟩
        · exact cn (Bool.eq_false_iff.mpr c) _ s4
      · intro H2 acc s2 hD2 hp2
        have lacc := paired_len hp2
        refine ⟨D, acc, rfl, .inl (SqL.of hD2), _, rfl, a, _, 1, _, rfl, rfl, s2.tup T1, (by rw [h]; rfl : _ = some (V.int n)), _, _, rfl, rfl, ?_⟩
        have := hh _ s2
        rw [hasF, hasFs_map] at this
        have ec : ((ps.map (hasF fun w => decide (w ∈ ks))).count true) = acc.length := by
          have e1 := congrArg List.length (filter_range (xs := ps) (.mk "" "" 0 []) (fun g : Gf => g) (hasF fun w => decide (w ∈ ks)))
          rw [List.length_map, List.length_map] at e1
          rw [← lacc, ← lps, e1]
          exact count_map _ _
        have eb : sgn "at" (decide (w ∈ ks)) n (ps.map (hasF fun w => decide (w ∈ ks))) = decide ((n : Int) ≤ ((acc.length : Nat) : Int)) := by
          show decide (n ≤ _) = _
          rw [ec]
          exact decide_eq_decide.mpr (by omega)
        rw [eb] at this
        exact this
    rw [ha] at h
    obtain rfl : xs0 = xs := by have := HO.tup.inj (Option.some.inj h); exact (List.cons.inj this).2
    have prs := freps_paired.mp frs
    have lps := paired_len prs
    rcases good.1 with ⟨rfl, l⟩ | ⟨rfl, l⟩ | ⟨rfl, l⟩ | ⟨rfl, l⟩ | ⟨rfl, l⟩ | ⟨rfl, l⟩ | ⟨rfl, l⟩ | ⟨rfl, l⟩ | ⟨rfl, l⟩
    · exact absurd rfl e
    · refine iteP (by decide) ?_
      refine ⟨_, rfl, a, .str _ :: _, 0, .str _, rfl, rfl, T1, at0 _ _, rfl, ?_⟩
      have := hh _ (Same.refl _)
      rw [hasF, sgn_all] at this
      exact this
    · refine iteP (by decide) ?_
      refine ⟨_, rfl, a, .str _ :: _, 0, .str _, rfl, rfl, T1, at0 _ _, rfl, ?_⟩
      have := hh _ (Same.refl _)
      exact this
    · -- ~
      obtain ⟨g, x, rfl, rfl, rg⟩ : ∃ g x, ps = [g] ∧ xs0 = [x] ∧ FRep H g x := by
        match ps, xs0, l, prs with
        | [g], _, _, .cons r1 .nil => exact ⟨g, _, rfl, rfl, r1⟩
      have dg : depth g < d := by rw [depth] at dep; have := depths_mem (f := g) (fs := [g]) (by simp); omega
      refine iteN (by decide) ?_
      refine ⟨_, rfl, a, .str _ :: _, 0, .str _, rfl, rfl, T1, at0 _ _, rfl, _, rfl, iteP (decide_eq_true rfl) ?_⟩
      refine ⟨_, rfl, a, _, 1, _, rfl, rfl, T1, (rfl : _ = some x), _, rfl, g, us, ks, x, c, rfl, rg.mono s1.i, good.2.2.2.2.1, dg, hc1, k3, fun H2 s2 => ⟨_, rfl, ?_⟩⟩
      exact hh _ s2
    · exact absurd rfl nat
    all_goals
      refine iteN (by decide) ?_
      refine ⟨_, rfl, a, .str _ :: _, 0, .str _, rfl, rfl, T1, at0 _ _, rfl, _, rfl, iteN (by decide) ?_⟩
      refine ⟨_, rfl, a, .str _ :: _, 0, .str _, rfl, rfl, T1, at0 _ _, rfl, _, rfl, iteN (by decide) ?_⟩
      obtain ⟨g, h', x, y, rfl, rfl, rg, rh⟩ : ∃ g h' x y, ps = [g, h'] ∧ xs0 = [x, y] ∧ FRep H g x ∧ FRep H h' y := by
        match ps, xs0, l, prs with
        | [g, h'], _, _, .cons r1 (.cons r2 .nil) => exact ⟨g, h', _, _, rfl, rfl, r1, r2⟩
      have dg : depth g < d := by rw [depth] at dep; have := depths_mem (f := g) (fs := [g, h']) (by simp); omega
      have dh : depth h' < d := by rw [depth] at dep; have := depths_mem (f := h') (fs := [g, h']) (by simp); omega
      refine ⟨_, rfl, a, _, 1, _, rfl, rfl, T1, (rfl : _ = some x), _, rfl, g, us, ks, x, c, rfl, rg.mono s1.i, good.2.2.2.2.1, dg, hc1, k3, fun H2 s2 => ?_⟩
      have T2 := s2.tup T1
      refine ⟨_, rfl, a, _, 2, _, rfl, rfl, T2, (rfl : _ = some y), _, rfl, h', us, ks, y, c, rfl, rh.mono (s1.trans s2).i, good.2.2.2.2.2.1, dh, s2 _ _ hc1, k3, fun H3 s3 => ?_⟩
      have T3 := s3.tup T2
      refine ⟨_, _, rfl, ?_⟩
      simp only [hasF, hasFs] at hh
      generalize hasF (fun w => decide (w ∈ ks)) g = bx at hh ⊢
      generalize hasF (fun w => decide (w ∈ ks)) h' = by' at hh ⊢
      intro q hq
      have sq := same_upd (o := HO.dK []) hq
      refine t_and rfl (fun Q' h => ⟨_, rfl, h⟩) ?_
      refine t_or rfl (fun Q' h => ⟨_, rfl, h⟩) ?_
      refine t_and (y := !by') rfl (fun Q' h => ⟨_, rfl, _, rfl, h⟩) ?_
      refine ⟨_, rfl, _, rfl, rfl, ?_⟩
      refine ⟨upd_same, [(Sum.inr "&", .bl (bx && by')), (Sum.inr "|", .bl (bx || by')), (Sum.inr "-", .bl (bx && !by')), (Sum.inr "^", .bl (!decide (V.bl bx = V.bl by')))], rfl, (by show 4 ≤ 15; decide), ?_⟩
      have S4 : ∀ o : HO, Same H3 (L2.upd (L2.upd H3 q (.dK [])) q o) := fun o => by rw [L2.upd_upd]; exact same_upd hq
      have T4 := fun o : HO => (S4 o).tup T3
      refine ⟨_, rfl, a, .str _ :: _, 0, .str _, rfl, rfl, T4 _, at0 _ _, q, _, rfl, DGet.k (k := Sum.inr _) upd_same, ?_⟩
      have := fun o => hh _ ((s2.trans s3).trans (S4 o))
      first
        | (simp only [sgn_and] at this; exact this _)
        | (simp only [sgn_or] at this; exact this _)
        | (simp only [sgn_sub] at this; exact this _)
        | (simp only [sgn_xor] at this; exact this _)
end
end Mc
/-! The walk, 24: a claim's row over the law's kinds. -/
namespace Mc
open PySem PySem.Spec PyProof.Rows L2
abbrev N__law_row : List Str := ["_law_terms_here", "_law_words_here", "_law_found", "_law_cell", "_law_number", "_law_form_here"]
abbrev P__law_row : List Str := ["_law_terms_here", "_law_words_here"]
theorem sc__law_row : FnScope N__law_row P__law_row (defScope s__law_row) := ⟨rfl, rfl, rfl, by decide +kernel, rfl, by decide +kernel, by decide +kernel⟩

theorem wt_filter (p : Str → Bool) : ∀ ts : List Tm, ((ts.filter fun t => hasF p t.2).map (·.1)).sum = wt p ts
  | [] => rfl
  | t :: ts => by
    rw [List.filter_cons, wt, ← wt_filter p ts]
    cases hasF p t.2 <;> simp
section
variable {G : Gd} (B : Bl G.mg)
include B
/-- terms as the law has them -/
def TsR (H : Hp) (a : Addr) (ts : List Tm) : Prop := ∃ xs, H a = some (.tup xs) ∧ Paired (Two FRep H) ts xs
omit B in
theorem TsR.same {H H' : Hp} {a : Addr} {ts : List Tm} (h : TsR H a ts) (s : Same H H') : TsR H' a ts := let ⟨xs, e, p⟩ := h; ⟨xs, s _ _ e, Paired.mapP p fun _ _ r => r.mono s.i (FRep.mono s.i)⟩
/-- the words of the law -/
structure Wds (K : PySem.W.Frag) (H : Hp) (w : Addr) (ws : List Str) : Prop where
  sq : SqL K H w (ws.map V.str)
  w3 : ws.length ≤ 3
  nd : ws.Nodup
  nm : ∀ k ∈ ws, Nm k
omit B in
theorem Wds.same {K : PySem.W.Frag} {H H' : Hp} {w : Addr} {ws : List Str} (h : Wds K H w ws) (s : Same H H') : Wds K H' w ws := ⟨s.seq h.sq, h.w3, h.nd, h.nm⟩
def spLRow (K : PySem.W.Frag) (d : Nat) : Sp := fun vs H Q _ => ∃ (t w : Addr) (ts : List Tm) (ws : List Str), vs = [.ref t, .ref w] ∧ TsR H t ts ∧ ts.length ≤ 9 ∧ (∀ t ∈ ts, Good ws t.2 ∧ depth t.2 < d) ∧ Wds K H w ws ∧
  ∀ us r H', Same H H' → Asc ws us → H' r = some (.lst (((List.range (2 ^ us.length)).map fun k => wt (inK us k) ts).map V.int)) → Q (.ref r) H'
theorem ok__law_row {d : Nat} (C_law_cells : Cal G 1 "_law_cells" P__law_cells (spLCells G.K)) (C_law_has : Cal G (d + 1) "_law_has" P__law_has (spLHas d)) (F : Df G "_law_row" "_law_row" s__law_row) : Cal G (d + 2) "_law_row" P__law_row (spLRow G.K d) := by
  refine F.cal (N := N__law_row) sc__law_row (fun _ _ _ _ _ _ us hl => match us, hl with | [_, _], _ => rfl) (fun vs H Q E h => by obtain ⟨_, _, _, _, rfl, _⟩ := h; rfl) fun f cdv A outer s H vs Q E hr h => ?_
  obtain ⟨t, w, ts, ws, rfl, ⟨xs, ht, prs⟩, t9, good, wd, cont⟩ := h
  have S := sc__law_row
  refine ⟨_, (pss_cons (ps_set (i := 2) S.nd rfl (by first | exact Or.inl rfl | exact Or.inr rfl) (pe_lst pa_nil))
    (pss_cons (ps_for PassesOwn.never rfl (pi_list (pe_cal (C_law_cells.mono (by omega)) hr rfl (pa_cons (pv 1) pa_nil))) (pg_name (i := 3) S.nd rfl (by first | exact Or.inl rfl | exact Or.inr rfl)) (pss_one (ps_expr (pe_bm PySem.F.plainAttrs_list PySem.F.slot_list_append PySem.F.type_list_append mt_append (pv 2) (pa_cons (pe_callB (cr_sum rfl) rfl B.sum (by decide +kernel) (pa_cons (pe_lc (own := [("_law_number", 4), ("_law_form_here", 5)]) rfl S.nd (pi_tup (pv 0)) (blkOk_by (own := [("_law_number", 4), ("_law_form_here", 5)]) (N := N__law_row) (sc := defScope s__law_row) (by decide +kernel)) (fun _ _ _ _ _ => (pg_tupK G.K (by rfl) (n := 2) (by rfl) (pgs_cons (pg_name (i := 4) S.nd rfl (by first | exact Or.inl rfl | exact Or.inr rfl)) (pgs_cons (pg_name (i := 5) S.nd rfl (by first | exact Or.inl rfl | exact Or.inr rfl)) pgs_nil)))) (fun _ _ _ _ _ => pts_one (pt_val (pe_cal (C_law_has.mono (by omega)) hr rfl (pa_cons (pv 5) (pa_cons (pv 3) pa_nil))))) (fun _ _ _ _ _ => (pv 4))) pa_nil)) pa_nil)))))
    (pss_one (ps_ret (pv 2))))), ?_⟩
  refine ⟨few_line (by show 0 ≤ 1000; decide), fun F0 hF0 => ?_⟩
  have s0 := same_upd (o := HO.lst []) hF0
  have wd0 := wd.same s0
  refine ⟨_, rfl, w, ws, rfl, wd0.sq, wd.w3, wd.nd, fun r us zs H1 s1 hr1 asc ks => ?_⟩
  have lus : us.length ≤ 3 := Nat.le_trans (asc_sub asc fun _ h => h) wd.w3
  have le8 : 2 ^ us.length ≤ 2 ^ 3 := Nat.pow_le_pow_right (by decide) lus
  have lzs : zs.length = 2 ^ us.length := by have := paired_len ks; simpa using this.symm
  have s01 := s0.trans s1
  have lt := paired_len prs
  have nr : r ≠ F0 := fun e => by
    rw [e, s1 _ _ upd_same] at hr1
    have := HO.lst.inj (Option.some.inj hr1)
    rw [← this] at lzs
    have := Nat.pow_pos (n := us.length) (show 0 < 2 by decide)
    simp at lzs
    omega
  refine ⟨r, rfl, ⟨_, SqL.of hr1⟩, ?_⟩
  refine for_it (walk_list (xs := zs)) (fun i σ H2 => SameX F0 H1 H2 ∧ H2 F0 = some (.lst (((List.range i).map fun k => wt (inK us k) ts).map V.int)) ∧ σ[0]? = some (some (.ref t)) ∧ σ[2]? = some (some (.ref F0)) ∧ σ.length = 6)
    ⟨(Same.refl _).x, s1 _ _ upd_same, rfl, rfl, rfl⟩ (fun i σ H2 _ h => ?_) ?_ ?_
  · exact SqL.of (h.1 _ _ hr1 nr)
  · rintro i x σ H2 H3 hi ⟨s2, hF, e0, e2, el⟩ ⟨rfl, hx⟩
    obtain ⟨v0, v1, v2, v3, v4, v5, rfl⟩ : ∃ v0 v1 v2 v3 v4 v5, σ = [v0, v1, v2, v3, v4, v5] := by
      match σ, el with
      | [v0, v1, v2, v3, v4, v5], _ => exact ⟨v0, v1, v2, v3, v4, v5, rfl⟩
    cases e0; cases e2
    obtain ⟨k', hk', p, rfl, hp⟩ := paired_get (paired_flip (paired_of_map ks)) hx
    obtain rfl : i = k' := by
      rw [List.getElem?_range (by rw [← lzs]; exact hi)] at hk'
      exact Option.some.inj hk'
    have ht1 := s01 _ _ ht
    have hpF : p ≠ F0 := fun e => by rw [e, s1 _ _ upd_same] at hp; cases hp
    have htF : t ≠ F0 := fun e => by rw [e, hF0] at ht; cases ht
    have ht3 := s2 _ _ ht1 htF
    have hp3 := s2 _ _ hp hpF
    have i2 : ISame H1 H3 := SameX.i s2 (raw_lst (s1 _ _ upd_same))
    refine ⟨_, rfl, .inl ⟨rfl, _, SqL.of hF⟩, _, rfl, t, rfl, ⟨xs, .inl (.inl ht3)⟩, fun D hD => ?_⟩
    refine lc_sel (walk_tup (xs := xs)) (fun j => hasF (inK us i) (ts.getD j (0, .mk "" "" 0 [])).2) (fun j y _ => y = .int (ts.getD j (0, .mk "" "" 0 [])).1) (few_lt (by omega)) hD (fun H4 s4 => .inl (.inl (s4 _ _ ht3))) (fun _ _ _ _ _ _ _ h => h) ?_ ?_
    · rintro j x H4 H5 Qy Qn hj s4 nd4 ⟨rfl, hx2⟩ cy cn
      obtain ⟨⟨n, g⟩, htj, b, y, rfl, hb, hy⟩ := paired_get (paired_flip prs) hx2
      have eg : ts.getD j (0, .mk "" "" 0 []) = (n, g) := by rw [List.getD_eq_getElem?_getD, htj]; rfl
      rw [eg] at cy cn
      have mem := List.mem_of_getElem? htj
      have gd := good _ mem
      have i5 : ISame H H5 := s01.i.trans (i2.trans s4.i)
      refine ⟨b, [.int n, y], rfl, .inl (.inl (i5.tup hb)), rfl, _, _, rfl, ?_⟩
      refine ⟨_, _, rfl, rfl, rfl, ?_⟩
      refine ⟨_, rfl, _, rfl, g, ws, kindL us i, y, p, rfl, hy.mono i5, gd.1, gd.2, s4 _ _ hp3, Nat.le_trans (kindL_sub us i).length_le lus, fun H6 s6 => ⟨_, rfl, ?_⟩⟩
      refine ite2 (fun c => ?_) fun c => ?_
      · exact ⟨_, rfl, cy c _ _ s6 rfl⟩
      · exact cn (Bool.eq_false_iff.mpr c) _ s6
    intro H4 acc s4 hD4 hp4
    have ea := paired_map_eq (f := fun j => V.int (ts.getD j (0, .mk "" "" 0 [])).1) hp4
    rw [← lt, filter_range (0, .mk "" "" 0 []) (fun t : Tm => V.int t.1) (fun t => hasF (inK us i) t.2)] at ea
    have hF4 := s4 _ _ hF
    refine ⟨D, (ts.filter fun t => hasF (inK us i) t.2).map (·.1), rfl, SqL.of (by rw [hD4, ea, List.map_map]; rfl), ?_⟩
    rw [wt_filter]
    refine ⟨F0, _, _, rfl, rfl, hF4, few_lt (by simp; omega), ?_⟩
    have s24 : SameX F0 H1 (L2.upd H4 F0 (.lst (((List.range i).map fun k => wt (inK us k) ts).map V.int ++ [.int (wt (inK us i) ts)]))) := s2.trans (s4.x.trans samex_upd)
    refine ⟨s24, ?_, rfl, rfl, rfl⟩
    rw [upd_same, List.range_succ]
    simp
  · rintro σ H2 ⟨s2, hF, e0, e2, el⟩
    refine ⟨_, e2, ?_⟩
    rw [lzs] at hF
    exact cont us F0 H2 (fun b o e => s2 _ _ (s01 _ _ e) (ne_of_none e hF0)) asc hF
end
end Mc
/-! The walk, 25: groups of the law's forms. -/
namespace Mc
open PySem PySem.Spec PyProof.Rows L2
abbrev N__law_group : List Str := ["_law_form_here", "_law_here", "_law_there", "_law_one"]
abbrev P__law_group : List Str := ["_law_form_here"]
theorem sc__law_group : FnScope N__law_group P__law_group (defScope s__law_group) := ⟨rfl, rfl, rfl, by decide +kernel, rfl, by decide +kernel, by decide +kernel⟩

abbrev N__law_made : List Str := ["_law_claim_here", "_law_number", "_law_form_here"]
abbrev P__law_made : List Str := ["_law_claim_here"]
theorem sc__law_made : FnScope N__law_made P__law_made (defScope s__law_made) := ⟨rfl, rfl, rfl, by decide +kernel, rfl, by decide +kernel, by decide +kernel⟩

abbrev N__law_all_made : List Str := ["_law_some", "_law_claim_here"]
abbrev P__law_all_made : List Str := ["_law_some"]
theorem sc__law_all_made : FnScope N__law_all_made P__law_all_made (defScope s__law_all_made) := ⟨rfl, rfl, rfl, by decide +kernel, rfl, by decide +kernel, by decide +kernel⟩

theorem fit_of {ws : List Str} {f : Gf} (g : Good ws f) (d : depth f < 4) (w3 : ws.length ≤ 3) : Fit f := by
  obtain ⟨s, w, n, ps⟩ := f
  refine ⟨g.2.2.2.1, ?_, fun e => ?_, ?_, ws, by omega, fun w hw => good_words _ g w hw⟩
  · show ps.length ≤ 3
    rcases g.1 with ⟨_, e⟩ | ⟨_, e⟩ | ⟨_, e⟩ | ⟨_, e⟩ | ⟨_, e⟩ | ⟨_, e⟩ | ⟨_, e⟩ | ⟨_, e⟩ | ⟨_, e⟩ <;> omega
  · have e : s = "name" := e
    subst e
    show ps = []
    rcases g.1 with ⟨_, e⟩ | ⟨e, _⟩ | ⟨e, _⟩ | ⟨e, _⟩ | ⟨e, _⟩ | ⟨e, _⟩ | ⟨e, _⟩ | ⟨e, _⟩ | ⟨e, _⟩
    · exact List.eq_nil_of_length_eq_zero e
    all_goals exact absurd e (by decide)
  · have h1 := slen_le _ _ g
    have h2 : 6 ^ (depth (.mk s w n ps) + 1) ≤ 6 ^ 4 := Nat.pow_le_pow_right (by decide) (by omega)
    have h3 : 6 ^ 4 = 1296 := by decide
    omega
/-- what makes groups -/
structure Grp (G : Gd) (C : Addr) : Prop where
  gl : G.mg "Group" = some (.ref C)
  sf : PySem.W.selfFirst G.K C = true
  named : CalK G 6 C "named" (spNamed C)
  every : CalK G 6 C "every" (sp_every C)
  nothing : CalK G 6 C "nothing" (sp_nothing C)
  at_least : CalK G 6 C "at_least" (spAt G.K C)
  and : CalD G 6 C "__and__" P_Group___and__ (spBin C "&")
  or : CalD G 6 C "__or__" P_Group___or__ (spBin C "|")
  sub : CalD G 6 C "__sub__" P_Group___sub__ (spBin C "-")
  xor : CalD G 6 C "__xor__" P_Group___xor__ (spBin C "^")
  inv : CalD G 6 C "__invert__" P_Group___invert__ (spInv C)
section
variable {G : Gd} (B : Bl G.mg)
include B
def spLGroup (C : Addr) (d : Nat) : Sp := fun vs H Q _ => ∃ (f : Gf) (ws : List Str) (v : V), vs = [v] ∧ FRep H f v ∧ Good ws f ∧ depth f < d ∧ ws.length ≤ 3 ∧ (∀ w ∈ ws, Nm w) ∧ ∀ v H', Same H H' → GRep C H' f v → Q v H'
theorem ok__law_group {C : Addr} (gp : Grp G C) (F : Df G "_law_group" "_law_group" s__law_group) : ∀ d, d ≤ 4 → Cal G (d + 7) "_law_group" P__law_group (spLGroup C d)
  | 0, _ => (F.cal (N := N__law_group) (k := 6) sc__law_group (fun _ _ _ _ _ _ us hl => match us, hl with | [_], _ => rfl) (fun vs H Q E h => by obtain ⟨_, _, _, _, _, _, h, _⟩ := h; exact absurd h (Nat.not_lt_zero _))
      fun f cdv A outer s H vs Q E hr h => by obtain ⟨_, _, _, _, _, _, h, _⟩ := h; exact absurd h (Nat.not_lt_zero _) : Cal G 7 "_law_group" P__law_group (spLGroup C 0))
  | d + 1, d4 => by
    have C_law_group := ok__law_group gp F d (by omega)
    have g_Group := gp.gl
    refine F.cal (N := N__law_group) (k := d + 7) sc__law_group (fun _ _ _ _ _ _ us hl => match us, hl with | [_], _ => rfl) (fun vs H Q E h => by obtain ⟨_, _, _, rfl, _⟩ := h; rfl) fun fa cdv A outer s H vs Q E hr h => ?_
    obtain ⟨⟨sg, w, n, ps⟩, ws, v, rfl, fr, good, dep, w3, nm, cont⟩ := h
    have S := sc__law_group
    refine ⟨_, (pss_cons (ps_if (pt_cmpR op_eq (pe_ix ix_tup (pv 0) pe_int (fun _ _ => rfl)) pe_str (nomark _)) (pss_one (ps_ret (pe_calk (gp.named.mono (by omega)) hr (pe_glob (v := .ref C) rfl g_Group rfl) (pa_cons (pe_ix ix_tup (pv 0) pe_int (fun _ _ => rfl)) pa_nil)))) pss_nil)
    (pss_cons (ps_if (pt_cmpR op_in_seq (pe_ix ix_tup (pv 0) pe_int (fun _ _ => rfl)) (pe_tup (pa_cons pe_str (pa_cons pe_str pa_nil))) rfl) (pss_one (ps_ret (pe_ifExp (pt_cmpR op_eq (pe_ix ix_tup (pv 0) pe_int (fun _ _ => rfl)) pe_str (nomark _)) (pe_calk0 (gp.every.mono (by omega)) hr (pe_glob (v := .ref C) rfl g_Group rfl)) (pe_calk0 (gp.nothing.mono (by omega)) hr (pe_glob (v := .ref C) rfl g_Group rfl))))) pss_nil)
    (pss_cons (ps_if (pt_cmpR op_eq (pe_ix ix_tup (pv 0) pe_int (fun _ _ => rfl)) pe_str (nomark _)) (pss_one (ps_ret (pe_un (un_own (gp.inv.mono (by omega)) hr) (pe_cal (C_law_group.mono (by omega)) hr rfl (pa_cons (pe_ix ix_tup (pv 0) pe_int (fun _ _ => rfl)) pa_nil))))) pss_nil)
    (pss_cons (ps_if (pt_cmpR op_eq (pe_ix ix_tup (pv 0) pe_int (fun _ _ => rfl)) pe_str (nomark _)) (pss_one (ps_ret (pe_calk (gp.at_least.mono (by omega)) hr (pe_glob (v := .ref C) rfl g_Group rfl) (pa_cons (pe_ix ix_tup (pv 0) pe_int (fun _ _ => rfl)) (pa_cons (pe_lc (own := [("_law_one", 3)]) rfl S.nd (pi_tup (pe_ix ix_tup (pv 0) pe_int (fun _ _ => rfl))) (blkOk_by (own := [("_law_one", 3)]) (N := N__law_group) (sc := defScope s__law_group) (by decide +kernel)) (fun _ _ _ _ _ => (pg_name (i := 3) S.nd rfl (by first | exact Or.inl rfl | exact Or.inr rfl))) (fun _ _ _ _ _ => pts_nil) (fun _ _ _ _ _ => (pe_cal (C_law_group.mono (by omega)) hr rfl (pa_cons (pv 3) pa_nil)))) pa_nil))))) pss_nil)
    (pss_cons (ps_par (i := 1) (j := 2) rfl S.nd rfl rfl (by decide) rfl rfl (pa_cons (pe_cal (C_law_group.mono (by omega)) hr rfl (pa_cons (pe_ix ix_tup (pv 0) pe_int (fun _ _ => rfl)) pa_nil)) (pa_cons (pe_cal (C_law_group.mono (by omega)) hr rfl (pa_cons (pe_ix ix_tup (pv 0) pe_int (fun _ _ => rfl)) pa_nil)) pa_nil)) rfl)
    (pss_cons (ps_if (pt_cmpR op_in_seq (pe_ix ix_tup (pv 0) pe_int (fun _ _ => rfl)) (pe_tup (pa_cons pe_str (pa_cons pe_str pa_nil))) rfl) (pss_one (ps_ret (pe_ifExp (pt_cmpR op_eq (pe_ix ix_tup (pv 0) pe_int (fun _ _ => rfl)) pe_str (nomark _)) (pe_op (op_own (gp.and.mono (by omega)) gp.sf hr) (pv 1) (pv 2)) (pe_op (op_own (gp.or.mono (by omega)) gp.sf hr) (pv 1) (pv 2))))) pss_nil)
    (pss_one (ps_ret (pe_ifExp (pt_cmpR op_eq (pe_ix ix_tup (pv 0) pe_int (fun _ _ => rfl)) pe_str (nomark _)) (pe_op (op_own (gp.sub.mono (by omega)) gp.sf hr) (pv 1) (pv 2)) (pe_op (op_own (gp.xor.mono (by omega)) gp.sf hr) (pv 1) (pv 2))))))))))), ?_⟩
    have fit := fit_of good (by omega) w3
    obtain ⟨a, rfl, fr⟩ := fr
    have ha0 : ∃ xs, H a = some (.tup (.str sg :: xs)) := by
      rcases fr with ⟨rfl, _, h⟩ | ⟨rfl, pa, xs, h, _⟩ | ⟨_, _, _, xs, h, _⟩
      · exact ⟨_, h⟩
      · exact ⟨_, h⟩
      · exact ⟨_, h⟩
    obtain ⟨xs0, ha⟩ := ha0
    refine ⟨_, rfl, a, .str sg :: xs0, 0, .str sg, rfl, rfl, .inl (.inl ha), at0 _ _, rfl, _, rfl, ?_⟩
    by_cases e : sg = "name"
    · subst e
      refine iteP (decide_eq_true rfl) ?_
      obtain ⟨rfl, h⟩ : n = 0 ∧ H a = some (.tup [.str "name", .str w]) := by
        rcases fr with ⟨_, e, h⟩ | ⟨e, _⟩ | ⟨e, _⟩
        · exact ⟨e, h⟩
        · exact absurd e (by decide)
        · exact absurd rfl e
      have ep : ps = [] := fit.bare rfl
      subst ep
      exact ⟨rfl, _, rfl, a, _, 1, _, rfl, rfl, .inl (.inl h), rfl, w, rfl, nm w (good.2.1 rfl), fun v H' s g => cont v H' s g⟩
    have ew : w = "" := good.2.2.1 e
    subst ew
    refine iteN (fun q => e (V.str.inj (of_decide_eq_true q))) ?_
    refine ⟨_, rfl, a, .str sg :: xs0, 0, .str sg, rfl, rfl, .inl (.inl ha), at0 _ _, few_line (by show 2 ≤ 1000; decide), fun p hp => ?_⟩
    have s1 := same_upd (o := HO.tup [.str "all", .str "none"]) hp
    have ha1 := s1 _ _ ha
    have T1 : SqT G.K (L2.upd H p (.tup [.str "all", .str "none"])) a (.str sg :: xs0) := .inl (.inl ha1)
    refine ⟨p, _, rfl, .inr (.inl (.inl upd_same)), rfl, rfl, _, rfl, ?_⟩
    have hh : ∀ v H', Same (L2.upd H p (.tup [.str "all", .str "none"])) H' → GRep C H' (.mk sg "" n ps) v → Q v H' := fun v H' s => cont v H' (s1.trans s)
    rcases fr with ⟨e', _⟩ | ⟨rfl, pa, xs, h, hpa, frs⟩ | ⟨_, nat, rfl, xs, h, frs⟩
    · exact absurd e' e
    · -- at
      refine iteN (by decide) ?_
      refine ⟨_, rfl, a, .str _ :: _, 0, .str _, rfl, rfl, T1, at0 _ _, rfl, _, rfl, iteN (by decide) ?_⟩
      refine ⟨_, rfl, a, .str _ :: _, 0, .str _, rfl, rfl, T1, at0 _ _, rfl, _, rfl, iteP (decide_eq_true rfl) ?_⟩
      rw [ha] at h
      have h := HO.tup.inj (Option.some.inj h)
      have prs := freps_paired.mp frs
      have lps := paired_len prs
      have pa1 := s1 _ _ hpa
      have l3 : ps.length ≤ 3 := fit.few
      refine ⟨rfl, _, rfl, a, _, 1, _, rfl, rfl, T1, (by rw [h]; rfl : _ = some (V.int n)), ?_⟩
      refine ⟨_, rfl, a, _, 2, _, rfl, rfl, T1, (by rw [h]; rfl : _ = some (V.ref pa)), pa, rfl, ⟨xs, .inl (.inl pa1)⟩, fun D hD => ?_⟩
      refine lc_map (walk_tup (xs := xs)) (fun j y H' => ∃ g, ps[j]? = some g ∧ GRep C H' g y) (few_lt (by omega)) hD (fun H2 s2 => .inl (.inl (s2 _ _ pa1))) ?_ ?_ ?_
      · rintro j y H2 H3 vs eD sx ⟨g, e, r⟩
        exact ⟨g, e, GRep.mono (SameX.i sx (raw_lst eD)) g y r⟩
      · rintro j x H2 H3 Qy hj s2 nd2 ⟨rfl, hx⟩ cy
        obtain ⟨g, hg, rg⟩ := paired_get (paired_flip prs) hx
        have mg := List.mem_of_getElem? hg
        have dg : depth g < d := by rw [depth] at dep; have := depths_mem mg; omega
        exact ⟨rfl, _, rfl, g, ws, x, rfl, rg.mono (s1.trans s2).i, goods_mem good.2.2.2.2 g mg, dg, w3, nm, fun v H4 s4 r => cy _ _ s4 ⟨g, hg, r⟩⟩
      · intro H2 acc s2 hD2 hp2
        rw [← lps] at hp2
        exact ⟨n, D, ps, acc, rfl, hD2, greps_paired.mpr (paired_range hp2), fit, fun v H' s g => hh v H' (s2.trans s) g⟩
    rw [ha] at h
    obtain rfl : xs0 = xs := by have := HO.tup.inj (Option.some.inj h); exact (List.cons.inj this).2
    have prs := freps_paired.mp frs
    have lps := paired_len prs
    rcases good.1 with ⟨rfl, l⟩ | ⟨rfl, l⟩ | ⟨rfl, l⟩ | ⟨rfl, l⟩ | ⟨rfl, l⟩ | ⟨rfl, l⟩ | ⟨rfl, l⟩ | ⟨rfl, l⟩ | ⟨rfl, l⟩
    · exact absurd rfl e
    · obtain rfl := List.eq_nil_of_length_eq_zero l
      refine iteP (by decide) ?_
      refine ⟨_, rfl, a, .str _ :: _, 0, .str _, rfl, rfl, T1, at0 _ _, rfl, _, rfl, iteP (decide_eq_true rfl) ?_⟩
      exact ⟨rfl, rfl, fun v H' s g => hh v H' s g⟩
    · obtain rfl := List.eq_nil_of_length_eq_zero l
      refine iteP (by decide) ?_
      refine ⟨_, rfl, a, .str _ :: _, 0, .str _, rfl, rfl, T1, at0 _ _, rfl, _, rfl, iteN (by decide) ?_⟩
      exact ⟨rfl, rfl, fun v H' s g => hh v H' s g⟩
    · -- ~
      obtain ⟨g, x, rfl, rfl, rg⟩ : ∃ g x, ps = [g] ∧ xs0 = [x] ∧ FRep H g x := by
        match ps, xs0, l, prs with
        | [g], _, _, .cons r1 .nil => exact ⟨g, _, rfl, rfl, r1⟩
      have dg : depth g < d := by rw [depth] at dep; have := depths_mem (f := g) (fs := [g]) (by simp); omega
      refine iteN (by decide) ?_
      refine ⟨_, rfl, a, .str _ :: _, 0, .str _, rfl, rfl, T1, at0 _ _, rfl, _, rfl, iteP (decide_eq_true rfl) ?_⟩
      refine ⟨_, rfl, a, _, 1, _, rfl, rfl, T1, (rfl : _ = some x), g, ws, x, rfl, rg.mono s1.i, good.2.2.2.2.1, dg, w3, nm, fun v H2 s2 r => ?_⟩
      obtain ⟨b, dx, fs, rfl, hb⟩ := r.ins
      exact ⟨b, dx, fs, rfl, hb, g, _, rfl, r, fit, fun v H' s g => hh v H' (s2.trans s) g⟩
    · exact absurd rfl nat
    all_goals
      refine iteN (by decide) ?_
      refine ⟨_, rfl, a, .str _ :: _, 0, .str _, rfl, rfl, T1, at0 _ _, rfl, _, rfl, iteN (by decide) ?_⟩
      refine ⟨_, rfl, a, .str _ :: _, 0, .str _, rfl, rfl, T1, at0 _ _, rfl, _, rfl, iteN (by decide) ?_⟩
      obtain ⟨g, h', x, y, rfl, rfl, rg, rh⟩ : ∃ g h' x y, ps = [g, h'] ∧ xs0 = [x, y] ∧ FRep H g x ∧ FRep H h' y := by
        match ps, xs0, l, prs with
        | [g, h'], _, _, .cons r1 (.cons r2 .nil) => exact ⟨g, h', _, _, rfl, rfl, r1, r2⟩
      have dg : depth g < d := by rw [depth] at dep; have := depths_mem (f := g) (fs := [g, h']) (by simp); omega
      have dh : depth h' < d := by rw [depth] at dep; have := depths_mem (f := h') (fs := [g, h']) (by simp); omega
      refine ⟨_, rfl, a, _, 1, _, rfl, rfl, T1, (rfl : _ = some x), g, ws, x, rfl, rg.mono s1.i, good.2.2.2.2.1, dg, w3, nm, fun v1 H2 s2 r1 => ?_⟩
      have T2 := s2.tup T1
      refine ⟨_, rfl, a, _, 2, _, rfl, rfl, T2, (rfl : _ = some y), h', ws, y, rfl, rh.mono (s1.trans s2).i, good.2.2.2.2.2.1, dh, w3, nm, fun v2 H3 s3 r2 => ?_⟩
      have T3 := s3.tup T2
      have r1' := r1.mono s3.i
      obtain ⟨b1, dx1, fs1, rfl, hb1⟩ := r1'.ins
      obtain ⟨b2, dx2, fs2, rfl, hb2⟩ := r2.ins
      refine ⟨_, _, rfl, ?_⟩
      dsimp only
      refine ⟨_, rfl, a, .str _ :: _, 0, .str _, rfl, rfl, T3, at0 _ _, few_line (by show 2 ≤ 1000; decide), fun q hq => ?_⟩
      have s4 := same_upd (o := HO.tup [.str "&", .str "|"]) hq
      have T4 := s4.tup T3
      have hb1' := s4 _ _ hb1
      have hb2' := s4 _ _ hb2
      have r1'' := r1'.mono s4.i
      have r2'' := r2.mono s4.i
      have hh4 := fun v H' s g => hh v H' ((s2.trans (s3.trans s4)).trans s) g
      refine ⟨q, _, rfl, .inr (.inl (.inl upd_same)), rfl, rfl, _, rfl, ?_⟩
      first
        | (refine iteP (by decide) ?_
           refine ⟨_, rfl, a, .str _ :: _, 0, .str _, rfl, rfl, T4, at0 _ _, rfl, _, rfl, iteP (decide_eq_true rfl) ?_⟩
           exact ⟨_, rfl, _, rfl, b1, b2, dx1, dx2, fs1, fs2, rfl, rfl, hb1', hb2', g, h', _, _, rfl, r1'', r2'', fit, hh4⟩)
        | (refine iteP (by decide) ?_
           refine ⟨_, rfl, a, .str _ :: _, 0, .str _, rfl, rfl, T4, at0 _ _, rfl, _, rfl, iteN (by decide) ?_⟩
           exact ⟨_, rfl, _, rfl, b1, b2, dx1, dx2, fs1, fs2, rfl, rfl, hb1', hb2', g, h', _, _, rfl, r1'', r2'', fit, hh4⟩)
        | (refine iteN (by decide) ?_
           refine ⟨_, rfl, a, .str _ :: _, 0, .str _, rfl, rfl, T4, at0 _ _, rfl, _, rfl, iteP (decide_eq_true rfl) ?_⟩
           exact ⟨_, rfl, _, rfl, b1, b2, dx1, dx2, fs1, fs2, rfl, rfl, hb1', hb2', g, h', _, _, rfl, r1'', r2'', fit, hh4⟩)
        | (refine iteN (by decide) ?_
           refine ⟨_, rfl, a, .str _ :: _, 0, .str _, rfl, rfl, T4, at0 _ _, rfl, _, rfl, iteN (by decide) ?_⟩
           exact ⟨_, rfl, _, rfl, b1, b2, dx1, dx2, fs1, fs2, rfl, rfl, hb1', hb2', g, h', _, _, rfl, r1'', r2'', fit, hh4⟩)
end
end Mc
/-! The walk, 26: the law's claims are made. -/
namespace Mc
open PySem PySem.Spec PyProof.Rows L2
mutual
theorem slen4 : ∀ f : Gf, ∀ ws, Good ws f → slen f ≤ 4 ^ (depth f + 1)
  | .mk s w n ps, ws, h => by
    have hl : ps.length ≤ 3 := by
      rcases h.1 with ⟨_, e⟩ | ⟨_, e⟩ | ⟨_, e⟩ | ⟨_, e⟩ | ⟨_, e⟩ | ⟨_, e⟩ | ⟨_, e⟩ | ⟨_, e⟩ | ⟨_, e⟩ <;> omega
    have h2 := slens4 ps ws h.2.2.2.2
    rw [slen, depth]
    have p1 : 1 ≤ 4 ^ depths ps := Nat.pow_pos (by decide)
    rw [Nat.pow_succ]
    have h3 : ps.length * 4 ^ depths ps ≤ 3 * 4 ^ depths ps := Nat.mul_le_mul_right _ hl
    have h4 : ps = [] ∨ 4 ≤ 4 ^ depths ps := by
      cases ps with
      | nil => exact .inl rfl
      | cons g gs =>
        refine .inr ?_
        have : 1 ≤ depths (g :: gs) := by rw [depths]; omega
        exact Nat.le_trans (by decide) (Nat.pow_le_pow_right (show 0 < 4 by decide) this)
    rcases h4 with rfl | h4
    · rw [slens]
      rw [depths]
      split
      · omega
      · split <;> omega
    · split
      · omega
      · split <;> omega
theorem slens4 : ∀ fs : List Gf, ∀ ws, Goods ws fs → slens fs ≤ fs.length * 4 ^ depths fs
  | [], _, _ => by simp [slens]
  | f :: fs, ws, h => by
    have h1 := slen4 f ws h.1
    have h2 := slens4 fs ws h.2
    rw [slens, depths, List.length_cons, Nat.succ_mul]
    have a : 4 ^ (depth f + 1) ≤ 4 ^ max (depth f + 1) (depths fs) := Nat.pow_le_pow_right (by decide) (by omega)
    have b : fs.length * 4 ^ depths fs ≤ fs.length * 4 ^ max (depth f + 1) (depths fs) := Nat.mul_le_mul_left _ (Nat.pow_le_pow_right (by decide) (by omega))
    omega
end
theorem natAbs_sum {ts : List Tm} {t : Tm} (h : t ∈ ts) : t.1.natAbs ≤ (ts.map fun t => t.1.natAbs).sum := by
  induction ts with
  | nil => cases h
  | cons x xs ih =>
    rw [List.map_cons, List.sum_cons]
    rcases List.mem_cons.mp h with e | e
    · rw [e]; omega
    · have := ih e; omega
section
variable {G : Gd} (B : Bl G.mg)
include B
def spLMade (C CT CC : Addr) : Sp := fun vs H Q _ => ∃ (c : Cf) (ws : List Str) (v : V), vs = [v] ∧ LRep H c v ∧ c.1 ∈ sorts3 ∧ c.2.length ≤ 9 ∧ (∀ t ∈ c.2, t.1.natAbs ≤ 1000 ∧ Good ws t.2 ∧ depth t.2 < 4) ∧ ws.length ≤ 3 ∧ (∀ w ∈ ws, Nm w) ∧ ∀ v H', Same H H' → CRep C CT CC H' c v → Q v H'
theorem ok__law_made {C CT CC : Addr} (g_Tally : G.mg "Tally" = some (.ref CT)) (g_Claim : G.mg "Claim" = some (.ref CC)) (C_Tally : CalC G 4 CT P_Tally___init__ [] (spTally C CT)) (C_Claim : CalC G 1 CC P_Claim___init__ [] (spClaim C CT CC)) (C_law_group : Cal G 11 "_law_group" P__law_group (spLGroup C 4))
    (F : Df G "_law_made" "_law_made" s__law_made) : Cal G 12 "_law_made" P__law_made (spLMade C CT CC) := by
  refine F.cal (N := N__law_made) (k := 11) sc__law_made (fun _ _ _ _ _ _ us hl => match us, hl with | [_], _ => rfl) (fun vs H Q E h => by obtain ⟨_, _, _, rfl, _⟩ := h; rfl) fun f cdv A outer s H vs Q E hr h => ?_
  obtain ⟨⟨sw, ts⟩, ws, v, rfl, ⟨a, p, xs, rfl, ha, hp, prs⟩, hs, t9, good, w3, nm, cont⟩ := h
  have S := sc__law_made
  refine ⟨_, (pss_one (ps_ret (pe_calc (C_Claim.mono (by omega)) (hr : Room (10 + 1) _) rfl g_Claim (pa_cons (pe_ix ix_tup (pv 0) pe_int (fun _ _ => rfl)) (pa_cons (pe_calc (C_Tally.mono (by omega)) (hr : Room (10 + 1) _) rfl g_Tally (pa_cons (pe_lc (own := [("_law_number", 1), ("_law_form_here", 2)]) rfl S.nd (pi_tup (pe_ix ix_tup (pv 0) pe_int (fun _ _ => rfl))) (blkOk_by (own := [("_law_number", 1), ("_law_form_here", 2)]) (N := N__law_made) (sc := defScope s__law_made) (by decide +kernel)) (fun _ _ _ _ _ => (pg_tupK G.K (by rfl) (n := 2) (by rfl) (pgs_cons (pg_name (i := 1) S.nd rfl (by first | exact Or.inl rfl | exact Or.inr rfl)) (pgs_cons (pg_name (i := 2) S.nd rfl (by first | exact Or.inl rfl | exact Or.inr rfl)) pgs_nil)))) (fun _ _ _ _ _ => pts_nil) (fun _ _ _ _ _ => (pe_tup (pa_cons (pv 1) (pa_cons (pe_cal (C_law_group.mono (by omega)) hr rfl (pa_cons (pv 2) pa_nil)) pa_nil))))) pa_nil)) pa_nil))))), ?_⟩
  have T : SqT G.K H a [.str sw, .ref p] := .inl (.inl ha)
  have lt := paired_len prs
  refine ⟨_, rfl, a, _, 0, _, rfl, rfl, T, rfl, _, rfl, a, _, 1, _, rfl, rfl, T, rfl, p, rfl, ⟨xs, .inl (.inl hp)⟩, fun D hD => ?_⟩
  refine lc_map (walk_tup (xs := xs)) (fun j y H' => ∃ t, ts[j]? = some t ∧ Two (GRep C) H' t y) (few_lt (by have : ts.length ≤ 9 := t9; omega)) hD (fun H2 s2 => .inl (.inl (s2 _ _ hp))) ?_ ?_ ?_
  · rintro j y H2 H3 vs eD sx ⟨t, e, r⟩
    have i := SameX.i sx (raw_lst eD)
    exact ⟨t, e, r.mono i (GRep.mono i)⟩
  · rintro j x H2 H3 Qy hj s2 nd2 ⟨rfl, hx⟩ cy
    obtain ⟨⟨n, g⟩, htj, b, y, rfl, hb, hy⟩ := paired_get (paired_flip prs) hx
    have mem := List.mem_of_getElem? htj
    have gd := good _ mem
    refine ⟨b, [.int n, y], rfl, .inl (.inl (s2 _ _ hb)), rfl, _, _, rfl, ?_⟩
    refine ⟨_, _, rfl, rfl, rfl, ?_⟩
    refine ⟨_, rfl, _, rfl, g, ws, y, rfl, hy.mono s2.i, gd.2.1, gd.2.2, w3, nm, fun v H4 s4 r => ?_⟩
    dsimp only [tNil]
    refine ⟨few_line (by show 2 ≤ 1000; decide), fun q hq => ?_⟩
    exact cy _ _ (s4.trans (same_upd hq)) ⟨(n, g), htj, q, v, rfl, upd_same, r.mono (same_upd hq).i⟩
  intro H2 acc s2 hD2 hp2
  rw [← lt] at hp2
  have prs2 := paired_range hp2
  dsimp only [tNil]
  intro x dx hx hdx _
  have sm := same_mk (C := CT) (fs := []) hx hdx
  have hD3 := sm _ _ hD2
  refine ⟨x, dx, D, ts, acc, rfl, upd_same, hD3, Paired.mapP prs2 fun _ _ r => r.mono sm.i (GRep.mono sm.i), t9, fun t ht => ⟨(good t ht).1, ?_⟩, ⟨ws, by omega, fun t ht w hw => good_words _ (good t ht).2.1 w hw⟩, fun H4 sx tr => ⟨rfl, ?_⟩⟩
  · have h1 := slen4 _ _ (good t ht).2.1
    have h2 : 4 ^ (depth t.2 + 1) ≤ 4 ^ 4 := Nat.pow_le_pow_right (by decide) (by have := (good t ht).2.2; omega)
    have h3 : 4 ^ 4 = 256 := by decide
    omega
  have s4 : Same H2 H4 := same_made hx hdx sx
  intro y dy hy hdy _
  have sm4 := same_mk (C := CC) (fs := []) hy hdy
  refine ⟨y, dy, (sw, ts), .ref x, rfl, upd_same, hs, tr.mono sm4.i, fun H5 sx5 cr => ⟨rfl, ?_⟩⟩
  exact cont _ H5 (s2.trans (s4.trans (same_made hy hdy sx5))) cr
def spLAllMade (C CT CC : Addr) (K : PySem.W.Frag) : Sp := fun vs H Q _ => ∃ (a : Addr) (cs : List Cf) (ws : List Str), vs = [.ref a] ∧ LsR H a cs ∧ CsOk 4 ws cs ∧ (∀ c ∈ cs, c.1 ∈ sorts3) ∧ (∀ w ∈ ws, Nm w) ∧ ∀ r H', Same H H' → At C CT CC K 4 ws H' r cs → Q (.ref r) H'
theorem ok__law_all_made {C CT CC : Addr} (C_law_made : Cal G 12 "_law_made" P__law_made (spLMade C CT CC)) (F : Df G "_law_all_made" "_law_all_made" s__law_all_made) : Cal G 13 "_law_all_made" P__law_all_made (spLAllMade C CT CC G.K) := by
  refine F.cal (N := N__law_all_made) (k := 12) sc__law_all_made (fun _ _ _ _ _ _ us hl => match us, hl with | [_], _ => rfl) (fun vs H Q E h => by obtain ⟨_, _, _, rfl, _⟩ := h; rfl) fun f cdv A outer s H vs Q E hr h => ?_
  obtain ⟨a, cs, ws, rfl, ⟨xs, ha, prs⟩, ok, srt, nm, cont⟩ := h
  have S := sc__law_all_made
  refine ⟨_, (pss_one (ps_ret (pe_lc (own := [("_law_claim_here", 1)]) rfl S.nd (pi_list (pv 0)) (blkOk_by (own := [("_law_claim_here", 1)]) (N := N__law_all_made) (sc := defScope s__law_all_made) (by decide +kernel)) (fun _ _ _ _ _ => (pg_name (i := 1) S.nd rfl (by first | exact Or.inl rfl | exact Or.inr rfl))) (fun _ _ _ _ _ => pts_nil) (fun _ _ _ _ _ => (pe_cal (C_law_made.mono (by omega)) hr rfl (pa_cons (pv 1) pa_nil)))))), ?_⟩
  have lt := paired_len prs
  have six := ok.six
  refine ⟨_, rfl, a, rfl, ⟨xs, SqL.of ha⟩, fun D hD => ?_⟩
  refine lc_map (walk_list (xs := xs)) (fun j y H' => ∃ c, cs[j]? = some c ∧ CRep C CT CC H' c y) (few_lt (by omega)) hD (fun H2 s2 => SqL.of (s2 _ _ ha)) ?_ ?_ ?_
  · rintro j y H2 H3 vs eD sx ⟨t, e, r⟩
    exact ⟨t, e, r.mono (SameX.i sx (raw_lst eD))⟩
  · rintro j x H2 H3 Qy hj s2 nd2 ⟨rfl, hx⟩ cy
    obtain ⟨c, hc, rc⟩ := paired_get (paired_flip prs) hx
    have mem := List.mem_of_getElem? hc
    have md := ok.made c mem
    refine ⟨rfl, _, rfl, c, ws, x, rfl, rc.mono s2.i, srt c mem, md.1, fun t ht => ⟨?_, (md.2 t ht).1, (md.2 t ht).2⟩, ok.ws3, nm, fun v H4 s4 r => cy _ _ s4 ⟨c, hc, r⟩⟩
    have := natAbs_sum ht
    have := ok.sum c mem
    omega
  · intro H2 acc s2 hD2 hp2
    rw [← lt] at hp2
    exact cont D H2 s2 ⟨⟨acc, SqL.of hD2, paired_range hp2⟩, ok⟩
end
end Mc
/-! The walk, 27: the counts of a crowd over the law's kinds. -/
namespace Mc
open PySem PySem.Spec PyProof.Rows L2
abbrev N__law_counts : List Str := ["_law_crowd", "_law_words_here", "_law_cells_here", "_law_kind", "_law_number", "_law_cell"]
abbrev P__law_counts : List Str := ["_law_crowd", "_law_words_here"]
theorem sc__law_counts : FnScope N__law_counts P__law_counts (defScope s__law_counts) := ⟨rfl, rfl, rfl, by decide +kernel, rfl, by decide +kernel, by decide +kernel⟩

section
variable {G : Gd} (B : Bl G.mg)
include B
def spLCounts (C : Addr) (K : PySem.W.Frag) : Sp := fun vs H Q _ => ∃ (w : Addr) (v : V) (L : List Pt) (ws : List Str), vs = [v, .ref w] ∧ WRep C H L v ∧ Wds K H w ws ∧ (L.map (·.1)).Nodup ∧ L.length ≤ 8 ∧
  (∀ us, Asc ws us → ∀ p ∈ L, p.1 ∈ (List.range (2 ^ us.length)).map (kindL us)) ∧
  ∀ us r H', Same H H' → Asc ws us → H' r = some (.lst (((List.range (2 ^ us.length)).map fun k => valP L (kindL us k)).map V.int)) → Q (.ref r) H'
theorem ok__law_counts {C : Addr} (wc : Wc G C) (C_law_cells : Cal G 1 "_law_cells" P__law_cells (spLCells G.K)) (C_item : CalD G 2 C "__getitem__" P_Crowd___getitem__ (spItem G.K C)) (F : Df G "_law_counts" "_law_counts" s__law_counts) : Cal G 4 "_law_counts" P__law_counts (spLCounts C G.K) := by
  refine F.cal (N := N__law_counts) (k := 3) sc__law_counts (fun _ _ _ _ _ _ us hl => match us, hl with | [_, _], _ => rfl) (fun vs H Q E h => by obtain ⟨_, _, _, _, rfl, _⟩ := h; rfl) fun f cdv A outer s H vs Q E hr h => ?_
  obtain ⟨w, v, L, ws, rfl, wr, wd, nd, l8, inc, cont⟩ := h
  have S := sc__law_counts
  have hu := hr.units
  have bc := wc
  refine ⟨_, (pss_cons (ps_set (i := 2) S.nd rfl (by first | exact Or.inl rfl | exact Or.inr rfl) (pe_cal (C_law_cells.mono (by omega)) hr rfl (pa_cons (pv 1) pa_nil)))
    (pss_cons (ps_if (pt_cmpR (op_neNil hu) (pe_lc (own := [("_law_kind", 3), ("_law_number", 4)]) rfl S.nd (pi_tup (pe_fld (pv 0) rfl)) (blkOk_by (own := [("_law_kind", 3), ("_law_number", 4)]) (N := N__law_counts) (sc := defScope s__law_counts) (by decide +kernel)) (fun _ _ _ _ _ => (pg_tupK G.K (by rfl) (n := 2) (by rfl) (pgs_cons (pg_name (i := 3) S.nd rfl (by first | exact Or.inl rfl | exact Or.inr rfl)) (pgs_cons (pg_name (i := 4) S.nd rfl (by first | exact Or.inl rfl | exact Or.inr rfl)) pgs_nil)))) (fun _ _ _ _ _ => pts_one (pt_cmpR (op_notInC G.K (by rfl) (room65 hr)) (pv 3) (pv 2) rfl)) (fun _ _ _ _ _ => (pv 3))) (pe_lst pa_nil) (nomark _)) (pss_one (ps_ret pe_non)) pss_nil)
    (pss_one (ps_ret (pe_lc (own := [("_law_cell", 5)]) rfl S.nd (pi_list (pv 2)) (blkOk_by (own := [("_law_cell", 5)]) (N := N__law_counts) (sc := defScope s__law_counts) (by decide +kernel)) (fun _ _ _ _ _ => (pg_name (i := 5) S.nd rfl (by first | exact Or.inl rfl | exact Or.inr rfl))) (fun _ _ _ _ _ => pts_nil) (fun _ _ _ _ _ => (pe_itemOwn (C_item.mono (by omega)) (hr : Room (2 + 1) _) (pv 0) (pv 5) (fun _ _ => rfl)))))))), ?_⟩
  refine ⟨_, rfl, w, ws, rfl, wd.sq, wd.w3, wd.nd, fun r us zs H1 s1 hr1 asc ks => ?_⟩
  have lus : us.length ≤ 3 := Nat.le_trans (asc_sub asc fun _ h => h) wd.w3
  have le8 : 2 ^ us.length ≤ 2 ^ 3 := Nat.pow_le_pow_right (by decide) lus
  have lzs : zs.length = 2 ^ us.length := by have := paired_len ks; simpa using this.symm
  have nmk : ∀ k, ∀ x ∈ kindL us k, Nm x := fun k x hx => wd.nm x ((asc.2.2 x).mp ((kindL_sub us k).subset hx))
  have wr1 := wr.same s1
  have wr1' := wr1
  obtain ⟨g, dx, pa, sa, z, xs, o, rfl, hg, od, hpa, prs⟩ := wr1
  have lx := paired_len prs
  have Tp : SqT G.K H1 pa xs := .inl (.inr ⟨o, hpa⟩)
  have hL := inc us asc
  refine ⟨_, rfl, g, C, dx, _, _, rfl, hg, wc.cl, wc.parts, rfl, pa, rfl, ⟨xs, Tp⟩, fun D hD => ?_⟩
  refine lc_sel (walk_tup (xs := xs)) (fun _ => false) (fun _ _ _ => True) (few_lt (by omega)) hD (fun H2 s2 => s2.tup Tp) (fun _ _ _ _ _ _ _ h => h) ?_ ?_
  · rintro j x H2 H3 Qy Qn hj s2 nd2 ⟨rfl, hx⟩ cy cn
    obtain ⟨p, hp, q, kd, rfl, hq, hkd⟩ := paired_get (paired_flip prs) hx
    have mp := List.mem_of_getElem? hp
    refine ⟨q, [.ref kd, .int p.2], rfl, .inl (.inl (s2 _ _ hq)), rfl, _, _, rfl, ?_⟩
    refine ⟨_, _, rfl, rfl, rfl, ?_⟩
    obtain ⟨k, hk, ek⟩ := List.mem_map.mp (hL p mp)
    refine ⟨_, rfl, _, rfl, p.1, r, (List.range (2 ^ us.length)).map (kindL us), zs, ⟨kd, rfl, s2 _ _ hkd⟩, rfl, .inl (SqL.of (s2 _ _ hr1)), Paired.mapP ks fun _ _ r => r.mono s2.i, ?_, ?_, ?_⟩
    · rw [← ek]; exact nmk k
    · intro l hl
      obtain ⟨k, _, rfl⟩ := List.mem_map.mp hl
      exact nmk k
    · rw [decide_eq_true (hL p mp)]
      exact ⟨_, rfl, iteN (by decide) (cn rfl _ (Same.refl _))⟩
  intro H2 acc s2 hD2 hp2
  have e0 : acc = [] := by
    have := paired_len hp2
    rw [List.filter_eq_nil_iff.mpr (fun _ _ => by decide)] at this
    exact List.eq_nil_of_length_eq_zero this.symm
  subst e0
  refine ⟨few_line (by show 0 ≤ 1000; decide), fun q hq => ?_⟩
  have s3 := s2.trans (same_upd (o := HO.lst []) hq)
  refine ⟨D, q, [], rfl, rfl, .inl ⟨SqL.of ((same_upd hq) _ _ hD2), SqL.of upd_same⟩, _, rfl, iteN (by decide) ?_⟩
  have hr3 := s3 _ _ hr1
  refine ⟨_, rfl, r, rfl, ⟨_, SqL.of hr3⟩, fun D2 hD2' => ?_⟩
  refine lc_map (walk_list (xs := zs)) (fun k y _ => y = .int (valP L (kindL us k))) (few_lt (by omega)) hD2' (fun H4 s4 => SqL.of (s4 _ _ hr3)) (fun _ _ _ _ _ _ _ h => h) ?_ ?_
  · rintro k x H4 H5 Qy hk s4 nd4 ⟨rfl, hx⟩ cy
    obtain ⟨k', hk', p, rfl, hp⟩ := paired_get (paired_flip (paired_of_map ks)) hx
    obtain rfl : k = k' := by
      rw [List.getElem?_range (by omega)] at hk'
      exact Option.some.inj hk'
    have s5 := s3.trans s4
    exact ⟨rfl, _, rfl, _, rfl, g, dx, _, rfl, s5 _ _ hg, L, _, p, kindL us k, rfl, wr1'.same s5, nd, by omega, s5 _ _ hp, by have := (kindL_sub us k).length_le; omega, kindL_asc asc k, fun H6 s6 => cy _ _ s6 rfl⟩
  · intro H4 acc s4 hD4 hp4
    have ea := paired_map_eq (f := fun k : Nat => V.int (valP L (kindL us k))) hp4
    rw [lzs] at ea
    exact cont us D2 H4 (s1.trans (s3.trans s4)) asc (by rw [hD4, ea, List.map_map]; rfl)
end
end Mc
/-! The walk, 28: does the crowd keep the claims. -/
namespace Mc
open PySem PySem.Spec PyProof.Rows L2
abbrev N__law_value : List Str := ["_law_terms_here", "_law_counts_here", "_law_words_here", "_law_weight", "_law_number"]
abbrev P__law_value : List Str := ["_law_terms_here", "_law_counts_here", "_law_words_here"]
theorem sc__law_value : FnScope N__law_value P__law_value (defScope s__law_value) := ⟨rfl, rfl, rfl, by decide +kernel, rfl, by decide +kernel, by decide +kernel⟩

abbrev N__law_keeps : List Str := ["_law_crowd", "_law_some", "_law_words_here", "_law_counts_here", "_law_sort", "_law_terms_here", "_law_value_here", "_law_number"]
abbrev P__law_keeps : List Str := ["_law_crowd", "_law_some", "_law_words_here"]
theorem sc__law_keeps : FnScope N__law_keeps P__law_keeps (defScope s__law_keeps) := ⟨rfl, rfl, rfl, by decide +kernel, rfl, by decide +kernel, by decide +kernel⟩

theorem sum_sm (f : Nat → Int) : ∀ n, ((List.range n).map f).sum = sm n f
  | 0 => rfl
  | n + 1 => by
    rw [List.range_succ, List.map_append, List.sum_append, sum_sm f n, sm]
    simp
theorem disp3 (v1 v2 v3 : V) : let kvs := mergeK [] [((Sum.inr "least" : Key), v1), (Sum.inr "more", v2), (Sum.inr "even", v3)]
    valV kvs (Sum.inr "least") = some v1 ∧ valV kvs (Sum.inr "more") = some v2 ∧ valV kvs (Sum.inr "even") = some v3 := ⟨rfl, rfl, rfl⟩
section
variable {G : Gd} (B : Bl G.mg)
include B
def spLValue (K : PySem.W.Frag) : Sp := fun vs H Q _ => ∃ (t c w : Addr) (ts : List Tm) (ws us : List Str) (zs : List Int), vs = [.ref t, .ref c, .ref w] ∧ TsR H t ts ∧ ts.length ≤ 9 ∧ (∀ t ∈ ts, Good ws t.2 ∧ depth t.2 < 4) ∧ (ts.map fun t => t.1.natAbs).sum ≤ 15 ∧ Wds K H w ws ∧
  SqL K H c (zs.map V.int) ∧ Asc ws us ∧ zs.length = 2 ^ us.length ∧ ∀ H', Same H H' → Q (.int (sm (2 ^ us.length) fun k => wt (inK us k) ts * zs.getD k 0)) H'
theorem ok__law_value (C_law_row : Cal G 6 "_law_row" P__law_row (spLRow G.K 4)) (F : Df G "_law_value" "_law_value" s__law_value) : Cal G 7 "_law_value" P__law_value (spLValue G.K) := by
  refine F.cal (N := N__law_value) (k := 6) sc__law_value (fun _ _ _ _ _ _ us hl => match us, hl with | [_, _, _], _ => rfl) (fun vs H Q E h => by obtain ⟨_, _, _, _, _, _, _, rfl, _⟩ := h; rfl) fun f cdv A outer s H vs Q E hr h => ?_
  obtain ⟨t, c, w, ts, ws, us, zs, rfl, ht, t9, good, sum, wd, hc, asc, lz, cont⟩ := h
  have S := sc__law_value
  refine ⟨_, (pss_one (ps_ret (pe_callB (cr_sum rfl) rfl B.sum (by decide +kernel) (pa_cons (pe_lc (own := [("_law_weight", 3), ("_law_number", 4)]) rfl S.nd (pi_zip (by rfl) B.zip (pa_cons (pe_cal (C_law_row.mono (by omega)) hr rfl (pa_cons (pv 0) (pa_cons (pv 2) pa_nil))) (pa_cons (pv 1) pa_nil))) (blkOk_by (own := [("_law_weight", 3), ("_law_number", 4)]) (N := N__law_value) (sc := defScope s__law_value) (by decide +kernel)) (fun _ _ _ _ _ => (pg_tupK G.K (by rfl) (n := 2) (by rfl) (pgs_cons (pg_name (i := 3) S.nd rfl (by first | exact Or.inl rfl | exact Or.inr rfl)) (pgs_cons (pg_name (i := 4) S.nd rfl (by first | exact Or.inl rfl | exact Or.inr rfl)) pgs_nil)))) (fun _ _ _ _ _ => pts_nil) (fun _ _ _ _ _ => (pe_op op_mul (pv 3) (pv 4)))) pa_nil)))), ?_⟩
  refine ⟨_, rfl, _, rfl, t, w, ts, ws, rfl, ht, t9, good, wd, fun us' r H1 s1 asc' hr1 => ?_⟩
  obtain rfl : us' = us := asc_uniq asc' asc fun _ => Iff.rfl
  have lus : us'.length ≤ 3 := Nat.le_trans (asc_sub asc fun _ h => h) wd.w3
  have le8 : 2 ^ us'.length ≤ 2 ^ 3 := Nat.pow_le_pow_right (by decide) lus
  have hc1 := s1.seq hc
  refine ⟨_, rfl, r, c, _, _, rfl, SqL.of hr1, hc1, fun D hD => ?_⟩
  refine lc_map (walk_zip (xs := ((List.range (2 ^ us'.length)).map fun k => wt (inK us' k) ts).map V.int) (ys := zs.map V.int) (n := 2 ^ us'.length) (by simp [lz])) (fun k y _ => y = .int (wt (inK us' k) ts * zs.getD k 0)) (few_lt (by omega)) hD (fun H2 s2 => ⟨SqL.of (s2 _ _ hr1), s2.seq hc1⟩) (fun _ _ _ _ _ _ _ h => h) ?_ ?_
  · rintro k x H2 H3 Qy hk s2 nd ⟨T, x1, y1, rfl, hT, rfl, ex, ey⟩ cy
    obtain ⟨xi, hxi, rfl⟩ := ints_get ex
    obtain ⟨yi, hyi, rfl⟩ := ints_get ey
    rw [List.getElem?_map, List.getElem?_range hk] at hxi
    obtain rfl := Option.some.inj hxi
    have ez : zs.getD k 0 = yi := by rw [List.getD_eq_getElem?_getD, hyi]; rfl
    have wb := wt_le (inK us' k) ts
    refine ⟨T, [V.int (wt (inK us' k) ts), V.int yi], rfl, .inl (.inl upd_same), rfl, _, _, rfl, ?_⟩
    refine ⟨_, _, rfl, rfl, rfl, ?_⟩
    refine ⟨_, rfl, _, rfl, _, _, rfl, rfl, .inl ⟨by omega, by omega⟩, cy _ _ (same_upd hT) ?_⟩
    rw [ez]
  · intro H2 acc s2 hD2 hp2
    have ea := paired_map_eq (f := fun k : Nat => V.int (wt (inK us' k) ts * zs.getD k 0)) hp2
    refine ⟨D, (List.range (2 ^ us'.length)).map fun k => wt (inK us' k) ts * zs.getD k 0, rfl, SqL.of (by rw [hD2, ea, List.map_map]; rfl), ?_⟩
    rw [sum_sm]
    exact cont H2 (s1.trans s2)
def spLKeeps (C : Addr) (K : PySem.W.Frag) : Sp := fun vs H Q _ => ∃ (w a : Addr) (v : V) (L : List Pt) (ws us : List Str) (cs : List Cf), vs = [v, .ref a, .ref w] ∧ WRep C H L v ∧ Wds K H w ws ∧ Asc ws us ∧ (L.map (·.1)).Nodup ∧ L.length ≤ 8 ∧
  (∀ p ∈ L, p.1 ∈ (List.range (2 ^ us.length)).map (kindL us)) ∧ LsR H a cs ∧ CsOk 4 ws cs ∧ (∀ c ∈ cs, c.1 ∈ sorts3) ∧ Kept cs.length (2 ^ us.length) (rowsC us cs) (ssC cs) (fun k => valP L (kindL us k)) ∧ ∀ H', Same H H' → Q (.bl true) H'
theorem ok__law_keeps {C : Addr} (C_law_counts : Cal G 4 "_law_counts" P__law_counts (spLCounts C G.K)) (C_law_value : Cal G 7 "_law_value" P__law_value (spLValue G.K)) (F : Df G "_law_keeps" "_law_keeps" s__law_keeps) : Cal G 8 "_law_keeps" P__law_keeps (spLKeeps C G.K) := by
  refine F.cal (N := N__law_keeps) (k := 7) sc__law_keeps (fun _ _ _ _ _ _ us hl => match us, hl with | [_, _, _], _ => rfl) (fun vs H Q E h => by obtain ⟨_, _, _, _, _, _, _, rfl, _⟩ := h; rfl) fun f cdv A outer s H vs Q E hr h => ?_
  obtain ⟨w, a, v, L, ws, us, cs, rfl, wr, wd, asc, nd, l8, inc, ⟨xs, ha, prs⟩, ok, srt, kp, cont⟩ := h
  have S := sc__law_keeps
  have hu1 := hr.units
  have hu := unit1 hr
  refine ⟨_, (pss_cons (ps_set (i := 3) S.nd rfl (by first | exact Or.inl rfl | exact Or.inr rfl) (pe_cal (C_law_counts.mono (by omega)) hr rfl (pa_cons (pv 0) (pa_cons (pv 2) pa_nil))))
    (pss_cons (ps_if (PW.pt (pw_or (pt_cmpR op_isN (pv 3) pe_non (nomark _)) (pw_or1 (pt_cmpR (op_neNil hu1) (pe_lc (own := [("_law_number", 7)]) rfl S.nd (pi_list (pv 3)) (blkOk_by (own := [("_law_number", 7)]) (N := N__law_keeps) (sc := defScope s__law_keeps) (by decide +kernel)) (fun _ _ _ _ _ => (pg_name (i := 7) S.nd rfl (by first | exact Or.inl rfl | exact Or.inr rfl))) (fun _ _ _ _ _ => pts_one (pt_cmpR op_lt (pv 7) pe_int (nomark _))) (fun _ _ _ _ _ => (pv 7))) (pe_lst pa_nil) (nomark _))))) (pss_one (ps_ret pe_bl)) pss_nil)
    (pss_cons (ps_for PassesOwn.never rfl (pi_list (pv 1)) (pg_tup (n := 2) (by rfl) (pgs_cons (pg_name (i := 4) S.nd rfl (by first | exact Or.inl rfl | exact Or.inr rfl)) (pgs_cons (pg_name (i := 5) S.nd rfl (by first | exact Or.inl rfl | exact Or.inr rfl)) pgs_nil))) (pss_cons (ps_set (i := 6) S.nd rfl (by first | exact Or.inl rfl | exact Or.inr rfl) (pe_cal (C_law_value.mono (by omega)) hr rfl (pa_cons (pv 5) (pa_cons (pv 3) (pa_cons (pv 2) pa_nil)))))
    (pss_one (ps_if (pt_not (pt_val (pe_dget hu (pe_disp (pps_cons pe_str (pe_cmpR op_ge (pv 6) pe_int (nomark _)) (pps_cons pe_str (pe_cmpR op_gt (pv 6) pe_int (nomark _)) (pps_cons pe_str (pe_cmpR op_eq (pv 6) pe_int (nomark _)) pps_nil))) (by rfl) (by rfl) (fun z => by cases z) (by decide)) (pv 4) (fun _ _ => rfl)))) (pss_one (ps_ret pe_bl)) pss_nil))))
    (pss_one (ps_ret pe_bl))))), ?_⟩
  refine ⟨_, rfl, _, rfl, w, v, L, ws, rfl, wr, wd, nd, l8, fun us' asc' => (by rw [asc_uniq asc' asc fun _ => Iff.rfl]; exact inc), fun us' r H1 s1 asc' hr1 => ?_⟩
  obtain rfl : us' = us := asc_uniq asc' asc fun _ => Iff.rfl
  have lus : us'.length ≤ 3 := Nat.le_trans (asc_sub asc fun _ h => h) wd.w3
  have le8 : 2 ^ us'.length ≤ 2 ^ 3 := Nat.pow_le_pow_right (by decide) lus
  let zs := (List.range (2 ^ us'.length)).map fun k => valP L (kindL us' k)
  have lz : zs.length = 2 ^ us'.length := by simp [zs]
  have hz : ∀ k, k < 2 ^ us'.length → zs.getD k 0 = valP L (kindL us' k) := fun k hk => by
    show ((List.range (2 ^ us'.length)).map fun k => valP L (kindL us' k)).getD k 0 = _
    rw [List.getD_eq_getElem?_getD, List.getElem?_map, List.getElem?_range hk]
    rfl
  refine ⟨_, rfl, rfl, _, rfl, iteN (by simp) ?_⟩
  refine ⟨_, rfl, r, rfl, ⟨_, SqL.of hr1⟩, fun D hD => ?_⟩
  refine lc_sel (walk_list (xs := zs.map V.int)) (fun _ => false) (fun _ _ _ => True) (few_lt (by rw [List.length_map, lz]; omega)) hD (fun H2 s2 => SqL.of (s2 _ _ hr1)) (fun _ _ _ _ _ _ _ h => h) ?_ ?_
  · rintro j x H2 H3 Qy Qn hj s2 nd2 ⟨rfl, hx⟩ cy cn
    obtain ⟨z, hz', rfl⟩ := ints_get hx
    have hj' : j < 2 ^ us'.length := by rw [List.length_map, lz] at hj; exact hj
    have nz : 0 ≤ z := by
      have e1 := hz j hj'
      rw [List.getD_eq_getElem?_getD, hz'] at e1
      have e1 : z = valP L (kindL us' j) := e1
      rw [e1]
      exact kp.1 j hj'
    refine ⟨rfl, _, rfl, _, _, rfl, rfl, _, rfl, iteN (fun e => ?_) (cn rfl _ (Same.refl _))⟩
    have := of_decide_eq_true e
    omega
  intro H2 acc s2 hD2 hp2
  have e0 : acc = [] := by
    have := paired_len hp2
    rw [List.filter_eq_nil_iff.mpr (fun _ _ => by decide)] at this
    exact List.eq_nil_of_length_eq_zero this.symm
  subst e0
  refine ⟨few_line (by show 0 ≤ 1000; decide), fun q hq => ?_⟩
  have s3 := s1.trans (s2.trans (same_upd (o := HO.lst []) hq))
  have hr3 := (same_upd (o := HO.lst []) hq) _ _ (s2 _ _ hr1)
  refine ⟨D, q, [], rfl, rfl, .inl ⟨SqL.of ((same_upd hq) _ _ hD2), SqL.of upd_same⟩, _, rfl, iteN (by decide) ?_⟩
  have ha3 := s3 _ _ ha
  refine ⟨_, rfl, a, rfl, ⟨_, SqL.of ha3⟩, ?_⟩
  have s3r : Same H1 (L2.upd H2 q (.lst [])) := s2.trans (same_upd hq)
  refine for_it (walk_list (xs := xs)) (fun i σ H4 => Same H1 H4 ∧ σ[2]? = some (some (.ref w)) ∧ σ[3]? = some (some (.ref r)) ∧ σ.length = 8) ⟨s3r, rfl, rfl, rfl⟩ (fun i σ H4 _ h => SqL.of ((s1.trans h.1) _ _ ha)) ?_ ?_
  · rintro i x σ H4 H5 hi ⟨s4, e2, e3, el⟩ ⟨rfl, hx⟩
    obtain ⟨v0, v1, v2, v3, v4, v5, v6, v7, rfl⟩ : ∃ v0 v1 v2 v3 v4 v5 v6 v7, σ = [v0, v1, v2, v3, v4, v5, v6, v7] := by
      match σ, el with
      | [v0, v1, v2, v3, v4, v5, v6, v7], _ => exact ⟨v0, v1, v2, v3, v4, v5, v6, v7, rfl⟩
    cases e2; cases e3
    obtain ⟨c, hc, rc⟩ := paired_get (paired_flip prs) hx
    have mem := List.mem_of_getElem? hc
    have md := ok.made c mem
    have hi' : i < cs.length := (List.getElem?_eq_some_iff.mp hc).1
    have s5 := s1.trans s4
    obtain ⟨b, p, ys, rfl, hb, hp, prs'⟩ := rc.mono s5.i
    refine ⟨b, [.str c.1, .ref p], rfl, .inl (.inl hb), rfl, _, _, rfl, ?_⟩
    refine ⟨_, _, rfl, rfl, ?_⟩
    refine ⟨_, rfl, _, rfl, _, rfl, p, r, w, c.2, ws, us', zs, rfl, ⟨ys, hp, prs'⟩, md.1, md.2, ok.sum c mem, wd.same s5, SqL.of (s4 _ _ hr1), asc, lz, fun H6 s6 => ?_⟩
    have key : right (so c.1) (sm (2 ^ us'.length) fun k => wt (inK us' k) c.2 * zs.getD k 0) := by
      have := kp.2 i hi'
      have e1 : ssC cs i = so c.1 := by
        show so _ = _
        rw [List.getD_eq_getElem?_getD, List.getElem?_map, hc]
        rfl
      rw [e1] at this
      rw [sm_congr (g := fun k => rowsC us' cs i k * valP L (kindL us' k)) fun k hk => ?_]
      · exact this
      · rw [hz k hk]
        unfold rowsC
        rw [List.getD_eq_getElem?_getD, hc]
        rfl
    generalize sm (2 ^ us'.length) (fun k => wt (inK us' k) c.2 * zs.getD k 0) = val at key ⊢
    intro d hd
    have sd := same_upd (o := HO.dK []) hd
    refine ⟨_, rfl, _, _, rfl, rfl, ?_⟩
    refine ⟨_, rfl, _, _, rfl, rfl, ?_⟩
    refine ⟨_, rfl, rfl, ?_⟩
    refine ⟨upd_same, [(Sum.inr "least", .bl (decide (0 ≤ val))), (Sum.inr "more", .bl (decide (0 < val))), (Sum.inr "even", .bl (decide (V.int val = V.int 0)))], rfl, (by show 3 ≤ 15; decide), ?_⟩
    have S7 : ∀ o : HO, Same H6 (L2.upd (L2.upd H6 d (.dK [])) d o) := fun o => by rw [L2.upd_upd]; exact same_upd hd
    refine ⟨_, rfl, d, .bl true, rfl, ?_, _, rfl, iteN (by decide) ⟨s4.trans (s6.trans (S7 _)), rfl, rfl, rfl⟩⟩
    refine .inl ⟨_, Sum.inr c.1, .inl upd_same, rfl, ?_⟩
    have d3 := disp3 (.bl (decide (0 ≤ val))) (.bl (decide (0 < val))) (.bl (decide (V.int val = V.int 0)))
    dsimp only at d3
    rcases List.mem_cons.mp (srt c mem) with e | h
    · rw [e] at key ⊢
      rw [d3.1, decide_eq_true (show 0 ≤ val from key)]
    · rcases List.mem_cons.mp h with e | h
      · rw [e] at key ⊢
        rw [d3.2.1, decide_eq_true (show 0 < val from key)]
      · have e := List.mem_singleton.mp h
        rw [e] at key ⊢
        rw [d3.2.2, decide_eq_true (congrArg V.int (show val = 0 from key))]
  · rintro σ H4 ⟨s4, e2, e3, el⟩
    exact cont H4 (s1.trans s4)
end
end Mc
/-! The walk, 29: do the weights bar the claims. -/
namespace Mc
open PySem PySem.Spec PyProof.Rows L2
abbrev N__law_bars : List Str := ["_law_shown", "_law_some", "_law_words_here", "_law_strict", "_law_sums", "_law_weight", "_law_claim_here", "_law_cell", "_law_one", "_law_two"]
abbrev P__law_bars : List Str := ["_law_shown", "_law_some", "_law_words_here"]
theorem sc__law_bars : FnScope N__law_bars P__law_bars (defScope s__law_bars) := ⟨rfl, rfl, rfl, by decide +kernel, rfl, by decide +kernel, by decide +kernel⟩

theorem so_even' {z : Str} (h : so z = .even) : z = "even" := by
  unfold so at h
  by_cases e : z = "even"
  · exact e
  · rw [if_neg e] at h
    split at h <;> cases h
theorem so_more' {z : Str} (h : so z = .more) : z = "more" := by
  unfold so at h
  by_cases e : z = "even"
  · rw [if_pos e] at h; cases h
  · rw [if_neg e] at h
    by_cases e2 : z = "more"
    · exact e2
    · rw [if_neg e2] at h; cases h
section
variable {G : Gd} (B : Bl G.mg)
include B
def spLBars (K : PySem.W.Frag) : Sp := fun vs H Q _ => ∃ (p w a : Addr) (zs : List Int) (ws us : List Str) (cs : List Cf), vs = [.ref p, .ref a, .ref w] ∧ H p = some (.tup (zs.map V.int)) ∧ zs.length = cs.length ∧ Wds K H w ws ∧ Asc ws us ∧ LsR H a cs ∧ CsOk 4 ws cs ∧
  Bar cs.length (2 ^ us.length) (rowsC us cs) (ssC cs) (fun i => zs.getD i 0) ∧ ∀ H', Same H H' → Q (.bl true) H'
theorem ok__law_bars (C_law_cells : Cal G 1 "_law_cells" P__law_cells (spLCells G.K)) (C_law_row : Cal G 6 "_law_row" P__law_row (spLRow G.K 4)) (F : Df G "_law_bars" "_law_bars" s__law_bars) : Cal G 8 "_law_bars" P__law_bars (spLBars G.K) := by
  refine F.cal (N := N__law_bars) (k := 7) sc__law_bars (fun _ _ _ _ _ _ us hl => match us, hl with | [_, _, _], _ => rfl) (fun vs H Q E h => by obtain ⟨_, _, _, _, _, _, _, rfl, _⟩ := h; rfl) fun f cdv A outer s H vs Q E hr h => ?_
  obtain ⟨p, w, a, zs, ws, us, cs, rfl, hp, lz, wd, asc, ⟨xs, ha, prs⟩, ok, bar, cont⟩ := h
  have S := sc__law_bars
  have hu := hr.units
  refine ⟨_, (pss_cons (ps_if (PW.pt (pw_or (pt_not (pt_val (pe_callB call_isi rfl B.isinstance (by decide +kernel) (pa_cons (pv 0) (pa_cons (pe_bltn (v := .ty "tuple") rfl B.tuple (by decide +kernel) rfl) pa_nil))))) (pw_or1 (pt_cmpR op_ne (pe_callB call_len_seq rfl B.len (by decide +kernel) (pa_cons (pv 0) pa_nil)) (pe_callB call_len_seq rfl B.len (by decide +kernel) (pa_cons (pv 1) pa_nil)) (nomark _))))) (pss_one (ps_ret pe_bl)) pss_nil)
    (pss_cons (ps_par (i := 3) (j := 4) rfl S.nd rfl rfl (by decide) rfl rfl (pa_cons pe_bl (pa_cons (pe_lc (own := [("_law_cell", 7)]) rfl S.nd (pi_list (pe_cal (C_law_cells.mono (by omega)) hr rfl (pa_cons (pv 2) pa_nil))) (blkOk_by (own := [("_law_cell", 7)]) (N := N__law_bars) (sc := defScope s__law_bars) (by decide +kernel)) (fun _ _ _ _ _ => (pg_name (i := 7) S.nd rfl (by first | exact Or.inl rfl | exact Or.inr rfl))) (fun _ _ _ _ _ => pts_nil) (fun _ _ _ _ _ => pe_int)) pa_nil)) rfl)
    (pss_cons (ps_for PassesOwn.never rfl (pi_zipN G.K (by rfl) (by rfl) B.zip (pa_cons (pv 0) (pa_cons (pv 1) pa_nil))) (pg_tup (n := 2) (by rfl) (pgs_cons (pg_name (i := 5) S.nd rfl (by first | exact Or.inl rfl | exact Or.inr rfl)) (pgs_cons (pg_name (i := 6) S.nd rfl (by first | exact Or.inl rfl | exact Or.inr rfl)) pgs_nil))) (pss_cons (ps_if (PW.pt (pw_or (pt_not (pt_val (pe_callB call_isi rfl B.isinstance (by decide +kernel) (pa_cons (pv 5) (pa_cons (pe_bltn (v := .ty "int") rfl B.int (by decide +kernel) rfl) pa_nil))))) (pw_or (pt_val (pe_callB call_isi rfl B.isinstance (by decide +kernel) (pa_cons (pv 5) (pa_cons (pe_bltn (v := .ty "bool") rfl B.bool (by decide +kernel) rfl) pa_nil)))) (pw_or1 (PW.pt (pw_and (pt_cmpR op_lt (pv 5) pe_int (nomark _)) (pw_and1 (pt_cmpR op_ne (pe_ix ix_tup (pv 6) pe_int (fun _ _ => rfl)) pe_str (nomark _))))))))) (pss_one (ps_ret pe_bl)) pss_nil)
    (pss_cons (ps_set (i := 3) S.nd rfl (by first | exact Or.inl rfl | exact Or.inr rfl) (pe_or (pv 3) (pe_one (pe_and (pe_cmpR op_eq (pe_ix ix_tup (pv 6) pe_int (fun _ _ => rfl)) pe_str (nomark _)) (pe_one (pe_cmpR op_gt (pv 5) pe_int (nomark _)))))))
    (pss_one (ps_setLc (i := 4) (own := [("_law_one", 8), ("_law_two", 9)]) rfl S.nd rfl rfl (sw_true rfl rfl rfl (by decide +kernel)) (pi_zip (by rfl) B.zip (pa_cons (pv 4) (pa_cons (pe_cal (C_law_row.mono (by omega)) hr rfl (pa_cons (pe_ix ix_tup (pv 6) pe_int (fun _ _ => rfl)) (pa_cons (pv 2) pa_nil))) pa_nil))) (blkOk_by (own := [("_law_one", 8), ("_law_two", 9)]) (N := N__law_bars) (sc := defScope s__law_bars) (by decide +kernel)) (fun _ _ _ _ _ => (pg_tupK G.K (by rfl) (n := 2) (by rfl) (pgs_cons (pg_name (i := 8) S.nd rfl (by first | exact Or.inl rfl | exact Or.inr rfl)) (pgs_cons (pg_name (i := 9) S.nd rfl (by first | exact Or.inl rfl | exact Or.inr rfl)) pgs_nil)))) (fun _ _ _ _ _ => pts_nil) (fun _ _ _ _ _ => (pe_op op_add (pv 8) (pe_op op_mul (pv 5) (pv 9)))))))))
    (pss_one (ps_ret (pe_and (pv 3) (pe_one (pe_cmpR (op_eqNil hu) (pe_lc (own := [("_law_one", 8)]) rfl S.nd (pi_list (pv 4)) (blkOk_by (own := [("_law_one", 8)]) (N := N__law_bars) (sc := defScope s__law_bars) (by decide +kernel)) (fun _ _ _ _ _ => (pg_name (i := 8) S.nd rfl (by first | exact Or.inl rfl | exact Or.inr rfl))) (fun _ _ _ _ _ => pts_one (pt_cmpR op_gt (pv 8) pe_int (nomark _))) (fun _ _ _ _ _ => (pv 8))) (pe_lst pa_nil) (nomark _))))))))), ?_⟩
  refine ⟨_, rfl, _, _, _, _, true, rfl, .ty "tuple", .base (.tup hp), kit_ty (by decide +kernel), _, rfl, ?_⟩
  have lx := paired_len prs
  refine iteN (by decide) ?_
  refine ⟨_, rfl, p, _, rfl, .inr (.inl (.inl hp)), _, rfl, a, xs, rfl, .inl (SqL.of ha), rfl, _, rfl, iteN ?_ ?_⟩
  · rw [List.length_map, lz, lx]
    simp
  refine ⟨_, rfl, w, ws, rfl, wd.sq, wd.w3, wd.nd, fun r us' cs' H1 s1 hr1 asc' ks => ?_⟩
  obtain rfl : us' = us := asc_uniq asc' asc fun _ => Iff.rfl
  have lus : us'.length ≤ 3 := Nat.le_trans (asc_sub asc fun _ h => h) wd.w3
  have le8 : 2 ^ us'.length ≤ 2 ^ 3 := Nat.pow_le_pow_right (by decide) lus
  have lcs : cs'.length = 2 ^ us'.length := by have := paired_len ks; simpa using this.symm
  have six := ok.six
  refine ⟨r, rfl, ⟨_, SqL.of hr1⟩, fun D hD => ?_⟩
  refine lc_map (walk_list (xs := cs')) (fun _ y _ => y = .int 0) (few_lt (by omega)) hD (fun H2 s2 => SqL.of (s2 _ _ hr1)) (fun _ _ _ _ _ _ _ h => h) ?_ ?_
  · rintro k x H2 H3 Qy hk s2 nd ⟨rfl, hx⟩ cy
    exact ⟨rfl, cy _ _ (Same.refl _) rfl⟩
  intro H2 acc s2 hD2 hp2
  have ea := paired_map_eq (f := fun _ : Nat => V.int 0) hp2
  rw [lcs] at ea
  have s12 := s1.trans s2
  refine ⟨_, _, rfl, ?_⟩
  have hp2' := s12 _ _ hp
  have ha2 := s12 _ _ ha
  let W : Nat → Nat → Int := fun i k => sm i fun j => zs.getD j 0 * rowsC us' cs j k
  refine ⟨_, rfl, _, rfl, [(p, true), (a, false)], rfl, by simp, by simp, ?_, ?_⟩
  · intro q hq
    rcases List.mem_cons.mp hq with rfl | hq
    · exact ⟨_, .inl ⟨rfl, .inl (.inl hp2')⟩⟩
    · rw [List.mem_singleton.mp hq]
      exact ⟨_, .inr ⟨rfl, SqL.of ha2⟩⟩
  refine for_it (walk_zn (n := cs.length) (xss := [zs.map V.int, xs]) rfl (fun l hl => ?_) (by simp)) (fun i σ H3 => Same H2 H3 ∧ σ[1]? = some (some (.ref a)) ∧ σ[2]? = some (some (.ref w)) ∧ σ[3]? = some (some (.bl (decide (∃ j, j < i ∧ ssC cs j = .more ∧ 0 < zs.getD j 0)))) ∧ (∃ M, σ[4]? = some (some (.ref M)) ∧ H3 M = some (.lst (((List.range (2 ^ us'.length)).map (W i)).map V.int))) ∧ σ.length = 10)
    ⟨Same.refl _, rfl, rfl, ?_, ⟨D, rfl, ?_⟩, rfl⟩ (fun i σ H3 _ h => .cons (.inl ⟨rfl, .inl (.inl (h.1 _ _ hp2'))⟩) (.cons (.inr ⟨rfl, SqL.of (h.1 _ _ ha2)⟩) .nil)) ?_ ?_
  · rcases List.mem_cons.mp hl with rfl | hl
    · rw [List.length_map, lz]
    · rw [List.mem_singleton.mp hl, lx]
  · rw [decide_eq_false (by rintro ⟨j, h, _⟩; omega)]
    rfl
  · rw [hD2, ea, List.map_map]
    rfl
  · rintro i x σ H3 H4 hi ⟨s3, e1, e2, e3, ⟨M, e4, hM⟩, el⟩ ⟨T, vs, rfl, hT, rfl, pv⟩
    obtain ⟨x1, x2, rfl, q1, q2⟩ : ∃ x1 x2, vs = [x1, x2] ∧ (zs.map V.int)[i]? = some x1 ∧ xs[i]? = some x2 := by
      cases pv with
      | cons a t => cases t with
        | cons b t => cases t; exact ⟨_, _, rfl, a, b⟩
    obtain ⟨z, hz, rfl⟩ := ints_get q1
    obtain ⟨c, hc, rc⟩ := paired_get (paired_flip prs) q2
    obtain ⟨v0, v1, v2, v3, v4, v5, v6, v7, v8, v9, rfl⟩ : ∃ v0 v1 v2 v3 v4 v5 v6 v7 v8 v9, σ = [v0, v1, v2, v3, v4, v5, v6, v7, v8, v9] := by
      match σ, el with
      | [v0, v1, v2, v3, v4, v5, v6, v7, v8, v9], _ => exact ⟨v0, v1, v2, v3, v4, v5, v6, v7, v8, v9, rfl⟩
    cases e1; cases e2; cases e3; cases e4
    have mem := List.mem_of_getElem? hc
    have md := ok.made c mem
    have hi' : i < cs.length := (List.getElem?_eq_some_iff.mp hc).1
    have ez : zs.getD i 0 = z := by rw [List.getD_eq_getElem?_getD, hz]; rfl
    have es : ssC cs i = so c.1 := by
      show so _ = _
      rw [List.getD_eq_getElem?_getD, List.getElem?_map, hc]
      rfl
    have st := same_upd (H := H3) (o := .tup [V.int z, x2]) hT
    have s34 := s3.trans st
    have s4 := s12.trans s34
    obtain ⟨b, q, ys, rfl, hb, hq, prs'⟩ := rc.mono s4.i
    have Tb : SqT G.K (L2.upd H3 T (.tup [V.int z, .ref b])) b [.str c.1, .ref q] := .inl (.inl hb)
    refine ⟨T, [V.int z, .ref b], rfl, .inl (.inl upd_same), rfl, _, _, rfl, ?_⟩
    refine ⟨_, _, rfl, rfl, ?_⟩
    refine ⟨_, rfl, _, _, _, _, true, rfl, .ty "int", .base (.int z), kit_ty (by decide +kernel), _, rfl, iteN (by decide) ?_⟩
    refine ⟨_, rfl, _, _, _, _, false, rfl, .ty "bool", .base (.int z), kit_ty (by decide +kernel), _, rfl, iteN (by decide) ?_⟩
    refine ⟨_, rfl, _, _, rfl, rfl, _, rfl, ?_⟩
    have nE : z < 0 → c.1 = "even" := fun h => Classical.byContradiction fun ne => by
      have := bar.1 i hi' (by rw [es]; exact fun q => ne (so_even' q))
      dsimp only at this
      omega
    have hM4 := st _ _ hM
    have six' : (List.range (2 ^ us'.length)).length = 2 ^ us'.length := List.length_range
    rcases Int.lt_or_le z 0 with hz0 | hz0
    · refine iteP (decide_eq_true hz0) ⟨_, rfl, b, _, 0, _, rfl, rfl, Tb, rfl, rfl, _, rfl, iteN ?_ ?_⟩
      · rw [nE hz0]
        decide
      refine t_or (y := decide (c.1 = "more" ∧ 0 < z)) rfl (fun Q' h => ?_) ?_
      · refine ⟨_, rfl, b, _, 0, _, rfl, rfl, Tb, rfl, rfl, _, rfl, ?_⟩
        by_cases em : c.1 = "more"
        · refine iteP (decide_eq_true (congrArg V.str em)) ⟨_, rfl, _, _, rfl, rfl, ?_⟩
          simpa [em] using h
        · refine iteN (fun e => em (V.str.inj (of_decide_eq_true e))) ?_
          simpa [em] using h
      have estr : (decide (∃ j, j < i ∧ ssC cs j = .more ∧ 0 < zs.getD j 0) || decide (c.1 = "more" ∧ 0 < z)) = decide (∃ j, j < i + 1 ∧ ssC cs j = .more ∧ 0 < zs.getD j 0) := by
        rw [← Bool.decide_or]
        refine decide_eq_decide.mpr ⟨fun h => ?_, fun ⟨j, h1, h2, h3⟩ => ?_⟩
        · rcases h with ⟨j, h1, h2, h3⟩ | ⟨h1, h2⟩
          · exact ⟨j, by omega, h2, h3⟩
          · exact ⟨i, by omega, by rw [es, h1]; decide, by rw [ez]; exact h2⟩
        · rcases Nat.lt_succ_iff_lt_or_eq.mp h1 with q | q
          · exact .inl ⟨j, q, h2, h3⟩
          · subst q
            rw [es] at h2
            rw [ez] at h3
            exact .inr ⟨so_more' h2, h3⟩
      rw [estr]
      refine ⟨_, rfl, _, rfl, b, _, 1, _, rfl, rfl, Tb, rfl, _, rfl, q, w, c.2, ws, rfl, ⟨ys, hq, prs'⟩, md.1, md.2, wd.same s4, fun us2 r2 H6 s6 asc2 hr2 => ?_⟩
      obtain rfl : us2 = us' := asc_uniq asc2 asc fun _ => Iff.rfl
      have hM6 := s6 _ _ hM4
      refine ⟨M, r2, _, _, rfl, SqL.of hM6, SqL.of hr2, fun D3 hD3 => ?_⟩
      refine lc_map (walk_zip (xs := ((List.range (2 ^ us2.length)).map (W i)).map V.int) (ys := ((List.range (2 ^ us2.length)).map fun k => wt (inK us2 k) c.2).map V.int) (n := 2 ^ us2.length) (by simp)) (fun k y _ => y = .int (W (i + 1) k)) (few_lt (by omega)) hD3 (fun H7 s7 => ⟨SqL.of (s7 _ _ hM6), SqL.of (s7 _ _ hr2)⟩) (fun _ _ _ _ _ _ _ h => h) ?_ ?_
      · rintro k x H7 H8 Qy hk s7 nd ⟨T2, x1, y1, rfl, hT2, rfl, ex, ey⟩ cy
        obtain ⟨xi, hxi, rfl⟩ := ints_get ex
        obtain ⟨yi, hyi, rfl⟩ := ints_get ey
        rw [List.getElem?_map, List.getElem?_range hk] at hxi hyi
        obtain rfl := Option.some.inj hxi
        obtain rfl := Option.some.inj hyi
        have wb := wt_le (inK us2 k) c.2
        have wb2 := ok.sum c mem
        refine ⟨T2, [V.int (W i k), V.int (wt (inK us2 k) c.2)], rfl, .inl (.inl upd_same), rfl, _, _, rfl, ?_⟩
        refine ⟨_, _, rfl, rfl, rfl, ?_⟩
        refine ⟨_, rfl, _, rfl, _, rfl, _, _, rfl, rfl, .inr ⟨by omega, by omega⟩, _, _, rfl, rfl, cy _ _ (same_upd hT2) ?_⟩
        show V.int (W i k + z * wt (inK us2 k) c.2) = V.int (sm (i + 1) fun j => zs.getD j 0 * rowsC us2 cs j k)
        rw [sm, ez]
        have er : rowsC us2 cs i k = wt (inK us2 k) c.2 := by
          unfold rowsC
          rw [List.getD_eq_getElem?_getD, hc]
          rfl
        rw [er]
      intro H7 acc7 s7 hD7 hp7
      have ea7 := paired_map_eq (f := fun k : Nat => V.int (W (i + 1) k)) hp7
      refine ⟨s34.trans (s6.trans s7), rfl, rfl, rfl, ⟨D3, rfl, ?_⟩, rfl⟩
      rw [hD7, ea7, List.map_map]
      rfl
    · refine iteN (by rw [decide_eq_false (by omega)]; decide) (iteN (by decide) ?_)
      refine t_or (y := decide (c.1 = "more" ∧ 0 < z)) rfl (fun Q' h => ?_) ?_
      · refine ⟨_, rfl, b, _, 0, _, rfl, rfl, Tb, rfl, rfl, _, rfl, ?_⟩
        by_cases em : c.1 = "more"
        · refine iteP (decide_eq_true (congrArg V.str em)) ⟨_, rfl, _, _, rfl, rfl, ?_⟩
          simpa [em] using h
        · refine iteN (fun e => em (V.str.inj (of_decide_eq_true e))) ?_
          simpa [em] using h
      have estr : (decide (∃ j, j < i ∧ ssC cs j = .more ∧ 0 < zs.getD j 0) || decide (c.1 = "more" ∧ 0 < z)) = decide (∃ j, j < i + 1 ∧ ssC cs j = .more ∧ 0 < zs.getD j 0) := by
        rw [← Bool.decide_or]
        refine decide_eq_decide.mpr ⟨fun h => ?_, fun ⟨j, h1, h2, h3⟩ => ?_⟩
        · rcases h with ⟨j, h1, h2, h3⟩ | ⟨h1, h2⟩
          · exact ⟨j, by omega, h2, h3⟩
          · exact ⟨i, by omega, by rw [es, h1]; decide, by rw [ez]; exact h2⟩
        · rcases Nat.lt_succ_iff_lt_or_eq.mp h1 with q | q
          · exact .inl ⟨j, q, h2, h3⟩
          · subst q
            rw [es] at h2
            rw [ez] at h3
            exact .inr ⟨so_more' h2, h3⟩
      rw [estr]
      refine ⟨_, rfl, _, rfl, b, _, 1, _, rfl, rfl, Tb, rfl, _, rfl, q, w, c.2, ws, rfl, ⟨ys, hq, prs'⟩, md.1, md.2, wd.same s4, fun us2 r2 H6 s6 asc2 hr2 => ?_⟩
      obtain rfl : us2 = us' := asc_uniq asc2 asc fun _ => Iff.rfl
      have hM6 := s6 _ _ hM4
      refine ⟨M, r2, _, _, rfl, SqL.of hM6, SqL.of hr2, fun D3 hD3 => ?_⟩
      refine lc_map (walk_zip (xs := ((List.range (2 ^ us2.length)).map (W i)).map V.int) (ys := ((List.range (2 ^ us2.length)).map fun k => wt (inK us2 k) c.2).map V.int) (n := 2 ^ us2.length) (by simp)) (fun k y _ => y = .int (W (i + 1) k)) (few_lt (by omega)) hD3 (fun H7 s7 => ⟨SqL.of (s7 _ _ hM6), SqL.of (s7 _ _ hr2)⟩) (fun _ _ _ _ _ _ _ h => h) ?_ ?_
      · rintro k x H7 H8 Qy hk s7 nd ⟨T2, x1, y1, rfl, hT2, rfl, ex, ey⟩ cy
        obtain ⟨xi, hxi, rfl⟩ := ints_get ex
        obtain ⟨yi, hyi, rfl⟩ := ints_get ey
        rw [List.getElem?_map, List.getElem?_range hk] at hxi hyi
        obtain rfl := Option.some.inj hxi
        obtain rfl := Option.some.inj hyi
        have wb := wt_le (inK us2 k) c.2
        have wb2 := ok.sum c mem
        refine ⟨T2, [V.int (W i k), V.int (wt (inK us2 k) c.2)], rfl, .inl (.inl upd_same), rfl, _, _, rfl, ?_⟩
        refine ⟨_, _, rfl, rfl, rfl, ?_⟩
        refine ⟨_, rfl, _, rfl, _, rfl, _, _, rfl, rfl, .inr ⟨by omega, by omega⟩, _, _, rfl, rfl, cy _ _ (same_upd hT2) ?_⟩
        show V.int (W i k + z * wt (inK us2 k) c.2) = V.int (sm (i + 1) fun j => zs.getD j 0 * rowsC us2 cs j k)
        rw [sm, ez]
        have er : rowsC us2 cs i k = wt (inK us2 k) c.2 := by
          unfold rowsC
          rw [List.getD_eq_getElem?_getD, hc]
          rfl
        rw [er]
      intro H7 acc7 s7 hD7 hp7
      have ea7 := paired_map_eq (f := fun k : Nat => V.int (W (i + 1) k)) hp7
      refine ⟨s34.trans (s6.trans s7), rfl, rfl, rfl, ⟨D3, rfl, ?_⟩, rfl⟩
      rw [hD7, ea7, List.map_map]
      rfl
  · rintro σ H3 ⟨s3, e1, e2, e3, ⟨M, e4, hM⟩, el⟩
    obtain ⟨v0, v1, v2, v3, v4, v5, v6, v7, v8, v9, rfl⟩ : ∃ v0 v1 v2 v3 v4 v5 v6 v7 v8 v9, σ = [v0, v1, v2, v3, v4, v5, v6, v7, v8, v9] := by
      match σ, el with
      | [v0, v1, v2, v3, v4, v5, v6, v7, v8, v9], _ => exact ⟨v0, v1, v2, v3, v4, v5, v6, v7, v8, v9, rfl⟩
    cases e1; cases e2; cases e3; cases e4
    rw [decide_eq_true bar.2.1]
    refine ⟨_, rfl, true, rfl, iteP rfl ?_⟩
    refine ⟨_, rfl, M, rfl, ⟨_, SqL.of hM⟩, fun D3 hD3 => ?_⟩
    refine lc_sel (walk_list (xs := ((List.range (2 ^ us'.length)).map (W cs.length)).map V.int)) (fun _ => false) (fun _ _ _ => True) (few_lt (by simp; omega)) hD3 (fun H4 s4 => SqL.of (s4 _ _ hM)) (fun _ _ _ _ _ _ _ h => h) ?_ ?_
    · rintro j x H4 H5 Qy Qn hj s4 nd2 ⟨rfl, hx⟩ cy cn
      obtain ⟨z, hz', rfl⟩ := ints_get hx
      have hj' : j < 2 ^ us'.length := by simpa using hj
      rw [List.getElem?_map, List.getElem?_range hj'] at hz'
      obtain rfl := Option.some.inj hz'
      have := bar.2.2 j hj'
      refine ⟨rfl, _, rfl, _, _, rfl, rfl, _, rfl, iteN (fun e => ?_) (cn rfl _ (Same.refl _))⟩
      have e := of_decide_eq_true e
      have e : 0 < sm cs.length fun j_1 => zs.getD j_1 0 * rowsC us' cs j_1 j := e
      exact absurd e (Int.not_lt.mpr this)
    · intro H4 acc s4 hD4 hp4
      have e0 : acc = [] := by
        have := paired_len hp4
        rw [List.filter_eq_nil_iff.mpr (fun _ _ => by decide)] at this
        exact List.eq_nil_of_length_eq_zero this.symm
      subst e0
      refine ⟨few_line (by show 0 ≤ 1000; decide), fun q hq => ?_⟩
      refine ⟨D3, q, [], rfl, rfl, .inl ⟨SqL.of ((same_upd hq) _ _ hD4), SqL.of upd_same⟩, ?_⟩
      exact cont _ (s12.trans (s3.trans (s4.trans (same_upd hq))))
end
end Mc
/-! The walk, 30: the law's deal: numbers drawn. -/
namespace Mc
open PySem PySem.Spec PyProof.Rows L2
abbrev N__law_deal : List Str := ["_law_script", "_law_begin", "_law_cells_here", "_law_mixed", "_law_cell"]
abbrev P__law_deal : List Str := ["_law_script", "_law_begin"]
theorem sc__law_deal : FnScope N__law_deal P__law_deal (defScope s__law_deal) := ⟨rfl, rfl, rfl, by decide +kernel, rfl, by decide +kernel, by decide +kernel⟩

abbrev N__law_draw : List Str := ["_law_deal_here", "_law_wide", "_law_left"]
abbrev P__law_draw : List Str := ["_law_deal_here", "_law_wide"]
theorem sc__law_draw : FnScope N__law_draw P__law_draw (defScope s__law_draw) := ⟨rfl, rfl, rfl, by decide +kernel, rfl, by decide +kernel, by decide +kernel⟩

abbrev N__law_pick : List Str := ["_law_deal_here", "_law_some"]
abbrev P__law_pick : List Str := ["_law_deal_here", "_law_some"]
theorem sc__law_pick : FnScope N__law_pick P__law_pick (defScope s__law_pick) := ⟨rfl, rfl, rfl, by decide +kernel, rfl, by decide +kernel, by decide +kernel⟩

/-- the deal: numbers to draw from, and one more -/
def DealR (H : Hp) (a l : Addr) : Prop := ∃ (ns : List Int) (m : Int), H a = some (.lst [.ref l, .int m]) ∧ H l = some (.lst (ns.map V.int)) ∧ ns.length ≤ 63
/-- all but the deal -/
def Same2 (a l : Addr) (H H' : Hp) : Prop := ∀ b o, H b = some o → b ≠ a → b ≠ l → H' b = some o
theorem Same2.refl (a l : Addr) (H : Hp) : Same2 a l H H := fun _ _ e _ _ => e
theorem Same2.trans {a l : Addr} {H H1 H2 : Hp} (h : Same2 a l H H1) (k : Same2 a l H1 H2) : Same2 a l H H2 := fun b o e n1 n2 => k b o (h b o e n1 n2) n1 n2
theorem _root_.L2.Same.two {a l : Addr} {H H' : Hp} (h : Same H H') : Same2 a l H H' := fun b o e _ _ => h b o e
theorem DealR.ne {H : Hp} {a l : Addr} (h : DealR H a l) : a ≠ l := by
  obtain ⟨ns, m, h1, h2, _⟩ := h
  intro e
  subst e
  rw [h1] at h2
  have := HO.lst.inj (Option.some.inj h2)
  cases ns with
  | nil => cases this
  | cons n ns => cases this
theorem DealR.same {H H' : Hp} {a l : Addr} (h : DealR H a l) (s : Same H H') : DealR H' a l := let ⟨ns, m, h1, h2, h3⟩ := h; ⟨ns, m, s _ _ h1, s _ _ h2, h3⟩
theorem Same2.i {H H' : Hp} {a l : Addr} (s : Same2 a l H H') (h : DealR H a l) : ISame H H' := fun b o e w => by
  obtain ⟨ns, m, h1, h2, _⟩ := h
  refine s b o e (fun q => ?_) (fun q => ?_)
  · subst q; rw [h1] at e; rw [← Option.some.inj e] at w; exact w
  · subst q; rw [h2] at e; rw [← Option.some.inj e] at w; exact w
theorem seq_while {c : TT} {tb u : TS} {D : Ends} {σ : L2.St} {H : Hp} (W : Nat → L2.St → Hp → Prop) (Pe : L2.St → Hp → Prop) (h0 : ∃ m, W m σ H) (hrest : ∀ σ H, Pe σ H → u D σ H)
    (hturn : ∀ nx' : L2.St → Hp → Prop, (∀ σ H, Pe σ H → nx' σ H) → ∀ m σ H, W m σ H → c σ H fun b H1 => if b = true then ∃ N : L2.St → Hp → Prop, (∀ σ' H', N σ' H' → ∃ m', m' < m ∧ W m' σ' H') ∧ tb { D with nx := N, ct := N, bk := nx' } σ H1 else nx' σ H1) : tSeq (tWhile c tb) u D σ H :=
  ⟨W, h0, hturn _ hrest⟩
theorem ix_end {t : List Int} {z : Int} : atI ((t ++ [z]).map V.int) (-1) = some (V.int z) := atI_end (n := t.length) (by simp) (by simp)
theorem upd_two {a l : Addr} {H : Hp} {o : HO} : Same2 a l H (L2.upd H l o) := fun b u e _ n => by rw [upd_ne n]; exact e
theorem upd_one {a l : Addr} {H : Hp} {o : HO} : Same2 a l H (L2.upd H a o) := fun b u e n _ => by rw [upd_ne n]; exact e
theorem int_nat {i w : Int} (h : 0 < w) : ∃ k : Nat, i % w = (k : Int) ∧ (k : Int) < w := by
  have h1 := Int.emod_nonneg i (show w ≠ 0 by omega)
  have h2 := Int.emod_lt_of_pos i h
  exact ⟨(i % w).toNat, by omega, by omega⟩
section
variable {G : Gd} (B : Bl G.mg)
include B
def spLDraw : Sp := fun vs H Q _ => ∃ (a l : Addr) (w : Int), vs = [.ref a, .int w] ∧ 0 < w ∧ w ≤ 1000 ∧ DealR H a l ∧ ∀ (k : Nat) H', (k : Int) < w → Same2 a l H H' → DealR H' a l → Q (.int k) H'
theorem ok__law_draw (F : Df G "_law_draw" "_law_draw" s__law_draw) : Cal G 1 "_law_draw" P__law_draw spLDraw := by
  refine F.cal (N := N__law_draw) (k := 0) sc__law_draw (fun _ _ _ _ _ _ us hl => match us, hl with | [_, _], _ => rfl) (fun vs H Q E h => by obtain ⟨_, _, _, rfl, _⟩ := h; rfl) fun f cdv A outer s H vs Q E hr h => ?_
  obtain ⟨a, l, w, rfl, w0, w1, dl, cont⟩ := h
  have S := sc__law_draw
  have hu := hr.units
  refine ⟨_, (pss_cons (ps_while PassesOwn.never (PW.pt (pw_and (pt_cmpR (op_neNil hu) (pe_ix ix_list (pv 0) pe_int (fun _ _ => rfl)) (pe_lst pa_nil) (nomark _)) (pw_and1 (pt_cmpR op_eq (pe_ix ix_list (pe_ix ix_list (pv 0) pe_int (fun _ _ => rfl)) (pe_un un_neg pe_int) (fun _ _ => rfl)) pe_int (nomark _))))) (pss_one (ps_expr (pe_bm0 PySem.F.plainAttrs_list PySem.F.slot_list_pop PySem.F.type_list_pop mt_pop (pe_ix ix_list (pv 0) pe_int (fun _ _ => rfl))))))
    (pss_cons (ps_if (pt_cmpR (op_neNil hu) (pe_ix ix_list (pv 0) pe_int (fun _ _ => rfl)) (pe_lst pa_nil) (nomark _)) (pss_cons (ps_set (i := 2) S.nd rfl (by first | exact Or.inl rfl | exact Or.inr rfl) (pe_bm0 PySem.F.plainAttrs_list PySem.F.slot_list_pop PySem.F.type_list_pop mt_pop (pe_ix ix_list (pv 0) pe_int (fun _ _ => rfl))))
    (pss_cons (ps_expr (pe_bm PySem.F.plainAttrs_list PySem.F.slot_list_append PySem.F.type_list_append mt_append (pe_ix ix_list (pv 0) pe_int (fun _ _ => rfl)) (pa_cons (pe_op op_fdivW (pv 2) (pv 1)) pa_nil)))
    (pss_one (ps_ret (pe_op op_mod (pe_callTy call_int1 rfl B.int (by decide +kernel) (pa_cons (pv 2) pa_nil)) (pv 1)))))) pss_nil)
    (pss_cons (ps_asg (pe_op op_mod (pe_callTy call_int1 rfl B.int (by decide +kernel) (pa_cons (pe_op op_mul (pe_ix ix_list (pv 0) pe_int (fun _ _ => rfl)) pe_int) pa_nil)) pe_int) (pg_sub (pv 0) pe_int set_list))
    (pss_one (ps_ret (pe_op op_mod (pe_callTy call_int1 rfl B.int (by decide +kernel) (pa_cons (pe_op op_fdivW (pe_ix ix_list (pv 0) pe_int (fun _ _ => rfl)) pe_int) pa_nil)) (pv 1))))))), ?_⟩
  have lw : w.natAbs.log2 < 9000 := by
    by_cases z : w.natAbs = 0
    · rw [z]; decide
    · exact Nat.lt_trans ((Nat.log2_lt z).mpr (show w.natAbs < 2 ^ 10 by omega)) (by decide)
  obtain ⟨ns0, m0, ha0, hl0, l63⟩ := dl
  have al := DealR.ne ⟨ns0, m0, ha0, hl0, l63⟩
  let P : List Int → L2.St → Hp → Prop := fun ns σ H1 => (∃ m, H1 a = some (.lst [.ref l, .int m])) ∧ H1 l = some (.lst (ns.map V.int)) ∧ ns.length ≤ 63 ∧ Same2 a l H H1 ∧ ∃ v2, σ = [some (.ref a), some (.int w), v2]
  refine seq_while (fun n σ H1 => ∃ ns, ns.length = n ∧ P ns σ H1) (fun σ H1 => ∃ ns, P ns σ H1) ⟨_, ns0, rfl, ⟨m0, ha0⟩, hl0, l63, Same2.refl _ _ _, _, rfl⟩ ?_ ?_
  · rintro σ H1 ⟨ns, ⟨m, ha⟩, hl, ln, s1, v2, rfl⟩
    refine ⟨_, rfl, a, _, 0, _, rfl, rfl, SqL.of ha, (rfl : _ = some (V.ref l)), few_line (by show 0 ≤ 1000; decide), fun q hq => ?_⟩
    have sq := same_upd (o := HO.lst []) hq
    have ha1 := sq _ _ ha
    have hl1 := sq _ _ hl
    refine ⟨l, q, _, rfl, rfl, .inl ⟨SqL.of hl1, SqL.of upd_same⟩, _, rfl, ?_⟩
    rcases List.eq_nil_or_concat ns with rfl | ⟨t, z, rfl⟩
    · refine iteN (by decide) ?_
      refine ⟨_, rfl, a, _, 1, _, rfl, rfl, SqL.of ha1, (rfl : _ = some (V.int m)), _, _, rfl, rfl, .inr ⟨by decide, by decide⟩, .inl ⟨_, rfl, _, _, rfl, rfl, (by show (0 : Int) < 2147483647; decide), ?_⟩⟩
      obtain ⟨k0, e0, _⟩ := int_nat (i := m * 48271) (w := 2147483647) (by decide)
      refine ⟨_, rfl, a, _, 1, 1, rfl, rfl, ha1, rfl, ?_⟩
      dsimp only
      refine ⟨_, rfl, a, _, 1, _, rfl, rfl, SqL.of upd_same, (rfl : _ = some (V.int _)), _, _, rfl, rfl, ⟨by decide, by decide⟩, .inl ⟨_, rfl, _, rfl, _, _, rfl, rfl, w0, ?_⟩⟩
      obtain ⟨k, e, kw⟩ := int_nat (i := m * 48271 % 2147483647 / 8) w0
      dsimp only
      rw [e]
      refine cont k _ kw (s1.trans (sq.two.trans upd_one)) ⟨[], _, upd_same, ?_, by simp⟩
      rw [upd_ne (Ne.symm al)]
      exact hl1
    · rw [List.concat_eq_append] at *
      refine iteP (by simp) ?_
      refine ⟨_, rfl, a, _, 0, _, rfl, rfl, SqL.of ha1, (rfl : _ = some (V.ref l)), .inl ⟨rfl, _, SqL.of hl1⟩, l, _, V.int z, rfl, rfl, hl1, by simp, ?_⟩
      have hp : Same2 a l H1 (L2.upd (L2.upd H1 q (.lst [])) l (.lst ((t ++ [z]).map V.int).dropLast)) := sq.two.trans upd_two
      have ha2 : (L2.upd (L2.upd H1 q (.lst [])) l (.lst ((t ++ [z]).map V.int).dropLast)) a = some (.lst [.ref l, .int m]) := by rw [upd_ne al]; exact ha1
      have hl2 : (L2.upd (L2.upd H1 q (.lst [])) l (.lst ((t ++ [z]).map V.int).dropLast)) l = some (.lst (t.map V.int)) := by rw [upd_same]; simp
      have lt : t.length + 1 ≤ 63 := by simpa using ln
      refine ⟨_, rfl, a, _, 0, _, rfl, rfl, SqL.of ha2, (rfl : _ = some (V.ref l)), .inl ⟨rfl, _, SqL.of hl2⟩, _, rfl, _, rfl, _, _, rfl, rfl, ⟨w0, lw⟩, ?_⟩
      refine ⟨l, _, _, rfl, rfl, hl2, few_lt (by rw [List.length_map]; omega), ?_⟩
      refine ⟨_, rfl, .inl ⟨_, rfl, _, rfl, _, _, rfl, rfl, w0, ?_⟩⟩
      obtain ⟨k, e, kw⟩ := int_nat (i := z) w0
      dsimp only
      rw [e]
      refine cont k _ kw (s1.trans (hp.trans upd_two)) ⟨t ++ [z / w], m, by rw [upd_ne al]; exact ha2, by rw [upd_same]; simp, by simp; omega⟩
  · rintro nx' hnx n σ H1 ⟨ns, rfl, ⟨m, ha⟩, hl, ln, s1, v2, rfl⟩
    refine ⟨_, rfl, a, _, 0, _, rfl, rfl, SqL.of ha, (rfl : _ = some (V.ref l)), few_line (by show 0 ≤ 1000; decide), fun q hq => ?_⟩
    have sq := same_upd (o := HO.lst []) hq
    have ha1 := sq _ _ ha
    have hl1 := sq _ _ hl
    refine ⟨l, q, _, rfl, rfl, .inl ⟨SqL.of hl1, SqL.of upd_same⟩, _, rfl, ?_⟩
    rcases List.eq_nil_or_concat ns with rfl | ⟨t, z, rfl⟩
    · refine iteN (by decide) (iteN (by decide) ?_)
      exact hnx _ _ ⟨[], ⟨m, ha1⟩, hl1, by simp, s1.trans sq.two, _, rfl⟩
    · rw [List.concat_eq_append] at *
      refine iteP (by simp) ?_
      refine ⟨_, rfl, a, _, 0, _, rfl, rfl, SqL.of ha1, (rfl : _ = some (V.ref l)), _, rfl, l, _, -1, _, rfl, rfl, SqL.of hl1, ix_end, rfl, _, rfl, ?_⟩
      refine ite2 (fun c => ?_) fun c => ?_
      · refine ⟨fun σ' H' => ∃ m', m' < (t ++ [z]).length ∧ ∃ ns, ns.length = m' ∧ P ns σ' H', fun σ' H' h => h, ?_⟩
        refine ⟨_, rfl, a, _, 0, _, rfl, rfl, SqL.of ha1, (rfl : _ = some (V.ref l)), .inl ⟨rfl, _, SqL.of hl1⟩, l, _, V.int z, rfl, rfl, hl1, by simp, ?_⟩
        refine ⟨t.length, by simp, t, rfl, ⟨m, by rw [upd_ne al]; exact ha1⟩, by rw [upd_same]; simp, (by have h : t.length + 1 ≤ 63 := (by simpa using ln); omega), s1.trans (sq.two.trans upd_two), _, rfl⟩
      · exact hnx _ _ ⟨t ++ [z], ⟨m, ha1⟩, hl1, ln, s1.trans sq.two, _, rfl⟩
end
end Mc
/-! The walk, 31: the law's deal is made; one of some is picked. -/
namespace Mc
open PySem PySem.Spec PyProof.Rows L2
theorem cut_ints (ns : List Int) (lo hi : Option Int) : ∃ zs : List Int, cutV (ns.map V.int) lo hi = zs.map V.int ∧ zs.length ≤ ns.length := by
  unfold cutV
  rw [← List.map_drop, ← List.map_take]
  exact ⟨_, rfl, by simp; omega⟩
section
variable {G : Gd} (B : Bl G.mg)
include B
def spLDeal (K : PySem.W.Frag) : Sp := fun vs H Q _ => ∃ (a : Addr) (ns : List Int), vs = [.ref a, .int 0] ∧ SqL K H a (ns.map V.int) ∧ ns.length ≤ 63 ∧ ∀ d l H', Same H H' → DealR H' d l → Q (.ref d) H'
theorem ok__law_deal (F : Df G "_law_deal" "_law_deal" s__law_deal) : Cal G 1 "_law_deal" P__law_deal (spLDeal G.K) := by
  refine F.cal (N := N__law_deal) (k := 0) sc__law_deal (fun _ _ _ _ _ _ us hl => match us, hl with | [_, _], _ => rfl) (fun vs H Q E h => by obtain ⟨_, _, rfl, _⟩ := h; rfl) fun f cdv A outer s H vs Q E hr h => ?_
  obtain ⟨a, ns, rfl, ha, l63, cont⟩ := h
  have S := sc__law_deal
  have hu := hr.units
  refine ⟨_, (pss_cons (ps_setLc (i := 2) (own := [("_law_cell", 4)]) rfl S.nd rfl rfl (sw_true rfl rfl rfl (by decide +kernel)) (pi_list (pe_slice sl_list (pv 0) (po_some (pv 1)) (po_some pe_int))) (blkOk_by (own := [("_law_cell", 4)]) (N := N__law_deal) (sc := defScope s__law_deal) (by decide +kernel)) (fun _ _ _ _ _ => (pg_name (i := 4) S.nd rfl (by first | exact Or.inl rfl | exact Or.inr rfl))) (fun _ _ _ _ _ => pts_nil) (fun _ _ _ _ _ => (pe_ifExp (pt_cmpR op_gt (pv 4) pe_int (nomark _)) (pv 4) (pe_op op_sub pe_int (pv 4)))))
    (pss_cons (ps_set (i := 3) S.nd rfl (by first | exact Or.inl rfl | exact Or.inr rfl) (pe_op op_add pe_int (pe_op op_mul pe_int (pv 1))))
    (pss_cons (ps_for PassesOwn.never rfl (pi_list (pv 2)) (pg_name (i := 4) S.nd rfl (by first | exact Or.inl rfl | exact Or.inr rfl)) (pss_one (ps_set (i := 3) S.nd rfl (by first | exact Or.inl rfl | exact Or.inr rfl) (pe_op op_mod (pe_callTy call_int1 rfl B.int (by decide +kernel) (pa_cons (pe_op op_add (pe_op op_mul (pv 3) pe_int) (pe_op op_mod (pe_callTy call_int1 rfl B.int (by decide +kernel) (pa_cons (pv 4) pa_nil)) pe_int)) pa_nil)) pe_int))))
    (pss_one (ps_ret (pe_lst (pa_cons (pe_revL (pe_lc (own := [("_law_cell", 4)]) rfl S.nd (pi_list (pv 2)) (blkOk_by (own := [("_law_cell", 4)]) (N := N__law_deal) (sc := defScope s__law_deal) (by decide +kernel)) (fun _ _ _ _ _ => (pg_name (i := 4) S.nd rfl (by first | exact Or.inl rfl | exact Or.inr rfl))) (fun _ _ _ _ _ => pts_one (pt_cmpR op_ge (pv 4) (pe_op op_pow pe_int pe_int) (nomark _))) (fun _ _ _ _ _ => (pv 4)))) (pa_cons (pv 3) pa_nil)))))))), ?_⟩
  obtain ⟨zs, ez, lz⟩ := cut_ints ns (some 0) (some 63)
  refine ⟨_, rfl, _, rfl, _, rfl, _, rfl, a, _, rfl, ha, fun p hp => ?_⟩
  rw [ez]
  have s1 := same_upd (o := HO.lst (zs.map V.int)) hp
  refine ⟨p, rfl, ⟨_, SqL.of upd_same⟩, fun D hD => ?_⟩
  refine lc_map (walk_list (xs := zs.map V.int)) (fun _ y _ => ∃ z : Int, y = .int z) (few_lt (by rw [List.length_map]; omega)) hD (fun H2 s2 => SqL.of (s2 _ _ upd_same)) (fun _ _ _ _ _ _ _ h => h) ?_ ?_
  · rintro k x H2 H3 Qy hk s2 nd ⟨rfl, hx⟩ cy
    obtain ⟨z, hz, rfl⟩ := ints_get hx
    refine ⟨rfl, _, rfl, _, _, rfl, rfl, _, rfl, ?_⟩
    refine ite2 (fun c => ?_) fun c => ?_
    · exact ⟨_, rfl, cy _ _ (Same.refl _) ⟨_, rfl⟩⟩
    · exact ⟨_, rfl, _, _, rfl, rfl, cy _ _ (Same.refl _) ⟨_, rfl⟩⟩
  intro H2 acc s2 hD2 hp2
  have lacc := paired_len hp2
  rw [List.length_range, List.length_map] at lacc
  obtain ⟨as, rfl⟩ : ∃ as : List Int, acc = as.map V.int := by
    clear hD2 lacc
    generalize List.range _ = rs at hp2
    induction hp2 with
    | nil => exact ⟨[], rfl⟩
    | cons h t ih =>
      obtain ⟨z, rfl⟩ := h
      obtain ⟨as, rfl⟩ := ih
      exact ⟨z :: as, rfl⟩
  rw [List.length_map] at lacc
  have s02 := s1.trans s2
  refine ⟨_, rfl, _, _, rfl, rfl, .inl ⟨by decide, by decide⟩, _, _, rfl, rfl, ?_⟩
  refine ⟨_, rfl, D, rfl, ⟨_, SqL.of hD2⟩, ?_⟩
  refine for_it (walk_list (xs := as.map V.int)) (fun i σ H3 => Same H2 H3 ∧ ∃ m : Int, σ[2]? = some (some (.ref D)) ∧ σ[3]? = some (some (.int m)) ∧ σ.length = 5) ⟨Same.refl _, _, rfl, rfl, rfl⟩ (fun i σ H3 _ h => SqL.of (h.1 _ _ hD2)) ?_ ?_
  · rintro i x σ H3 H4 hi ⟨s3, m, e2, e3, el⟩ ⟨rfl, hx⟩
    obtain ⟨v0, v1, v2, v3, v4, rfl⟩ : ∃ v0 v1 v2 v3 v4, σ = [v0, v1, v2, v3, v4] := by
      match σ, el with
      | [v0, v1, v2, v3, v4], _ => exact ⟨v0, v1, v2, v3, v4, rfl⟩
    cases e2; cases e3
    obtain ⟨z, hz, rfl⟩ := ints_get hx
    refine ⟨_, rfl, _, _, rfl, rfl, .inr ⟨by decide, by decide⟩, _, rfl, .inl ⟨_, rfl, _, _, rfl, rfl, (by show (0 : Int) < 2147483629; decide), _, _, rfl, rfl, .inl ⟨_, rfl, _, _, rfl, rfl, (by show (0 : Int) < 2147483647; decide), ?_⟩⟩⟩
    exact ⟨s3, _, rfl, rfl, rfl⟩
  · rintro σ H3 ⟨s3, m, e2, e3, el⟩
    obtain ⟨v0, v1, v2, v3, v4, rfl⟩ : ∃ v0 v1 v2 v3 v4, σ = [v0, v1, v2, v3, v4] := by
      match σ, el with
      | [v0, v1, v2, v3, v4], _ => exact ⟨v0, v1, v2, v3, v4, rfl⟩
    cases e2; cases e3
    have hD3 := s3 _ _ hD2
    refine ⟨_, rfl, D, rfl, ⟨_, SqL.of hD3⟩, fun D2 hD2' => ?_⟩
    refine lc_sel (walk_list (xs := as.map V.int)) (fun j => decide ((10 : Int) ^ 18 ≤ as.getD j 0)) (fun _ y _ => ∃ z : Int, y = .int z) (few_lt (by rw [List.length_map]; omega)) hD2' (fun H4 s4 => SqL.of (s4 _ _ hD3)) (fun _ _ _ _ _ _ _ h => h) ?_ ?_
    · rintro j x H4 H5 Qy Qn hj s4 nd ⟨rfl, hx⟩ cy cn
      obtain ⟨z, hz, rfl⟩ := ints_get hx
      have ez : as.getD j 0 = z := by rw [List.getD_eq_getElem?_getD, hz]; rfl
      rw [ez] at cy cn
      refine ⟨rfl, _, rfl, _, _, rfl, rfl, ⟨by decide, by decide, by decide⟩, _, _, rfl, rfl, _, rfl, ?_⟩
      refine ite2 (fun c => ?_) fun c => ?_
      · exact ⟨_, rfl, cy c _ _ (Same.refl _) ⟨_, rfl⟩⟩
      · exact cn (Bool.eq_false_iff.mpr c) _ (Same.refl _)
    · intro H4 acc4 s4 hD4 hp4
      have l4 := paired_len hp4
      obtain ⟨bs, rfl⟩ : ∃ bs : List Int, acc4 = bs.map V.int := by
        clear hD4 l4
        generalize List.filter _ _ = rs at hp4
        induction hp4 with
        | nil => exact ⟨[], rfl⟩
        | cons h t ih =>
          obtain ⟨z, rfl⟩ := h
          obtain ⟨as, rfl⟩ := ih
          exact ⟨z :: as, rfl⟩
      have l5 := List.length_filter_le (fun j => decide ((10 : Int) ^ 18 ≤ as.getD j 0)) (List.range (as.map V.int).length)
      rw [List.length_range, List.length_map] at l5
      rw [List.length_map, List.length_map] at l4
      refine ⟨D2, _, rfl, SqL.of hD4, fun q hq => ?_⟩
      refine ⟨_, rfl, few_line (by show 2 ≤ 1000; decide), fun d hd => ?_⟩
      refine cont d q _ (s02.trans (s3.trans (s4.trans ((same_upd hq).trans (same_upd hd))))) ⟨bs.reverse, m, upd_same, ?_, by rw [List.length_reverse]; omega⟩
      rw [(same_upd hd) _ _ upd_same, List.map_reverse]
def spLPick (K : PySem.W.Frag) : Sp := fun vs H Q _ => ∃ (a l s : Addr) (xs : List V), vs = [.ref a, .ref s] ∧ DealR H a l ∧ H s = some (.lst xs) ∧ s ≠ a ∧ s ≠ l ∧ 0 < xs.length ∧ xs.length ≤ 1000 ∧ ∀ x H', x ∈ xs → Same2 a l H H' → DealR H' a l → Q x H'
theorem ok__law_pick (C_law_draw : Cal G 1 "_law_draw" P__law_draw spLDraw) (F : Df G "_law_pick" "_law_pick" s__law_pick) : Cal G 2 "_law_pick" P__law_pick (spLPick G.K) := by
  refine F.cal (N := N__law_pick) (k := 1) sc__law_pick (fun _ _ _ _ _ _ us hl => match us, hl with | [_, _], _ => rfl) (fun vs H Q E h => by obtain ⟨_, _, _, _, rfl, _⟩ := h; rfl) fun f cdv A outer s H vs Q E hr h => ?_
  obtain ⟨a, l, p, xs, rfl, dl, hp, pa, pl, x0, x1, cont⟩ := h
  have S := sc__law_pick
  refine ⟨_, (pss_one (ps_ret (pe_ix ix_list (pv 1) (pe_cal (C_law_draw.mono (by omega)) hr rfl (pa_cons (pv 0) (pa_cons (pe_callB call_len_seq rfl B.len (by decide +kernel) (pa_cons (pv 1) pa_nil)) pa_nil))) (fun _ _ => rfl)))), ?_⟩
  refine ⟨_, rfl, _, rfl, _, rfl, p, _, rfl, .inl (SqL.of hp), a, l, _, rfl, by omega, by omega, dl, fun k H1 hk s1 dl1 => ?_⟩
  have h1 := s1 _ _ hp pa pl
  have hk' : k < xs.length := by omega
  exact ⟨p, xs, k, xs[k], rfl, rfl, SqL.of h1, atI_nat (List.getElem?_eq_getElem hk'), cont _ _ (List.getElem_mem hk') s1 dl1⟩
end
end Mc
/-! Comprehensions while the deal changes. -/
namespace Mc
open PySem PySem.Spec PyProof.Rows L2
section
variable {J : It} {n : Nat} {Gp : Hp → Prop} {Y : Nat → Hp → V → Hp → Prop}
theorem lc_two (w : Walk J n Gp Y) {a l : Addr} {g : TG} {te : TE} {vs : List Nat} {σ : L2.St} {H1 : Hp} {D : Addr} {Qd : Hp → Prop} (R : Nat → V → Hp → Prop) (hn : n < sizeLine) (hD : H1 D = none) (dl : DealR H1 a l) (hG : ∀ H, Same2 a l H1 H → Gp H)
    (hm : ∀ j y H H', ISame H H' → R j y H → R j y H')
    (hs : ∀ i x H H' (Qy : V → Hp → Prop), i < n → Same2 a l H1 H → DealR H a l → H D ≠ none → Y i H x H' → (∀ y H4, Same2 a l H H4 → DealR H4 a l → R i y H4 → Qy y H4) →
      g x (wipe σ vs) H' fun σ2 H2 => wipe σ2 vs = wipe σ vs ∧ te σ2 H2 Qy)
    (hd : ∀ H acc, Same2 a l H1 H → DealR H a l → H D = some (.lst acc) → Paired (fun i y => R i y H) (List.range n) acc → Qd H) :
    ∃ W : Nat → Nat → Hp → Prop, (∃ m, W 0 m (L2.upd H1 D (.lst []))) ∧ ∀ i m H, W i m H →
      (J.stop i H ∧ Qd H) ∨ (J.go i H ∧ ∃ Nx : Hp → Prop, (∀ H', Nx H' → ∃ m', m' < m ∧ W (i + 1) m' H') ∧ ∀ x H', J.yld i H x H' → g x (wipe σ vs) H' fun σ2 H2 => wipe σ2 vs = wipe σ vs ∧ tYes σ2 H2 fun b H3 =>
        if b = true then te σ2 H3 fun y H4 => ∃ acc, H4 D = some (.lst acc) ∧ acc.length < sizeLine ∧ Nx (L2.upd H4 D (.lst (acc ++ [y]))) else Nx H3) := by
  have na : D ≠ a := fun e => by obtain ⟨ns, m, h, _⟩ := dl; rw [e, h] at hD; cases hD
  have nl : D ≠ l := fun e => by obtain ⟨ns, m, _, h, _⟩ := dl; rw [e, h] at hD; cases hD
  have dupd : ∀ {H : Hp} {o : HO}, DealR H a l → DealR (L2.upd H D o) a l := fun ⟨ns, m, h1, h2, h3⟩ => ⟨ns, m, by rw [upd_ne (Ne.symm na)]; exact h1, by rw [upd_ne (Ne.symm nl)]; exact h2, h3⟩
  refine lc_it w (fun i H => Same2 a l H1 H ∧ DealR H a l ∧ ∃ acc, H D = some (.lst acc) ∧ acc.length ≤ i ∧ Paired (fun i y => R i y H) (List.range i) acc) ⟨(same_upd hD).two, dupd dl, [], upd_same, Nat.le_refl _, .nil⟩ (fun i H hi p => hG H p.1) ?_ ?_
  · rintro i x H H' hi ⟨s1, d1, acc, eD, hl, pr⟩ y
    simp only [tYes, if_true]
    refine hs i x H H' _ hi s1 d1 (by rw [eD]; simp) y fun y H4 s4 d4 r => ?_
    have eD4 := s4 _ _ eD na nl
    refine ⟨acc, eD4, by omega, fun b o e n1 n2 => ?_, dupd d4, acc ++ [y], upd_same, by simp; omega, ?_⟩
    · rw [upd_ne (ne_of_none e hD)]; exact s4 _ _ (s1 _ _ e n1 n2) n1 n2
    · have iD : ISame H4 (L2.upd H4 D (.lst (acc ++ [y]))) := SameX.i (D := D) samex_upd (raw_lst eD4)
      rw [List.range_succ]
      refine paired_snoc (Paired.mapP pr fun j z rj => hm j z _ _ iD (hm j z _ _ (s4.i d1) rj)) (hm i y _ _ iD r)
  · rintro H ⟨s1, d1, acc, eD, _, pr⟩
    exact hd H acc s1 d1 eD pr
end
end Mc
/-! The walk, 32: words and forms drawn. -/
namespace Mc
open PySem PySem.Spec PyProof.Rows L2
abbrev N__law_words : List Str := ["_law_deal_here", "_law_wide", "_law_some", "_law_found", "_law_turn"]
abbrev P__law_words : List Str := ["_law_deal_here", "_law_wide"]
theorem sc__law_words : FnScope N__law_words P__law_words (defScope s__law_words) := ⟨rfl, rfl, rfl, by decide +kernel, rfl, by decide +kernel, by decide +kernel⟩

abbrev N__law_form : List Str := ["_law_deal_here", "_law_words_here", "_law_deep", "_law_way", "_law_some", "_law_sign", "_law_k"]
abbrev P__law_form : List Str := ["_law_deal_here", "_law_words_here", "_law_deep"]
theorem sc__law_form : FnScope N__law_form P__law_form (defScope s__law_form) := ⟨rfl, rfl, rfl, by decide +kernel, rfl, by decide +kernel, by decide +kernel⟩

def twelve : List Str := ["a", "b", "c", "d", "ab", "zz", "of", "more", "even", "way", "let", "x"]
theorem nm_twelve : ∀ k ∈ twelve, Nm k := by
  unfold Nm
  decide
theorem sq_ix {k n : Nat} (h : k < n) : seqIndex? (k : Int) n = some k := by
  unfold seqIndex?
  have h1 : ¬ ((k : Int) < 0) := by omega
  have h2 : (decide ((0 : Int) ≤ (k : Int)) && decide ((k : Int) < (n : Int))) = true := by simp; omega
  simp only [if_neg h1]
  rw [if_pos h2]
  rfl
theorem map_erase {α β : Type} (f : α → β) : ∀ (xs : List α) (k : Nat), (xs.map f).eraseIdx k = (xs.eraseIdx k).map f
  | [], _ => rfl
  | _ :: _, 0 => rfl
  | x :: xs, k + 1 => by
    show f x :: (xs.map f).eraseIdx k = f x :: (xs.eraseIdx k).map f
    rw [map_erase f xs k]
theorem erase_perm {α : Type} : ∀ (xs : List α) (k : Nat) (h : k < xs.length), (xs[k] :: xs.eraseIdx k).Perm xs
  | x :: xs, 0, _ => .refl _
  | x :: xs, k + 1, h => (List.Perm.swap _ _ _).trans (.cons x (erase_perm xs k (by simpa using h)))
section
variable {G : Gd} (B : Bl G.mg)
include B
def spLWords (K : PySem.W.Frag) : Sp := fun vs H Q _ => ∃ (a l : Addr) (n : Nat), vs = [.ref a, .int n] ∧ n ≤ 3 ∧ DealR H a l ∧ ∀ (ws : List Str) r H', ws.length = n → ws.Nodup → (∀ k ∈ ws, Nm k) → Same2 a l H H' → DealR H' a l → H' r = some (.lst (ws.map V.str)) → r ≠ a → r ≠ l → Q (.ref r) H'
theorem ok__law_words (C_law_draw : Cal G 1 "_law_draw" P__law_draw spLDraw) (F : Df G "_law_words" "_law_words" s__law_words) : Cal G 2 "_law_words" P__law_words (spLWords G.K) := by
  refine F.cal (N := N__law_words) (k := 1) sc__law_words (fun _ _ _ _ _ _ us hl => match us, hl with | [_, _], _ => rfl) (fun vs H Q E h => by obtain ⟨_, _, _, rfl, _⟩ := h; rfl) fun f cdv A outer s H vs Q E hr h => ?_
  obtain ⟨a, l, n, rfl, n3, dl, cont⟩ := h
  have S := sc__law_words
  refine ⟨_, (pss_cons (ps_par (i := 2) (j := 3) rfl S.nd rfl rfl (by decide) rfl rfl (pa_cons (pe_lst (pa_cons pe_str (pa_cons pe_str (pa_cons pe_str (pa_cons pe_str (pa_cons pe_str (pa_cons pe_str (pa_cons pe_str (pa_cons pe_str (pa_cons pe_str (pa_cons pe_str (pa_cons pe_str (pa_cons pe_str pa_nil))))))))))))) (pa_cons (pe_lst pa_nil) pa_nil)) rfl)
    (pss_cons (ps_for PassesOwn.never rfl (pi_range1 (by rfl) B.range (pa_cons (pv 1) pa_nil)) (pg_name (i := 4) S.nd rfl (by first | exact Or.inl rfl | exact Or.inr rfl)) (pss_one (ps_expr (pe_bm PySem.F.plainAttrs_list PySem.F.slot_list_append PySem.F.type_list_append mt_append (pv 3) (pa_cons (pe_bm PySem.F.plainAttrs_list PySem.F.slot_list_pop PySem.F.type_list_pop mt_popAt (pv 2) (pa_cons (pe_cal (C_law_draw.mono (by omega)) hr rfl (pa_cons (pv 0) (pa_cons (pe_callB call_len_seq rfl B.len (by decide +kernel) (pa_cons (pv 2) pa_nil)) pa_nil))) pa_nil)) pa_nil)))))
    (pss_one (ps_ret (pv 3))))), ?_⟩
  have S0a : ∀ {p : Addr}, H p = none → p ≠ a ∧ p ≠ l := fun {p} hp => by
    obtain ⟨ns, m, h1, h2, _⟩ := dl
    exact ⟨fun e => (by rw [e, h1] at hp; cases hp), fun e => (by rw [e, h2] at hp; cases hp)⟩
  refine ⟨few_line (by show 12 ≤ 1000; decide), fun S0 hS0 => ?_⟩
  dsimp only [tNil]
  refine ⟨few_line (by show 0 ≤ 1000; decide), fun F0 hF0 => ⟨_, _, rfl, ?_⟩⟩
  have sS := same_upd (o := HO.lst (twelve.map V.str)) hS0
  have sF := same_upd (o := HO.lst []) hF0
  have s0 := sS.trans sF
  obtain ⟨nSa, nSl⟩ := S0a hS0
  obtain ⟨nFa, nFl⟩ := S0a (none_back sS hF0)
  have nFS : F0 ≠ S0 := fun e => by rw [e, upd_same] at hF0; cases hF0
  refine ⟨_, rfl, n, rfl, by omega, by omega, ?_⟩
  refine for_it walk_range (fun i σ H1 => ∃ ss fs : List Str, H1 S0 = some (.lst (ss.map V.str)) ∧ H1 F0 = some (.lst (fs.map V.str)) ∧ ss.length + i = 12 ∧ fs.length = i ∧ (fs ++ ss).Nodup ∧ (∀ k ∈ fs ++ ss, k ∈ twelve) ∧ Same2 a l H H1 ∧ DealR H1 a l ∧ σ[0]? = some (some (.ref a)) ∧ σ[2]? = some (some (.ref S0)) ∧ σ[3]? = some (some (.ref F0)) ∧ σ.length = 5)
    ⟨twelve, [], sF _ _ upd_same, upd_same, rfl, rfl, by decide, fun k hk => hk, s0.two, dl.same s0, rfl, rfl, rfl, rfl⟩ (fun _ _ _ _ _ => trivial) ?_ ?_
  · rintro i x σ H1 H2 hi ⟨ss, fs, hS, hF, ls, lf, nd, mem, s1, d1, e0, e2, e3, el⟩ ⟨rfl, rfl⟩
    obtain ⟨v0, v1, v2, v3, v4, rfl⟩ : ∃ v0 v1 v2 v3 v4, σ = [v0, v1, v2, v3, v4] := by
      match σ, el with
      | [v0, v1, v2, v3, v4], _ => exact ⟨v0, v1, v2, v3, v4, rfl⟩
    cases e0; cases e2; cases e3
    have hi' : i < 3 := by have : i < (n : Int).toNat := hi; omega
    refine ⟨_, rfl, .inl ⟨rfl, _, SqL.of hF⟩, _, rfl, .inl ⟨rfl, _, SqL.of hS⟩, _, rfl, _, rfl, S0, _, rfl, .inl (SqL.of hS), a, l, _, rfl, by rw [List.length_map]; omega, by rw [List.length_map]; omega, d1, fun k H3 hk s3 d3 => ?_⟩
    have hS3 := s3 _ _ hS nSa nSl
    have hF3 := s3 _ _ hF nFa nFl
    have hk' : k < ss.length := by rw [List.length_map] at hk; omega
    refine ⟨S0, _, k, k, .str ss[k], rfl, rfl, hS3, by omega, by omega, sq_ix (by rw [List.length_map]; exact hk'), by rw [List.getElem?_map, List.getElem?_eq_getElem hk']; rfl, ?_⟩
    have hF4 : (L2.upd H3 S0 (.lst ((ss.map V.str).eraseIdx k))) F0 = some (.lst (fs.map V.str)) := by rw [upd_ne nFS]; exact hF3
    refine ⟨F0, _, _, rfl, rfl, hF4, few_lt (by rw [List.length_map]; omega), ?_⟩
    dsimp only
    have pm : ((fs ++ [ss[k]]) ++ ss.eraseIdx k).Perm (fs ++ ss) := by
      rw [List.append_assoc]
      exact List.Perm.append_left fs (erase_perm ss k hk')
    refine ⟨ss.eraseIdx k, fs ++ [ss[k]], ?_, ?_, ?_, ?_, ?_, ?_, ?_, ?_, rfl, rfl, rfl, rfl⟩
    · rw [upd_ne (Ne.symm nFS), upd_same, map_erase]
    · rw [upd_same, List.map_append]; rfl
    · rw [List.length_eraseIdx_of_lt hk']; omega
    · rw [List.length_append, lf]; rfl
    · exact pm.nodup_iff.mpr nd
    · exact fun x hx => mem x (pm.mem_iff.mp hx)
    · intro b o e n1 n2
      rw [upd_ne (ne_of_none e (none_back sS hF0)), upd_ne (ne_of_none e hS0)]
      exact s3 _ _ (s1 _ _ e n1 n2) n1 n2
    · obtain ⟨ns, m, h1, h2, h3⟩ := d3
      exact ⟨ns, m, by rw [upd_ne (Ne.symm nFa), upd_ne (Ne.symm nSa)]; exact h1, by rw [upd_ne (Ne.symm nFl), upd_ne (Ne.symm nSl)]; exact h2, h3⟩
  · rintro σ H1 ⟨ss, fs, hS, hF, ls, lf, nd, mem, s1, d1, e0, e2, e3, el⟩
    refine ⟨_, e3, ?_⟩
    exact cont fs F0 H1 (by omega) (List.nodup_append.mp nd).1 (fun k hk => nm_twelve k (mem k (List.mem_append_left _ hk))) s1 d1 hF nFa nFl
omit B in
theorem DealR.fresh {H : Hp} {a l p : Addr} (d : DealR H a l) (hp : H p = none) : p ≠ a ∧ p ≠ l := by
  obtain ⟨ns, m, h1, h2, _⟩ := d
  exact ⟨fun e => (by rw [e, h1] at hp; cases hp), fun e => (by rw [e, h2] at hp; cases hp)⟩
omit B in
theorem forms_of {P : Gf → Prop} {H : Hp} {rs : List Nat} {acc : List V} (h : Paired (fun _ y => ∃ f, FRep H f y ∧ P f) rs acc) : ∃ ps, Paired (FRep H) ps acc ∧ ∀ f ∈ ps, P f := by
  induction h with
  | nil => exact ⟨[], .nil, fun f hf => by cases hf⟩
  | cons r t ih =>
    obtain ⟨f, r, p⟩ := r
    obtain ⟨ps, a, b⟩ := ih
    refine ⟨f :: ps, .cons r a, fun g hg => ?_⟩
    rcases List.mem_cons.mp hg with e | e
    · rw [e]; exact p
    · exact b g e
omit B in
theorem depths_le {k : Nat} : ∀ {ps : List Gf}, (∀ f ∈ ps, depth f + 1 ≤ k) → depths ps ≤ k
  | [], _ => by simp [depths]
  | f :: fs, h => by
    rw [depths]
    exact Nat.max_le.mpr ⟨h f List.mem_cons_self, depths_le fun g hg => h g (List.mem_cons_of_mem _ hg)⟩
/-- the twelve words' list, as it lies -/
structure WdL (H : Hp) (a l w : Addr) (ws : List Str) : Prop where
  at_ : H w = some (.lst (ws.map V.str))
  na : w ≠ a
  nl : w ≠ l
  w0 : 0 < ws.length
  w3 : ws.length ≤ 3
omit B in
theorem WdL.two {H H' : Hp} {a l w : Addr} {ws : List Str} (h : WdL H a l w ws) (s : Same2 a l H H') : WdL H' a l w ws := ⟨s _ _ h.at_ h.na h.nl, h.na, h.nl, h.w0, h.w3⟩
def spLForm (d : Nat) : Sp := fun vs H Q _ => ∃ (a l w : Addr) (ws : List Str) (k : Nat), vs = [.ref a, .ref w, .int k] ∧ k < d ∧ DealR H a l ∧ WdL H a l w ws ∧ ∀ (f : Gf) v H', Same2 a l H H' → DealR H' a l → FRep H' f v → Good ws f → depth f ≤ k → Q v H'
theorem ok__law_form (C_law_draw : Cal G 1 "_law_draw" P__law_draw spLDraw) (C_law_pick : Cal G 2 "_law_pick" P__law_pick (spLPick G.K)) (F : Df G "_law_form" "_law_form" s__law_form) : ∀ d, Cal G (d + 3) "_law_form" P__law_form (spLForm d)
  | 0 => (F.cal (N := N__law_form) (k := 2) sc__law_form (fun _ _ _ _ _ _ us hl => match us, hl with | [_, _, _], _ => rfl) (fun vs H Q E h => by obtain ⟨_, _, _, _, _, _, h, _⟩ := h; exact absurd h (Nat.not_lt_zero _))
      fun f cdv A outer s H vs Q E hr h => by obtain ⟨_, _, _, _, _, _, h, _⟩ := h; exact absurd h (Nat.not_lt_zero _) : Cal G 3 "_law_form" P__law_form (spLForm 0))
  | d + 1 => by
    have C_law_form := ok__law_form C_law_draw C_law_pick F d
    refine F.cal (N := N__law_form) (k := d + 3) sc__law_form (fun _ _ _ _ _ _ us hl => match us, hl with | [_, _, _], _ => rfl) (fun vs H Q E h => by obtain ⟨_, _, _, _, _, rfl, _⟩ := h; rfl) fun fa cdv A outer s H vs Q E hr h => ?_
    obtain ⟨a, l, w, ws, k, rfl, kd, dl, wd, cont⟩ := h
    have S := sc__law_form
    refine ⟨_, (pss_cons (ps_set (i := 3) S.nd rfl (by first | exact Or.inl rfl | exact Or.inr rfl) (pe_cal (C_law_draw.mono (by omega)) hr rfl (pa_cons (pv 0) (pa_cons pe_int pa_nil))))
    (pss_cons (ps_if (PW.pt (pw_or (pt_cmpR op_eq (pv 2) pe_int (nomark _)) (pw_or1 (pt_cmpR op_lt (pv 3) pe_int (nomark _))))) (pss_one (ps_ret (pe_tup (pa_cons pe_str (pa_cons (pe_cal (C_law_pick.mono (by omega)) hr rfl (pa_cons (pv 0) (pa_cons (pv 1) pa_nil))) pa_nil))))) pss_nil)
    (pss_cons (ps_if (pt_cmpR op_eq (pv 3) pe_int (nomark _)) (pss_one (ps_ret (pe_cal (C_law_pick.mono (by omega)) hr rfl (pa_cons (pv 0) (pa_cons (pe_lst (pa_cons (pe_tup (pa_cons pe_str pa_nil)) (pa_cons (pe_tup (pa_cons pe_str pa_nil)) pa_nil))) pa_nil))))) pss_nil)
    (pss_cons (ps_if (pt_cmpR op_eq (pv 3) pe_int (nomark _)) (pss_one (ps_ret (pe_tup (pa_cons pe_str (pa_cons (pe_cal (C_law_form.mono (by omega)) hr rfl (pa_cons (pv 0) (pa_cons (pv 1) (pa_cons (pe_op op_sub (pv 2) pe_int) pa_nil)))) pa_nil))))) pss_nil)
    (pss_cons (ps_if (pt_cmpR op_eq (pv 3) pe_int (nomark _)) (pss_cons (ps_setLc (i := 4) (own := [("_law_k", 6)]) rfl S.nd rfl rfl (sw_true rfl rfl rfl (by decide +kernel)) (pi_range1 (by rfl) B.range (pa_cons (pe_cal (C_law_draw.mono (by omega)) hr rfl (pa_cons (pv 0) (pa_cons pe_int pa_nil))) pa_nil)) (blkOk_by (own := [("_law_k", 6)]) (N := N__law_form) (sc := defScope s__law_form) (by decide +kernel)) (fun _ _ _ _ _ => (pg_name (i := 6) S.nd rfl (by first | exact Or.inl rfl | exact Or.inr rfl))) (fun _ _ _ _ _ => pts_nil) (fun _ _ _ _ _ => (pe_cal (C_law_form.mono (by omega)) hr rfl (pa_cons (pv 0) (pa_cons (pv 1) (pa_cons (pe_op op_sub (pv 2) pe_int) pa_nil))))))
    (pss_one (ps_ret (pe_tup (pa_cons pe_str (pa_cons (pe_cal (C_law_draw.mono (by omega)) hr rfl (pa_cons (pv 0) (pa_cons pe_int pa_nil))) (pa_cons (pe_callTy call_tuple_of rfl B.tuple (by decide +kernel) (pa_cons (pv 4) pa_nil)) pa_nil))))))) pss_nil)
    (pss_cons (ps_set (i := 5) S.nd rfl (by first | exact Or.inl rfl | exact Or.inr rfl) (pe_ix ix_str pe_str (pe_cal (C_law_draw.mono (by omega)) hr rfl (pa_cons (pv 0) (pa_cons pe_int pa_nil))) (fun _ _ => rfl)))
    (pss_one (ps_ret (pe_tup (pa_cons (pv 5) (pa_cons (pe_cal (C_law_form.mono (by omega)) hr rfl (pa_cons (pv 0) (pa_cons (pv 1) (pa_cons (pe_op op_sub (pv 2) pe_int) pa_nil)))) (pa_cons (pe_cal (C_law_form.mono (by omega)) hr rfl (pa_cons (pv 0) (pa_cons (pv 1) (pa_cons (pe_op op_sub (pv 2) pe_int) pa_nil)))) pa_nil)))))))))))), ?_⟩
    refine ⟨_, rfl, a, l, 9, rfl, by decide, by decide, dl, fun way H1 hway s1 d1 => ?_⟩
    have wd1 := wd.two s1
    by_cases e0 : k = 0
    · refine ⟨_, rfl, rfl, _, rfl, iteP (decide_eq_true (by rw [e0]; rfl)) (iteP rfl ?_)⟩
      refine ⟨_, rfl, _, rfl, a, l, w, _, rfl, d1, wd1.at_, wd.na, wd.nl, by rw [List.length_map]; exact wd.w0, by rw [List.length_map]; have := wd.w3; omega, fun x H2 hx s2 d2 => ?_⟩
      obtain ⟨z, hz, rfl⟩ := List.mem_map.mp hx
      dsimp only [tNil]
      refine ⟨few_line (by show 2 ≤ 1000; decide), fun p hp => ?_⟩
      exact cont (.mk "name" z 0 []) (.ref p) _ (s1.trans (s2.trans (same_upd hp).two)) (d2.same (same_upd hp)) ⟨p, rfl, .inl ⟨rfl, rfl, upd_same⟩⟩ ⟨.inl ⟨rfl, rfl⟩, fun _ => hz, fun e => absurd rfl e, by omega, trivial⟩ (by simp [depth, depths])
    refine ⟨_, rfl, rfl, _, rfl, iteN (fun e => e0 (by have := V.int.inj (of_decide_eq_true e); omega)) ?_⟩
    have ek : ((k : Int) - 1) = ((k - 1 : Nat) : Int) := by omega
    have eargs : [V.ref a, V.ref w, V.int ((k : Int) - 1)] = [V.ref a, V.ref w, V.int ((k - 1 : Nat) : Int)] := by rw [ek]
    by_cases e1 : way < 3
    · refine ⟨_, rfl, _, _, rfl, rfl, _, rfl, iteP (decide_eq_true (by omega)) ?_⟩
      refine ⟨_, rfl, _, rfl, a, l, w, _, rfl, d1, wd1.at_, wd.na, wd.nl, by rw [List.length_map]; exact wd.w0, by rw [List.length_map]; have := wd.w3; omega, fun x H2 hx s2 d2 => ?_⟩
      obtain ⟨z, hz, rfl⟩ := List.mem_map.mp hx
      dsimp only [tNil]
      refine ⟨few_line (by show 2 ≤ 1000; decide), fun p hp => ?_⟩
      exact cont (.mk "name" z 0 []) (.ref p) _ (s1.trans (s2.trans (same_upd hp).two)) (d2.same (same_upd hp)) ⟨p, rfl, .inl ⟨rfl, rfl, upd_same⟩⟩ ⟨.inl ⟨rfl, rfl⟩, fun _ => hz, fun e => absurd rfl e, by omega, trivial⟩ (by simp [depth, depths])
    refine ⟨_, rfl, _, _, rfl, rfl, _, rfl, iteN (fun e => e1 (by have := of_decide_eq_true e; omega)) ?_⟩
    by_cases e3 : way = 3
    · refine ⟨_, rfl, rfl, _, rfl, iteP (decide_eq_true (by rw [e3]; rfl)) ?_⟩
      refine ⟨_, rfl, few_line (by show 1 ≤ 1000; decide), fun p1 h1 => ?_⟩
      dsimp only [tNil]
      refine ⟨few_line (by show 1 ≤ 1000; decide), fun p2 h2 => ⟨few_line (by show 2 ≤ 1000; decide), fun q hq => ?_⟩⟩
      have sa := same_upd (o := HO.tup [.str "all"]) h1
      have sb := same_upd (o := HO.tup [.str "none"]) h2
      have sc := same_upd (o := HO.lst [.ref p1, .ref p2]) hq
      have sbc := sb.trans sc
      have d2 := d1.same (sa.trans sb)
      obtain ⟨qa, ql⟩ := d2.fresh hq
      refine ⟨a, l, q, _, rfl, d2.same sc, upd_same, qa, ql, (by show 0 < 2; decide), (by show 2 ≤ 1000; decide), fun x H2 hx s2 d3 => ?_⟩
      have st : Same2 a l H H2 := s1.trans ((sa.trans sbc).two.trans s2)
      have i2 := s2.i (d2.same sc)
      rcases List.mem_cons.mp hx with rfl | hx
      · exact cont (.mk "all" "" 0 []) _ _ st d3 ⟨p1, rfl, .inr (.inr ⟨by decide, by decide, rfl, [], i2.tup (sbc _ _ upd_same), rfl⟩)⟩ ⟨.inr (.inl ⟨rfl, rfl⟩), fun e => absurd e (by decide), fun _ => rfl, by omega, trivial⟩ (by simp [depth, depths])
      · rw [List.mem_singleton.mp hx]
        exact cont (.mk "none" "" 0 []) _ _ st d3 ⟨p2, rfl, .inr (.inr ⟨by decide, by decide, rfl, [], i2.tup (sc _ _ upd_same), rfl⟩)⟩ ⟨.inr (.inr (.inl ⟨rfl, rfl⟩)), fun e => absurd e (by decide), fun _ => rfl, by omega, trivial⟩ (by simp [depth, depths])
    refine ⟨_, rfl, rfl, _, rfl, iteN (fun e => e3 (by have := V.int.inj (of_decide_eq_true e); omega)) ?_⟩
    by_cases e4 : way = 4
    · refine ⟨_, rfl, rfl, _, rfl, iteP (decide_eq_true (by rw [e4]; rfl)) ?_⟩
      refine ⟨_, rfl, _, rfl, _, rfl, _, _, rfl, rfl, a, l, w, ws, k - 1, eargs, by omega, d1, wd1, fun g v H2 s2 d2 fr gd dg => ?_⟩
      dsimp only [tNil]
      refine ⟨few_line (by show 2 ≤ 1000; decide), fun p hp => ?_⟩
      have sp := same_upd (o := HO.tup [.str "~", v]) hp
      exact cont (.mk "~" "" 0 [g]) (.ref p) _ (s1.trans (s2.trans sp.two)) (d2.same sp) ⟨p, rfl, .inr (.inr ⟨by decide, by decide, rfl, [v], upd_same, v, [], rfl, fr.mono sp.i, rfl⟩)⟩ ⟨.inr (.inr (.inr (.inl ⟨rfl, rfl⟩))), fun e => absurd e (by decide), fun _ => rfl, by omega, gd, trivial⟩ (by simp only [depth, depths]; omega)
    refine ⟨_, rfl, rfl, _, rfl, iteN (fun e => e4 (by have := V.int.inj (of_decide_eq_true e); omega)) ?_⟩
    by_cases e5 : way = 5
    · refine ⟨_, rfl, rfl, _, rfl, iteP (decide_eq_true (by rw [e5]; rfl)) ?_⟩
      refine ⟨_, rfl, a, l, 4, rfl, by decide, by decide, d1, fun m H2 hm s2 d2 => ⟨m, rfl, by omega, by omega, fun D hD => ?_⟩⟩
      have wd2 := wd1.two s2
      refine lc_two walk_range (fun _ y H' => ∃ f, FRep H' f y ∧ Good ws f ∧ depth f ≤ k - 1) (few_lt (by omega)) hD d2 (fun _ _ => trivial) (fun _ y _ _ i ⟨f, r, g⟩ => ⟨f, r.mono i, g⟩) ?_ ?_
      · rintro j x H3 H4 Qy hj s3 d3 nd ⟨rfl, rfl⟩ cy
        exact ⟨rfl, _, rfl, _, rfl, _, rfl, _, _, rfl, rfl, a, l, w, ws, k - 1, eargs, by omega, d3, wd2.two s3, fun g v H5 s5 d5 fr gd dg => cy _ _ s5 d5 ⟨g, fr, gd, dg⟩⟩
      · intro H3 acc s3 d3 hD3 hp3
        obtain ⟨ps, prs, hps⟩ := forms_of hp3
        have lps : ps.length ≤ 3 := by
          have h1 := paired_len prs
          have h2 := paired_len hp3
          rw [List.length_range] at h2
          omega
        refine ⟨_, rfl, a, l, 4, rfl, by decide, by decide, d3, fun n H4 hn s4 d4 => ?_⟩
        have hD4 := s4 _ _ hD3 (d2.fresh hD).1 (d2.fresh hD).2
        refine ⟨_, rfl, D, acc, rfl, .inl ⟨SqL.of hD4, fun t ht => ?_⟩⟩
        dsimp only [tNil]
        refine ⟨few_line (by show 3 ≤ 1000; decide), fun p hp => ?_⟩
        have sq := same_upd (o := HO.tup acc) ht
        have sp := same_upd (o := HO.tup [.str "at", .int n, .ref t]) hp
        have st : Same2 a l H _ := s1.trans (s2.trans (s3.trans (s4.trans (sq.trans sp).two)))
        refine cont (.mk "at" "" n ps) (.ref p) _ st (d4.same (sq.trans sp)) ⟨p, rfl, .inr (.inl ⟨rfl, t, acc, upd_same, sp _ _ upd_same, freps_paired.mpr (Paired.mapP prs fun _ _ r => r.mono ((s4.i d3).trans (sq.trans sp).i))⟩)⟩ ⟨.inr (.inr (.inr (.inr (.inl ⟨rfl, lps⟩)))), fun e => absurd e (by decide), fun _ => rfl, by omega, goods_of fun f hf => (hps f hf).1⟩ ?_
        rw [depth]
        exact depths_le fun f hf => by have := (hps f hf).2; omega
    refine ⟨_, rfl, rfl, _, rfl, iteN (fun e => e5 (by have := V.int.inj (of_decide_eq_true e); omega)) ?_⟩
    refine ⟨_, rfl, a, l, 4, rfl, by decide, by decide, d1, fun j H2 hj s2 d2 => ?_⟩
    obtain ⟨sg, hsg, eat⟩ : ∃ c : Nat, (((⟨#[c]⟩ : Str) = "&") ∨ ((⟨#[c]⟩ : Str) = "|") ∨ ((⟨#[c]⟩ : Str) = "-") ∨ ((⟨#[c]⟩ : Str) = "^")) ∧ atI ("&|-^" : Str).cps.toList (j : Int) = some c := by
      have : j = 0 ∨ j = 1 ∨ j = 2 ∨ j = 3 := by omega
      rcases this with rfl | rfl | rfl | rfl
      · exact ⟨38, .inl (by decide), by decide⟩
      · exact ⟨124, .inr (.inl (by decide)), by decide⟩
      · exact ⟨45, .inr (.inr (.inl (by decide))), by decide⟩
      · exact ⟨94, .inr (.inr (.inr (by decide))), by decide⟩
    refine ⟨"&|-^", j, sg, rfl, rfl, few_line (by decide), eat, ?_⟩
    generalize (⟨#[sg]⟩ : Str) = z at hsg
    have wd2 := wd1.two s2
    refine ⟨_, rfl, _, rfl, _, rfl, _, rfl, _, _, rfl, rfl, a, l, w, ws, k - 1, eargs, by omega, d2, wd2, fun g v H3 s3 d3 fr gd dg => ?_⟩
    refine ⟨_, rfl, _, rfl, _, rfl, _, _, rfl, rfl, a, l, w, ws, k - 1, eargs, by omega, d3, wd2.two s3, fun g' v' H4 s4 d4 fr' gd' dg' => ?_⟩
    dsimp only [tNil]
    refine ⟨few_line (by show 3 ≤ 1000; decide), fun p hp => ?_⟩
    have sp := same_upd (o := HO.tup [.str z, v, v']) hp
    have n1 : z ≠ "name" ∧ z ≠ "at" ∧ arity z 2 := by
      rcases hsg with rfl | rfl | rfl | rfl
      · exact ⟨by decide, by decide, .inr (.inr (.inr (.inr (.inr (.inl ⟨rfl, rfl⟩)))))⟩
      · exact ⟨by decide, by decide, .inr (.inr (.inr (.inr (.inr (.inr (.inl ⟨rfl, rfl⟩))))))⟩
      · exact ⟨by decide, by decide, .inr (.inr (.inr (.inr (.inr (.inr (.inr (.inl ⟨rfl, rfl⟩)))))))⟩
      · exact ⟨by decide, by decide, .inr (.inr (.inr (.inr (.inr (.inr (.inr (.inr ⟨rfl, rfl⟩)))))))⟩
    refine cont (.mk z "" 0 [g, g']) (.ref p) _ (s1.trans (s2.trans (s3.trans (s4.trans sp.two)))) (d4.same sp) ⟨p, rfl, .inr (.inr ⟨n1.1, n1.2.1, rfl, [v, v'], upd_same, v, [v'], rfl, fr.mono ((s4.i d3).trans sp.i), v', [], rfl, fr'.mono sp.i, rfl⟩)⟩ ⟨n1.2.2, fun e => absurd e n1.1, fun _ => rfl, by omega, gd, gd', trivial⟩ ?_
    simp only [depth, depths]
    omega
end
end Mc
/-! The walk, 33: terms and claims drawn. -/
namespace Mc
open PySem PySem.Spec PyProof.Rows L2
abbrev N__law_terms : List Str := ["_law_deal_here", "_law_words_here", "_law_found", "_law_k", "_law_number"]
abbrev P__law_terms : List Str := ["_law_deal_here", "_law_words_here"]
theorem sc__law_terms : FnScope N__law_terms P__law_terms (defScope s__law_terms) := ⟨rfl, rfl, rfl, by decide +kernel, rfl, by decide +kernel, by decide +kernel⟩

abbrev N__law_claim : List Str := ["_law_deal_here", "_law_words_here", "_law_way", "_law_one", "_law_other", "_law_under"]
abbrev P__law_claim : List Str := ["_law_deal_here", "_law_words_here"]
theorem sc__law_claim : FnScope N__law_claim P__law_claim (defScope s__law_claim) := ⟨rfl, rfl, rfl, by decide +kernel, rfl, by decide +kernel, by decide +kernel⟩

/-- a term that is drawn -/
def TmOk (ws : List Str) (t : Tm) : Prop := t.1.natAbs ≤ 5 ∧ Good ws t.2 ∧ depth t.2 < 4
/-- a claim that is drawn -/
structure ClOk (ws : List Str) (c : Cf) : Prop where
  srt : c.1 ∈ sorts3
  few : c.2.length ≤ 3
  ok : ∀ t ∈ c.2, TmOk ws t
theorem sum5 : ∀ {ts : List Tm}, (∀ t ∈ ts, t.1.natAbs ≤ 5) → (ts.map fun t => t.1.natAbs).sum ≤ 5 * ts.length
  | [], _ => by simp
  | t :: ts, h => by
    have := h t List.mem_cons_self
    have := sum5 fun u hu => h u (List.mem_cons_of_mem t hu)
    rw [List.map_cons, List.sum_cons, List.length_cons]
    omega
theorem Two.isame {H H' : Hp} (i : ISame H H') {t : Tm} {v : V} (r : Two FRep H t v) : Two FRep H' t v := r.mono i (FRep.mono i)
section
variable {G : Gd} (B : Bl G.mg)
include B
def spLTerms : Sp := fun vs H Q _ => ∃ (a l w : Addr) (ws : List Str), vs = [.ref a, .ref w] ∧ DealR H a l ∧ WdL H a l w ws ∧ ∀ (ts : List Tm) t H', Same2 a l H H' → DealR H' a l → TsR H' t ts → ts.length ≤ 3 → (∀ t ∈ ts, TmOk ws t) → Q (.ref t) H'
theorem ok__law_terms (C_law_draw : Cal G 1 "_law_draw" P__law_draw spLDraw) (C_law_pick : Cal G 2 "_law_pick" P__law_pick (spLPick G.K)) (C_law_form : Cal G 6 "_law_form" P__law_form (spLForm 3)) (F : Df G "_law_terms" "_law_terms" s__law_terms) : Cal G 7 "_law_terms" P__law_terms spLTerms := by
  refine F.cal (N := N__law_terms) (k := 6) sc__law_terms (fun _ _ _ _ _ _ us hl => match us, hl with | [_, _], _ => rfl) (fun vs H Q E h => by obtain ⟨_, _, _, _, rfl, _⟩ := h; rfl) fun f cdv A outer s H vs Q E hr h => ?_
  obtain ⟨a, l, w, ws, rfl, dl, wd, cont⟩ := h
  have S := sc__law_terms
  refine ⟨_, (pss_cons (ps_set (i := 2) S.nd rfl (by first | exact Or.inl rfl | exact Or.inr rfl) (pe_lst pa_nil))
    (pss_cons (ps_for PassesOwn.never rfl (pi_range1 (by rfl) B.range (pa_cons (pe_op op_add pe_int (pe_cal (C_law_draw.mono (by omega)) hr rfl (pa_cons (pv 0) (pa_cons pe_int pa_nil)))) pa_nil)) (pg_name (i := 3) S.nd rfl (by first | exact Or.inl rfl | exact Or.inr rfl)) (pss_cons (ps_set (i := 4) S.nd rfl (by first | exact Or.inl rfl | exact Or.inr rfl) (pe_cal (C_law_pick.mono (by omega)) hr rfl (pa_cons (pv 0) (pa_cons (pe_lst (pa_cons pe_int (pa_cons (pe_op op_sub pe_int pe_int) (pa_cons pe_int (pa_cons (pe_op op_sub pe_int pe_int) (pa_cons pe_int (pa_cons (pe_op op_sub pe_int pe_int) (pa_cons (pe_op op_sub (pe_cal (C_law_draw.mono (by omega)) hr rfl (pa_cons (pv 0) (pa_cons pe_int pa_nil))) pe_int) pa_nil)))))))) pa_nil))))
    (pss_one (ps_expr (pe_bm PySem.F.plainAttrs_list PySem.F.slot_list_append PySem.F.type_list_append mt_append (pv 2) (pa_cons (pe_tup (pa_cons (pv 4) (pa_cons (pe_cal (C_law_form.mono (by omega)) hr rfl (pa_cons (pv 0) (pa_cons (pv 1) (pa_cons (pe_cal (C_law_draw.mono (by omega)) hr rfl (pa_cons (pv 0) (pa_cons pe_int pa_nil))) pa_nil)))) pa_nil))) pa_nil))))))
    (pss_one (ps_ret (pe_callTy call_tuple_of rfl B.tuple (by decide +kernel) (pa_cons (pv 2) pa_nil)))))), ?_⟩
  refine ⟨few_line (by show 0 ≤ 1000; decide), fun F0 hF0 => ?_⟩
  have sF := same_upd (o := HO.lst []) hF0
  have d0 := dl.same sF
  have wd0 := wd.two sF.two
  obtain ⟨nFa, nFl⟩ := dl.fresh hF0
  refine ⟨_, rfl, a, l, 3, rfl, by decide, by decide, d0, fun m H1 hm s1 d1 => ?_⟩
  refine ⟨_, _, rfl, rfl, _, rfl, ?_⟩
  refine ⟨by omega, by omega, ?_⟩
  refine for_it walk_range (fun i σ H2 => ∃ (ts : List Tm) (xs : List V), H2 F0 = some (.lst xs) ∧ Paired (Two FRep H2) ts xs ∧ ts.length = i ∧ (∀ t ∈ ts, TmOk ws t) ∧ Same2 a l H H2 ∧ DealR H2 a l ∧ σ[0]? = some (some (.ref a)) ∧ σ[1]? = some (some (.ref w)) ∧ σ[2]? = some (some (.ref F0)) ∧ σ.length = 5)
    ⟨[], [], s1 _ _ upd_same nFa nFl, .nil, rfl, (fun t ht => by cases ht), sF.two.trans s1, d1, rfl, rfl, rfl, rfl⟩ (fun _ _ _ _ _ => trivial) ?_ ?_
  · rintro i x σ H2 H3 hi ⟨ts, xs, hF, prs, lt, ok, s2, d2, e0, e1, e2, el⟩ ⟨rfl, rfl⟩
    obtain ⟨v0, v1, v2, v3, v4, rfl⟩ : ∃ v0 v1 v2 v3 v4, σ = [v0, v1, v2, v3, v4] := by
      match σ, el with
      | [v0, v1, v2, v3, v4], _ => exact ⟨v0, v1, v2, v3, v4, rfl⟩
    cases e0; cases e1; cases e2
    have hi' : i < 3 := by have : i < ((1 : Int) + (m : Int)).toNat := hi; omega
    have lx := paired_len prs
    refine ⟨_, rfl, _, _, rfl, rfl, _, _, rfl, rfl, _, _, rfl, rfl, _, rfl, a, l, 11, rfl, by decide, by decide, d2, fun j H4 hj s4 d4 => ?_⟩
    refine ⟨_, _, rfl, rfl, ?_⟩
    dsimp only [tNil]
    refine ⟨few_line (by show 7 ≤ 1000; decide), fun q hq => ?_⟩
    have sq := same_upd (H := H4) (o := HO.lst [.int 1, .int (0 - 1), .int 2, .int (0 - 2), .int 3, .int (0 - 3), .int ((j : Int) - 5)]) hq
    have d5 := d4.same sq
    obtain ⟨qa, ql⟩ := d4.fresh hq
    refine ⟨a, l, q, _, rfl, d5, upd_same, qa, ql, (by show 0 < 7; decide), (by show 7 ≤ 1000; decide), fun x H6 hx s6 d6 => ?_⟩
    obtain ⟨n, rfl, hn⟩ : ∃ n : Int, x = .int n ∧ n.natAbs ≤ 5 := by
      simp only [List.mem_cons, List.not_mem_nil, or_false] at hx
      rcases hx with rfl | rfl | rfl | rfl | rfl | rfl | rfl
      · exact ⟨_, rfl, by decide⟩
      · exact ⟨_, rfl, by decide⟩
      · exact ⟨_, rfl, by decide⟩
      · exact ⟨_, rfl, by decide⟩
      · exact ⟨_, rfl, by decide⟩
      · exact ⟨_, rfl, by decide⟩
      · exact ⟨_, rfl, by omega⟩
    have s26 : Same2 a l H3 H6 := s4.trans (sq.two.trans s6)
    have hF6 := s26 _ _ hF nFa nFl
    have wd6 := wd.two (s2.trans s26)
    refine ⟨_, rfl, .inl ⟨rfl, _, SqL.of hF6⟩, _, rfl, _, rfl, _, rfl, _, rfl, a, l, 3, rfl, by decide, by decide, d6, fun j2 H7 hj2 s7 d7 => ?_⟩
    refine ⟨a, l, w, ws, j2, rfl, by omega, d7, wd6.two s7, fun g v H8 s8 d8 fr gd dg => ?_⟩
    dsimp only [tNil]
    refine ⟨few_line (by show 2 ≤ 1000; decide), fun p hp => ?_⟩
    have sp := same_upd (o := HO.tup [.int n, v]) hp
    have s38 : Same2 a l H3 (L2.upd H8 p (.tup [.int n, v])) := s26.trans (s7.trans (s8.trans sp.two))
    have hF8 := s38 _ _ hF nFa nFl
    refine ⟨F0, xs, _, rfl, rfl, hF8, few_lt (by omega), ?_⟩
    dsimp only
    have iF : ISame (L2.upd H8 p (.tup [.int n, v])) (L2.upd (L2.upd H8 p (.tup [.int n, v])) F0 (.lst (xs ++ [.ref p]))) := SameX.i (D := F0) samex_upd (raw_lst hF8)
    have i38 := s38.i d2
    have d9 := d8.same sp
    refine ⟨ts ++ [(n, g)], xs ++ [.ref p], upd_same, paired_snoc (Paired.mapP prs fun _ _ r => (r.isame i38).isame iF) ⟨p, v, rfl, iF.tup upd_same, fr.mono (sp.i.trans iF)⟩, by rw [List.length_append, lt]; rfl, fun t ht => ?_, ?_, ?_, rfl, rfl, rfl, rfl⟩
    · rcases List.mem_append.mp ht with h | h
      · exact ok t h
      · rw [List.mem_singleton.mp h]
        exact ⟨hn, gd, by show depth g < 4; omega⟩
    · intro b o e n1 n2
      rw [upd_ne (ne_of_none e hF0)]
      exact s38 _ _ (s2 _ _ e n1 n2) n1 n2
    · obtain ⟨ns, mm, h1, h2, h3⟩ := d9
      exact ⟨ns, mm, by rw [upd_ne (Ne.symm nFa)]; exact h1, by rw [upd_ne (Ne.symm nFl)]; exact h2, h3⟩
  · rintro σ H2 ⟨ts, xs, hF, prs, lt, ok, s2, d2, e0, e1, e2, el⟩
    refine ⟨_, e2, F0, xs, rfl, .inl ⟨SqL.of hF, fun t ht => ?_⟩⟩
    have st := same_upd (o := HO.tup xs) ht
    exact cont ts t _ (s2.trans st.two) (d2.same st) ⟨xs, upd_same, Paired.mapP prs fun _ _ r => r.isame st.i⟩ (by omega) ok
def spLClaim : Sp := fun vs H Q _ => ∃ (a l w : Addr) (ws : List Str), vs = [.ref a, .ref w] ∧ DealR H a l ∧ WdL H a l w ws ∧ ∀ (c : Cf) v H', Same2 a l H H' → DealR H' a l → LRep H' c v → ClOk ws c → Q v H'
theorem ok__law_claim (C_law_draw : Cal G 1 "_law_draw" P__law_draw spLDraw) (C_law_pick : Cal G 2 "_law_pick" P__law_pick (spLPick G.K)) (C_law_form : Cal G 6 "_law_form" P__law_form (spLForm 3)) (C_law_terms : Cal G 7 "_law_terms" P__law_terms spLTerms) (F : Df G "_law_claim" "_law_claim" s__law_claim) : Cal G 8 "_law_claim" P__law_claim spLClaim := by
  refine F.cal (N := N__law_claim) (k := 7) sc__law_claim (fun _ _ _ _ _ _ us hl => match us, hl with | [_, _], _ => rfl) (fun vs H Q E h => by obtain ⟨_, _, _, _, rfl, _⟩ := h; rfl) fun f cdv A outer s H vs Q E hr h => ?_
  obtain ⟨a, l, w, ws, rfl, dl, wd, cont⟩ := h
  have S := sc__law_claim
  refine ⟨_, (pss_cons (ps_par3 (i := 2) (j := 3) (l := 4) rfl S.nd rfl rfl rfl (by decide) (by decide) (by decide) rfl rfl rfl (pa_cons (pe_cal (C_law_draw.mono (by omega)) hr rfl (pa_cons (pv 0) (pa_cons pe_int pa_nil))) (pa_cons (pe_cal (C_law_form.mono (by omega)) hr rfl (pa_cons (pv 0) (pa_cons (pv 1) (pa_cons pe_int pa_nil)))) (pa_cons (pe_cal (C_law_form.mono (by omega)) hr rfl (pa_cons (pv 0) (pa_cons (pv 1) (pa_cons pe_int pa_nil)))) pa_nil))) rfl)
    (pss_cons (ps_if (pt_cmpR op_lt (pv 2) pe_int (nomark _)) (pss_cons (ps_set (i := 5) S.nd rfl (by first | exact Or.inl rfl | exact Or.inr rfl) (pe_op op_add pe_int (pe_cal (C_law_draw.mono (by omega)) hr rfl (pa_cons (pv 0) (pa_cons pe_int pa_nil)))))
    (pss_one (ps_ret (pe_tup (pa_cons pe_str (pa_cons (pe_tup (pa_cons (pe_tup (pa_cons (pv 5) (pa_cons (pe_tup (pa_cons pe_str (pa_cons (pv 3) (pa_cons (pv 4) pa_nil)))) pa_nil))) (pa_cons (pe_tup (pa_cons (pe_op op_sub pe_int (pe_cal (C_law_draw.mono (by omega)) hr rfl (pa_cons (pv 0) (pa_cons (pe_op op_add (pv 5) pe_int) pa_nil)))) (pa_cons (pv 3) pa_nil))) pa_nil))) pa_nil)))))) pss_nil)
    (pss_cons (ps_if (pt_cmpR op_eq (pv 2) pe_int (nomark _)) (pss_one (ps_ret (pe_tup (pa_cons pe_str (pa_cons (pe_tup (pa_cons (pe_tup (pa_cons pe_int (pa_cons (pv 3) pa_nil))) (pa_cons (pe_tup (pa_cons (pe_op op_sub pe_int pe_int) (pa_cons (pv 4) pa_nil))) pa_nil))) pa_nil))))) pss_nil)
    (pss_cons (ps_if (pt_cmpR op_eq (pv 2) pe_int (nomark _)) (pss_one (ps_ret (pe_tup (pa_cons pe_str (pa_cons (pe_tup (pa_cons (pe_tup (pa_cons pe_int (pa_cons (pe_tup (pa_cons pe_str (pa_cons (pv 3) (pa_cons (pv 4) pa_nil)))) pa_nil))) pa_nil)) pa_nil))))) pss_nil)
    (pss_cons (ps_if (pt_cmpR op_eq (pv 2) pe_int (nomark _)) (pss_one (ps_ret (pe_tup (pa_cons pe_str (pa_cons (pe_tup (pa_cons (pe_tup (pa_cons pe_int (pa_cons (pv 3) pa_nil))) pa_nil)) pa_nil))))) pss_nil)
    (pss_one (ps_ret (pe_tup (pa_cons (pe_cal (C_law_pick.mono (by omega)) hr rfl (pa_cons (pv 0) (pa_cons (pe_lst (pa_cons pe_str (pa_cons pe_str (pa_cons pe_str (pa_cons pe_str pa_nil))))) pa_nil))) (pa_cons (pe_cal (C_law_terms.mono (by omega)) hr rfl (pa_cons (pv 0) (pa_cons (pv 1) pa_nil))) pa_nil)))))))))), ?_⟩
  refine ⟨_, rfl, a, l, 8, rfl, by decide, by decide, dl, fun way H1 hway s1 d1 => ?_⟩
  have wd1 := wd.two s1
  refine ⟨_, rfl, _, rfl, a, l, w, ws, 1, rfl, by omega, d1, wd1, fun f1 v1 H2 s2 d2 r1 g1 e1 => ?_⟩
  have wd2 := wd1.two s2
  refine ⟨_, rfl, _, rfl, a, l, w, ws, 1, rfl, by omega, d2, wd2, fun f2 v2 H3 s3 d3 r2 g2 e2 => ?_⟩
  have wd3 := wd2.two s3
  have r1 := r1.mono (s3.i d2)
  have s13 := s1.trans (s2.trans s3)
  dsimp only [tNil]
  refine ⟨_, _, _, rfl, ?_⟩
  have k3 : ∀ (z : Str) (H : Hp) (p : Addr), z ≠ "name" → z ≠ "at" → H p = some (.tup [.str z, v1, v2]) → FRep H f1 v1 → FRep H f2 v2 → FRep H (.mk z "" 0 [f1, f2]) (.ref p) := fun z H p n1 n2 h a b => ⟨p, rfl, .inr (.inr ⟨n1, n2, rfl, [v1, v2], h, v1, [v2], rfl, a, v2, [], rfl, b, rfl⟩)⟩
  have gAnd : ∀ z : Str, z ≠ "name" → arity z 2 → Good ws (.mk z "" 0 [f1, f2]) ∧ depth (.mk z "" 0 [f1, f2]) < 4 := fun z n1 ar => ⟨⟨ar, fun e => absurd e n1, fun _ => rfl, by omega, g1, g2, trivial⟩, by simp only [depth, depths]; omega⟩
  have d1' : depth f1 < 4 := by omega
  have d2' : depth f2 < 4 := by omega
  by_cases w3 : way < 3
  · refine ⟨_, rfl, _, _, rfl, rfl, _, rfl, iteP (decide_eq_true (by omega)) ?_⟩
    refine ⟨_, rfl, a, l, 5, rfl, by decide, by decide, d3, fun j H4 hj s4 d4 => ?_⟩
    refine ⟨_, _, rfl, rfl, ?_⟩
    refine ⟨_, rfl, _, rfl, _, rfl, few_line (by show 3 ≤ 1000; decide), fun p1 h1 => ?_⟩
    dsimp only [tNil]
    refine ⟨few_line (by show 2 ≤ 1000; decide), fun p2 h2 => ?_⟩
    have q1 := same_upd (o := HO.tup [.str "&", v1, v2]) h1
    have q2 := same_upd (o := HO.tup [.int (1 + (j : Int)), .ref p1]) h2
    have dA := d4.same (q1.trans q2)
    refine ⟨_, rfl, _, rfl, _, _, rfl, rfl, a, l, _, rfl, by omega, by omega, dA, fun j2 H5 hj2 s5 d5 => ?_⟩
    refine ⟨_, _, rfl, rfl, ?_⟩
    refine ⟨_, rfl, few_line (by show 2 ≤ 1000; decide), fun p3 h3 => ?_⟩
    dsimp only [tNil]
    refine ⟨few_line (by show 2 ≤ 1000; decide), fun p4 h4 => ⟨few_line (by show 2 ≤ 1000; decide), fun p5 h5 => ?_⟩⟩
    have q3 := same_upd (o := HO.tup [.int (0 - (j2 : Int)), v1]) h3
    have q4 := same_upd (o := HO.tup [.ref p2, .ref p3]) h4
    have q5 := same_upd (o := HO.tup [.str "least", .ref p4]) h5
    have i5 := s5.i dA
    have q35 := q3.trans (q4.trans q5)
    have iA := (s4.i d3).trans ((q1.trans q2).i.trans (i5.trans q35.i))
    have iB := q2.i.trans (i5.trans q35.i)
    refine cont ("least", [(1 + (j : Int), .mk "&" "" 0 [f1, f2]), (0 - (j2 : Int), f1)]) (.ref p5) _ (s13.trans (s4.trans ((q1.trans q2).two.trans (s5.trans q35.two)))) (d5.same q35)
      ⟨p5, p4, [.ref p2, .ref p3], rfl, upd_same, q5.i.tup upd_same, .cons ⟨p2, .ref p1, rfl, (i5.trans q35.i).tup upd_same, k3 "&" _ p1 (by decide) (by decide) (iB.tup upd_same) (r1.mono iA) (r2.mono iA)⟩ (.cons ⟨p3, v1, rfl, (q4.trans q5).i.tup upd_same, r1.mono iA⟩ .nil)⟩
      ⟨by dsimp only; decide, by show 2 ≤ 3; decide, fun t ht => ?_⟩
    rcases List.mem_cons.mp ht with rfl | ht
    · exact ⟨by show (1 + (j : Int)).natAbs ≤ 5; omega, gAnd "&" (by decide) (.inr (.inr (.inr (.inr (.inr (.inl ⟨rfl, rfl⟩))))))⟩
    · rw [List.mem_singleton.mp ht]
      exact ⟨by show (0 - (j2 : Int)).natAbs ≤ 5; omega, g1, d1'⟩
  refine ⟨_, rfl, _, _, rfl, rfl, _, rfl, iteN (fun e => w3 (by have := of_decide_eq_true e; omega)) ?_⟩
  by_cases e3 : way = 3
  · refine ⟨_, rfl, rfl, _, rfl, iteP (decide_eq_true (by rw [e3]; rfl)) ?_⟩
    refine ⟨_, rfl, few_line (by show 2 ≤ 1000; decide), fun p1 h1 => ?_⟩
    refine ⟨_, _, rfl, rfl, _, rfl, few_line (by show 2 ≤ 1000; decide), fun p2 h2 => ?_⟩
    dsimp only [tNil]
    refine ⟨few_line (by show 2 ≤ 1000; decide), fun p3 h3 => ⟨few_line (by show 2 ≤ 1000; decide), fun p4 h4 => ?_⟩⟩
    have q1 := same_upd (o := HO.tup [.int 1, v1]) h1
    have q2 := same_upd (o := HO.tup [.int (0 - 1), v2]) h2
    have q3 := same_upd (o := HO.tup [.ref p1, .ref p2]) h3
    have q4 := same_upd (o := HO.tup [.str "more", .ref p3]) h4
    have q34 := q3.trans q4
    have q14 := q1.trans (q2.trans q34)
    refine cont ("more", [(1, f1), (0 - 1, f2)]) (.ref p4) _ (s13.trans q14.two) (d3.same q14) ⟨p4, p3, _, rfl, upd_same, q4.i.tup upd_same, .cons ⟨p1, v1, rfl, (q2.trans q34).i.tup upd_same, r1.mono q14.i⟩ (.cons ⟨p2, v2, rfl, q34.i.tup upd_same, r2.mono q14.i⟩ .nil)⟩ ⟨by dsimp only; decide, by show 2 ≤ 3; decide, fun t ht => ?_⟩
    rcases List.mem_cons.mp ht with rfl | ht
    · exact ⟨by show (1 : Int).natAbs ≤ 5; decide, g1, d1'⟩
    · rw [List.mem_singleton.mp ht]
      exact ⟨by show (0 - 1 : Int).natAbs ≤ 5; decide, g2, d2'⟩
  refine ⟨_, rfl, rfl, _, rfl, iteN (fun e => e3 (by have := V.int.inj (of_decide_eq_true e); omega)) ?_⟩
  by_cases e4 : way = 4
  · refine ⟨_, rfl, rfl, _, rfl, iteP (decide_eq_true (by rw [e4]; rfl)) ?_⟩
    refine ⟨_, rfl, _, rfl, few_line (by show 3 ≤ 1000; decide), fun p1 h1 => ?_⟩
    dsimp only [tNil]
    refine ⟨few_line (by show 2 ≤ 1000; decide), fun p2 h2 => ⟨few_line (by show 1 ≤ 1000; decide), fun p3 h3 => ⟨few_line (by show 2 ≤ 1000; decide), fun p4 h4 => ?_⟩⟩⟩
    have q1 := same_upd (o := HO.tup [.str "-", v1, v2]) h1
    have q2 := same_upd (o := HO.tup [.int 1, .ref p1]) h2
    have q3 := same_upd (o := HO.tup [.ref p2]) h3
    have q4 := same_upd (o := HO.tup [.str "even", .ref p3]) h4
    have q34 := q3.trans q4
    have q14 := q1.trans (q2.trans q34)
    refine cont ("even", [(1, .mk "-" "" 0 [f1, f2])]) (.ref p4) _ (s13.trans q14.two) (d3.same q14) ⟨p4, p3, _, rfl, upd_same, q4.i.tup upd_same, .cons ⟨p2, .ref p1, rfl, q34.i.tup upd_same, k3 "-" _ p1 (by decide) (by decide) ((q2.trans q34).i.tup upd_same) (r1.mono q14.i) (r2.mono q14.i)⟩ .nil⟩ ⟨by dsimp only; decide, by show 1 ≤ 3; decide, fun t ht => ?_⟩
    rw [List.mem_singleton.mp ht]
    exact ⟨by show (1 : Int).natAbs ≤ 5; decide, gAnd "-" (by decide) (.inr (.inr (.inr (.inr (.inr (.inr (.inr (.inl ⟨rfl, rfl⟩))))))))⟩
  refine ⟨_, rfl, rfl, _, rfl, iteN (fun e => e4 (by have := V.int.inj (of_decide_eq_true e); omega)) ?_⟩
  by_cases e5 : way = 5
  · refine ⟨_, rfl, rfl, _, rfl, iteP (decide_eq_true (by rw [e5]; rfl)) ?_⟩
    refine ⟨_, rfl, few_line (by show 2 ≤ 1000; decide), fun p1 h1 => ?_⟩
    dsimp only [tNil]
    refine ⟨few_line (by show 1 ≤ 1000; decide), fun p3 h3 => ⟨few_line (by show 2 ≤ 1000; decide), fun p4 h4 => ?_⟩⟩
    have q1 := same_upd (o := HO.tup [.int 1, v1]) h1
    have q3 := same_upd (o := HO.tup [.ref p1]) h3
    have q4 := same_upd (o := HO.tup [.str "more", .ref p3]) h4
    have q34 := q3.trans q4
    have q14 := q1.trans q34
    refine cont ("more", [(1, f1)]) (.ref p4) _ (s13.trans q14.two) (d3.same q14) ⟨p4, p3, _, rfl, upd_same, q4.i.tup upd_same, .cons ⟨p1, v1, rfl, q34.i.tup upd_same, r1.mono q14.i⟩ .nil⟩ ⟨by dsimp only; decide, by show 1 ≤ 3; decide, fun t ht => ?_⟩
    rw [List.mem_singleton.mp ht]
    exact ⟨by show (1 : Int).natAbs ≤ 5; decide, g1, d1'⟩
  refine ⟨_, rfl, rfl, _, rfl, iteN (fun e => e5 (by have := V.int.inj (of_decide_eq_true e); omega)) ?_⟩
  refine ⟨_, rfl, few_line (by show 4 ≤ 1000; decide), fun q hq => ?_⟩
  have sq := same_upd (o := HO.lst [.str "least", .str "more", .str "even", .str "least"]) hq
  obtain ⟨qa, ql⟩ := d3.fresh hq
  have dq := d3.same sq
  refine ⟨a, l, q, _, rfl, dq, upd_same, qa, ql, (by show 0 < 4; decide), (by show 4 ≤ 1000; decide), fun x H4 hx s4 d4 => ?_⟩
  obtain ⟨z, rfl, hz⟩ : ∃ z : Str, x = .str z ∧ z ∈ sorts3 := by
    simp only [List.mem_cons, List.not_mem_nil, or_false] at hx
    rcases hx with rfl | rfl | rfl | rfl
    · exact ⟨_, rfl, by decide⟩
    · exact ⟨_, rfl, by decide⟩
    · exact ⟨_, rfl, by decide⟩
    · exact ⟨_, rfl, by decide⟩
  refine ⟨_, rfl, _, rfl, a, l, w, ws, rfl, d4, wd3.two (sq.two.trans s4), fun ts t H5 s5 d5 tr few ok => ?_⟩
  dsimp only [tNil]
  refine ⟨few_line (by show 2 ≤ 1000; decide), fun p hp => ?_⟩
  have sp := same_upd (o := HO.tup [.str z, .ref t]) hp
  obtain ⟨ys, ht, pr⟩ := tr
  exact cont (z, ts) (.ref p) _ (s13.trans (sq.two.trans (s4.trans (s5.trans sp.two)))) (d5.same sp) ⟨p, t, ys, rfl, upd_same, sp.i.tup ht, Paired.mapP pr fun _ _ r => r.isame sp.i⟩ ⟨hz, few, ok⟩
end
end Mc
/-! The walk, 34: the law. -/
namespace Mc
open PySem PySem.Spec PyProof.Rows L2
abbrev N_law : List Str := ["_law_script", "_law_deal_here", "_law_words_here", "_law_some", "_law_cells_here", "_law_turn", "_law_crowd", "_law_wide", "_law_chosen", "_law_wishes", "_law_k"]
abbrev P_law : List Str := ["_law_script"]
theorem sc_law : FnScope N_law P_law (defScope s_law) := ⟨rfl, rfl, rfl, by decide +kernel, rfl, by decide +kernel, by decide +kernel⟩

theorem seq_cut {t u : TS} {D : Ends} {σ : L2.St} {H : Hp} (P : L2.St → Hp → Prop) (h1 : ∀ nx' : L2.St → Hp → Prop, (∀ σ H, P σ H → nx' σ H) → t { D with nx := nx' } σ H) (h2 : ∀ σ H, P σ H → u D σ H) : tSeq t u D σ H := h1 _ h2
theorem leS_total (a b : Str) : leS a b ∨ leS b a := List.le_total _ _
theorem ins_pw (w : Str) : ∀ us : List Str, us.Pairwise leS → ∃ vs : List Str, vs.Pairwise leS ∧ vs.Perm (w :: us)
  | [], _ => ⟨[w], by simp, .refl _⟩
  | u :: us, h => by
    obtain ⟨h1, h2⟩ := List.pairwise_cons.mp h
    rcases leS_total w u with q | q
    · refine ⟨w :: u :: us, List.pairwise_cons.mpr ⟨fun y hy => ?_, h⟩, .refl _⟩
      rcases List.mem_cons.mp hy with e | e
      · rw [e]; exact q
      · exact leS_trans q (h1 y e)
    · obtain ⟨vs, p, pm⟩ := ins_pw w us h2
      refine ⟨u :: vs, List.pairwise_cons.mpr ⟨fun y hy => ?_, p⟩, (List.Perm.cons u pm).trans (.swap _ _ _)⟩
      rcases List.mem_cons.mp (pm.mem_iff.mp hy) with e | e
      · rw [e]; exact q
      · exact h1 y e
theorem sort_ex : ∀ ws : List Str, ∃ us : List Str, us.Pairwise leS ∧ us.Perm ws
  | [] => ⟨[], by simp, .refl _⟩
  | w :: ws => by
    obtain ⟨us, p, pm⟩ := sort_ex ws
    obtain ⟨vs, p2, pm2⟩ := ins_pw w us p
    exact ⟨vs, p2, pm2.trans (.cons w pm)⟩
theorem asc_ex {ws : List Str} (nd : ws.Nodup) : ∃ us, Asc ws us := by
  obtain ⟨us, p, pm⟩ := sort_ex ws
  exact ⟨us, pw_sorted p, pm.nodup_iff.mpr nd, fun k => pm.mem_iff⟩
/-- claims that the law searches -/
structure SmOk (ws : List Str) (cs : List Cf) : Prop where
  ok : CsOk 4 ws cs
  five : cs.length ≤ 5
  srt : ∀ c ∈ cs, c.1 ∈ sorts3
theorem smok_of {ws : List Str} {cs : List Cf} (w3 : ws.length ≤ 3) (c1 : 1 ≤ cs.length) (c5 : cs.length ≤ 5) (h : ∀ c ∈ cs, ClOk ws c) : SmOk ws cs := by
  refine ⟨⟨c1, by omega, fun c hc => ⟨by have := (h c hc).few; omega, fun t ht => ⟨((h c hc).ok t ht).2.1, ((h c hc).ok t ht).2.2⟩⟩, w3, fun c hc => ?_⟩, c5, fun c hc => (h c hc).srt⟩
  have := sum5 fun t ht => ((h c hc).ok t ht).1
  have := (h c hc).few
  omega
theorem wish_ok {us ws : List Str} {cs : List Cf} {M : List (List Str)} (h : SmOk ws cs) (lus : us.length ≤ 3) : CsOk 4 ws (wish cs (othersL us M) ws) ∧ ∀ c ∈ wish cs (othersL us M) ws, c.1 ∈ sorts3 := by
  have lo : (othersL us M).length ≤ 8 := by
    have le8 : 2 ^ us.length ≤ 2 ^ 3 := Nat.pow_le_pow_right (by decide) lus
    refine Nat.le_trans (List.length_filter_le _ _) ?_
    rw [List.length_map, List.length_range]
    omega
  have w3 := h.ok.ws3
  have lw : (wish cs (othersL us M) ws).length = cs.length + 1 := by simp [wish]
  have five := h.five
  have srt : ∀ c ∈ wish cs (othersL us M) ws, c ∈ cs ∨ c = ((("even" : Str), (othersL us M).map fun ks => ((1 : Int), onlyF ks ws)) : Cf) := fun c hc => by
    rcases List.mem_append.mp hc with q | q
    · exact .inl q
    · exact .inr (List.mem_singleton.mp q)
  refine ⟨⟨by omega, by omega, fun c hc => ?_, w3, fun c hc => ?_⟩, fun c hc => ?_⟩
  · rcases srt c hc with q | rfl
    · exact h.ok.made c q
    · refine ⟨by dsimp only; rw [List.length_map]; omega, fun t ht => ?_⟩
      obtain ⟨ks, _, rfl⟩ := List.mem_map.mp ht
      have := onlyF_good (us := ws) (ks := ks) (ws := ws) fun w hw => hw
      exact ⟨this.1, by have := this.2; dsimp only; omega⟩
  · rcases srt c hc with q | rfl
    · exact h.ok.sum c q
    · dsimp only
      rw [List.map_map]
      have : ∀ l : List (List Str), (l.map ((fun t : Tm => t.1.natAbs) ∘ fun ks => ((1 : Int), onlyF ks ws))).sum = l.length := fun l => by
        induction l with
        | nil => rfl
        | cons x l ih =>
          rw [List.map_cons, List.sum_cons, ih, List.length_cons]
          show 1 + l.length = _
          omega
      rw [this]
      omega
  · rcases srt c hc with q | rfl
    · exact h.srt c q
    · dsimp only
      decide
theorem kept_congr {m n : Nat} {R : Nat → Nat → Int} {S : Nat → So} {x y : Nat → Int} (e : ∀ k, k < n → x k = y k) (k : Kept m n R S y) : Kept m n R S x := by
  refine ⟨fun c hc => by rw [e c hc]; exact k.1 c hc, fun i hi => ?_⟩
  rw [sm_congr fun c hc => by rw [e c hc]]
  exact k.2 i hi
/-- a list of cells holds nothing else -/
theorem cells_ref {H : Hp} {L : List (List Str)} {zs : List V} (p : Paired (CellR H) L zs) : ∀ v ∈ zs, ∃ q, v = .ref q := fun v hv => by
  obtain ⟨i, hi⟩ := List.mem_iff_getElem?.mp hv
  obtain ⟨ks, _, q, e, _⟩ := cells_get p hi
  exact ⟨q, e⟩
theorem cells_ne {H : Hp} {L : List (List Str)} {zs : List V} {r b : Addr} (p : Paired (CellR H) L zs) (hr : H r = some (.lst zs)) {ys : List V} (hb : H b = some (.lst ys)) {v : V} (hv : v ∈ ys) (hn : ∀ q, v ≠ .ref q) : r ≠ b := fun e => by
  rw [e, hb] at hr
  have e2 := HO.lst.inj (Option.some.inj hr)
  obtain ⟨q, e3⟩ := cells_ref p v (e2 ▸ hv)
  exact hn q e3
theorem paired_erase {α β : Type} {F : α → β → Prop} : ∀ {xs : List α} {ys : List β} (k : Nat), Paired F xs ys → Paired F (xs.eraseIdx k) (ys.eraseIdx k)
  | _, _, _, .nil => .nil
  | _, _, 0, .cons _ t => t
  | _, _, k + 1, .cons h t => .cons h (paired_erase k t)
theorem claims_of {ws : List Str} {H : Hp} {rs : List Nat} {acc : List V} (h : Paired (fun _ y => ∃ c, LRep H c y ∧ ClOk ws c) rs acc) : ∃ cs, Paired (LRep H) cs acc ∧ ∀ c ∈ cs, ClOk ws c := by
  induction h with
  | nil => exact ⟨[], .nil, fun f hf => by cases hf⟩
  | cons r t ih =>
    obtain ⟨f, r, p⟩ := r
    obtain ⟨ps, a, b⟩ := ih
    refine ⟨f :: ps, .cons r a, fun g hg => ?_⟩
    rcases List.mem_cons.mp hg with e | e
    · rw [e]; exact p
    · exact b g e
section
variable {G : Gd} (B : Bl G.mg)
include B
def spLaw (K : PySem.W.Frag) : Sp := fun vs H Q _ => ∃ (a : Addr) (ns : List Int), vs = [.ref a] ∧ SqL K H a (ns.map V.int) ∧ ns.length ≤ 63 ∧ ∀ H', Q (.bl true) H'
/-- all that the law calls -/
structure Cals (G : Gd) (C CT CC CW : Addr) : Prop where
  deal : Cal G 1 "_law_deal" P__law_deal (spLDeal G.K)
  draw : Cal G 1 "_law_draw" P__law_draw spLDraw
  words : Cal G 2 "_law_words" P__law_words (spLWords G.K)
  claim : Cal G 8 "_law_claim" P__law_claim spLClaim
  cells : Cal G 1 "_law_cells" P__law_cells (spLCells G.K)
  only : Cal G 1 "_law_only" P__law_only (spLOnly G.K)
  made : Cal G 13 "_law_all_made" P__law_all_made (spLAllMade C CT CC G.K)
  fewest : Cal G 12 "fewest" P_fewest (spFewest C CT CC CW G.K 4)
  possible : Cal G 11 "possible" P_possible (spPossible C CT CC G.K 4)
  paper : Cal G 10 "paper" P_paper (spPaper C CT CC G.K 4)
  bars : Cal G 8 "_law_bars" P__law_bars (spLBars G.K)
  keeps : Cal G 8 "_law_keeps" P__law_keeps (spLKeeps CW G.K)
  sets : Cal G 2 "_law_sets" P__law_sets (spLSets G.K)
  few : Cal G 2 "_law_few" P__law_few (spLFew G.K)
  len : CalD G 1 CW "__len__" P_Crowd___len__ (spLen CW)
omit B in
theorem df_fn {x : Str} {st : Stmt} {N ps : List Str} {k : Nat} {sp : Sp} {f : Addr} {fd : FuncData} (D : FunD G.K x x (defArgs st) (defBody st) (defScope st) [] [] f fd) (S : FnScope N ps (defScope st)) (len : ∀ vs H Q E, sp vs H Q E → vs.length = ps.length)
    (body : ∀ (f : Addr) (cdv : Value) (A : Around) (outer : List Env) (s : Shared) (H : Hp) (vs : List V) (Q : VK) (E : XK), Room k (A.deeper (envOfC x (defScope st) s.heap.objs.size f cdv)) → sp vs H Q E →
      ∃ t, PSs (cxOf CX0 G.P G.w G.K G.mg G.base N x (defScope st) f cdv A outer s H E).nox (defBody st) t ∧ t { nx := fun _ H' => Q .non H', rt := Q } (start N vs) H) : FnOk G.P G.w G.K G.mg G.base CX0 (k + 1) f fd ps sp :=
  FunD.ok D S len fun cdv A outer s H vs Q E hr h => by
    obtain ⟨t, a, b⟩ := body f cdv A outer s H vs Q E hr h
    exact ⟨t, PSs.nox a, b⟩
theorem ok_law {C CT CC CW : Addr} (cl : Cals G C CT CC CW) {f : Addr} {fd : FuncData} (F : FunD G.K "law" "law" (defArgs s_law) (defBody s_law) (defScope s_law) [] [] f fd) : FnOk G.P G.w G.K G.mg G.base CX0 14 f fd P_law (spLaw G.K) := by
  have C_law_deal := cl.deal
  have C_law_draw := cl.draw
  have C_law_words := cl.words
  have C_law_claim := cl.claim
  have C_law_cells := cl.cells
  have C_law_only := cl.only
  have C_law_all_made := cl.made
  have C_fewest := cl.fewest
  have C_possible := cl.possible
  have C_paper := cl.paper
  have C_law_bars := cl.bars
  have C_law_keeps := cl.keeps
  have C_law_sets := cl.sets
  have C_law_few := cl.few
  have C_len := cl.len
  refine df_fn (N := N_law) (k := 13) F sc_law (fun vs H Q E h => by obtain ⟨_, _, rfl, _⟩ := h; rfl) fun f cdv A outer s H vs Q E hr h => ?_
  obtain ⟨a, ns, rfl, ha, l63, cont⟩ := h
  have S := sc_law
  refine ⟨_, (pss_cons (ps_set (i := 1) S.nd rfl (by first | exact Or.inl rfl | exact Or.inr rfl) (pe_cal (C_law_deal.mono (by omega)) hr rfl (pa_cons (pv 0) (pa_cons pe_int pa_nil))))
    (pss_cons (ps_set (i := 2) S.nd rfl (by first | exact Or.inl rfl | exact Or.inr rfl) (pe_cal (C_law_words.mono (by omega)) hr rfl (pa_cons (pv 1) (pa_cons (pe_op op_add pe_int (pe_cal (C_law_draw.mono (by omega)) hr rfl (pa_cons (pv 1) (pa_cons pe_int pa_nil)))) pa_nil))))
    (pss_cons (ps_setLc (i := 3) (own := [("_law_k", 10)]) rfl S.nd rfl rfl (sw_true rfl rfl rfl (by decide +kernel)) (pi_range1 (by rfl) B.range (pa_cons (pe_op op_add pe_int (pe_cal (C_law_draw.mono (by omega)) hr rfl (pa_cons (pv 1) (pa_cons pe_int pa_nil)))) pa_nil)) (blkOk_by (own := [("_law_k", 10)]) (N := N_law) (sc := defScope s_law) (by decide +kernel)) (fun _ _ _ _ _ => (pg_name (i := 10) S.nd rfl (by first | exact Or.inl rfl | exact Or.inr rfl))) (fun _ _ _ _ _ => pts_nil) (fun _ _ _ _ _ => (pe_cal (C_law_claim.mono (by omega)) hr rfl (pa_cons (pv 1) (pa_cons (pv 2) pa_nil)))))
    (pss_cons (ps_if (pt_cmpR op_eq (pe_cal (C_law_draw.mono (by omega)) hr rfl (pa_cons (pv 1) (pa_cons pe_int pa_nil))) pe_int (nomark _)) (pss_cons (ps_set (i := 4) S.nd rfl (by first | exact Or.inl rfl | exact Or.inr rfl) (pe_cal (C_law_cells.mono (by omega)) hr rfl (pa_cons (pv 2) pa_nil)))
    (pss_cons (ps_set (i := 3) S.nd rfl (by first | exact Or.inl rfl | exact Or.inr rfl) (pe_lst pa_nil))
    (pss_one (ps_for PassesOwn.never rfl (pi_range1 (by rfl) B.range (pa_cons (pe_callB (call_min2 rfl) rfl B.min (by decide +kernel) (pa_cons pe_int (pa_cons (pe_callB call_len_seq rfl B.len (by decide +kernel) (pa_cons (pv 4) pa_nil)) pa_nil))) pa_nil)) (pg_name (i := 5) S.nd rfl (by first | exact Or.inl rfl | exact Or.inr rfl)) (pss_one (ps_expr (pe_bm PySem.F.plainAttrs_list PySem.F.slot_list_append PySem.F.type_list_append mt_append (pv 3) (pa_cons (pe_tup (pa_cons pe_str (pa_cons (pe_tup (pa_cons (pe_tup (pa_cons pe_int (pa_cons (pe_cal (C_law_only.mono (by omega)) hr rfl (pa_cons (pe_bm PySem.F.plainAttrs_list PySem.F.slot_list_pop PySem.F.type_list_pop mt_popAt (pv 4) (pa_cons (pe_cal (C_law_draw.mono (by omega)) hr rfl (pa_cons (pv 1) (pa_cons (pe_callB call_len_seq rfl B.len (by decide +kernel) (pa_cons (pv 4) pa_nil)) pa_nil))) pa_nil)) (pa_cons (pv 2) pa_nil))) pa_nil))) pa_nil)) pa_nil))) pa_nil)))))))) pss_nil)
    (pss_cons (ps_set (i := 6) S.nd rfl (by first | exact Or.inl rfl | exact Or.inr rfl) (pe_cal (C_fewest.mono (by omega)) hr rfl (pa_cons (pe_cal (C_law_all_made.mono (by omega)) hr rfl (pa_cons (pv 3) pa_nil)) pa_nil)))
    (pss_cons (ps_if (PW.pt (pw_or (pt_cmpR op_isN (pv 6) pe_non (nomark _)) (pw_or1 (pt_not (pt_val (pe_cal (C_possible.mono (by omega)) hr rfl (pa_cons (pe_cal (C_law_all_made.mono (by omega)) hr rfl (pa_cons (pv 3) pa_nil)) pa_nil))))))) (pss_one (ps_ret (pe_and (pe_cmpR op_isN (pv 6) pe_non (nomark _)) (pe_one (pe_cal (C_law_bars.mono (by omega)) hr rfl (pa_cons (pe_cal (C_paper.mono (by omega)) hr rfl (pa_cons (pe_cal (C_law_all_made.mono (by omega)) hr rfl (pa_cons (pv 3) pa_nil)) pa_nil)) (pa_cons (pv 3) (pa_cons (pv 2) pa_nil)))))))) pss_nil)
    (pss_cons (ps_if (PW.pt (pw_or (pt_not (pt_val (pe_cal (C_law_keeps.mono (by omega)) hr rfl (pa_cons (pv 6) (pa_cons (pv 3) (pa_cons (pv 2) pa_nil)))))) (pw_or1 (pt_cmpR op_gt (pe_callB (call_lenOwn (C_len.mono (by omega)) (hr : Room (12 + 1) _)) rfl B.len (by decide +kernel) (pa_cons (pv 6) pa_nil)) (pe_callB call_len_seq rfl B.len (by decide +kernel) (pa_cons (pv 3) pa_nil)) (nomark _))))) (pss_one (ps_ret pe_bl)) pss_nil)
    (pss_cons (ps_for PassesOwn.never rfl (pi_range1 (by rfl) B.range (pa_cons (pe_callB (call_min2 rfl) rfl B.min (by decide +kernel) (pa_cons (pe_callB (call_lenOwn (C_len.mono (by omega)) (hr : Room (12 + 1) _)) rfl B.len (by decide +kernel) (pa_cons (pv 6) pa_nil)) (pa_cons pe_int pa_nil))) pa_nil)) (pg_name (i := 7) S.nd rfl (by first | exact Or.inl rfl | exact Or.inr rfl)) (pss_one (ps_for PassesOwn.never rfl (pi_list (pe_cal (C_law_sets.mono (by omega)) hr rfl (pa_cons (pe_cal (C_law_cells.mono (by omega)) hr rfl (pa_cons (pv 2) pa_nil)) (pa_cons (pv 7) pa_nil)))) (pg_name (i := 8) S.nd rfl (by first | exact Or.inl rfl | exact Or.inr rfl)) (pss_cons (ps_set (i := 9) S.nd rfl (by first | exact Or.inl rfl | exact Or.inr rfl) (pe_cal (C_law_few.mono (by omega)) hr rfl (pa_cons (pv 3) (pa_cons (pv 2) (pa_cons (pv 8) pa_nil)))))
    (pss_one (ps_if (pt_not (pt_val (pe_cal (C_law_bars.mono (by omega)) hr rfl (pa_cons (pe_cal (C_paper.mono (by omega)) hr rfl (pa_cons (pe_cal (C_law_all_made.mono (by omega)) hr rfl (pa_cons (pv 9) pa_nil)) pa_nil)) (pa_cons (pv 9) (pa_cons (pv 2) pa_nil)))))) (pss_one (ps_ret pe_bl)) pss_nil))))))
    (pss_one (ps_ret pe_bl)))))))))), ?_⟩
  refine ⟨_, rfl, a, ns, rfl, ha, l63, fun d l H1 s1 d1 => ?_⟩
  refine ⟨_, rfl, _, rfl, d, l, 3, rfl, by decide, by decide, d1, fun j H2 hj s2 d2 => ?_⟩
  have eargs : [V.ref d, V.int (1 + (j : Int))] = [V.ref d, V.int ((1 + j : Nat) : Int)] := by rw [show (1 : Int) + (j : Int) = ((1 + j : Nat) : Int) by omega]
  refine ⟨_, _, rfl, rfl, d, l, 1 + j, eargs, by omega, d2, fun ws w H3 lw nd nm s3 d3 hw nwa nwl => ?_⟩
  have wd3 : WdL H3 d l w ws := ⟨hw, nwa, nwl, by omega, by omega⟩
  have w3 : ws.length ≤ 3 := wd3.w3
  let P : L2.St → Hp → Prop := fun σ H => ∃ (w r : Addr) (ws : List Str) (cs : List Cf) (v0 v1 v4 v5 v6 v7 v8 v9 v10 : Option V), σ = [v0, v1, some (.ref w), some (.ref r), v4, v5, v6, v7, v8, v9, v10] ∧ Wds G.K H w ws ∧ LsR H r cs ∧ SmOk ws cs
  refine ⟨_, rfl, d, l, 5, rfl, by decide, by decide, d3, fun j2 H4 hj2 s4 d4 => ?_⟩
  refine ⟨_, _, rfl, rfl, _, rfl, by omega, by omega, fun D hD => ?_⟩
  have wd4 := wd3.two s4
  refine lc_two walk_range (fun _ y H' => ∃ c, LRep H' c y ∧ ClOk ws c) (few_lt (by omega)) hD d4 (fun _ _ => trivial) (fun _ y _ _ i ⟨c, r, o⟩ => ⟨c, r.mono i, o⟩) ?_ ?_
  · rintro k x H5 H6 Qy hk s5 d5 n5 ⟨rfl, rfl⟩ cy
    exact ⟨rfl, _, rfl, _, rfl, d, l, w, ws, rfl, d5, wd4.two s5, fun c v H7 s7 d7 r ok => cy _ _ s7 d7 ⟨c, r, ok⟩⟩
  intro H5 acc s5 d5 hD5 hp5
  obtain ⟨cs, prs, oks⟩ := claims_of hp5
  have lcs : 1 ≤ cs.length ∧ cs.length ≤ 5 := by
    have h1 := paired_len prs
    have h2 := paired_len hp5
    rw [List.length_range] at h2
    omega
  have wd5 := wd4.two s5
  dsimp only [gName]
  refine seq_cut P ?_ ?_
  · intro nx' hnx
    refine ⟨_, rfl, d, l, 5, rfl, by decide, by decide, d5, fun j3 H6 hj3 s6 d6 => ?_⟩
    refine ⟨rfl, _, rfl, ?_⟩
    have wd6 := wd5.two s6
    obtain ⟨nDd, nDl⟩ := d4.fresh hD
    by_cases e0 : j3 = 0
    · refine iteP (decide_eq_true (by rw [e0]; rfl)) ?_
      refine ⟨_, rfl, w, ws, rfl, SqL.of wd6.at_, w3, nd, fun r us zs H7 s7 hr7 asc ks => ?_⟩
      have lus : us.length ≤ 3 := Nat.le_trans (asc_sub asc fun _ h => h) w3
      have le8 : 2 ^ us.length ≤ 2 ^ 3 := Nat.pow_le_pow_right (by decide) lus
      have lzs : zs.length = 2 ^ us.length := by have := paired_len ks; simpa using this.symm
      have z1 : 1 ≤ 2 ^ us.length := Nat.pow_pos (by decide)
      have d7 := d6.same s7
      have wd7 := wd6.two s7.two
      refine ⟨few_line (by show 0 ≤ 1000; decide), fun F hF => ?_⟩
      have sF := same_upd (H := H7) (o := HO.lst []) hF
      obtain ⟨nFd, nFl⟩ := d7.fresh hF
      have nFr : F ≠ r := fun e => by rw [e, hr7] at hF; cases hF
      have nFw : F ≠ w := fun e => by rw [e, wd7.at_] at hF; cases hF
      have nrw : r ≠ w := by
        obtain ⟨x, hx⟩ := List.exists_mem_of_length_pos wd7.w0
        exact cells_ne ks hr7 wd7.at_ (List.mem_map.mpr ⟨x, hx, rfl⟩) fun q e => by cases e
      obtain ⟨nrd, nrl⟩ : r ≠ d ∧ r ≠ l := by
        obtain ⟨ms, m, e1, e2, _⟩ := d7
        refine ⟨cells_ne ks hr7 e1 (v := .int m) (by simp) (fun q e => by cases e), ?_⟩
        cases ms with
        | nil =>
          intro e
          rw [e, e2] at hr7
          have := HO.lst.inj (Option.some.inj hr7)
          rw [← this] at lzs
          simp at lzs
          omega
        | cons m ms => exact cells_ne ks hr7 e2 (v := .int m) (by simp) (fun q e => by cases e)
      refine ⟨_, rfl, r, zs, rfl, .inl (SqL.of (sF _ _ hr7)), _, _, rfl, _, rfl, by split <;> omega, by split <;> omega, ?_⟩
      refine for_it walk_range (fun i σ H8 => ∃ (Lr : List (List Str)) (zr xs : List V) (cs : List Cf) (v5 : Option V), H8 r = some (.lst zr) ∧ Paired (CellR H8) Lr zr ∧ Lr.length + i = 2 ^ us.length ∧ (∀ ks ∈ Lr, ks.length ≤ 3) ∧ H8 F = some (.lst xs) ∧ Paired (LRep H8) cs xs ∧ cs.length = i ∧ (∀ c ∈ cs, ClOk ws c) ∧ DealR H8 d l ∧ H8 w = some (.lst (ws.map V.str)) ∧ σ = [some (.ref a), some (.ref d), some (.ref w), some (.ref F), some (.ref r), v5, none, none, none, none, none])
        ⟨(List.range (2 ^ us.length)).map (kindL us), zs, [], [], none, sF _ _ hr7, Paired.mapP ks fun _ _ q => q.mono sF.i, by simp, fun k hk => ?_, upd_same, .nil, rfl, (fun c hc => by cases hc), d7.same sF, sF _ _ wd7.at_, rfl⟩ (fun _ _ _ _ _ => trivial) ?_ ?_
      · obtain ⟨c, _, rfl⟩ := List.mem_map.mp hk
        exact Nat.le_trans (kindL_sub us c).length_le lus
      · rintro i x σ H8 H9 hi ⟨Lr, zr, xs, cs2, v5, hr8, pr8, lr8, k38, hF8, px8, lc8, ok8, d8, hw8, rfl⟩ ⟨rfl, rfl⟩
        have lz8 := paired_len pr8
        have hi' : i < 5 ∧ i < 2 ^ us.length := by
          rw [lzs] at hi
          by_cases c : ((2 ^ us.length : Nat) : Int) < 5
          · rw [if_pos c] at hi
            have : i < (((2 ^ us.length : Nat) : Int)).toNat := hi
            omega
          · rw [if_neg c] at hi
            have : i < (5 : Int).toNat := hi
            omega
        refine ⟨_, rfl, .inl ⟨rfl, _, SqL.of hF8⟩, _, rfl, .inl ⟨rfl, _, SqL.of hr8⟩, _, rfl, _, rfl, r, zr, rfl, .inl (SqL.of hr8), d, l, _, rfl, by omega, by omega, d8, fun k H10 hk s10 d10 => ?_⟩
        have hk' : k < zr.length := by omega
        have hr10 := s10 _ _ hr8 nrd nrl
        have hF10 := s10 _ _ hF8 nFd nFl
        have hw10 := s10 _ _ hw8 nwa nwl
        have i10 := s10.i d8
        obtain ⟨kk, hkk, pk, ek, hpk⟩ := cells_get pr8 (List.getElem?_eq_getElem hk')
        have nrF := Ne.symm nFr
        refine ⟨r, zr, k, k, .ref pk, rfl, rfl, hr10, by omega, by omega, sq_ix hk', by rw [List.getElem?_eq_getElem hk', ek], ?_⟩
        have iA : ISame H10 (L2.upd H10 r (.lst (zr.eraseIdx k))) := SameX.i (D := r) samex_upd (raw_lst hr10)
        have hFA : (L2.upd H10 r (.lst (zr.eraseIdx k))) F = some (.lst xs) := by rw [upd_ne nFr]; exact hF10
        have hwA : (L2.upd H10 r (.lst (zr.eraseIdx k))) w = some (.lst (ws.map V.str)) := by rw [upd_ne (Ne.symm nrw)]; exact hw10
        have dA : DealR (L2.upd H10 r (.lst (zr.eraseIdx k))) d l := by
          obtain ⟨ms, m, e1, e2, e3⟩ := d10
          exact ⟨ms, m, by rw [upd_ne (Ne.symm nrd)]; exact e1, by rw [upd_ne (Ne.symm nrl)]; exact e2, e3⟩
        have hrA : (L2.upd H10 r (.lst (zr.eraseIdx k))) r = some (.lst (zr.eraseIdx k)) := upd_same
        have i8A := i10.trans iA
        generalize L2.upd H10 r (.lst (zr.eraseIdx k)) = HA at iA hFA hwA dA hrA i8A ⊢
        refine ⟨_, rfl, pk, w, kk, ws, rfl, i8A.tup hpk, SqL.of hwA, w3, k38 kk (List.mem_of_getElem? hkk), fun v H11 s11 fr => ?_⟩
        dsimp only [tNil]
        refine ⟨few_line (by show 2 ≤ 1000; decide), fun p1 h1 => ⟨few_line (by show 1 ≤ 1000; decide), fun p2 h2 => ⟨few_line (by show 2 ≤ 1000; decide), fun p3 h3 => ?_⟩⟩⟩
        have q1 := same_upd (o := HO.tup [.int 1, v]) h1
        have q2 := same_upd (o := HO.tup [.ref p1]) h2
        have q3 := same_upd (o := HO.tup [.str "more", .ref p2]) h3
        have q13 := q1.trans (q2.trans q3)
        have sZ := s11.trans q13
        have hFZ := sZ _ _ hFA
        refine ⟨F, xs, _, rfl, rfl, hFZ, few_lt (by have := paired_len px8; omega), ?_⟩
        have iZ : ISame _ (L2.upd (L2.upd (L2.upd (L2.upd H11 p1 (.tup [.int 1, v])) p2 (.tup [.ref p1])) p3 (.tup [.str "more", .ref p2])) F (.lst (xs ++ [.ref p3]))) := SameX.i (D := F) samex_upd (raw_lst hFZ)
        have iAll := i8A.trans (sZ.i.trans iZ)
        have dZ := dA.same sZ
        refine ⟨Lr.eraseIdx k, zr.eraseIdx k, xs ++ [.ref p3], cs2 ++ [(("more" : Str), [((1 : Int), onlyF kk ws)])], _, ?_, paired_erase k (Paired.mapP pr8 fun _ _ r => r.mono iAll), ?_, fun ks hks => k38 ks (List.mem_of_mem_eraseIdx hks), upd_same, paired_snoc (Paired.mapP px8 fun _ _ r => r.mono iAll) ?_, by rw [List.length_append, lc8]; rfl, fun c hc => ?_, ?_, ?_, rfl⟩
        · rw [upd_ne nrF]; exact sZ _ _ hrA
        · have : k < Lr.length := by omega
          rw [List.length_eraseIdx_of_lt this]
          omega
        · exact ⟨p3, p2, [.ref p1], rfl, iZ.tup upd_same, iZ.tup (q3 _ _ upd_same), .cons ⟨p1, v, rfl, iZ.tup ((q2.trans q3) _ _ upd_same), fr.mono (q13.i.trans iZ)⟩ .nil⟩
        · rcases List.mem_append.mp hc with h | h
          · exact ok8 c h
          · rw [List.mem_singleton.mp h]
            have go := onlyF_good (us := ws) (ks := kk) (ws := ws) fun w hw => hw
            refine ⟨by dsimp only; decide, by show 1 ≤ 3; decide, fun t ht => ?_⟩
            rw [List.mem_singleton.mp ht]
            exact ⟨by show (1 : Int).natAbs ≤ 5; decide, go.1, by have := go.2; show depth (onlyF kk ws) < 4; omega⟩
        · obtain ⟨ms, m, e1, e2, e3⟩ := dZ
          exact ⟨ms, m, by rw [upd_ne (Ne.symm nFd)]; exact e1, by rw [upd_ne (Ne.symm nFl)]; exact e2, e3⟩
        · rw [upd_ne (Ne.symm nFw)]; exact sZ _ _ hwA
      · rintro σ H8 ⟨Lr, zr, xs, cs2, v5, hr8, pr8, lr8, k38, hF8, px8, lc8, ok8, d8, hw8, rfl⟩
        refine hnx _ _ ⟨w, F, ws, cs2, _, _, _, _, _, _, _, _, _, rfl, ⟨SqL.of hw8, w3, nd, nm⟩, ⟨xs, hF8, px8⟩, smok_of w3 ?_ ?_ ok8⟩
        · rw [lc8, lzs]
          split <;> omega
        · rw [lc8, lzs]
          split <;> omega
    · refine iteN (fun e => e0 (by have := V.int.inj (of_decide_eq_true e); omega)) ?_
      refine hnx _ _ ⟨w, D, ws, cs, _, _, _, _, _, _, _, _, _, rfl, ⟨SqL.of wd6.at_, w3, nd, nm⟩, ⟨acc, s6 _ _ hD5 nDd nDl, Paired.mapP prs fun _ _ r => r.mono (s6.i d5)⟩, smok_of w3 lcs.1 lcs.2 oks⟩
  clear wd3 wd4 wd5 prs oks lcs hp5 hw nwa nwl lw w3 nd nm
  rintro σ H ⟨w, r, ws, cs, v0, v1, v4, v5, v6, v7, v8, v9, v10, rfl, wd, ls, ok⟩
  obtain ⟨us, asc⟩ := asc_ex wd.nd
  have lus : us.length ≤ 3 := Nat.le_trans (asc_sub asc fun _ h => h) wd.w3
  have le8 : 2 ^ us.length ≤ 2 ^ 3 := Nat.pow_le_pow_right (by decide) lus
  refine ⟨_, rfl, r, cs, ws, rfl, ls, ok.ok, ok.srt, wd.nm, fun q H1 s1 at1 => ?_⟩
  refine ⟨q, ws, cs, rfl, at1, wd.nm, fun ys y H2 s2 ascy br => ?_, fun ys zs L v H2 s2 ascy lz kp fw wr ad => ?_⟩
  · have s12 := s1.trans s2
    refine ⟨_, rfl, rfl, _, rfl, iteP (by decide) (iteP rfl ?_)⟩
    refine ⟨_, rfl, rfl, _, rfl, iteP (by decide) ?_⟩
    refine ⟨_, rfl, r, cs, ws, rfl, ls.same s12, ok.ok, ok.srt, wd.nm, fun q2 H3 s3 at3 => ?_⟩
    have s13 := s12.trans s3
    refine ⟨q2, ws, cs, rfl, at3, fun ys' x H4 s4 asc' kp => ?_, fun ys' p zs H4 s4 asc' hp lz br' => ?_⟩
    · obtain rfl : ys' = ys := asc_uniq asc' ascy fun _ => Iff.rfl
      exact (kept_bar kp br).elim
    · refine ⟨_, rfl, _, rfl, p, w, r, zs, ws, us, cs, rfl, hp, lz, wd.same (s13.trans s4), asc, ls.same (s13.trans s4), ok.ok, bar_more asc'.2.1 (fun w hw => (asc'.2.2 w).mpr hw) br', fun H5 s5 => ?_⟩
      exact cont H5
  have s12 := s1.trans s2
  have wrr := wr
  obtain ⟨g, dx, pa, sa, z, pv, o, rfl, hg, od, hpa, hps⟩ := wrr
  have mw := made_words ok.ok.made
  have sub : ∀ x ∈ ys, x ∈ us := fun x hx => (asc.2.2 x).mpr (mw x ((ascy.2.2 x).mp hx))
  have subc : ∀ x ∈ wordsC cs, x ∈ ys := fun x hx => (ascy.2.2 x).mpr hx
  have lys : ys.length ≤ 3 := Nat.le_trans (asc_sub ascy mw) ok.ok.ws3
  have ly8 : 2 ^ ys.length ≤ 2 ^ 3 := Nat.pow_le_pow_right (by decide) lys
  have l8 : L.length ≤ 8 := by
    have := parts_few (pl := List.range (2 ^ ys.length)) ad fun c hc hn => absurd (List.mem_range.mpr hc) hn
    rw [List.length_range] at this
    omega
  have lm : L.length ≤ cs.length := by
    obtain ⟨many, hm, ⟨pl, hpl, zz⟩, _⟩ := fw
    have := parts_few ad zz
    rw [((someL_is _ _ _).mp hpl).1] at this
    omega
  have ku : Kept cs.length (2 ^ us.length) (rowsC us cs) (ssC cs) fun k => valP L (kindL us k) :=
    kept_congr (fun k hk => val_cell ascy asc sub ad (fun c hc => kp.1 c hc) hk) (kept_more asc.2.1 sub kp)
  have inc : ∀ p ∈ L, p.1 ∈ (List.range (2 ^ us.length)).map (kindL us) := fun p hp => part_cell ascy asc sub ad hp
  refine ⟨_, rfl, rfl, _, rfl, iteN (by simp) ?_⟩
  refine ⟨_, rfl, r, cs, ws, rfl, ls.same s12, ok.ok, ok.srt, wd.nm, fun q2 H3 s3 at3 => ?_⟩
  have s13 := s12.trans s3
  refine ⟨q2, ws, cs, rfl, at3, fun ys' H4 s4 asc' => ?_⟩
  obtain rfl : ys' = ys := asc_uniq asc' ascy fun _ => Iff.rfl
  refine ⟨fun y br => (kept_bar kp br).elim, fun x _ => ⟨_, rfl, iteN (by decide) ?_⟩⟩
  have s14 := s13.trans s4
  have s24 := s3.trans s4
  refine ⟨_, rfl, _, rfl, _, rfl, w, r, .ref g, L, ws, us, cs, rfl, wr.same s24, wd.same s14, asc, ad.nd, l8, inc, ls.same s14, ok.ok, ok.srt, ku, fun H5 s5 => ⟨_, rfl, iteN (by decide) ?_⟩⟩
  have s15 := s14.trans s5
  have s25 := s24.trans s5
  obtain ⟨xs5, hr5, pr5⟩ := ls.same s15
  refine ⟨_, rfl, g, dx, _, rfl, s25 _ _ hg, L, _, rfl, wr.same s25, L.length, rfl, by omega, ?_⟩
  refine ⟨_, rfl, r, xs5, rfl, .inl (SqL.of hr5), _, _, rfl, rfl, _, rfl, iteN ?_ ?_⟩
  · rw [← paired_len pr5]
    exact fun e => by have := of_decide_eq_true e; omega
  refine ⟨_, rfl, g, dx, _, rfl, s25 _ _ hg, L, _, rfl, wr.same s25, L.length, rfl, by omega, _, _, rfl, _, rfl, by split <;> omega, by split <;> omega, ?_⟩
  refine for_it walk_range (fun i σ H6 => Same H5 H6 ∧ ∃ v7 v8 v9, σ = [v0, v1, some (.ref w), some (.ref r), v4, v5, some (.ref g), v7, v8, v9, v10]) ⟨Same.refl _, _, _, _, rfl⟩ (fun _ _ _ _ _ => trivial) ?_ ?_
  · rintro i x σ H6 H7 hi ⟨s6, v7, v8, v9, rfl⟩ ⟨rfl, rfl⟩
    rw [show ((fun i : Nat => V.int (0 + (i : Int))) i) = V.int (i : Int) from by simp]
    have hi' : i < L.length ∧ i < 5 := by
      by_cases c : (5 : Int) < (L.length : Int)
      · rw [if_pos c] at hi
        have : i < (5 : Int).toNat := hi
        omega
      · rw [if_neg c] at hi
        have : i < (L.length : Int).toNat := hi
        omega
    have s16 := s15.trans s6
    have wd6 := wd.same s16
    refine ⟨_, rfl, w, ws, rfl, wd6.sq, wd6.w3, wd6.nd, fun rc us' zc H8 s8 hrc asc' ks => ?_⟩
    obtain rfl : us' = us := asc_uniq asc' asc fun _ => Iff.rfl
    have nmL : ∀ k ∈ (List.range (2 ^ us'.length)).map (kindL us'), ∀ x ∈ k, Nm x := fun k hk x hx => by
      obtain ⟨c, _, rfl⟩ := List.mem_map.mp hk
      exact wd.nm x ((asc'.2.2 x).mp ((kindL_sub us' c).subset hx))
    refine ⟨_, rfl, rc, _, zc, i, rfl, SqL.of hrc, ks, nmL, by rw [List.length_map, List.length_range]; omega, by omega, fun rs rr H9 s9 hrs ch _ => ?_⟩
    have s19 := s16.trans (s8.trans s9)
    refine ⟨rs, rfl, ⟨_, SqL.of hrs⟩, ?_⟩
    refine for_it (walk_list (xs := rr)) (fun n σ H10 => Same H9 H10 ∧ ∃ v7 v8 v9, σ = [v0, v1, some (.ref w), some (.ref r), v4, v5, some (.ref g), v7, v8, v9, v10]) ⟨Same.refl _, _, _, _, rfl⟩ (fun _ _ H10 _ h => SqL.of (h.1 _ _ hrs)) ?_ ?_
    · rintro n x σ H10 H11 hn ⟨s10, v7, v8, v9, rfl⟩ ⟨rfl, hx⟩
      obtain ⟨p, M, ms, rfl, hp, pm, lM, sM⟩ := (ch x (List.mem_of_getElem? hx)).mono s10.i
      have s20 := s19.trans s10
      have wd10 := wd.same s20
      refine ⟨_, rfl, _, rfl, _, rfl, r, w, p, cs, ws, M, ms, rfl, ls.same s20, ok.five, wd10.sq, wd10.w3, wd10.nd, wd10.nm, .inl (.inl hp), pm, fun k hk => nmL k (sM k hk), fun us2 r2 H12 s12' asc2 ls2 => ?_⟩
      obtain rfl : us2 = us' := asc_uniq asc2 asc fun _ => Iff.rfl
      have wok := wish_ok (us := us2) (M := M) ok lus
      refine ⟨_, rfl, r2, _, ws, rfl, ls2, wok.1, wok.2, wd.nm, fun q3 H13 s13' at13 => ?_⟩
      have lw : (wish cs (othersL us2 M) ws).length = cs.length + 1 := by simp [wish]
      refine ⟨q3, ws, _, rfl, at13, fun ys3 x3 H14 s14' asc3 kp3 => ?_, fun ys3 p3 zs3 H14 s14' asc3 hp3 lz3 br3 => ?_⟩
      · exfalso
        have sub3 : ∀ x ∈ ys3, x ∈ us2 := fun x hx => (asc.2.2 x).mpr (made_words wok.1.made x ((asc3.2.2 x).mp hx))
        have k3 := kept_more asc.2.1 sub3 kp3
        rw [lw] at k3
        obtain ⟨k4, z4⟩ := wish_kept k3
        refine fewest_beats (wide := 0) (a := []) (b := []) (chosen := M) ascy.2.1 asc.2.1 subc fw ad k4 (fun j hj hn => z4 j hj ?_) (by omega)
        exact List.mem_filter.mpr ⟨List.mem_map.mpr ⟨j, List.mem_range.mpr hj, rfl⟩, decide_eq_true hn⟩
      · have s14'' := s13'.trans s14'
        refine ⟨_, rfl, _, rfl, p3, w, r2, zs3, ws, us2, _, rfl, hp3, lz3, wd10.same (s12'.trans s14''), asc, ls2.same s14'', wok.1, bar_more asc3.2.1 (fun w hw => (asc3.2.2 w).mpr hw) br3, fun H15 s15' => ⟨_, rfl, iteN (by decide) ?_⟩⟩
        exact ⟨s10.trans (s12'.trans (s14''.trans s15')), _, _, _, rfl⟩
    · rintro σ H10 ⟨s10, v7, v8, v9, rfl⟩
      exact ⟨s6.trans (s8.trans (s9.trans s10)), _, _, _, rfl⟩
  · rintro σ H6 ⟨s6, v7, v8, v9, rfl⟩
    exact cont H6
end
end Mc
/-! The end: what the head tells, put together. -/
namespace Mc
open PySem PySem.Spec PyProof.Rows L2
theorem two_true {a b : Bool} (h : (a && b) = true) : a = true ∧ b = true := Bool.and_eq_true_iff.mp h
section
variable {K : PySem.W.Frag} {G : Gd}
theorem dun_ok {C m qual : Str} {st : Stmt} {fd : FuncData} (hK : G.K = K) (F : FunD K m qual (defArgs st) (defBody st) (defScope st) [] [] (He.ma K (He.ga K C) m) fd) (h : hDun K C m = true) : DfD G (He.ga K C) m qual st := by
  subst hK
  obtain ⟨h1, h2⟩ := two_true h
  obtain ⟨h3, h4⟩ := two_true h2
  exact ⟨⟨_, fd, F, He.eqO_ok h1, h3, h4⟩⟩
theorem clm_ok {C m qual : Str} {st : Stmt} {fd : FuncData} (hK : G.K = K) (F : FunD K m qual (defArgs st) (defBody st) (defScope st) [] [] (He5.wf K (He.ga K C) "classmethod" m) fd) (r : hRd K C = true) (h : hClm K C m = true) : DfK G (He.ga K C) m qual st := by
  subst hK
  obtain ⟨h1, h2⟩ := two_true h
  obtain ⟨r1, r2⟩ := two_true r
  exact ⟨⟨_, fd, _, _, F, ⟨r1, He.eqO_ok r2⟩, He5.cmet_of h1 h2⟩⟩
theorem is_ok {C : Str} (hK : G.K = K) (cl : Cls K (He.ga K C)) (b : hOb K = true) (h : hIs K C = true) : IsC G (He.ga K C) := by
  subst hK
  obtain ⟨h1, h2⟩ := two_true h
  obtain ⟨h3, h4⟩ := two_true h2
  obtain ⟨b1, b2⟩ := two_true b
  exact ⟨fun H a dx fs e => .base (.ins e cl (He.eqO_ok h1) (He.eqO_ok b1) (of_decide_eq_true b2) (of_decide_eq_true h3)), of_decide_eq_true h4⟩
end
theorem facts {P : Program} {w : World} {K : PySem.W.Frag} {h : Heap} {mg : Str → Option Value} {f : Addr} (X : K.In h) (N : h.Ns mainGlobals mg) (hf : mg ("law" : Str) = some (.ref f)) (c : hObs K = hVal) :
    ∃ fd : FuncData, (∀ (s : Shared) (v : Value), BindsTo s fd ⟨[v], []⟩ [("_law_script", v)]) ∧ ∀ base : Heap, K.In base → base.Ns mainGlobals mg → FnOk P w K mg base CX0 14 f fd ["_law_script"] (spLaw K) := by
  obtain ⟨ca, ce⟩ := hTell c
  have ex : ∀ (i : Nat) (e : PySem.W.Frag → Bool), hEx[i]? = some e → e K = true := fun i e h => by
    have e2 : (hEx.map fun e => e K)[i]? = (hEx.map fun _ => true)[i]? := by rw [ce]
    rw [List.getElem?_map, List.getElem?_map, h] at e2
    exact Option.some.inj e2
  obtain ⟨fd, FL⟩ := ca.def_ 53 (d := hD53) rfl
  have e0 := hf.symm.trans (He.glo_ok X N (ca.fact 72 (f := .glo "law") rfl))
  obtain rfl : f = He.ga K "law" := by cases e0; rfl
  refine ⟨fd, fun s v => FunD.bindsA (ps := ["_law_script"]) FL (fun _ _ _ _ _ _ us hl => match us, hl with | [_], _ => rfl) s [v] rfl, fun base _ _ => ?_⟩
  let G : Gd := ⟨P, w, K, mg, base⟩
  have B : Bl G.mg := ⟨He.free_ok X N (ca.fact 0 (f := .free "isinstance") rfl), He.free_ok X N (ca.fact 1 (f := .free "int") rfl), He.free_ok X N (ca.fact 2 (f := .free "bool") rfl), He.free_ok X N (ca.fact 3 (f := .free "list") rfl), He.free_ok X N (ca.fact 4 (f := .free "tuple") rfl), He.free_ok X N (ca.fact 5 (f := .free "str") rfl), He.free_ok X N (ca.fact 6 (f := .free "set") rfl), He.free_ok X N (ca.fact 7 (f := .free "dict") rfl), He.free_ok X N (ca.fact 8 (f := .free "len") rfl), He.free_ok X N (ca.fact 9 (f := .free "sum") rfl), He.free_ok X N (ca.fact 10 (f := .free "all") rfl), He.free_ok X N (ca.fact 11 (f := .free "abs") rfl), He.free_ok X N (ca.fact 12 (f := .free "min") rfl), He.free_ok X N (ca.fact 13 (f := .free "sorted") rfl), He.free_ok X N (ca.fact 14 (f := .free "enumerate") rfl), He.free_ok X N (ca.fact 15 (f := .free "range") rfl), He.free_ok X N (ca.fact 16 (f := .free "zip") rfl)⟩
  have T : Ct G := ⟨He.str_ok X N (ca.fact 17 (f := .str "LETTERS" letters) rfl), He.int_ok X N (ca.fact 18 (f := .int "MOST_LETTERS" 4) rfl), ⟨He.ga K "BARRED", He.glo_ok X N (ca.fact 73 (f := .glo "BARRED") rfl), fun H => He.tupB_ok (ex 0 _ rfl) H⟩, ⟨He.ga K "SORTS", He.glo_ok X N (ca.fact 74 (f := .glo "SORTS") rfl), fun H => He.tupB_ok (ex 1 _ rfl) H⟩⟩
  have gG : G.mg "Group" = some (.ref (He.ga K "Group")) := He.glo_ok X N (ca.fact 75 (f := .glo "Group") rfl)
  have lG : Cls K (He.ga K "Group") := He.cls_ok (ca.fact 80 (f := .cls "Group") rfl)
  have mG : Mk K (He.ga K "Group") (He.ma K (He.ga K "Group") "__init__") := He.mkr_ok (ca.fact 81 (f := .mkr "Group") rfl)
  have gT : G.mg "Tally" = some (.ref (He.ga K "Tally")) := He.glo_ok X N (ca.fact 76 (f := .glo "Tally") rfl)
  have lT : Cls K (He.ga K "Tally") := He.cls_ok (ca.fact 82 (f := .cls "Tally") rfl)
  have mT : Mk K (He.ga K "Tally") (He.ma K (He.ga K "Tally") "__init__") := He.mkr_ok (ca.fact 83 (f := .mkr "Tally") rfl)
  have gC : G.mg "Claim" = some (.ref (He.ga K "Claim")) := He.glo_ok X N (ca.fact 77 (f := .glo "Claim") rfl)
  have lC : Cls K (He.ga K "Claim") := He.cls_ok (ca.fact 84 (f := .cls "Claim") rfl)
  have mC : Mk K (He.ga K "Claim") (He.ma K (He.ga K "Claim") "__init__") := He.mkr_ok (ca.fact 85 (f := .mkr "Claim") rfl)
  have gB : G.mg "Table" = some (.ref (He.ga K "Table")) := He.glo_ok X N (ca.fact 78 (f := .glo "Table") rfl)
  have lB : Cls K (He.ga K "Table") := He.cls_ok (ca.fact 86 (f := .cls "Table") rfl)
  have mB : Mk K (He.ga K "Table") (He.ma K (He.ga K "Table") "__init__") := He.mkr_ok (ca.fact 87 (f := .mkr "Table") rfl)
  have gW : G.mg "Crowd" = some (.ref (He.ga K "Crowd")) := He.glo_ok X N (ca.fact 79 (f := .glo "Crowd") rfl)
  have lW : Cls K (He.ga K "Crowd") := He.cls_ok (ca.fact 88 (f := .cls "Crowd") rfl)
  have mW : Mk K (He.ga K "Crowd") (He.ma K (He.ga K "Crowd") "__init__") := He.mkr_ok (ca.fact 89 (f := .mkr "Crowd") rfl)
  have gc : Gc G (He.ga K "Group") := ⟨lG, He.noat_ok (ca.fact 90 (f := .noat "Group" "sign") rfl), He.noat_ok (ca.fact 91 (f := .noat "Group" "parts") rfl), He.noat_ok (ca.fact 92 (f := .noat "Group" "word") rfl), He.noat_ok (ca.fact 93 (f := .noat "Group" "number") rfl), He.noat_ok (ca.fact 94 (f := .noat "Group" "names") rfl), He.noat_ok (ca.fact 95 (f := .noat "Group" "script") rfl)⟩
  have tc : Tc G (He.ga K "Tally") := ⟨lT, He.noat_ok (ca.fact 96 (f := .noat "Tally" "terms") rfl), He.noat_ok (ca.fact 97 (f := .noat "Tally" "names") rfl), He.noat_ok (ca.fact 98 (f := .noat "Tally" "script") rfl)⟩
  have kc : Kc G (He.ga K "Claim") := ⟨lC, He.noat_ok (ca.fact 99 (f := .noat "Claim" "word") rfl), He.noat_ok (ca.fact 100 (f := .noat "Claim" "tally") rfl), He.noat_ok (ca.fact 101 (f := .noat "Claim" "names") rfl), He.noat_ok (ca.fact 102 (f := .noat "Claim" "script") rfl)⟩
  have bc : Bc G (He.ga K "Table") := ⟨lB, He.noat_ok (ca.fact 106 (f := .noat "Table" "rows") rfl), He.noat_ok (ca.fact 107 (f := .noat "Table" "many") rfl), He.noat_ok (ca.fact 108 (f := .noat "Table" "under") rfl), He.noat_ok (ca.fact 109 (f := .noat "Table" "basis") rfl)⟩
  have wc : Wc G (He.ga K "Crowd") := ⟨lW, He.noat_ok (ca.fact 103 (f := .noat "Crowd" "parts") rfl), He.noat_ok (ca.fact 104 (f := .noat "Crowd" "script") rfl), He.noat_ok (ca.fact 105 (f := .noat "Crowd" "size") rfl)⟩
  have ob : hOb K = true := ex 3 _ rfl
  have icG : IsC G (He.ga K "Group") := is_ok rfl lG ob (ex 4 _ rfl)
  have icT : IsC G (He.ga K "Tally") := is_ok rfl lT ob (ex 5 _ rfl)
  have sf : PySem.W.selfFirst G.K (He.ga K "Group") = true := ex 2 _ rfl
  have rd : hRd K "Group" = true := ex 6 _ rfl
  have D_is_integer : Df G "is_integer" "is_integer" s_is_integer := (ca.def_ 0 (d := hD0) rfl).elim fun fd F => ⟨⟨_, fd, F, He.glo_ok X N (ca.fact 19 (f := .glo "is_integer") rfl)⟩⟩
  have D_is_sequence : Df G "is_sequence" "is_sequence" s_is_sequence := (ca.def_ 1 (d := hD1) rfl).elim fun fd F => ⟨⟨_, fd, F, He.glo_ok X N (ca.fact 20 (f := .glo "is_sequence") rfl)⟩⟩
  have D_is_name : Df G "is_name" "is_name" s_is_name := (ca.def_ 2 (d := hD2) rfl).elim fun fd F => ⟨⟨_, fd, F, He.glo_ok X N (ca.fact 21 (f := .glo "is_name") rfl)⟩⟩
  have D_ascending : Df G "ascending" "ascending" s_ascending := (ca.def_ 3 (d := hD3) rfl).elim fun fd F => ⟨⟨_, fd, F, He.glo_ok X N (ca.fact 22 (f := .glo "ascending") rfl)⟩⟩
  have D_kind_at : Df G "kind_at" "kind_at" s_kind_at := (ca.def_ 4 (d := hD4) rfl).elim fun fd F => ⟨⟨_, fd, F, He.glo_ok X N (ca.fact 23 (f := .glo "kind_at") rfl)⟩⟩
  have D_kinds : Df G "kinds" "kinds" s_kinds := (ca.def_ 5 (d := hD5) rfl).elim fun fd F => ⟨⟨_, fd, F, He.glo_ok X N (ca.fact 24 (f := .glo "kinds") rfl)⟩⟩
  have D_names_of_kinds : Df G "names_of_kinds" "names_of" s_names_of := (ca.def_ 6 (d := hD6) rfl).elim fun fd F => ⟨⟨_, fd, F, He.glo_ok X N (ca.fact 25 (f := .glo "names_of_kinds") rfl)⟩⟩
  have D_is_kind : Df G "is_kind" "is_kind" s_is_kind := (ca.def_ 7 (d := hD7) rfl).elim fun fd F => ⟨⟨_, fd, F, He.glo_ok X N (ca.fact 26 (f := .glo "is_kind") rfl)⟩⟩
  have D_name_mask : Df G "name_mask" "name_mask" s_name_mask := (ca.def_ 8 (d := hD8) rfl).elim fun fd F => ⟨⟨_, fd, F, He.glo_ok X N (ca.fact 27 (f := .glo "name_mask") rfl)⟩⟩
  have D_many_mask : Df G "many_mask" "many_mask" s_many_mask := (ca.def_ 9 (d := hD9) rfl).elim fun fd F => ⟨⟨_, fd, F, He.glo_ok X N (ca.fact 28 (f := .glo "many_mask") rfl)⟩⟩
  have D_mask_of : Df G "mask_of" "mask_of" s_mask_of := (ca.def_ 10 (d := hD10) rfl).elim fun fd F => ⟨⟨_, fd, F, He.glo_ok X N (ca.fact 29 (f := .glo "mask_of") rfl)⟩⟩
  have D_script_of : Df G "script_of" "script_of" s_script_of := (ca.def_ 11 (d := hD11) rfl).elim fun fd F => ⟨⟨_, fd, F, He.glo_ok X N (ca.fact 30 (f := .glo "script_of") rfl)⟩⟩
  have D_is_term : Df G "is_term" "is_term" s_is_term := (ca.def_ 12 (d := hD12) rfl).elim fun fd F => ⟨⟨_, fd, F, He.glo_ok X N (ca.fact 31 (f := .glo "is_term") rfl)⟩⟩
  have D_row_of : Df G "row_of" "row_of" s_row_of := (ca.def_ 13 (d := hD13) rfl).elim fun fd F => ⟨⟨_, fd, F, He.glo_ok X N (ca.fact 32 (f := .glo "row_of") rfl)⟩⟩
  have D_term_script : Df G "term_script" "term_script" s_term_script := (ca.def_ 14 (d := hD14) rfl).elim fun fd F => ⟨⟨_, fd, F, He.glo_ok X N (ca.fact 33 (f := .glo "term_script") rfl)⟩⟩
  have D_is_part : Df G "is_part" "is_part" s_is_part := (ca.def_ 15 (d := hD15) rfl).elim fun fd F => ⟨⟨_, fd, F, He.glo_ok X N (ca.fact 34 (f := .glo "is_part") rfl)⟩⟩
  have D_added : Df G "added" "added" s_added := (ca.def_ 16 (d := hD16) rfl).elim fun fd F => ⟨⟨_, fd, F, He.glo_ok X N (ca.fact 35 (f := .glo "added") rfl)⟩⟩
  have D_common_part : Df G "common_part" "common_part" s_common_part := (ca.def_ 17 (d := hD17) rfl).elim fun fd F => ⟨⟨_, fd, F, He.glo_ok X N (ca.fact 36 (f := .glo "common_part") rfl)⟩⟩
  have D_lowest : Df G "lowest" "lowest" s_lowest := (ca.def_ 18 (d := hD18) rfl).elim fun fd F => ⟨⟨_, fd, F, He.glo_ok X N (ca.fact 37 (f := .glo "lowest") rfl)⟩⟩
  have D_table_of : Df G "table_of" "table_of" s_table_of := (ca.def_ 19 (d := hD19) rfl).elim fun fd F => ⟨⟨_, fd, F, He.glo_ok X N (ca.fact 38 (f := .glo "table_of") rfl)⟩⟩
  have D_gone_through : Df G "gone_through" "gone_through" s_gone_through := (ca.def_ 20 (d := hD20) rfl).elim fun fd F => ⟨⟨_, fd, F, He.glo_ok X N (ca.fact 39 (f := .glo "gone_through") rfl)⟩⟩
  have D_solved : Df G "solved" "solved" s_solved := (ca.def_ 21 (d := hD21) rfl).elim fun fd F => ⟨⟨_, fd, F, He.glo_ok X N (ca.fact 40 (f := .glo "solved") rfl)⟩⟩
  have D_barred : Df G "barred" "barred" s_barred := (ca.def_ 22 (d := hD22) rfl).elim fun fd F => ⟨⟨_, fd, F, He.glo_ok X N (ca.fact 41 (f := .glo "barred") rfl)⟩⟩
  have D_names_of_deciding : Df G "names_of_deciding" "names_of" s_names_of_2 := (ca.def_ 23 (d := hD23) rfl).elim fun fd F => ⟨⟨_, fd, F, He.glo_ok X N (ca.fact 42 (f := .glo "names_of_deciding") rfl)⟩⟩
  have D_rows_of_deciding : Df G "rows_of_deciding" "rows_of" s_rows_of_2 := (ca.def_ 24 (d := hD24) rfl).elim fun fd F => ⟨⟨_, fd, F, He.glo_ok X N (ca.fact 43 (f := .glo "rows_of_deciding") rfl)⟩⟩
  have D_sorts_of : Df G "sorts_of" "sorts_of" s_sorts_of := (ca.def_ 25 (d := hD25) rfl).elim fun fd F => ⟨⟨_, fd, F, He.glo_ok X N (ca.fact 44 (f := .glo "sorts_of") rfl)⟩⟩
  have D_counted : Df G "counted" "counted" s_counted := (ca.def_ 26 (d := hD26) rfl).elim fun fd F => ⟨⟨_, fd, F, He.glo_ok X N (ca.fact 45 (f := .glo "counted") rfl)⟩⟩
  have D_counts_for : Df G "counts_for" "counts_for" s_counts_for := (ca.def_ 27 (d := hD27) rfl).elim fun fd F => ⟨⟨_, fd, F, He.glo_ok X N (ca.fact 46 (f := .glo "counts_for") rfl)⟩⟩
  have D_possible : Df G "possible" "possible" s_possible := (ca.def_ 28 (d := hD28) rfl).elim fun fd F => ⟨⟨_, fd, F, He.glo_ok X N (ca.fact 47 (f := .glo "possible") rfl)⟩⟩
  have D_some_of : Df G "some_of" "some_of" s_some_of := (ca.def_ 29 (d := hD29) rfl).elim fun fd F => ⟨⟨_, fd, F, He.glo_ok X N (ca.fact 48 (f := .glo "some_of") rfl)⟩⟩
  have D_fewest : Df G "fewest" "fewest" s_fewest := (ca.def_ 30 (d := hD30) rfl).elim fun fd F => ⟨⟨_, fd, F, He.glo_ok X N (ca.fact 49 (f := .glo "fewest") rfl)⟩⟩
  have D_paper : Df G "paper" "paper" s_paper := (ca.def_ 31 (d := hD31) rfl).elim fun fd F => ⟨⟨_, fd, F, He.glo_ok X N (ca.fact 50 (f := .glo "paper") rfl)⟩⟩
  have D__law_deal : Df G "_law_deal" "_law_deal" s__law_deal := (ca.def_ 32 (d := hD32) rfl).elim fun fd F => ⟨⟨_, fd, F, He.glo_ok X N (ca.fact 51 (f := .glo "_law_deal") rfl)⟩⟩
  have D__law_draw : Df G "_law_draw" "_law_draw" s__law_draw := (ca.def_ 33 (d := hD33) rfl).elim fun fd F => ⟨⟨_, fd, F, He.glo_ok X N (ca.fact 52 (f := .glo "_law_draw") rfl)⟩⟩
  have D__law_pick : Df G "_law_pick" "_law_pick" s__law_pick := (ca.def_ 34 (d := hD34) rfl).elim fun fd F => ⟨⟨_, fd, F, He.glo_ok X N (ca.fact 53 (f := .glo "_law_pick") rfl)⟩⟩
  have D__law_words : Df G "_law_words" "_law_words" s__law_words := (ca.def_ 35 (d := hD35) rfl).elim fun fd F => ⟨⟨_, fd, F, He.glo_ok X N (ca.fact 54 (f := .glo "_law_words") rfl)⟩⟩
  have D__law_form : Df G "_law_form" "_law_form" s__law_form := (ca.def_ 36 (d := hD36) rfl).elim fun fd F => ⟨⟨_, fd, F, He.glo_ok X N (ca.fact 55 (f := .glo "_law_form") rfl)⟩⟩
  have D__law_has : Df G "_law_has" "_law_has" s__law_has := (ca.def_ 37 (d := hD37) rfl).elim fun fd F => ⟨⟨_, fd, F, He.glo_ok X N (ca.fact 56 (f := .glo "_law_has") rfl)⟩⟩
  have D__law_group : Df G "_law_group" "_law_group" s__law_group := (ca.def_ 38 (d := hD38) rfl).elim fun fd F => ⟨⟨_, fd, F, He.glo_ok X N (ca.fact 57 (f := .glo "_law_group") rfl)⟩⟩
  have D__law_cells : Df G "_law_cells" "_law_cells" s__law_cells := (ca.def_ 39 (d := hD39) rfl).elim fun fd F => ⟨⟨_, fd, F, He.glo_ok X N (ca.fact 58 (f := .glo "_law_cells") rfl)⟩⟩
  have D__law_terms : Df G "_law_terms" "_law_terms" s__law_terms := (ca.def_ 40 (d := hD40) rfl).elim fun fd F => ⟨⟨_, fd, F, He.glo_ok X N (ca.fact 59 (f := .glo "_law_terms") rfl)⟩⟩
  have D__law_claim : Df G "_law_claim" "_law_claim" s__law_claim := (ca.def_ 41 (d := hD41) rfl).elim fun fd F => ⟨⟨_, fd, F, He.glo_ok X N (ca.fact 60 (f := .glo "_law_claim") rfl)⟩⟩
  have D__law_row : Df G "_law_row" "_law_row" s__law_row := (ca.def_ 42 (d := hD42) rfl).elim fun fd F => ⟨⟨_, fd, F, He.glo_ok X N (ca.fact 61 (f := .glo "_law_row") rfl)⟩⟩
  have D__law_made : Df G "_law_made" "_law_made" s__law_made := (ca.def_ 43 (d := hD43) rfl).elim fun fd F => ⟨⟨_, fd, F, He.glo_ok X N (ca.fact 62 (f := .glo "_law_made") rfl)⟩⟩
  have D__law_all_made : Df G "_law_all_made" "_law_all_made" s__law_all_made := (ca.def_ 44 (d := hD44) rfl).elim fun fd F => ⟨⟨_, fd, F, He.glo_ok X N (ca.fact 63 (f := .glo "_law_all_made") rfl)⟩⟩
  have D__law_counts : Df G "_law_counts" "_law_counts" s__law_counts := (ca.def_ 45 (d := hD45) rfl).elim fun fd F => ⟨⟨_, fd, F, He.glo_ok X N (ca.fact 64 (f := .glo "_law_counts") rfl)⟩⟩
  have D__law_value : Df G "_law_value" "_law_value" s__law_value := (ca.def_ 46 (d := hD46) rfl).elim fun fd F => ⟨⟨_, fd, F, He.glo_ok X N (ca.fact 65 (f := .glo "_law_value") rfl)⟩⟩
  have D__law_keeps : Df G "_law_keeps" "_law_keeps" s__law_keeps := (ca.def_ 47 (d := hD47) rfl).elim fun fd F => ⟨⟨_, fd, F, He.glo_ok X N (ca.fact 66 (f := .glo "_law_keeps") rfl)⟩⟩
  have D__law_bars : Df G "_law_bars" "_law_bars" s__law_bars := (ca.def_ 48 (d := hD48) rfl).elim fun fd F => ⟨⟨_, fd, F, He.glo_ok X N (ca.fact 67 (f := .glo "_law_bars") rfl)⟩⟩
  have D__law_only : Df G "_law_only" "_law_only" s__law_only := (ca.def_ 49 (d := hD49) rfl).elim fun fd F => ⟨⟨_, fd, F, He.glo_ok X N (ca.fact 68 (f := .glo "_law_only") rfl)⟩⟩
  have D__law_sets : Df G "_law_sets" "_law_sets" s__law_sets := (ca.def_ 50 (d := hD50) rfl).elim fun fd F => ⟨⟨_, fd, F, He.glo_ok X N (ca.fact 69 (f := .glo "_law_sets") rfl)⟩⟩
  have D__law_next : Df G "_law_next" "_law_next" s__law_next := (ca.def_ 51 (d := hD51) rfl).elim fun fd F => ⟨⟨_, fd, F, He.glo_ok X N (ca.fact 70 (f := .glo "_law_next") rfl)⟩⟩
  have D__law_few : Df G "_law_few" "_law_few" s__law_few := (ca.def_ 52 (d := hD52) rfl).elim fun fd F => ⟨⟨_, fd, F, He.glo_ok X N (ca.fact 71 (f := .glo "_law_few") rfl)⟩⟩
  have I_Group : DfC G (He.ga K "Group") "Group.__init__" s_Group___init__ [.str "", .int 0] := (ca.def_ 54 (d := hD54) rfl).elim fun fd F => ⟨⟨_, fd, F, mG⟩⟩
  have I_Tally : DfC G (He.ga K "Tally") "Tally.__init__" s_Tally___init__ [.ref (He.dflAt ("Tally", some "__init__") 0 K)] := (ca.def_ 55 (d := hD55) rfl).elim fun fd F => ⟨⟨_, fd, F, mT⟩⟩
  have I_Claim : DfC G (He.ga K "Claim") "Claim.__init__" s_Claim___init__ [] := (ca.def_ 56 (d := hD56) rfl).elim fun fd F => ⟨⟨_, fd, F, mC⟩⟩
  have I_Table : DfC G (He.ga K "Table") "Table.__init__" s_Table___init__ [] := (ca.def_ 57 (d := hD57) rfl).elim fun fd F => ⟨⟨_, fd, F, mB⟩⟩
  have I_Crowd : DfC G (He.ga K "Crowd") "Crowd.__init__" s_Crowd___init__ [.ref (He.dflAt ("Crowd", some "__init__") 0 K)] := (ca.def_ 58 (d := hD58) rfl).elim fun fd F => ⟨⟨_, fd, F, mW⟩⟩
  have M_turn : DfM G (He.ga K "Table") "turn" "Table.turn" s_Table_turn := (ca.def_ 59 (d := hD59) rfl).elim fun fd F => ⟨⟨_, fd, F, He.meth_ok (ca.fact 110 (f := .meth "Table" "turn") rfl)⟩⟩
  have M_cleared : DfM G (He.ga K "Table") "cleared" "Table.cleared" s_Table_cleared := (ca.def_ 60 (d := hD60) rfl).elim fun fd F => ⟨⟨_, fd, F, He.meth_ok (ca.fact 111 (f := .meth "Table" "cleared") rfl)⟩⟩
  have M_leaving : DfM G (He.ga K "Table") "leaving" "Table.leaving" s_Table_leaving := (ca.def_ 61 (d := hD61) rfl).elim fun fd F => ⟨⟨_, fd, F, He.meth_ok (ca.fact 112 (f := .meth "Table" "leaving") rfl)⟩⟩
  have M_is_nearer : DfM G (He.ga K "Table") "is_nearer" "Table.is_nearer" s_Table_is_nearer := (ca.def_ 62 (d := hD62) rfl).elim fun fd F => ⟨⟨_, fd, F, He.meth_ok (ca.fact 113 (f := .meth "Table" "is_nearer") rfl)⟩⟩
  have M_lessened : DfM G (He.ga K "Table") "lessened" "Table.lessened" s_Table_lessened := (ca.def_ 63 (d := hD63) rfl).elim fun fd F => ⟨⟨_, fd, F, He.meth_ok (ca.fact 114 (f := .meth "Table" "lessened") rfl)⟩⟩
  have M_helped : DfM G (He.ga K "Table") "helped" "Table.helped" s_Table_helped := (ca.def_ 64 (d := hD64) rfl).elim fun fd F => ⟨⟨_, fd, F, He.meth_ok (ca.fact 115 (f := .meth "Table" "helped") rfl)⟩⟩
  have M_held_at : DfM G (He.ga K "Table") "held_at" "Table.held_at" s_Table_held_at := (ca.def_ 65 (d := hD65) rfl).elim fun fd F => ⟨⟨_, fd, F, He.meth_ok (ca.fact 116 (f := .meth "Table" "held_at") rfl)⟩⟩
  have E__and__ : DfD G (He.ga K "Group") "__and__" "Group.__and__" s_Group___and__ := (ca.def_ 66 (d := hD66) rfl).elim fun fd F => dun_ok (C := "Group") rfl F (ex 7 _ rfl)
  have E__or__ : DfD G (He.ga K "Group") "__or__" "Group.__or__" s_Group___or__ := (ca.def_ 67 (d := hD67) rfl).elim fun fd F => dun_ok (C := "Group") rfl F (ex 8 _ rfl)
  have E__sub__ : DfD G (He.ga K "Group") "__sub__" "Group.__sub__" s_Group___sub__ := (ca.def_ 68 (d := hD68) rfl).elim fun fd F => dun_ok (C := "Group") rfl F (ex 9 _ rfl)
  have E__xor__ : DfD G (He.ga K "Group") "__xor__" "Group.__xor__" s_Group___xor__ := (ca.def_ 69 (d := hD69) rfl).elim fun fd F => dun_ok (C := "Group") rfl F (ex 10 _ rfl)
  have E__invert__ : DfD G (He.ga K "Group") "__invert__" "Group.__invert__" s_Group___invert__ := (ca.def_ 70 (d := hD70) rfl).elim fun fd F => dun_ok (C := "Group") rfl F (ex 11 _ rfl)
  have E__len__ : DfD G (He.ga K "Crowd") "__len__" "Crowd.__len__" s_Crowd___len__ := (ca.def_ 71 (d := hD71) rfl).elim fun fd F => dun_ok (C := "Crowd") rfl F (ex 12 _ rfl)
  have E__getitem__ : DfD G (He.ga K "Crowd") "__getitem__" "Crowd.__getitem__" s_Crowd___getitem__ := (ca.def_ 72 (d := hD72) rfl).elim fun fd F => dun_ok (C := "Crowd") rfl F (ex 13 _ rfl)
  have K_named : DfK G (He.ga K "Group") "named" "Group.named" s_Group_named := (ca.def_ 73 (d := hD73) rfl).elim fun fd F => clm_ok (C := "Group") rfl F rd (ex 14 _ rfl)
  have K_every : DfK G (He.ga K "Group") "every" "Group.every" s_Group_every := (ca.def_ 74 (d := hD74) rfl).elim fun fd F => clm_ok (C := "Group") rfl F rd (ex 15 _ rfl)
  have K_nothing : DfK G (He.ga K "Group") "nothing" "Group.nothing" s_Group_nothing := (ca.def_ 75 (d := hD75) rfl).elim fun fd F => clm_ok (C := "Group") rfl F rd (ex 16 _ rfl)
  have K_at_least : DfK G (He.ga K "Group") "at_least" "Group.at_least" s_Group_at_least := (ca.def_ 76 (d := hD76) rfl).elim fun fd F => clm_ok (C := "Group") rfl F rd (ex 17 _ rfl)
  have is_integer := ok_is_integer B D_is_integer
  have is_sequence := ok_is_sequence B D_is_sequence
  have is_name := ok_is_name B T D_is_name
  have ascending := ok_ascending B D_ascending
  have kind_at := ok_kind_at B D_kind_at
  have kinds := ok_kinds B ascending kind_at D_kinds
  have names_of_kinds := ok_names_of B ascending D_names_of_kinds
  have is_kind := ok_is_kind B is_sequence is_name ascending D_is_kind
  have name_mask := ok_name_mask B D_name_mask
  have many_mask := ok_many_mask B D_many_mask
  have mask_of := ok_mask_of B gc name_mask many_mask D_mask_of 4
  have script_of := ok_script_of B gc D_script_of
  have bG := body_Group B gc names_of_kinds script_of
  have C_G0 := I_Group.calc sc_Group___init__ 3 0 (by simp) rfl (fun T kV doc pm an cdv ct us its hl hm => match us, its, hl, hm with | [_, _, _], [_, _], _, _ => ⟨_, rfl, rfl⟩) (fun vs H Q E h => by obtain ⟨_, _, _, _, _, rfl, _⟩ := h; rfl) bG
  have C_G1 := I_Group.calc sc_Group___init__ 4 1 (by simp) rfl (fun T kV doc pm an cdv ct us its hl hm => match us, its, hl, hm with | [_, _, _, _], [_, _], _, _ => ⟨_, rfl, rfl⟩) (fun vs H Q E h => by obtain ⟨_, _, _, _, _, rfl, _⟩ := h; rfl) bG
  have C_G2 := I_Group.calc sc_Group___init__ 5 2 (by simp) rfl (fun T kV doc pm an cdv ct us its hl hm => match us, its, hl, hm with | [_, _, _, _, _], [_, _], _, _ => ⟨_, rfl, rfl⟩) (fun vs H Q E h => by obtain ⟨_, _, _, _, _, rfl, _⟩ := h; rfl) bG
  have gp : Grp G (He.ga K "Group") := ⟨gG, sf, ok_named B is_name C_G1 K_named, ok_every B C_G0 K_every, ok_nothing B C_G0 K_nothing, ok_at_least B icG gG is_integer is_sequence C_G2 K_at_least, ok___and__ B icG gG C_G0 E__and__, ok___or__ B icG gG C_G0 E__or__, ok___sub__ B icG gG C_G0 E__sub__, ok___xor__ B icG gG C_G0 E__xor__, ok_invert B gG C_G0 E__invert__⟩
  have is_term := ok_is_term B icG gG is_integer D_is_term
  have row_of := ok_row_of B tc mask_of D_row_of
  have term_script := ok_term_script B gc D_term_script
  have C_T := I_Tally.calc sc_Tally___init__ 2 1 (by simp) rfl (fun T kV doc pm an cdv ct us its hl hm => match us, its, hl, hm with | [_, _], [_], _, _ => ⟨_, rfl, rfl⟩) (fun vs H Q E h => by obtain ⟨_, _, _, _, _, rfl, _⟩ := h; rfl) (body_Tally B gc tc is_sequence is_term names_of_kinds term_script)
  have C_C := I_Claim.calcN sc_Claim___init__ (fun _ _ _ _ _ _ us hl => match us, hl with | [_, _, _], _ => rfl) (fun vs H Q E h => by obtain ⟨_, _, _, _, rfl, _⟩ := h; rfl) (body_Claim (C := He.ga K "Group") B T icT tc kc gT)
  have common_part := ok_common_part B D_common_part
  have lowest := ok_lowest B common_part D_lowest
  have cleared := ok_cleared B bc M_cleared
  have is_nearer := ok_is_nearer B bc M_is_nearer
  have leaving_ := ok_leaving B bc is_nearer M_leaving
  have turn := ok_turn B bc cleared M_turn
  have lessened := ok_lessened B bc leaving_ turn M_lessened
  have held_at := ok_held_at B bc M_held_at
  have helped := ok_helped B bc M_helped
  have C_B := I_Table.calcN sc_Table___init__ (fun _ _ _ _ _ _ us hl => match us, hl with | [_, _, _, _], _ => rfl) (fun vs H Q E h => by obtain ⟨_, _, _, _, _, _, rfl, _⟩ := h; rfl) (body_Table B bc)
  have table_of := ok_table_of B gB C_B D_table_of
  have gone := ok_gone_through B bc table_of helped lessened D_gone_through
  have solved := ok_solved B bc gone held_at lowest D_solved
  have barred_ := ok_barred B bc gone lowest D_barred
  have nod := ok_names_of_2 B D_names_of_deciding
  have rod := ok_rows_of_2 (C := He.ga K "Group") (CT := He.ga K "Tally") B kc row_of D_rows_of_deciding
  have sorts := ok_sorts_of (C := He.ga K "Group") (CT := He.ga K "Tally") B kc D_sorts_of
  have counts_for := ok_counts_for B rod sorts kinds solved D_counts_for
  have possible := ok_possible B kc nod counts_for D_possible
  have paper := ok_paper B kc nod rod sorts barred_ D_paper
  have is_part := ok_is_part B is_kind is_integer D_is_part
  have added := ok_added B D_added
  have C_W := I_Crowd.calc sc_Crowd___init__ 2 1 (by simp) rfl (fun T kV doc pm an cdv ct us its hl hm => match us, its, hl, hm with | [_, _], [_], _, _ => ⟨_, rfl, rfl⟩) (fun vs H Q E h => by obtain ⟨_, _, _, _, _, rfl, _⟩ := h; rfl) (body_Crowd B wc is_sequence is_part ascending added)
  have len := ok_len B wc E__len__
  have item := ok_item B wc ascending E__getitem__
  have counted := ok_counted B gW kinds C_W D_counted
  have some_of := ok_some_of B D_some_of
  have fewest := ok_fewest B kc nod rod sorts kinds solved some_of counted D_fewest
  have cells := ok__law_cells B D__law_cells
  have next := ok__law_next B D__law_next
  have has := ok__law_has B D__law_has 4
  have row := ok__law_row B cells has D__law_row
  have group := ok__law_group B gp D__law_group 4 (by omega)
  have made := ok__law_made B gT gC C_T C_C group D__law_made
  have value := ok__law_value B row D__law_value
  have counts := ok__law_counts B wc cells item D__law_counts
  have draw := ok__law_draw B D__law_draw
  have pick := ok__law_pick B draw D__law_pick
  have form := ok__law_form B draw pick D__law_form 3
  have terms := ok__law_terms B draw pick form D__law_terms
  have only := ok__law_only B D__law_only
  exact ok_law (G := G) B ⟨ok__law_deal B D__law_deal, draw, ok__law_words B draw D__law_words, ok__law_claim B draw pick form terms D__law_claim, cells, only, ok__law_all_made B made D__law_all_made, fewest, possible, paper, ok__law_bars B cells row D__law_bars, ok__law_keeps B counts value D__law_keeps, ok__law_sets B next D__law_sets, ok__law_few B cells only D__law_few, len⟩ FL
end Mc
theorem PySem.Challenge.cw_mostcrowds_k22_whole_crowds_of_the_fewes_holds : PySem.Challenge.rw_mostcrowds_k22_whole_crowds_of_the_fewes.Holds := by
  refine Mc.hLaw fun w K h mg fa KX N hmg c => ?_
  obtain ⟨fd, hb, hF⟩ := Mc.facts (P := (PySem.Challenge.rw_mostcrowds_k22_whole_crowds_of_the_fewes).prog) (w := w) KX N hmg c
  exact ⟨fd, Mc.spLaw K, hb, fun H a ns hl hS => ⟨a, ns, rfl, hS, hl, fun _ => rfl⟩, hF⟩
