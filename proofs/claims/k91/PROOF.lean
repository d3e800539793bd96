import PyProof.Rows.All
import Wide.All
import OpenK.AllK
import Wide.FinOn
import PyProof.EqAt
import PyProof.EqKinds
import PyProof.TupleCall
import HandS.ForMost
import HandS.ForExc
import HandS.TupAny
import HandS.TupLe
import HandS.Defaults
import HandS.HeadHook4
import HandS.TupSets
import KE.KIsAll
import KE.KTryMore
import HandS.ExcIs
import KE.KStateDown
import HandS.Head0
import HandS.Head1
import HandS.Head2
import HandS.HeadHook1
import HandS.HeadHook2
import HandS.HeadHook3
import HandS.HeadEnd
import HandS.Ends
import PySem.Challenge.RW_markwalkers_k91_whole_two_at_once
set_option Elab.async false
set_option linter.all false
set_option maxRecDepth 100000
set_option maxHeartbeats 2000000
namespace MW
open PySem PySem.Spec PyProof.Rows L2

/-! ### two heaps: G holds what stands for good, H all that is tracked -/
structure Sit where
  G : Hp
  H : Hp
  sub : Same G H

/-- H grows, and G grows by what is new alone -/
def Le (S T : Sit) : Prop := Same S.G T.G ∧ Same S.H T.H ∧ ∀ a o, S.H a = some o → T.G a = S.G a
theorem Le.refl (S : Sit) : Le S S := ⟨Same.refl _, Same.refl _, fun _ _ _ => rfl⟩
theorem Le.trans {S T U : Sit} (a : Le S T) (b : Le T U) : Le S U :=
  ⟨a.1.trans b.1, a.2.1.trans b.2.1, fun x o h => (b.2.2 x o (a.2.1 x o h)).trans (a.2.2 x o h)⟩
theorem Le.g {S T : Sit} (a : Le S T) : Same S.G T.G := a.1

theorem same_new {H : Hp} {p : Addr} {o : HO} (h : H p = none) : Same H (upd H p o) := fun b u e => by
  rw [upd_ne (ne_of_none e h)]; exact e
theorem same_mut {G H : Hp} {p : Addr} {o : HO} (e : Same G H) (h : G p = none) : Same G (upd H p o) := fun b u q => by
  rw [upd_ne (ne_of_none q h)]; exact e b u q
theorem Sit.gfree (S : Sit) {p : Addr} (h : S.H p = none) : S.G p = none := S.sub.free h

/-- a new thing that stands for good -/
def Sit.push (S : Sit) (p : Addr) (o : HO) (h : S.H p = none) : Sit := ⟨upd S.G p o, upd S.H p o, fun b u e => by
  by_cases q : b = p
  · subst q; rw [upd_same] at e ⊢; exact e
  · rw [upd_ne q] at e ⊢; exact S.sub b u e⟩
theorem Sit.push_le (S : Sit) {p : Addr} {o : HO} (h : S.H p = none) : Le S (S.push p o h) :=
  ⟨same_new (S.gfree h), same_new h, fun a u e => by
    show upd S.G p o a = S.G a
    rw [upd_ne (ne_of_none e h)]⟩
/-- a new thing that will change -/
def Sit.pushM (S : Sit) (p : Addr) (o : HO) (h : S.H p = none) : Sit := ⟨S.G, upd S.H p o, same_mut S.sub (S.gfree h)⟩
theorem Sit.pushM_le (S : Sit) {p : Addr} {o : HO} (h : S.H p = none) : Le S (S.pushM p o h) :=
  ⟨Same.refl _, same_new h, fun _ _ _ => rfl⟩
/-- a thing that may change is changed -/
def Sit.mut (S : Sit) (c : Addr) (o : HO) (h : S.G c = none) : Sit := ⟨S.G, upd S.H c o, same_mut S.sub h⟩
/-- from here on it stands for good -/
def Sit.freeze (S : Sit) (c : Addr) (o : HO) (h : S.H c = some o) : Sit := ⟨upd S.G c o, S.H, fun b u e => by
  by_cases q : b = c
  · subst q; rw [upd_same] at e; rw [h]; exact e
  · rw [upd_ne q] at e; exact S.sub b u e⟩
theorem Sit.freeze_g (S : Sit) {c : Addr} {o : HO} (h : S.H c = some o) (hg : S.G c = none) : Same S.G (S.freeze c o h).G := same_new hg
/-- all of H that stands at a place outside of M stays -/
def Lm (M : List Addr) (S T : Sit) : Prop := Same S.G T.G ∧ (∀ a o, a ∉ M → S.H a = some o → T.H a = some o) ∧ ∀ a o, S.H a = some o → T.G a = S.G a
theorem Le.lm {S T : Sit} (h : Le S T) (M : List Addr) : Lm M S T := ⟨h.1, fun a o _ e => h.2.1 a o e, h.2.2⟩
theorem Lm.g {M : List Addr} {S T : Sit} (h : Lm M S T) : Same S.G T.G := h.1

/-! ### data -/
mutual
inductive Da (K : PySem.W.Frag) (G : Hp) : V → PyData → Prop
  | non : Da K G .non .none
  | bl (b : Bool) : Da K G (.bl b) (.bool b)
  | int (i : Int) : Da K G (.int i) (.int i)
  | str (x : Str) : Da K G (.str x) (.str x)
  | lst {a : Addr} {xs : List V} {ds : List PyData} : G a = some (.lst xs) → DaAll K G xs ds → Da K G (.ref a) (.list ds)
  | tup {a : Addr} {xs : List V} {ds : List PyData} : G a = some (.tup xs) → DaAll K G xs ds → Da K G (.ref a) (.tuple ds)
inductive DaAll (K : PySem.W.Frag) (G : Hp) : List V → List PyData → Prop
  | nil : DaAll K G [] []
  | cons {v : V} {vs : List V} {d : PyData} {ds : List PyData} : Da K G v d → DaAll K G vs ds → DaAll K G (v :: vs) (d :: ds)
end
mutual
theorem Da.up {K : PySem.W.Frag} {G G' : Hp} (e : Same G G') : ∀ {d : PyData} {v : V}, Da K G v d → Da K G' v d
  | .none, _, h => by cases h; exact .non
  | .bool b, _, h => by cases h; exact .bl b
  | .int i, _, h => by cases h; exact .int i
  | .str x, _, h => by cases h; exact .str x
  | .list ds, _, h => by
    cases h with
    | lst s a => exact .lst (e _ _ s) (DaAll.up e a)
  | .tuple ds, _, h => by
    cases h with
    | tup s a => exact .tup (e _ _ s) (DaAll.up e a)
  | .dict _, _, h => nomatch h
theorem DaAll.up {K : PySem.W.Frag} {G G' : Hp} (e : Same G G') : ∀ {ds : List PyData} {vs : List V}, DaAll K G vs ds → DaAll K G' vs ds
  | [], _, h => by cases h; exact .nil
  | d :: ds, _, h => by
    cases h with
    | cons a b => exact .cons (Da.up e a) (DaAll.up e b)
end
mutual
theorem Da.dp {K : PySem.W.Frag} {G : Hp} : ∀ {d : PyData} {v : V}, Da K G v d → Dp K G v d
  | .none, _, h => by cases h; exact .non
  | .bool b, _, h => by cases h; exact .bl b
  | .int i, _, h => by cases h; exact .int i
  | .str x, _, h => by cases h; exact .str x
  | .list ds, _, h => by
    cases h with
    | lst s a => exact .lst (SqL.of s) (DaAll.dp a)
  | .tuple ds, _, h => by
    cases h with
    | tup s a => exact .tup (SqT.of s) (DaAll.dp a)
  | .dict _, _, h => nomatch h
theorem DaAll.dp {K : PySem.W.Frag} {G : Hp} : ∀ {ds : List PyData} {vs : List V}, DaAll K G vs ds → DpAll K G vs ds
  | [], _, h => by cases h; exact .nil
  | d :: ds, _, h => by
    cases h with
    | cons a b => exact .cons (Da.dp a) (DaAll.dp b)
end
section
variable {K : PySem.W.Frag} {G : Hp}
theorem Da.int_eq {v : V} {i : Int} (h : Da K G v (.int i)) : v = .int i := by cases h; rfl
theorem Da.str_eq {v : V} {x : Str} (h : Da K G v (.str x)) : v = .str x := by cases h; rfl
theorem Da.bl_eq {v : V} {b : Bool} (h : Da K G v (.bool b)) : v = .bl b := by cases h; rfl
theorem Da.non_eq {v : V} (h : Da K G v .none) : v = .non := by cases h; rfl
theorem Da.lst_eq {v : V} {ds : List PyData} (h : Da K G v (.list ds)) : ∃ a xs, v = .ref a ∧ G a = some (.lst xs) ∧ DaAll K G xs ds := by
  cases h with
  | lst s a => exact ⟨_, _, rfl, s, a⟩
theorem Da.tup_eq {v : V} {ds : List PyData} (h : Da K G v (.tuple ds)) : ∃ a xs, v = .ref a ∧ G a = some (.tup xs) ∧ DaAll K G xs ds := by
  cases h with
  | tup s a => exact ⟨_, _, rfl, s, a⟩
theorem DaAll.length : ∀ {vs : List V} {ds : List PyData}, DaAll K G vs ds → vs.length = ds.length
  | [], _, h => by cases h; rfl
  | _ :: _, _, h => by
    cases h with
    | cons a b => rw [List.length_cons, List.length_cons, DaAll.length b]
theorem DaAll.get : ∀ {vs : List V} {ds : List PyData} {n : Nat} {d : PyData}, DaAll K G vs ds → ds[n]? = some d → ∃ v, vs[n]? = some v ∧ Da K G v d
  | _, [], n, d, h, e => by simp at e
  | _, d' :: ds, 0, d, h, e => by
    cases h with
    | cons a b =>
      have e2 : d' = d := by simpa using e
      subst e2
      exact ⟨_, rfl, a⟩
  | _, d' :: ds, n + 1, d, h, e => by
    cases h with
    | cons a b =>
      obtain ⟨v, e1, e2⟩ := DaAll.get b (n := n) (d := d) (by simpa using e)
      exact ⟨v, by simpa using e1, e2⟩
theorem DaAll.getV : ∀ {vs : List V} {ds : List PyData} {n : Nat} {v : V}, DaAll K G vs ds → vs[n]? = some v → ∃ d, ds[n]? = some d ∧ Da K G v d
  | [], _, n, v, h, e => by simp at e
  | v' :: vs, _, 0, v, h, e => by
    cases h with
    | cons a b =>
      have e2 : v' = v := by simpa using e
      subst e2
      exact ⟨_, rfl, a⟩
  | v' :: vs, _, n + 1, v, h, e => by
    cases h with
    | cons a b =>
      obtain ⟨d, e1, e2⟩ := DaAll.getV b (n := n) (v := v) (by simpa using e)
      exact ⟨d, by simpa using e1, e2⟩
theorem DaAll.append : ∀ {vs ws : List V} {ds es : List PyData}, DaAll K G vs ds → DaAll K G ws es → DaAll K G (vs ++ ws) (ds ++ es)
  | [], _, _, _, h, h2 => by cases h; exact h2
  | _ :: _, _, _, _, h, h2 => by
    cases h with
    | cons a b => exact .cons a (DaAll.append b h2)
theorem DaAll.take (n : Nat) : ∀ {vs : List V} {ds : List PyData}, DaAll K G vs ds → DaAll K G (vs.take n) (ds.take n) := by
  induction n with
  | zero => intro vs ds h; simp; exact .nil
  | succ n ih =>
    intro vs ds h
    cases h with
    | nil => simp; exact .nil
    | cons a b => simp only [List.take_succ_cons]; exact .cons a (ih b)
theorem DaAll.drop (n : Nat) : ∀ {vs : List V} {ds : List PyData}, DaAll K G vs ds → DaAll K G (vs.drop n) (ds.drop n) := by
  induction n with
  | zero => intro vs ds h; simpa using h
  | succ n ih =>
    intro vs ds h
    cases h with
    | nil => simp; exact .nil
    | cons a b => simp only [List.drop_succ_cons]; exact ih b
theorem DaAll.ints : ∀ (ns : List Int), DaAll K G (ns.map V.int) (ns.map PyData.int)
  | [] => .nil
  | n :: ns => .cons (.int n) (DaAll.ints ns)
theorem DaAll.intsV : ∀ {vs : List V} {ns : List Int}, DaAll K G vs (ns.map PyData.int) → vs = ns.map V.int
  | [], ns, h => by
    cases ns with
    | nil => rfl
    | cons n ns => cases h
  | v :: vs, ns, h => by
    cases ns with
    | nil => cases h
    | cons n ns =>
      cases h with
      | cons a b => rw [a.int_eq, DaAll.intsV b]; rfl
theorem DaAll.boolsV : ∀ {vs : List V} {ns : List Bool}, DaAll K G vs (ns.map PyData.bool) → vs = ns.map V.bl
  | [], ns, h => by
    cases ns with
    | nil => rfl
    | cons n ns => cases h
  | v :: vs, ns, h => by
    cases ns with
    | nil => cases h
    | cons n ns =>
      cases h with
      | cons a b => rw [a.bl_eq, DaAll.boolsV b]; rfl
theorem DaAll.strsV : ∀ {vs : List V} {ns : List Str}, DaAll K G vs (ns.map PyData.str) → vs = ns.map V.str
  | [], ns, h => by
    cases ns with
    | nil => rfl
    | cons n ns => cases h
  | v :: vs, ns, h => by
    cases ns with
    | nil => cases h
    | cons n ns =>
      cases h with
      | cons a b => rw [a.str_eq, DaAll.strsV b]; rfl
end

/-! ### what the slots hold -/
inductive Sl where
  | non
  | d (d : PyData)
  | v (v : V)
def SlOk (K : PySem.W.Frag) (G : Hp) : Option V → Sl → Prop
  | _, .non => True
  | some v, .d d => Da K G v d
  | none, .d _ => False
  | o, .v x => o = some x
def Sv (K : PySem.W.Frag) (G : Hp) (σ : L2.St) (δ : List Sl) : Prop := Paired (SlOk K G) σ δ
section
variable {K : PySem.W.Frag} {G G' : Hp} {σ : L2.St} {δ : List Sl}
theorem SlOk.up (e : Same G G') {o : Option V} {s : Sl} (h : SlOk K G o s) : SlOk K G' o s := by
  cases s with
  | non => cases o <;> exact trivial
  | d x =>
    cases o with
    | none => exact h
    | some v => exact Da.up e h
  | v x => cases o <;> exact h
theorem Sv.up (e : Same G G') (h : Sv K G σ δ) : Sv K G' σ δ := Paired.mapP h fun _ _ q => q.up e
theorem Sv.get : ∀ {σ : L2.St} {δ : List Sl} {i : Nat} {s : Sl}, Sv K G σ δ → δ[i]? = some s → ∃ o, σ[i]? = some o ∧ SlOk K G o s
  | _, _, _, _, .nil, e => by simp at e
  | _, _, 0, _, .cons r _, e => by
    have e2 := Option.some.inj e
    subst e2
    exact ⟨_, rfl, r⟩
  | _, _, i + 1, s, .cons _ t, e => by
    obtain ⟨o, e1, e2⟩ := Sv.get t (i := i) (s := s) (by simpa using e)
    exact ⟨o, by simpa using e1, e2⟩
theorem Sv.dat {i : Nat} {d : PyData} (h : Sv K G σ δ) (e : δ[i]? = some (.d d)) : ∃ v, σ[i]? = some (some v) ∧ Da K G v d := by
  obtain ⟨o, e1, e2⟩ := h.get e
  cases o with
  | none => exact e2.elim
  | some v => exact ⟨v, e1, e2⟩
theorem Sv.val {i : Nat} {v : V} (h : Sv K G σ δ) (e : δ[i]? = some (.v v)) : σ[i]? = some (some v) := by
  obtain ⟨o, e1, e2⟩ := h.get e
  cases o with
  | none => cases e2
  | some w => rw [e1]; exact congrArg some e2
theorem Sv.set {o : Option V} {s : Sl} (q : SlOk K G o s) : ∀ {σ : L2.St} {δ : List Sl} (i : Nat), Sv K G σ δ → Sv K G (σ.set i o) (δ.set i s)
  | _, _, _, .nil => .nil
  | _, _, 0, .cons _ t => .cons q t
  | _, _, i + 1, .cons r t => .cons r (Sv.set q i t)
theorem Sv.len (h : Sv K G σ δ) : σ.length = δ.length := Paired.length h
theorem slOk_d {v : V} {d : PyData} (h : Da K G v d) : SlOk K G (some v) (.d d) := h
theorem slOk_v (v : V) : SlOk K G (some v) (.v v) := rfl
theorem slOk_n (o : Option V) : SlOk K G o .non := by cases o <;> exact trivial
/-- what a value is -/
abbrev VOk (K : PySem.W.Frag) (G : Hp) (v : V) (s : Sl) : Prop := SlOk K G (some v) s
abbrev Vs (K : PySem.W.Frag) (G : Hp) (vs : List V) (ss : List Sl) : Prop := Paired (VOk K G) vs ss
theorem Vs.up (e : Same G G') {vs : List V} {ss : List Sl} (h : Vs K G vs ss) : Vs K G' vs ss := Paired.mapP h fun _ _ q => q.up e
theorem Vs.len {vs : List V} {ss : List Sl} (h : Vs K G vs ss) : vs.length = ss.length := Paired.length h
theorem Vs.da : ∀ {vs : List V} {ds : List PyData}, Vs K G vs (ds.map Sl.d) → DaAll K G vs ds
  | [], ds, h => by
    cases ds with
    | nil => exact .nil
    | cons d ds => cases h
  | v :: vs, ds, h => by
    cases ds with
    | nil => cases h
    | cons d ds =>
      cases h with
      | cons a b => exact .cons a (Vs.da b)
theorem DaAll.vs : ∀ {vs : List V} {ds : List PyData}, DaAll K G vs ds → Vs K G vs (ds.map Sl.d)
  | [], _, h => by cases h; exact .nil
  | _ :: _, _, h => by
    cases h with
    | cons a b => exact .cons a (DaAll.vs b)
/-- the slots of a call: the arguments, then nothing -/
theorem Sv.of_vs : ∀ {vs : List V} {ss : List Sl}, Vs K G vs ss → Sv K G (vs.map some) ss
  | _, _, .nil => .nil
  | _, _, .cons a b => .cons a (Sv.of_vs b)
theorem Sv.nones : ∀ n : Nat, Sv K G (List.replicate n none) (List.replicate n .non)
  | 0 => .nil
  | n + 1 => .cons trivial (Sv.nones n)
theorem Sv.app : ∀ {σ τ : L2.St} {δ ε : List Sl}, Sv K G σ δ → Sv K G τ ε → Sv K G (σ ++ τ) (δ ++ ε)
  | _, _, _, _, .nil, h => h
  | _, _, _, _, .cons a b, h => .cons a (Sv.app b h)
theorem Sv.start {vs : List V} {ss : List Sl} {N : List Str} {n : Nat} (h : Vs K G vs ss) (e : N.length - ss.length = n) : Sv K G (start N vs) (ss ++ List.replicate n .non) := by
  unfold L2.start
  rw [h.len, e]
  exact (Sv.of_vs h).app (Sv.nones n)
theorem Sv.wipe (h : Sv K G σ δ) : ∀ vs : List Nat, Sv K G (L2.wipe σ vs) (vs.foldr (fun i δ => δ.set i .non) δ)
  | [] => h
  | v :: vs => Sv.set (slOk_n none) v (Sv.wipe h vs)
end
end MW

set_option Elab.async false
set_option linter.all false
set_option maxRecDepth 100000
set_option maxHeartbeats 2000000
namespace MW
open PySem PySem.Spec PyProof.Rows L2

theorem sz {n : Nat} (h : n ≤ 1000000) : n ≤ sizeLine := Nat.le_trans h (by decide)
theorem szl {n : Nat} (h : n < 1000000) : n < sizeLine := Nat.lt_of_lt_of_le h (by decide)

theorem not_t {b : Bool} (h : (!b) = true) : b = false := by cases b <;> first | rfl | cases h
theorem not_f {b : Bool} (h : (!b) = false) : b = true := by cases b <;> first | rfl | cases h
/-! ### an expression comes to a thing; a test to an answer; arguments to things -/
def Ev (K : PySem.W.Frag) (te : TE) (σ : L2.St) (S : Sit) (s : Sl) : Prop := ∀ T, Le S T → ∀ Q : VK, (∀ v U, Le T U → VOk K U.G v s → Q v U.H) → te σ T.H Q
abbrev EvD (K : PySem.W.Frag) (te : TE) (σ : L2.St) (S : Sit) (d : PyData) : Prop := Ev K te σ S (.d d)
def EvB (K : PySem.W.Frag) (tt : TT) (σ : L2.St) (S : Sit) (b : Bool) : Prop := ∀ T, Le S T → ∀ Q : Bool → Hp → Prop, (∀ U, Le T U → Q b U.H) → tt σ T.H Q
def EvA (K : PySem.W.Frag) (ta : TA) (σ : L2.St) (S : Sit) (ss : List Sl) : Prop := ∀ T, Le S T → ∀ Q : List V → Hp → Prop, (∀ vs U, Le T U → Vs K U.G vs ss → Q vs U.H) → ta σ T.H Q
def EvO (K : PySem.W.Frag) (to : TO) (σ : L2.St) (S : Sit) (o : Option Int) : Prop := ∀ T, Le S T → ∀ Q : Option Int → Hp → Prop, (∀ U, Le T U → Q o U.H) → to σ T.H Q

section
variable {K : PySem.W.Frag} {σ : L2.St} {S : Sit} {δ : List Sl} {ta tb tc te : TE} {t u : TT}
theorem Ev.up {s : Sl} {T : Sit} (e : Le S T) (h : Ev K te σ S s) : Ev K te σ T s := fun U a Q q => h U (e.trans a) Q q
theorem ev_var {i : Nat} {d : PyData} (hE : Sv K S.G σ δ) (e : δ[i]? = some (.d d)) : EvD K (tVar i) σ S d := fun T a Q q => by
  obtain ⟨v, e1, e2⟩ := hE.dat e
  exact ⟨v, e1, q v T (Le.refl T) (Da.up a.g e2)⟩
theorem ev_varv {i : Nat} {v : V} (hE : Sv K S.G σ δ) (e : δ[i]? = some (.v v)) : Ev K (tVar i) σ S (.v v) := fun T a Q q => ⟨v, hE.val e, q v T (Le.refl T) rfl⟩
theorem ev_ci {i : Int} : EvD K (tC (.int i)) σ S (.int i) := fun T _ Q q => q _ T (Le.refl T) (Da.int i)
theorem ev_cs {x : Str} : EvD K (tC (.str x)) σ S (.str x) := fun T _ Q q => q _ T (Le.refl T) (Da.str x)
theorem ev_cb {b : Bool} : EvD K (tC (.bl b)) σ S (.bool b) := fun T _ Q q => q _ T (Le.refl T) (Da.bl b)
theorem ev_cn : EvD K (tC .non) σ S .none := fun T _ Q q => q _ T (Le.refl T) Da.non
theorem ev_cv {v : V} : Ev K (tC v) σ S (.v v) := fun T _ Q q => q v T (Le.refl T) rfl
/-- two things, then what is made of them -/
theorem ev_two {r : R2} {s1 s2 s : Sl} (ha : Ev K ta σ S s1) (hb : Ev K tb σ S s2)
    (hr : ∀ T x y, Le S T → VOk K T.G x s1 → VOk K T.G y s2 → ∀ Q : VK, (∀ v U, Le T U → VOk K U.G v s → Q v U.H) → r x y T.H Q) : Ev K (tOp r ta tb) σ S s := fun T a Q q =>
  ha T a _ fun x U1 l1 o1 => hb U1 (a.trans l1) _ fun y U2 l2 o2 => hr U2 x y ((a.trans l1).trans l2) (o1.up l2.g) o2 Q fun v U3 l3 o3 => q v U3 ((l1.trans l2).trans l3) o3
theorem ev_I0 {f : Int → Int → Int} {i j : Int} (ha : EvD K ta σ S (.int i)) (hb : EvD K tb σ S (.int j)) : EvD K (tOp (rI0 fun i j => .int (f i j)) ta tb) σ S (.int (f i j)) :=
  ev_two ha hb fun T x y _ hx hy Q q => by
    have ex := Da.int_eq hx; have ey := Da.int_eq hy
    subst ex ey
    exact ⟨i, j, rfl, rfl, q _ T (Le.refl T) (Da.int _)⟩
theorem ev_B0 {f : Int → Int → Bool} {i j : Int} (ha : EvD K ta σ S (.int i)) (hb : EvD K tb σ S (.int j)) : EvD K (tOp (rI0 fun i j => .bl (f i j)) ta tb) σ S (.bool (f i j)) :=
  ev_two ha hb fun T x y _ hx hy Q q => by
    have ex := Da.int_eq hx; have ey := Da.int_eq hy
    subst ex ey
    exact ⟨i, j, rfl, rfl, q _ T (Le.refl T) (Da.bl _)⟩
theorem ev_I {C : Int → Int → Prop} {f : Int → Int → Int} {i j : Int} (ha : EvD K ta σ S (.int i)) (hb : EvD K tb σ S (.int j)) (hc : C i j) : EvD K (tOp (rI C fun i j => .int (f i j)) ta tb) σ S (.int (f i j)) :=
  ev_two ha hb fun T x y _ hx hy Q q => by
    have ex := Da.int_eq hx; have ey := Da.int_eq hy
    subst ex ey
    exact ⟨i, j, rfl, rfl, hc, q _ T (Le.refl T) (Da.int _)⟩
theorem ev_neg {f : Int → Int} {i : Int} (ha : EvD K ta σ S (.int i)) : EvD K (tUn (rU fun i => .int (f i)) ta) σ S (.int (f i)) := fun T a Q q =>
  ha T a _ fun x U l o => by
    have ex := Da.int_eq o
    subst ex
    exact ⟨i, rfl, q _ U l (Da.int _)⟩
theorem ev_chain {f g : Int → Int → Bool} {i j k : Int} (ha : EvD K ta σ S (.int i)) (hb : EvD K tb σ S (.int j)) (hc : EvD K tc σ S (.int k)) :
    EvD K (tChain (rI0 fun i j => .bl (f i j)) (rI0 fun i j => .bl (g i j)) ta tb tc) σ S (.bool (f i j && g j k)) := fun T a Q q =>
  ha T a _ fun x U1 l1 o1 => hb U1 (a.trans l1) _ fun y U2 l2 o2 => by
    have ex := Da.int_eq o1; have ey := Da.int_eq o2
    subst ex ey
    refine ⟨i, j, rfl, rfl, f i j, rfl, ?_⟩
    cases h : f i j with
    | false => exact iteF (q (.bl false) U2 (l1.trans l2) (by rw [h]; exact Da.bl _))
    | true =>
      refine iteT ?_
      refine hc U2 ((a.trans l1).trans l2) _ fun z U3 l3 o3 => ?_
      have ez := Da.int_eq o3
      subst ez
      refine ⟨j, k, rfl, rfl, ?_⟩
      have := q (.bl (g j k)) U3 ((l1.trans l2).trans l3) (by rw [h]; exact Da.bl _)
      exact this
theorem ea_nil : EvA K tNil σ S [] := fun T _ Q q => q [] T (Le.refl T) .nil
theorem ea_cons {tr : TA} {s : Sl} {ss : List Sl} (ha : Ev K ta σ S s) (hr : EvA K tr σ S ss) : EvA K (tCons ta tr) σ S (s :: ss) := fun T a Q q =>
  ha T a _ fun x U l o => hr U (a.trans l) _ fun xs U2 l2 o2 => q _ U2 (l.trans l2) (.cons (o.up l2.g) o2)
theorem ea_ds {tr : TA} {d : PyData} {ds : List PyData} (ha : EvD K ta σ S d) (hr : EvA K tr σ S (ds.map Sl.d)) : EvA K (tCons ta tr) σ S ((d :: ds).map Sl.d) := ea_cons ha hr
theorem ea_d0 : EvA K tNil σ S (([] : List PyData).map Sl.d) := ea_nil
theorem ev_tup {tr : TA} {ds : List PyData} (ha : EvA K tr σ S (ds.map Sl.d)) (hl : ds.length ≤ 1000000) : EvD K (tTup tr) σ S (.tuple ds) := fun T a Q q =>
  ha T a _ fun xs U l o => by
    have h := Vs.da o
    refine ⟨sz (by rw [h.length]; exact hl), fun p hp => ?_⟩
    refine q (.ref p) (U.push p (.tup xs) hp) (l.trans (U.push_le hp)) (Da.tup upd_same (DaAll.up (U.push_le hp).g h))
theorem ev_lst {tr : TA} {ds : List PyData} (ha : EvA K tr σ S (ds.map Sl.d)) (hl : ds.length ≤ 1000000) : EvD K (tLst tr) σ S (.list ds) := fun T a Q q =>
  ha T a _ fun xs U l o => by
    have h := Vs.da o
    refine ⟨sz (by rw [h.length]; exact hl), fun p hp => ?_⟩
    refine q (.ref p) (U.push p (.lst xs) hp) (l.trans (U.push_le hp)) (Da.lst upd_same (DaAll.up (U.push_le hp).g h))
theorem atI_len {α β : Type} {xs : List α} {ys : List β} {i : Int} (h : xs.length = ys.length) : ixN xs.length i = ixN ys.length i := by rw [h]
theorem DaAll.atI {G : Hp} {vs : List V} {ds : List PyData} {i : Int} {d : PyData} (h : DaAll K G vs ds) (e : L2.atI ds i = some d) : ∃ v, L2.atI vs i = some v ∧ Da K G v d := by
  unfold L2.atI at e ⊢
  rw [h.length]
  cases q : ixN ds.length i with
  | none => rw [q] at e; cases e
  | some j =>
    rw [q] at e
    exact h.get e
theorem ev_ixL {i : Int} {ds : List PyData} {d : PyData} (ha : EvD K ta σ S (.list ds)) (hb : EvD K tb σ S (.int i)) (e : L2.atI ds i = some d) : EvD K (tOp (rIxL K) ta tb) σ S d :=
  ev_two ha hb fun T x y _ hx hy Q q => by
    obtain ⟨a, xs, rfl, h1, h2⟩ := Da.lst_eq hx
    have ey := Da.int_eq hy
    subst ey
    obtain ⟨v, e1, e2⟩ := h2.atI e
    exact ⟨a, xs, i, v, rfl, rfl, SqL.of (T.sub _ _ h1), e1, q v T (Le.refl T) e2⟩
theorem ev_ixT {i : Int} {ds : List PyData} {d : PyData} (ha : EvD K ta σ S (.tuple ds)) (hb : EvD K tb σ S (.int i)) (e : L2.atI ds i = some d) : EvD K (tOp (rIxT K) ta tb) σ S d :=
  ev_two ha hb fun T x y _ hx hy Q q => by
    obtain ⟨a, xs, rfl, h1, h2⟩ := Da.tup_eq hx
    have ey := Da.int_eq hy
    subst ey
    obtain ⟨v, e1, e2⟩ := h2.atI e
    exact ⟨a, xs, i, v, rfl, rfl, SqT.of (T.sub _ _ h1), e1, q v T (Le.refl T) e2⟩
theorem ev_ixS {i : Int} {z : Str} {c : Nat} (ha : EvD K ta σ S (.str z)) (hb : EvD K tb σ S (.int i)) (e : L2.atI z.cps.toList i = some c) (hl : z.length ≤ 1000000) : EvD K (tOp rIxS ta tb) σ S (.str ⟨#[c]⟩) :=
  ev_two ha hb fun T x y _ hx hy Q q => by
    have ex := Da.str_eq hx; have ey := Da.int_eq hy
    subst ex ey
    exact ⟨z, i, c, rfl, rfl, sz hl, e, q _ T (Le.refl T) (Da.str _)⟩
/-- a call of a built-in, by its reading -/
theorem ev_cb1 {r : List V → Hp → VK → Prop} {s1 s : Sl} (ha : Ev K ta σ S s1) (hr : ∀ T x, Le S T → VOk K T.G x s1 → ∀ Q : VK, (∀ v U, Le T U → VOk K U.G v s → Q v U.H) → r [x] T.H Q) : Ev K (tCB r (tCons ta tNil)) σ S s := fun T a Q q =>
  ha T a _ fun x U l o => hr U x (a.trans l) o Q fun v U2 l2 o2 => q v U2 (l.trans l2) o2
theorem ev_cb2 {r : List V → Hp → VK → Prop} {s1 s2 s : Sl} (ha : Ev K ta σ S s1) (hb : Ev K tb σ S s2) (hr : ∀ T x y, Le S T → VOk K T.G x s1 → VOk K T.G y s2 → ∀ Q : VK, (∀ v U, Le T U → VOk K U.G v s → Q v U.H) → r [x, y] T.H Q) : Ev K (tCB r (tCons ta (tCons tb tNil))) σ S s := fun T a Q q =>
  ha T a _ fun x U l o => hb U (a.trans l) _ fun y U2 l2 o2 => hr U2 x y ((a.trans l).trans l2) (o.up l2.g) o2 Q fun v U3 l3 o3 => q v U3 ((l.trans l2).trans l3) o3
abbrev rLen (K : PySem.W.Frag) : List V → Hp → VK → Prop := fun xs H Q => ∃ x n, xs = [x] ∧ LenV K x H n ∧ Q (.int n) H
theorem ev_lenL {ds : List PyData} (ha : EvD K ta σ S (.list ds)) : EvD K (tCB (rLen K) (tCons ta tNil)) σ S (.int (ds.length : Nat)) :=
  ev_cb1 ha fun T x _ hx Q q => by
    obtain ⟨a, xs, rfl, h1, h2⟩ := Da.lst_eq hx
    exact ⟨_, ds.length, rfl, .inl ⟨xs, SqL.of (T.sub _ _ h1), h2.length.symm⟩, q _ T (Le.refl T) (Da.int _)⟩
theorem ev_lenT {ds : List PyData} (ha : EvD K ta σ S (.tuple ds)) : EvD K (tCB (rLen K) (tCons ta tNil)) σ S (.int (ds.length : Nat)) :=
  ev_cb1 ha fun T x _ hx Q q => by
    obtain ⟨a, xs, rfl, h1, h2⟩ := Da.tup_eq hx
    exact ⟨_, ds.length, rfl, .inr ⟨xs, SqT.of (T.sub _ _ h1), h2.length.symm⟩, q _ T (Le.refl T) (Da.int _)⟩
theorem ev_lenS {z : Str} (ha : EvD K ta σ S (.str z)) (hl : z.length ≤ 1000000) : EvD K (tCB (rLen K) (tCons ta tNil)) σ S (.int (z.length : Nat)) :=
  ev_cb1 ha fun T x _ hx Q q => by
    have ex := Da.str_eq hx
    subst ex
    exact ⟨_, z.length, rfl, ⟨sz hl, rfl⟩, q _ T (Le.refl T) (Da.int _)⟩
theorem ev_all {bs : List Bool} (ha : EvD K ta σ S (.list (bs.map PyData.bool))) : EvD K (tCB (rAll K) (tCons ta tNil)) σ S (.bool (bs.all id)) :=
  ev_cb1 ha fun T x _ hx Q q => by
    obtain ⟨a, xs, rfl, h1, h2⟩ := Da.lst_eq hx
    have e := h2.boolsV
    subst e
    exact ⟨a, bs, rfl, SqL.of (T.sub _ _ h1), q _ T (Le.refl T) (Da.bl _)⟩
theorem ev_any {bs : List Bool} (ha : EvD K ta σ S (.list (bs.map PyData.bool))) : EvD K (tCB (rAny K) (tCons ta tNil)) σ S (.bool (bs.any id)) :=
  ev_cb1 ha fun T x _ hx Q q => by
    obtain ⟨a, xs, rfl, h1, h2⟩ := Da.lst_eq hx
    have e := h2.boolsV
    subst e
    exact ⟨a, bs, rfl, SqL.of (T.sub _ _ h1), q _ T (Le.refl T) (Da.bl _)⟩
theorem ev_eqD {d e : PyData} (ha : EvD K ta σ S d) (hb : EvD K tb σ S e) (h1 : SeqAt.shaped d = true) (h2 : SeqAt.shaped e = true) : EvD K (tOp (rEqD K) ta tb) σ S (.bool (PyData.eqv d e)) :=
  ev_two ha hb fun T x y _ hx hy Q q => ⟨d, e, (Da.up T.sub hx).dp, (Da.up T.sub hy).dp, h1, h2, q _ T (Le.refl T) (Da.bl _)⟩
theorem ev_neD {d e : PyData} (ha : EvD K ta σ S d) (hb : EvD K tb σ S e) (h1 : SeqAt.shaped d = true) (h2 : SeqAt.shaped e = true) : EvD K (tOp (rNeD K) ta tb) σ S (.bool (!PyData.eqv d e)) :=
  ev_two ha hb fun T x y _ hx hy Q q => ⟨d, e, (Da.up T.sub hx).dp, (Da.up T.sub hy).dp, h1, h2, q _ T (Le.refl T) (Da.bl _)⟩
abbrev rInSign : R2 := fun x y H Q => ∃ (c : Nat) (z : Str), x = .str ⟨#[c]⟩ ∧ y = .str z ∧ Q (.bl (decide (c ∈ z.cps.toList))) H
abbrev rNotInSign : R2 := fun x y H Q => ∃ (c : Nat) (z : Str), x = .str ⟨#[c]⟩ ∧ y = .str z ∧ Q (.bl (!decide (c ∈ z.cps.toList))) H
theorem ev_inS {c : Nat} {z : Str} (ha : EvD K ta σ S (.str ⟨#[c]⟩)) (hb : EvD K tb σ S (.str z)) : EvD K (tOp rInSign ta tb) σ S (.bool (decide (c ∈ z.cps.toList))) :=
  ev_two ha hb fun T x y _ hx hy Q q => by
    have ex := Da.str_eq hx; have ey := Da.str_eq hy
    subst ex ey
    exact ⟨c, z, rfl, rfl, q _ T (Le.refl T) (Da.bl _)⟩
theorem ev_addS {x y : Str} (ha : EvD K ta σ S (.str x)) (hb : EvD K tb σ S (.str y)) (hl : x.length + y.length ≤ 1000000) :
    EvD K (tOp (fun x y H Q => ∃ i j, x = V.str i ∧ y = V.str j ∧ i.length + j.length ≤ sizeLine ∧ Q (.str (i ++ j)) H) ta tb) σ S (.str (x ++ y)) :=
  ev_two ha hb fun T v w _ hx hy Q q => by
    have ex := Da.str_eq hx; have ey := Da.str_eq hy
    subst ex ey
    exact ⟨x, y, rfl, rfl, sz hl, q _ T (Le.refl T) (Da.str _)⟩
theorem ev_catT {xs ys : List PyData} (ha : EvD K ta σ S (.tuple xs)) (hb : EvD K tb σ S (.tuple ys)) (h1 : xs ≠ []) (h2 : ys ≠ []) (hl : xs.length + ys.length ≤ 1000000) : EvD K (tOp (rCatT K) ta tb) σ S (.tuple (xs ++ ys)) :=
  ev_two ha hb fun T v w _ hx hy Q q => by
    obtain ⟨a, us, rfl, e1, e2⟩ := Da.tup_eq hx
    obtain ⟨b, ws, rfl, e3, e4⟩ := Da.tup_eq hy
    have n1 : us ≠ [] := fun z => by
      subst z; cases e2; exact h1 rfl
    have n2 : ws ≠ [] := fun z => by
      subst z; cases e4; exact h2 rfl
    refine ⟨a, b, us, ws, rfl, rfl, SqT.of (T.sub _ _ e1), SqT.of (T.sub _ _ e3), n1, sz (by rw [e2.length, e4.length]; exact hl), fun z => absurd z n2, fun _ p hp => ?_⟩
    exact q (.ref p) (T.push p _ hp) (T.push_le hp) (Da.tup upd_same (DaAll.up (T.push_le hp).g (e2.append e4)))
theorem ev_cat {xs ys : List PyData} (ha : EvD K ta σ S (.list xs)) (hb : EvD K tb σ S (.list ys)) (hl : xs.length + ys.length ≤ 1000000) : EvD K (tOp rCat ta tb) σ S (.list (xs ++ ys)) :=
  ev_two ha hb fun T v w _ hx hy Q q => by
    obtain ⟨a, us, rfl, e1, e2⟩ := Da.lst_eq hx
    obtain ⟨b, ws, rfl, e3, e4⟩ := Da.lst_eq hy
    refine ⟨a, b, us, ws, rfl, rfl, T.sub _ _ e1, T.sub _ _ e3, sz (by rw [e2.length, e4.length]; exact hl), fun p hp => ?_⟩
    exact q (.ref p) (T.push p _ hp) (T.push_le hp) (Da.lst upd_same (DaAll.up (T.push_le hp).g (e2.append e4)))
/-- None or not -/
def isNone : PyData → Bool
  | .none => true
  | _ => false
theorem Da.isN {G : Hp} {v : V} {d : PyData} (h : Da K G v d) : decide (v = V.non) = isNone d := by
  cases h <;> rfl
theorem ev_isN {d : PyData} (ha : EvD K ta σ S d) : EvD K (tOp (fun x y H Q => y = V.non ∧ Q (.bl (decide (x = .non))) H) ta (tC .non)) σ S (.bool (isNone d)) :=
  ev_two ha ev_cn fun T x y _ hx hy Q q => by
    have ey := Da.non_eq hy
    subst ey
    refine ⟨rfl, ?_⟩
    rw [Da.isN hx]
    exact q _ T (Le.refl T) (Da.bl _)
theorem ev_notN {d : PyData} (ha : EvD K ta σ S d) : EvD K (tOp (fun x y H Q => y = V.non ∧ Q (.bl (!decide (x = .non))) H) ta (tC .non)) σ S (.bool (!isNone d)) :=
  ev_two ha ev_cn fun T x y _ hx hy Q q => by
    have ey := Da.non_eq hy
    subst ey
    refine ⟨rfl, ?_⟩
    rw [Da.isN hx]
    exact q _ T (Le.refl T) (Da.bl _)

/-! ### slices -/
theorem eo_none : EvO K tNoPart σ S none := fun T _ _ q => q T (Le.refl T)
theorem eo_some {i : Int} (h : EvD K te σ S (.int i)) : EvO K (tPart te) σ S (some i) := fun T a _ q => h T a _ fun v U l o => by
  have ev := Da.int_eq o
  subst ev
  exact ⟨i, rfl, q U l⟩
def cutD (xs : List PyData) (lo hi : Option Int) : List PyData := (xs.drop (HT.sIx xs.length 0 lo)).take (HT.sIx xs.length xs.length hi - HT.sIx xs.length 0 lo)
theorem DaAll.cut {G : Hp} {vs : List V} {ds : List PyData} (h : DaAll K G vs ds) (lo hi : Option Int) : DaAll K G (cutV vs lo hi) (cutD ds lo hi) := by
  unfold cutV cutD
  rw [h.length]
  exact (h.drop _).take _
theorem ev_slL {tl th : TO} {ds : List PyData} {lo hi : Option Int} (ha : EvD K ta σ S (.list ds)) (h1 : EvO K tl σ S lo) (h2 : EvO K th σ S hi) : EvD K (L2.tSl (rSlL K) ta tl th) σ S (.list (cutD ds lo hi)) := fun T a Q q =>
  ha T a _ fun v U1 l1 o1 => h1 U1 (a.trans l1) _ fun U2 l2 => h2 U2 ((a.trans l1).trans l2) _ fun U3 l3 => by
    obtain ⟨b, us, rfl, e1, e2⟩ := Da.lst_eq (Da.up (l2.trans l3).g o1)
    refine ⟨b, us, rfl, SqL.of (U3.sub _ _ e1), fun p hp => ?_⟩
    exact q (.ref p) (U3.push p _ hp) (((l1.trans l2).trans l3).trans (U3.push_le hp)) (Da.lst upd_same (DaAll.up (U3.push_le hp).g (e2.cut lo hi)))
theorem ev_slT {tl th : TO} {ds : List PyData} {lo hi : Option Int} (ha : EvD K ta σ S (.tuple ds)) (h1 : EvO K tl σ S lo) (h2 : EvO K th σ S hi)
    (hn : ¬ (HT.sIx ds.length 0 lo = 0 ∧ HT.sIx ds.length ds.length hi = ds.length)) : EvD K (L2.tSl (rSlT K) ta tl th) σ S (.tuple (cutD ds lo hi)) := fun T a Q q =>
  ha T a _ fun v U1 l1 o1 => h1 U1 (a.trans l1) _ fun U2 l2 => h2 U2 ((a.trans l1).trans l2) _ fun U3 l3 => by
    obtain ⟨b, us, rfl, e1, e2⟩ := Da.tup_eq (Da.up (l2.trans l3).g o1)
    refine ⟨b, us, rfl, SqT.of (U3.sub _ _ e1), by rw [e2.length]; exact hn, fun p hp => ?_⟩
    exact q (.ref p) (U3.push p _ hp) (((l1.trans l2).trans l3).trans (U3.push_le hp)) (Da.tup upd_same (DaAll.up (U3.push_le hp).g (e2.cut lo hi)))

/-! ### tests -/
theorem eb_test {b : Bool} (h : EvD K te σ S (.bool b)) : EvB K (tTest te) σ S b := fun T a _ q => h T a _ fun v U l o => ⟨b, Da.bl_eq o, q U l⟩
theorem eb_B {b : Bool} (h : EvD K te σ S (.bool b)) : EvB K (tB te) σ S b := fun T a _ q => h T a _ fun v U l o => ⟨b, Da.bl_eq o, q U l⟩
theorem eb_yes : EvB K tYes σ S true := fun T _ _ q => q T (Le.refl T)
theorem eb_not {b : Bool} (h : EvB K t σ S b) : EvB K (tNot t) σ S (!b) := fun T a _ q => h T a _ fun U l => q U l
theorem eb_and {a b : Bool} (h1 : EvB K t σ S a) (h2 : a = true → EvB K u σ S b) : EvB K (tAnd t u) σ S (a && b) := fun T l Q q => h1 T l _ fun U l1 => by
  cases a with
  | true => exact iteT (h2 rfl U (l.trans l1) Q fun U2 l2 => q U2 (l1.trans l2))
  | false => exact iteF (q U l1)
theorem eb_or {a b : Bool} (h1 : EvB K t σ S a) (h2 : a = false → EvB K u σ S b) : EvB K (tOr t u) σ S (a || b) := fun T l Q q => h1 T l _ fun U l1 => by
  cases a with
  | true => exact iteT (q U l1)
  | false => exact iteF (h2 rfl U (l.trans l1) Q fun U2 l2 => q U2 (l1.trans l2))
theorem eb_is {a b : Bool} (h : EvB K t σ S a) (e : a = b) : EvB K t σ S b := e ▸ h
theorem ev_is {d d' : PyData} (h : EvD K te σ S d) (e : d = d') : EvD K te σ S d' := e ▸ h
theorem ev_andV {a b : Bool} (h1 : EvD K ta σ S (.bool a)) (h2 : a = true → EvD K tb σ S (.bool b)) : EvD K (tAndV ta tb) σ S (.bool (a && b)) := fun T l Q q => h1 T l _ fun v U l1 o => by
  refine ⟨a, Da.bl_eq o, ?_⟩
  cases a with
  | true => exact iteT (h2 rfl U (l.trans l1) Q fun v U2 l2 o2 => q v U2 (l1.trans l2) o2)
  | false => exact iteF (q _ U l1 (Da.bl _))
theorem ev_orV {a b : Bool} (h1 : EvD K ta σ S (.bool a)) (h2 : a = false → EvD K tb σ S (.bool b)) : EvD K (tOrV ta tb) σ S (.bool (a || b)) := fun T l Q q => h1 T l _ fun v U l1 o => by
  refine ⟨a, Da.bl_eq o, ?_⟩
  cases a with
  | true => exact iteT (q _ U l1 (Da.bl _))
  | false => exact iteF (h2 rfl U (l.trans l1) Q fun v U2 l2 o2 => q v U2 (l1.trans l2) o2)
theorem ev_notV {a : Bool} (h1 : EvD K ta σ S (.bool a)) : EvD K (tNotV ta) σ S (.bool (!a)) := fun T l Q q => h1 T l _ fun v U l1 o => ⟨a, Da.bl_eq o, q _ U l1 (Da.bl _)⟩
theorem ev_if {b : Bool} {s : Sl} (h : EvB K t σ S b) (h1 : b = true → Ev K ta σ S s) (h2 : b = false → Ev K tb σ S s) : Ev K (tIf t ta tb) σ S s := fun T l Q q => h T l _ fun U l1 => by
  cases b with
  | true => exact iteT (h1 rfl U (l.trans l1) Q fun v U2 l2 o2 => q v U2 (l1.trans l2) o2)
  | false => exact iteF (h2 rfl U (l.trans l1) Q fun v U2 l2 o2 => q v U2 (l1.trans l2) o2)
/-- the truth of a thing -/
theorem eb_truL {ds : List PyData} (h : EvD K ta σ S (.list ds)) : EvB K (fun σ H Q => ta σ H fun x H' => ∃ k, TruV K x H' k ∧ Q k H') σ S (!ds.isEmpty) := fun T a _ q => h T a _ fun v U l o => by
  obtain ⟨b, us, rfl, e1, e2⟩ := Da.lst_eq o
  refine ⟨_, .inl ⟨us, SqL.of (U.sub _ _ e1), ?_⟩, q U l⟩
  cases e2 <;> rfl

/-! ### statements -/
variable {D : Ends} {t1 t2 : TS}
theorem st_seq {T : Sit} (h : t1 { D with nx := t2 D } σ S.H) : tSeq t1 t2 D σ S.H := h
theorem st_asg {i : Nat} {s : Sl} (hE : Sv K S.G σ δ) (he : Ev K te σ S s) (k : ∀ σ' T, Le S T → Sv K T.G σ' (δ.set i s) → D.nx σ' T.H) : tAsg te (gName i) D σ S.H :=
  he S (Le.refl S) _ fun v U l o => k _ U l (Sv.set o i (hE.up l.g))
theorem st_ret {s : Sl} (he : Ev K te σ S s) (k : ∀ v T, Le S T → VOk K T.G v s → D.rt v T.H) : tRet te D σ S.H :=
  he S (Le.refl S) _ fun v U l o => k v U l o
theorem st_drop {s : Sl} (he : Ev K te σ S s) (k : ∀ T, Le S T → D.nx σ T.H) : tDrop te D σ S.H :=
  he S (Le.refl S) _ fun v U l o => k U l
theorem st_if {b : Bool} (hb : EvB K t σ S b) (h1 : b = true → ∀ T, Le S T → t1 D σ T.H) (h2 : b = false → ∀ T, Le S T → t2 D σ T.H) : tIfS t t1 t2 D σ S.H :=
  hb S (Le.refl S) _ fun U l => by
    cases b with
    | true => exact iteT (h1 rfl U l)
    | false => exact iteF (h2 rfl U l)
/-- calls whose promise tells the rest -/
theorem st_asgC {i : Nat} {sp : Sp} {dvs : List V} {E : XK} {tr : TA} {ss : List Sl} (ha : EvA K tr σ S ss) (k : ∀ vs T, Le S T → Vs K T.G vs ss → sp (vs ++ dvs) T.H (fun v H => D.nx (σ.set i (some v)) H) E) : tAsg (tCall sp dvs E tr) (gName i) D σ S.H :=
  ha S (Le.refl S) _ fun vs U l o => k vs U l o
theorem st_retC {sp : Sp} {dvs : List V} {E : XK} {tr : TA} {ss : List Sl} (ha : EvA K tr σ S ss) (k : ∀ vs T, Le S T → Vs K T.G vs ss → sp (vs ++ dvs) T.H D.rt E) : tRet (tCall sp dvs E tr) D σ S.H :=
  ha S (Le.refl S) _ fun vs U l o => k vs U l o
theorem st_dropC {sp : Sp} {dvs : List V} {E : XK} {tr : TA} {ss : List Sl} (ha : EvA K tr σ S ss) (k : ∀ vs T, Le S T → Vs K T.G vs ss → sp (vs ++ dvs) T.H (fun _ H => D.nx σ H) E) : tDrop (tCall sp dvs E tr) D σ S.H :=
  ha S (Le.refl S) _ fun vs U l o => k vs U l o
end

/-- a slot forgotten -/
theorem Sv.forget {K : PySem.W.Frag} {G : Hp} : ∀ {σ : L2.St} {δ : List Sl} (i : Nat), Sv K G σ δ → Sv K G σ (δ.set i .non)
  | _, _, _, .nil => .nil
  | _, _, 0, .cons _ t => .cons (slOk_n _) t
  | _, _, i + 1, .cons r t => .cons r (Sv.forget i t)
/-! ### targets -/
def putD (δ : List Sl) (is : List (Nat × PyData)) : List Sl := is.foldl (fun δ p => δ.set p.1 (.d p.2)) δ
def Tg (K : PySem.W.Frag) (g : TG) (d : PyData) (is : List (Nat × PyData)) : Prop := ∀ (v : V) (σ : L2.St) (T : Sit) (Q : L2.St → Hp → Prop), Da K T.G v d →
  (∀ σ', (∀ δ, Sv K T.G σ δ → Sv K T.G σ' (putD δ is)) → (∀ vs : List Nat, (∀ p ∈ is, p.1 ∈ vs) → wipe σ' vs = wipe σ vs) → Q σ' T.H) → g v σ T.H Q
theorem wipe_set {o : Option V} {i : Nat} : ∀ {vs : List Nat} {σ : L2.St}, i ∈ vs → wipe (σ.set i o) vs = wipe σ vs
  | [], _, h => nomatch h
  | v :: vs, σ, h => by
    show (wipe (σ.set i o) vs).set v none = (wipe σ vs).set v none
    by_cases hi : i ∈ vs
    · rw [wipe_set hi]
    · have e : v = i := by
        rcases List.mem_cons.mp h with z | z
        · exact z.symm
        · exact absurd z hi
      subst e
      have key : ∀ (ws : List Nat) (τ : L2.St), v ∉ ws → wipe (τ.set v o) ws = (wipe τ ws).set v o := by
        intro ws
        induction ws with
        | nil => intro τ _; rfl
        | cons w ws ih =>
          intro τ hw
          have h1 : v ≠ w := fun z => hw (by simp [z])
          have h2 : v ∉ ws := fun z => hw (by simp [z])
          show (wipe (τ.set v o) ws).set w none = ((wipe τ ws).set w none).set v o
          rw [ih τ h2, List.set_comm _ _ h1]
      rw [key vs σ hi, List.set_set]
section
variable {K : PySem.W.Frag}
theorem tg_name {i : Nat} {d : PyData} : Tg K (gName i) d [(i, d)] := fun v σ T Q h q =>
  q _ (fun δ hE => Sv.set (slOk_d h) i hE) fun vs hv => wipe_set (hv (i, d) (by simp))
theorem tg_tup2 {i j : Nat} {a b : PyData} : Tg K (gTup K 2 (gCons (gName i) (gCons (gName j) gNil))) (.tuple [a, b]) [(i, a), (j, b)] := fun v σ T Q h q => by
  obtain ⟨p, xs, rfl, h1, h2⟩ := Da.tup_eq h
  cases h2 with
  | cons e1 h2 =>
    cases h2 with
    | cons e2 h2 =>
      cases h2
      refine ⟨p, _, rfl, SqT.of (T.sub _ _ h1), rfl, _, _, rfl, _, _, rfl, rfl, ?_⟩
      refine q _ (fun δ hE => Sv.set (slOk_d e2) j (Sv.set (slOk_d e1) i hE)) fun vs hv => ?_
      rw [wipe_set (hv (j, b) (by simp)), wipe_set (hv (i, a) (by simp))]
theorem tg_tup3 {i j k : Nat} {a b c : PyData} : Tg K (gTup K 3 (gCons (gName i) (gCons (gName j) (gCons (gName k) gNil)))) (.tuple [a, b, c]) [(i, a), (j, b), (k, c)] := fun v σ T Q h q => by
  obtain ⟨p, xs, rfl, h1, h2⟩ := Da.tup_eq h
  cases h2 with
  | cons e1 h2 =>
    cases h2 with
    | cons e2 h2 =>
      cases h2 with
      | cons e3 h2 =>
        cases h2
        refine ⟨p, _, rfl, SqT.of (T.sub _ _ h1), rfl, _, _, rfl, _, _, rfl, _, _, rfl, rfl, ?_⟩
        refine q _ (fun δ hE => Sv.set (slOk_d e3) k (Sv.set (slOk_d e2) j (Sv.set (slOk_d e1) i hE))) fun vs hv => ?_
        rw [wipe_set (hv (k, c) (by simp)), wipe_set (hv (j, b) (by simp)), wipe_set (hv (i, a) (by simp))]
/-- target = value, the target of any form -/
theorem st_asgG {g : TG} {te : TE} {d : PyData} {is : List (Nat × PyData)} {σ : L2.St} {S : Sit} {δ : List Sl} {D : Ends} (hE : Sv K S.G σ δ) (he : EvD K te σ S d) (hg : Tg K g d is) (k : ∀ σ' T, Le S T → Sv K T.G σ' (putD δ is) → D.nx σ' T.H) : tAsg te g D σ S.H :=
  he S (Le.refl S) _ fun v U l o => hg v σ U _ o fun σ' h1 _ => k σ' U l (h1 δ (hE.up l.g))
end

/-! ### what is walked -/
def ItD (K : PySem.W.Frag) (J : It) (S : Sit) (ds : List PyData) : Prop := ∀ T : Sit, Same S.G T.G →
  (∀ i, i < ds.length → J.go i T.H) ∧ J.stop ds.length T.H ∧ ∀ i d x H', ds[i]? = some d → J.yld i T.H x H' → H' = T.H ∧ Da K T.G x d
def EvI (K : PySem.W.Frag) (wi : TI) (σ : L2.St) (S : Sit) (ds : List PyData) : Prop := ∀ T, Le S T → ∀ R : It → Hp → Prop, (∀ J U, Le T U → ItD K J U ds → R J U.H) → wi σ T.H R
section
variable {K : PySem.W.Frag} {σ : L2.St} {S : Sit} {δ : List Sl} {te : TE} {ta : TA}
theorem ei_list {ds : List PyData} (h : EvD K te σ S (.list ds)) : EvI K (iList K te) σ S ds := fun T a R q => h T a _ fun v U l o => by
  obtain ⟨b, us, rfl, e1, e2⟩ := Da.lst_eq o
  refine ⟨b, rfl, ⟨us, SqL.of (U.sub _ _ e1)⟩, q _ U l fun V g => ?_⟩
  have hs : SqL K V.H b us := SqL.of (V.sub _ _ (g _ _ e1))
  refine ⟨fun i hi => ?_, ⟨us, hs, by rw [e2.length]; exact Nat.le_refl _⟩, fun i d x H' hd hy => ?_⟩
  · obtain ⟨v, h1, _⟩ := e2.get (List.getElem?_eq_getElem hi)
    exact ⟨us, v, hs, h1⟩
  · obtain ⟨h1, h2⟩ := hy
    obtain ⟨v, h3, h4⟩ := e2.get hd
    have h5 := h2 us hs
    rw [h3] at h5
    cases h5
    exact ⟨h1, Da.up g h4⟩
theorem ei_tup {ds : List PyData} (h : EvD K te σ S (.tuple ds)) : EvI K (iTup K te) σ S ds := fun T a R q => h T a _ fun v U l o => by
  obtain ⟨b, us, rfl, e1, e2⟩ := Da.tup_eq o
  refine ⟨b, rfl, ⟨us, SqT.of (U.sub _ _ e1)⟩, q _ U l fun V g => ?_⟩
  have hs : SqT K V.H b us := SqT.of (V.sub _ _ (g _ _ e1))
  refine ⟨fun i hi => ?_, ⟨us, hs, by rw [e2.length]; exact Nat.le_refl _⟩, fun i d x H' hd hy => ?_⟩
  · obtain ⟨v, h1, _⟩ := e2.get (List.getElem?_eq_getElem hi)
    exact ⟨us, v, hs, h1⟩
  · obtain ⟨h1, h2⟩ := hy
    obtain ⟨v, h3, h4⟩ := e2.get hd
    have h5 := h2 us hs
    rw [h3] at h5
    cases h5
    exact ⟨h1, Da.up g h4⟩
def rngD (lo : Int) (n : Nat) : List PyData := (List.range n).map fun k => PyData.int (lo + (k : Nat))
theorem rngD_len (lo : Int) (n : Nat) : (rngD lo n).length = n := by unfold rngD; simp
theorem rngD_get {lo : Int} {n i : Nat} {d : PyData} (h : (rngD lo n)[i]? = some d) : i < n ∧ d = .int (lo + (i : Nat)) := by
  unfold rngD at h
  rw [List.getElem?_map] at h
  by_cases hi : i < n
  · rw [List.getElem?_range hi] at h
    exact ⟨hi, (Option.some.inj h).symm⟩
  · rw [List.getElem?_eq_none (by simpa using hi)] at h
    cases h
theorem itD_rng {lo : Int} {n : Nat} : ItD K (Itr lo n) S (rngD lo n) := fun T _ => by
  refine ⟨fun i hi => ?_, ?_, fun i d x H' hd hy => ?_⟩
  · show i < n
    rwa [rngD_len] at hi
  · show n ≤ (rngD lo n).length
    rw [rngD_len]; exact Nat.le_refl _
  · obtain ⟨h1, h2⟩ := hy
    obtain ⟨_, rfl⟩ := rngD_get hd
    subst h2
    exact ⟨h1, Da.int _⟩
theorem ei_rng1 {j : Int} (h : EvA K ta σ S [.d (.int j)]) (h1 : -(2 ^ 62) ≤ j) (h2 : j < 2 ^ 62) : EvI K (iRng1 ta) σ S (rngD 0 j.toNat) := fun T a R q => h T a _ fun vs U l o => by
  cases o with
  | cons o1 o2 =>
    cases o2
    have ev := Da.int_eq o1
    subst ev
    exact ⟨j, rfl, h1, h2, q _ U l itD_rng⟩
theorem ei_rng2 {i j : Int} (h : EvA K ta σ S [.d (.int i), .d (.int j)]) (h1 : -(2 ^ 62) ≤ i ∧ i < 2 ^ 62 ∧ -(2 ^ 62) ≤ j ∧ j < 2 ^ 62) : EvI K (iRng2 ta) σ S (rngD i (j - i).toNat) := fun T a R q => h T a _ fun vs U l o => by
  cases o with
  | cons o1 o2 =>
    cases o2 with
    | cons o2 o3 =>
      cases o3
      have ev := Da.int_eq o1
      have ev2 := Da.int_eq o2
      subst ev ev2
      exact ⟨i, j, rfl, h1, q _ U l itD_rng⟩
def signsD (x : Str) : List PyData := x.cps.toList.map fun c => PyData.str ⟨#[c]⟩
theorem ei_str {x : Str} (h : EvD K te σ S (.str x)) : EvI K (iStr te) σ S (signsD x) := fun T a R q => h T a _ fun v U l o => by
  have ev := Da.str_eq o
  subst ev
  refine ⟨x, rfl, q _ U l fun V g => ⟨fun i hi => ?_, ?_, fun i d y H' hd hy => ?_⟩⟩
  · show i < x.cps.size
    unfold signsD at hi
    simpa using hi
  · show x.cps.size ≤ (signsD x).length
    unfold signsD
    simp
  · obtain ⟨h1, c, h2, h3⟩ := hy
    unfold signsD at hd
    rw [List.getElem?_map, Array.getElem?_toList, h2] at hd
    have e := Option.some.inj hd
    subst e h3
    exact ⟨h1, Da.str _⟩

/-! ### for -/
theorem st_for {wi : TI} {g : TG} {tb : TS} {D : Ends} {ds : List PyData} (hi : EvI K wi σ S ds) (I : Sit → Nat → L2.St → Sit → Prop) (h0 : ∀ U, Le S U → I U 0 σ U)
    (hs : ∀ U n d σ' T v, Le S U → ds[n]? = some d → Same U.G T.G → I U n σ' T → Da K T.G v d →
      g v σ' T.H fun σ2 H2 => tb { D with nx := fun σ3 H3 => ∃ T', T'.H = H3 ∧ Same T.G T'.G ∧ I U (n + 1) σ3 T', ct := fun σ3 H3 => ∃ T', T'.H = H3 ∧ Same T.G T'.G ∧ I U (n + 1) σ3 T', bk := D.nx } σ2 H2)
    (hd : ∀ U σ' T, Le S U → Same U.G T.G → I U ds.length σ' T → D.nx σ' T.H) : tFor wi g tb D σ S.H :=
  hi S (Le.refl S) _ fun J U l hJ => by
    refine ⟨fun i m σ' H => m = ds.length - i ∧ i ≤ ds.length ∧ ∃ T : Sit, T.H = H ∧ Same U.G T.G ∧ I U i σ' T, ⟨ds.length, by simp, Nat.zero_le _, U, rfl, Same.refl _, h0 U l⟩, ?_⟩
    rintro i m σ' H ⟨rfl, hle, T, rfl, hG, hI⟩
    obtain ⟨j1, j2, j3⟩ := hJ T hG
    by_cases hlt : i < ds.length
    · refine .inr ⟨j1 i hlt, fun σ3 H3 => ∃ T', T'.H = H3 ∧ Same T.G T'.G ∧ I U (i + 1) σ3 T', fun σ3 H3 hN => ?_, fun x H' hy => ?_⟩
      · obtain ⟨T', e, g1, g2⟩ := hN
        exact ⟨ds.length - (i + 1), by omega, rfl, hlt, T', e, hG.trans g1, g2⟩
      · obtain ⟨e, hx⟩ := j3 i _ x H' (List.getElem?_eq_getElem hlt) hy
        subst e
        exact hs U i _ σ' T x l (List.getElem?_eq_getElem hlt) hG hI hx
    · have e : i = ds.length := by omega
      subst e
      exact .inl ⟨j2, hd U σ' T l hG hI⟩

/-- .. over things of one kind -/
theorem st_forT {α : Type} {xs : List α} {enc : α → PyData} {wi : TI} {g : TG} {tb : TS} {D : Ends} (hi : EvI K wi σ S (xs.map enc)) (I : Sit → Nat → L2.St → Sit → Prop) (h0 : ∀ U, Le S U → I U 0 σ U)
    (hs : ∀ U n x σ' T v, Le S U → xs[n]? = some x → Same U.G T.G → I U n σ' T → Da K T.G v (enc x) →
      g v σ' T.H fun σ2 H2 => tb { D with nx := fun σ3 H3 => ∃ T', T'.H = H3 ∧ Same T.G T'.G ∧ I U (n + 1) σ3 T', ct := fun σ3 H3 => ∃ T', T'.H = H3 ∧ Same T.G T'.G ∧ I U (n + 1) σ3 T', bk := D.nx } σ2 H2)
    (hd : ∀ U σ' T, Le S U → Same U.G T.G → I U xs.length σ' T → D.nx σ' T.H) : tFor wi g tb D σ S.H := by
  refine st_for hi I h0 (fun U n d σ' T v l hd hG hI hv => ?_) (fun U σ' T l hG hI => hd U σ' T l hG (by rwa [List.length_map] at hI))
  rw [List.getElem?_map] at hd
  cases e : xs[n]? with
  | none => rw [e] at hd; cases hd
  | some x =>
    rw [e] at hd
    have e2 := Option.some.inj hd
    subst e2
    exact hs U n x σ' T v l e hG hI hv

/-! ### comprehensions -/
theorem ev_lc {α : Type} {xs : List α} {enc : α → PyData} {wi : TI} {g : TG} {tt : TT} {vs : List Nat} (hE : Sv K S.G σ δ) (hi : EvI K wi σ S (xs.map enc)) (tgs : α → List (Nat × PyData)) (p : α → Bool) (f : α → PyData)
    (hg : ∀ x ∈ xs, Tg K g (enc x) (tgs x)) (hv : ∀ x ∈ xs, ∀ q ∈ tgs x, q.1 ∈ vs)
    (ht : ∀ x ∈ xs, ∀ σ' T, Le S T → Sv K T.G σ' (putD (vs.foldr (fun i δ => δ.set i .non) δ) (tgs x)) → EvB K tt σ' T (p x))
    (he : ∀ x ∈ xs, p x = true → ∀ σ' T, Le S T → Sv K T.G σ' (putD (vs.foldr (fun i δ => δ.set i .non) δ) (tgs x)) → EvD K te σ' T (f x)) (hn : xs.length ≤ 900000) :
    EvD K (tLc wi g tt te vs) σ S (.list ((xs.filter p).map f)) := fun T0 a0 Q q =>
  hi T0 a0 _ fun J U l hJ X hX => by
    have lSU : Le S U := a0.trans l
    have hlen : (xs.map enc).length = xs.length := List.length_map _
    let I : Nat → Hp → Prop := fun i H => ∃ (T : Sit) (acc : List V), T.H = H ∧ Le U T ∧ T.G X = none ∧ H X = some (.lst acc) ∧ DaAll K T.G acc (((xs.take i).filter p).map f)
    refine ⟨fun i m H => m = xs.length - i ∧ i ≤ xs.length ∧ I i H, ⟨xs.length, by simp, Nat.zero_le _, U.pushM X _ hX, [], rfl, U.pushM_le hX, U.gfree hX, upd_same, .nil⟩, ?_⟩
    rintro i m H ⟨rfl, hle, T, acc, rfl, lU, gX, eX, dX⟩
    obtain ⟨j1, j2, j3⟩ := hJ T lU.g
    by_cases hlt : i < xs.length
    · have hget : (xs.map enc)[i]? = some (enc xs[i]) := by rw [List.getElem?_map, List.getElem?_eq_getElem hlt]; rfl
      have hmem : xs[i] ∈ xs := List.getElem_mem hlt
      have htake : xs.take (i + 1) = xs.take i ++ [xs[i]] := by rw [List.take_add_one, List.getElem?_eq_getElem hlt]; rfl
      refine .inr ⟨j1 i (by rw [hlen]; exact hlt), I (i + 1), fun H' hN => ⟨xs.length - (i + 1), by omega, rfl, hlt, hN⟩, fun x H' hy => ?_⟩
      obtain ⟨e, hx⟩ := j3 i _ x H' hget hy
      subst e
      refine hg _ hmem x _ T _ hx fun σ' h1 h2 => ⟨(h2 vs (hv _ hmem)).trans ?_, ?_⟩
      · have idem : ∀ (ws : List Nat) (τ : L2.St), (∀ w ∈ ws, w ∈ vs) → wipe (wipe τ ws) vs = wipe τ vs := by
          intro ws
          induction ws with
          | nil => intro τ _; rfl
          | cons w ws ih =>
            intro τ hw
            show wipe ((wipe τ ws).set w none) vs = wipe τ vs
            rw [wipe_set (hw w (by simp)), ih τ fun z hz => hw z (by simp [hz])]
        exact idem vs σ fun w hw => hw
      · have hE' : Sv K T.G σ' (putD (vs.foldr (fun i δ => δ.set i .non) δ) (tgs xs[i])) := h1 _ ((hE.up (lSU.trans lU).g).wipe vs)
        have lST : Le S T := lSU.trans lU
        refine ht _ hmem σ' T lST hE' T (Le.refl T) _ fun V lV => ?_
        have gXV : V.G X = none := (lV.2.2 X _ eX).trans gX
        have eXV : V.H X = some (.lst acc) := lV.2.1 X _ eX
        cases hp : p xs[i] with
        | false =>
          refine iteF ⟨V, acc, rfl, lU.trans lV, gXV, eXV, ?_⟩
          rw [htake, List.filter_append, List.map_append, List.filter_cons, hp]
          simpa using DaAll.up lV.g dX
        | true =>
          refine iteT (he _ hmem hp σ' V (lST.trans lV) (hE'.up lV.g) V (Le.refl V) _ fun y W lW oW => ?_)
          have gXW : W.G X = none := (lW.2.2 X _ eXV).trans gXV
          have eXW : W.H X = some (.lst acc) := lW.2.1 X _ eXV
          have lUW : Le U W := (lU.trans lV).trans lW
          have hacc : acc.length ≤ 900000 := by
            rw [dX.length, List.length_map]
            refine Nat.le_trans (List.length_filter_le _ _) ?_
            rw [List.length_take]
            exact Nat.le_trans (Nat.min_le_right _ _) hn
          refine ⟨acc, eXW, szl (by omega), W.mut X _ gXW, acc ++ [y], rfl, ⟨lUW.1, fun b o hb => ?_, lUW.2.2⟩, gXW, upd_same, ?_⟩
          · show upd W.H X _ b = some o
            have nb : b ≠ X := fun z => by rw [z, hX] at hb; cases hb
            rw [upd_ne nb]
            exact lUW.2.1 b o hb
          · rw [htake, List.filter_append, List.map_append, List.filter_cons, hp]
            exact (DaAll.up (lV.trans lW).g dX).append (.cons oW .nil)
    · have e : i = xs.length := by omega
      subst e
      refine .inl ⟨by rw [hlen] at j2; exact j2, ?_⟩
      refine q (.ref X) (T.freeze X _ eX) (l.trans ⟨fun b o hb => ?_, lU.2.1, fun b o hb => ?_⟩) ?_
      · show upd T.G X _ b = some o
        have nb : b ≠ X := fun z => by
          have := U.sub b o hb
          rw [z, hX] at this; cases this
        rw [upd_ne nb]
        exact lU.1 b o hb
      · show upd T.G X _ b = U.G b
        have nb : b ≠ X := fun z => by rw [z, hX] at hb; cases hb
        rw [upd_ne nb]
        exact lU.2.2 b o hb
      · rw [List.take_length] at dX
        exact Da.lst upd_same (DaAll.up (T.freeze_g eX gX) dX)
/-- .. all of them -/
theorem ev_lcm {α : Type} {xs : List α} {enc : α → PyData} {wi : TI} {g : TG} {vs : List Nat} (hE : Sv K S.G σ δ) (hi : EvI K wi σ S (xs.map enc)) (tgs : α → List (Nat × PyData)) (f : α → PyData)
    (hg : ∀ x ∈ xs, Tg K g (enc x) (tgs x)) (hv : ∀ x ∈ xs, ∀ q ∈ tgs x, q.1 ∈ vs)
    (he : ∀ x ∈ xs, ∀ σ' T, Le S T → Sv K T.G σ' (putD (vs.foldr (fun i δ => δ.set i .non) δ) (tgs x)) → EvD K te σ' T (f x)) (hn : xs.length ≤ 900000) :
    EvD K (tLc wi g tYes te vs) σ S (.list (xs.map f)) := by
  have h := ev_lc hE hi tgs (fun _ => true) f hg hv (fun _ _ _ _ _ _ => eb_yes) (fun x hx _ => he x hx) hn
  rw [List.filter_eq_self.mpr fun _ _ => rfl] at h
  exact h
end
end MW

set_option Elab.async false
set_option linter.all false
set_option maxRecDepth 100000
set_option maxHeartbeats 2000000
namespace MW
open PySem PySem.Spec PyProof.Rows L2

/-- a def of the text, as the top left it -/
def Def (K : PySem.W.Frag) (mg : Str → Option Value) (x : Str) (st : Stmt) : Prop := ∃ f fd, FunD K x x (defArgs st) (defBody st) (defScope st) [] [] f fd ∧ mg x = some (.ref f)
/-- a name of the module that may be called, and its promise -/
def FnK (P : Program) (w : World) (K : PySem.W.Frag) (mg : Str → Option Value) (base : Heap) (k : Nat) (x : Str) (ps : List Str) (sp : Sp) : Prop :=
  ∃ f fd, FnOk P w K mg base (L2.CX P w) k f fd ps sp ∧ mg x = some (.ref f) ∧ PySem.W.keepIn K (.ref f) = true ∧ Binds K fd ps [] ∧ ∃ oc od osl, K.lookup f = some ⟨oc, od, .func fd, osl⟩
section
variable {P : Program} {w : World} {K : PySem.W.Frag} {mg : Str → Option Value} {base : Heap}
theorem fn_mk {x : Str} {st : Stmt} {N ps : List Str} {k : Nat} {sp : Sp} (D : Def K mg x st) (S : FnScope N ps (defScope st)) (len : ∀ vs H Q E, sp vs H Q E → vs.length = ps.length)
    (hb : ∀ (kV doc pm : Value) (an : Option Addr) (cdv ct : Value) (us : List Value), us.length = ps.length → bindArgs (PySem.W.fnOf x x (defArgs st) (defBody st) (defScope st) .none kV doc pm an cdv ct) ⟨us, []⟩ = pure (ps.zip us))
    (hbody : ∀ (f : Addr) (cdv : Value) (A : Around) (outer : List Env) (s : Shared) (H : Hp) (vs : List V) (Q : VK) (E : XK), Room k (A.deeper (envOfC x (defScope st) s.heap.objs.size f cdv)) → sp vs H Q E →
      ∃ t, PSs (cxOf (L2.CX P w) P w K mg base N x (defScope st) f cdv A outer s H E) (defBody st) t ∧ t { nx := fun _ H' => Q .non H', rt := Q } (start N vs) H) : FnK P w K mg base (k + 1) x ps sp := by
  obtain ⟨f, fd, F, g⟩ := D
  exact ⟨f, fd, F.ok S len (fun cdv A outer s H vs Q E hr h => hbody f cdv A outer s H vs Q E hr h), g, F.kp, F.bindsN hb, let ⟨oc, od, _, _, _, _, _, _, _, osl, _, lk, _⟩ := F.ex; ⟨oc, od, osl, lk⟩⟩
theorem FnK.imp {k : Nat} {x : Str} {ps : List Str} {sp sp' : Sp} (F : FnK P w K mg base k x ps sp) (h : ∀ vs H Q E, sp' vs H Q E → sp vs H Q E) : FnK P w K mg base k x ps sp' := by
  obtain ⟨f, fd, F, r⟩ := F
  exact ⟨f, fd, F.imp h, r⟩
end
section
variable {X : Cx}
/-- f(e, ..) -/
theorem pe_fn {k : Nat} {x : Str} {ps : List Str} {sp : Sp} {E : XK} {p pos : Pos} {e : Expr} {es : List Expr} {t : TA} (F : FnK X.prog X.w X.K X.mg X.base k x ps sp) (hr : Room k X.A) (hx : Passes (L2.CX X.prog X.w) X E) (ha : PA X (e :: es) t) (hg : Gl X x := by rfl)
    (hdb : (x == ("__debug__" : Str)) = false := by decide) (he : starEach (e :: es) X.env = (false, eval e X.env) :: starEach es X.env := by rfl) (hpl : (backTo pos (starEach es X.env)).any (·.1) = false := by rfl) :
    PE X (.Call (.Name x p) (e :: es) [] pos) (tCall sp [] E t) := by
  obtain ⟨f, fd, F, g, kp, b, _⟩ := F
  exact pe_call F hr hg g kp b .nil hx ha hdb he hpl
/-- the same in a try's body -/
theorem pe_fnS {k : Nat} {x : Str} {ps : List Str} {sp : Sp} {W : WX} {p pos : Pos} {e : Expr} {es : List Expr} {t : TA} (F : FnK X.prog X.w X.K X.mg X.base k x ps sp) (hr : Room k X.A) (tk : Takes X W) (ha : PA X (e :: es) t) (hg : Gl X x := by rfl)
    (hdb : (x == ("__debug__" : Str)) = false := by decide) (he : starEach (e :: es) X.env = (false, eval e X.env) :: starEach es X.env := by rfl) (hpl : (backTo pos (starEach es X.env)).any (·.1) = false := by rfl) :
    PE X (.Call (.Name x p) (e :: es) [] pos) (tCallS sp (WE W) t) := by
  obtain ⟨f, fd, F, g, kp, b, _⟩ := F
  exact pe_callS F hr hg g kp b (fun σ => passAt tk σ) ha hdb he hpl
/-- the module's constants -/
theorem pe_kint {x : Str} {i : Int} {pos : Pos} (h : ∃ t, X.mg x = some (.int i t)) (hg : Gl X x := by rfl) (hd : (x == ("__debug__" : Str)) = false := by decide) : PE X (.Name x pos) (tC (.int i)) := by
  obtain ⟨t, h⟩ := h
  exact pe_glob hg h ⟨t, rfl⟩ hd
theorem pe_kstr {x z : Str} {pos : Pos} (h : ∃ t, X.mg x = some (.str z t)) (hg : Gl X x := by rfl) (hd : (x == ("__debug__" : Str)) = false := by decide) : PE X (.Name x pos) (tC (.str z)) := by
  obtain ⟨t, h⟩ := h
  exact pe_glob hg h ⟨t, rfl⟩ hd
theorem pe_kref {x : Str} {a : Addr} {pos : Pos} (h : X.mg x = some (.ref a)) (hg : Gl X x := by rfl) (hd : (x == ("__debug__" : Str)) = false := by decide) : PE X (.Name x pos) (tC (.ref a)) := pe_glob hg h rfl hd
end
/-! ### the rules with the written part named -/
section
variable {X : Cx} {K : PySem.W.Frag}
theorem kr_len (h : X.K = K := by rfl) : CallR X (.builtin "len") (rLen K) := h ▸ call_len
theorem kr_all (hc : X.calm = true) (h : X.K = K := by rfl) : CallR X (.builtin "all") (rAll K) := h ▸ cr_all hc
theorem kr_any (hc : X.calm = true) (h : X.K = K := by rfl) : CallR X (.builtin "any") (rAny K) := h ▸ cr_any hc
theorem kr_max (hc : X.calm = true) (h : X.K = K := by rfl) : CallR X (.builtin "max") (rMax K) := h ▸ cr_max hc
theorem kr_min (hc : X.calm = true) (h : X.K = K := by rfl) : CallR X (.builtin "min") (rMin K) := h ▸ cr_min hc
theorem kr_eqD (hu : X.A.units + 64 < cLine) (h : X.K = K := by rfl) : OpR X (compareOp .Eq) (rEqD K) := h ▸ op_eqD hu
theorem kr_neD (hu : X.A.units + 64 < cLine) (h : X.K = K := by rfl) : OpR X (compareOp .NotEq) (rNeD K) := h ▸ op_neD hu
theorem kx_list (h : X.K = K := by rfl) : IxR X (rIxL K) := h ▸ ix_list
theorem kx_tup (h : X.K = K := by rfl) : IxR X (rIxT K) := h ▸ ix_tup
theorem ks_list (h : X.K = K := by rfl) : SlR X (rSlL K) := h ▸ sl_list
theorem ks_tup (h : X.K = K := by rfl) : SlR X (rSlT K) := h ▸ sl_tup
theorem kr_catT (h : X.K = K := by rfl) : OpR X (binaryOp .Add) (rCatT K) := h ▸ op_catT
theorem kpi_list {tg l : Expr} {tl : TE} (hl : PE X l tl) (h : X.K = K := by rfl) : PI X tg l (iList K tl) := h ▸ pi_list hl
theorem kpi_tup {tg l : Expr} {tl : TE} (hl : PE X l tl) (h : X.K = K := by rfl) : PI X tg l (iTup K tl) := h ▸ pi_tup hl
theorem kpg_tup {es : List Expr} {k n : Nat} {t : TGs} {pos : Pos} (hc : X.calm = true) (he : PGs X es t) (h : X.K = K := by rfl)
    (hn : (assignEach es X.env).length = n := by rfl) (hst : (assignEach es X.env).findIdx? (·.1) = none := by rfl) : PG X (.Tuple es k pos) (gTup K n t) := h ▸ pg_tup hc he hn hst
end
/-- an own exception class -/
structure Xc (K : PySem.W.Frag) (mg : Str → Option Value) (x : Str) (C : Addr) : Prop where
  g : mg x = some (.ref C)
  q : PySem.W.excIn K C He.veBase "ValueError.__new__" = true
  k : PySem.W.keepIn K (.ref C) = true
  b : PySem.W.subIn K (.ref C) (.type "BaseException") = some true
  t : PySem.W.typeIn K (.ref C) = some (.type "type")
def tRaise (C : Addr) (E : XK) : TS := fun _ _ H => E (.ref C) none H
section
variable {X : Cx}
/-- raise X('..') in a def's body -/
theorem ps_rz {E : XK} {E1 : Value → Shared → Prop} {x m : Str} {C : Addr} {j : Nat} {p p2 pos pos2 : Pos} (c : Xc X.K X.mg x C) (hc : X.calm = true) (hs : X.stack = X.env :: X.outer) (hf : X.env.frame = some X.env.locals) (hex : X.ex = [])
    (hx : X.xe = fun e s' => wpAny (model X.prog X.w) X.A (leaving X.env e) (fun _ s'' => L2.CX X.prog X.w X.outer X.H_0 X.s_0 E e s'') E1 s') (hg : Gl X x := by rfl) (hdb : (x == ("__debug__" : Str)) = false := by decide) :
    PS X (.Raise (some (.Call (.Name x p) [.Constant (.str m) j p2] [] pos)) none pos2) (tRaise C E) :=
  ps_raise hc (takes_of hs hf hex hx) (pmk_own PySem.F.excBase_ValueError c.q c.g c.k (raises_own c.b c.t) hg hdb)
end
end MW

set_option linter.all false
set_option maxRecDepth 100000
namespace MW
/-! ### places in order -/
abbrev Pl := Int × Int
def plt (a b : Pl) : Prop := a.1 < b.1 ∨ (a.1 = b.1 ∧ a.2 < b.2)
instance (a b : Pl) : Decidable (plt a b) := by unfold plt; infer_instance
theorem plt_irr (a : Pl) : ¬ plt a a := by unfold plt; omega
theorem plt_trans {a b c : Pl} (h : plt a b) (k : plt b c) : plt a c := by unfold plt at *; omega
theorem plt_asymm {a b : Pl} (h : plt a b) : ¬ plt b a := by unfold plt at *; omega
theorem plt_tri (a b : Pl) : plt a b ∨ a = b ∨ plt b a := by
  unfold plt
  obtain ⟨x, y⟩ := a
  obtain ⟨z, w⟩ := b
  simp only [Prod.mk.injEq]
  omega
def ins (p : Pl) : List Pl → List Pl
  | [] => [p]
  | q :: r => if plt p q then p :: q :: r else if p = q then q :: r else q :: ins p r
def sd : List Pl → List Pl
  | [] => []
  | p :: r => ins p (sd r)
theorem mem_ins {p a : Pl} : ∀ {l : List Pl}, a ∈ ins p l ↔ a = p ∨ a ∈ l
  | [] => by simp [ins]
  | q :: r => by
    unfold ins
    by_cases h : plt p q
    · rw [if_pos h]; simp
    · rw [if_neg h]
      by_cases e : p = q
      · rw [if_pos e]; subst e; simp
      · rw [if_neg e, List.mem_cons, mem_ins (l := r), List.mem_cons]
        constructor
        · rintro (h1 | h1 | h1)
          · exact .inr (.inl h1)
          · exact .inl h1
          · exact .inr (.inr h1)
        · rintro (h1 | h1 | h1)
          · exact .inr (.inl h1)
          · exact .inl h1
          · exact .inr (.inr h1)
theorem ins_sorted {p : Pl} : ∀ {l : List Pl}, l.Pairwise plt → (ins p l).Pairwise plt
  | [], _ => by simp [ins]
  | q :: r, h => by
    obtain ⟨h1, h2⟩ := List.pairwise_cons.mp h
    unfold ins
    by_cases k : plt p q
    · rw [if_pos k]
      refine List.pairwise_cons.mpr ⟨fun a ha => ?_, h⟩
      rcases List.mem_cons.mp ha with e | e
      · rw [e]; exact k
      · exact plt_trans k (h1 a e)
    · rw [if_neg k]
      by_cases e : p = q
      · rw [if_pos e]; exact h
      · rw [if_neg e]
        refine List.pairwise_cons.mpr ⟨fun a ha => ?_, ins_sorted h2⟩
        rcases mem_ins.mp ha with z | z
        · subst z
          rcases plt_tri a q with y | y | y
          · exact absurd y k
          · exact absurd y e
          · exact y
        · exact h1 a z
theorem mem_sd {a : Pl} : ∀ {l : List Pl}, a ∈ sd l ↔ a ∈ l
  | [] => Iff.rfl
  | p :: r => by rw [sd, mem_ins, mem_sd (l := r), List.mem_cons]
theorem sd_sorted : ∀ l : List Pl, (sd l).Pairwise plt
  | [] => List.Pairwise.nil
  | p :: r => ins_sorted (sd_sorted r)
/-- two rising lists of the same places are one -/
theorem rise_uniq : ∀ {l l' : List Pl}, l.Pairwise plt → l'.Pairwise plt → (∀ a, a ∈ l ↔ a ∈ l') → l = l'
  | [], [], _, _, _ => rfl
  | [], b :: r, _, _, h => absurd ((h b).mpr (by simp)) (by simp)
  | a :: r, [], _, _, h => absurd ((h a).mp (by simp)) (by simp)
  | a :: r, b :: s, h1, h2, h => by
    obtain ⟨p1, p2⟩ := List.pairwise_cons.mp h1
    obtain ⟨q1, q2⟩ := List.pairwise_cons.mp h2
    have e : a = b := by
      rcases List.mem_cons.mp ((h a).mp (by simp)) with e | e
      · exact e
      · rcases List.mem_cons.mp ((h b).mpr (by simp)) with e2 | e2
        · exact e2.symm
        · exact absurd (p1 b e2) (plt_asymm (q1 a e))
    subst e
    have : r = s := rise_uniq p2 q2 fun c => by
      constructor
      · intro hc
        rcases List.mem_cons.mp ((h c).mp (List.mem_cons_of_mem _ hc)) with e | e
        · subst e; exact absurd (p1 c hc) (plt_irr c)
        · exact e
      · intro hc
        rcases List.mem_cons.mp ((h c).mpr (List.mem_cons_of_mem _ hc)) with e | e
        · subst e; exact absurd (q1 c hc) (plt_irr c)
        · exact e
    rw [this]
theorem sd_uniq {l l' : List Pl} (h : l'.Pairwise plt) (hm : ∀ a, a ∈ l' ↔ a ∈ l) : l' = sd l := rise_uniq h (sd_sorted l) fun a => by rw [hm, mem_sd]
theorem sd_id {l : List Pl} (h : l.Pairwise plt) : sd l = l := (sd_uniq h fun _ => Iff.rfl).symm
theorem sd_rise {l : List Pl} (h : sd l = l) : l.Pairwise plt := by rw [← h]; exact sd_sorted l
/-! ### marks -/
abbrev Mk := Int × Int × Int
def plOf (m : Mk) : Pl := (m.1, m.2.1)
def markOk (n : Nat) (m : Mk) : Bool := (decide (0 - 100 ≤ m.1) && decide (m.1 ≤ 100)) && ((decide (0 - 100 ≤ m.2.1) && decide (m.2.1 ≤ 100)) && (decide (1 ≤ m.2.2) && decide (m.2.2 < (n : Int))))
def floorOk (n : Nat) (fl : List Mk) : Bool := decide (fl.length ≤ 200) && (fl.all (markOk n) && decide (sd (fl.map plOf) = fl.map plOf))
end MW

set_option Elab.async false
set_option linter.all false
set_option maxRecDepth 100000
namespace MW
open PySem PySem.Spec PyProof.Rows L2
def eP (p : Pl) : PyData := .tuple [.int p.1, .int p.2]
def eM (m : Mk) : PyData := .tuple [.int m.1, .int m.2.1, .int m.2.2]
/-! ### forms that may be compared -/
def Shp (n : Nat) (d : PyData) : Prop := d.canLay0 = true ∧ d.depth ≤ n
theorem Shp.to {n : Nat} {d : PyData} (h : Shp n d) (hn : n ≤ 64) : SeqAt.shaped d = true := by
  unfold SeqAt.shaped
  rw [h.1, decide_eq_true (Nat.le_trans h.2 hn)]
  rfl
theorem Shp.up {n m : Nat} {d : PyData} (h : Shp n d) (hn : n ≤ m) : Shp m d := ⟨h.1, Nat.le_trans h.2 hn⟩
theorem shp_int (i : Int) : Shp 0 (.int i) := ⟨rfl, Nat.le_refl _⟩
theorem shp_non : Shp 0 .none := ⟨rfl, Nat.le_refl _⟩
theorem shp_bl (b : Bool) : Shp 0 (.bool b) := ⟨rfl, Nat.le_refl _⟩
theorem shp_all {n : Nat} : ∀ {ds : List PyData}, (∀ d ∈ ds, Shp n d) → PyData.canLayAll0 ds = true ∧ PyData.depthAll ds ≤ n
  | [], _ => ⟨rfl, Nat.zero_le _⟩
  | d :: ds, h => by
    obtain ⟨h1, h2⟩ := h d (by simp)
    obtain ⟨h3, h4⟩ := shp_all (ds := ds) fun x hx => h x (List.mem_cons_of_mem _ hx)
    refine ⟨?_, ?_⟩
    · show (d.canLay0 && PyData.canLayAll0 ds) = true
      rw [h1, h3]; rfl
    · show max d.depth (PyData.depthAll ds) ≤ n
      exact Nat.max_le.mpr ⟨h2, h4⟩
theorem shp_list {n : Nat} {ds : List PyData} (h : ∀ d ∈ ds, Shp n d) : Shp (n + 1) (.list ds) := ⟨(shp_all h).1, Nat.succ_le_succ (shp_all h).2⟩
theorem shp_tup {n : Nat} {ds : List PyData} (h : ∀ d ∈ ds, Shp n d) : Shp (n + 1) (.tuple ds) := ⟨(shp_all h).1, Nat.succ_le_succ (shp_all h).2⟩
theorem shp_P (p : Pl) : Shp 1 (eP p) := shp_tup fun d hd => by
  simp at hd
  rcases hd with e | e <;> (subst e; exact shp_int _)
theorem shp_M (m : Mk) : Shp 1 (eM m) := shp_tup fun d hd => by
  simp at hd
  rcases hd with e | e | e <;> (subst e; exact shp_int _)
theorem shp_map {α : Type} {n : Nat} {enc : α → PyData} (h : ∀ a, Shp n (enc a)) (xs : List α) : Shp (n + 1) (.list (xs.map enc)) := shp_list fun d hd => by
  obtain ⟨a, _, rfl⟩ := List.mem_map.mp hd
  exact h a
/-! ### when they are equal -/
theorem eqv_ints (i j : Int) : PyData.eqv (.int i) (.int j) = decide (i = j) := by
  show (i == j) = _
  rw [Bool.beq_eq_decide_eq]
theorem eqv_P (p q : Pl) : PyData.eqv (eP p) (eP q) = decide (p = q) := by
  obtain ⟨a, b⟩ := p
  obtain ⟨c, d⟩ := q
  show (PyData.eqv (.int a) (.int c) && (PyData.eqv (.int b) (.int d) && true)) = _
  rw [eqv_ints, eqv_ints]
  simp [Prod.mk.injEq]
theorem eqv_M (p q : Mk) : PyData.eqv (eM p) (eM q) = decide (p = q) := by
  obtain ⟨a, b, e⟩ := p
  obtain ⟨c, d, f⟩ := q
  show (PyData.eqv (.int a) (.int c) && (PyData.eqv (.int b) (.int d) && (PyData.eqv (.int e) (.int f) && true))) = _
  rw [eqv_ints, eqv_ints, eqv_ints]
  simp [Prod.mk.injEq]
theorem eqvAll_map {α : Type} [DecidableEq α] {enc : α → PyData} (h : ∀ a b, PyData.eqv (enc a) (enc b) = decide (a = b)) : ∀ l l' : List α, PyData.eqvAll (l.map enc) (l'.map enc) = decide (l = l')
  | [], [] => rfl
  | [], _ :: _ => rfl
  | _ :: _, [] => rfl
  | a :: l, b :: l' => by
    show (PyData.eqv (enc a) (enc b) && PyData.eqvAll (l.map enc) (l'.map enc)) = _
    rw [h, eqvAll_map h l l']
    simp
theorem eqv_lists {α : Type} [DecidableEq α] {enc : α → PyData} (h : ∀ a b, PyData.eqv (enc a) (enc b) = decide (a = b)) (l l' : List α) : PyData.eqv (.list (l.map enc)) (.list (l'.map enc)) = decide (l = l') := eqvAll_map h l l'
end MW

set_option Elab.async false
set_option linter.all false
set_option maxRecDepth 100000
set_option maxHeartbeats 2000000
namespace MW
open PySem PySem.Spec PyProof.Rows L2
theorem refs_of {K : PySem.W.Frag} {G : Hp} : ∀ {ps : List Pl} {us : List V}, DaAll K G us (ps.map eP) →
    ∃ ks : List (Addr × List Int), us = ks.map (fun q => V.ref q.1) ∧ ks.map (·.2) = ps.map (fun p => [p.1, p.2]) ∧ ∀ q ∈ ks, G q.1 = some (.tup (q.2.map V.int))
  | [], us, h => by
    cases h
    exact ⟨[], rfl, rfl, fun q hq => nomatch hq⟩
  | p :: ps, us, h => by
    cases h with
    | cons a b =>
      obtain ⟨ks, e1, e2, e3⟩ := refs_of b
      obtain ⟨x, xs, rfl, g, d⟩ := Da.tup_eq a
      have ex : xs = [V.int p.1, V.int p.2] := DaAll.intsV (ns := [p.1, p.2]) d
      subst ex
      refine ⟨(x, [p.1, p.2]) :: ks, by rw [e1]; rfl, by rw [List.map_cons, e2]; rfl, fun q hq => ?_⟩
      rcases List.mem_cons.mp hq with e | e
      · subst e; exact g
      · exact e3 q e
theorem da_refs {K : PySem.W.Frag} {G : Hp} : ∀ {ps : List Pl} {ks : List (Addr × List Int)}, ks.map (·.2) = ps.map (fun p => [p.1, p.2]) → (∀ q ∈ ks, G q.1 = some (.tup (q.2.map V.int))) → DaAll K G (ks.map fun q => V.ref q.1) (ps.map eP)
  | [], ks, e, _ => by
    cases ks with
    | nil => exact .nil
    | cons k ks => cases e
  | p :: ps, ks, e, h => by
    cases ks with
    | nil => cases e
    | cons k ks =>
      have e1 : k.2 = [p.1, p.2] := by
        have := congrArg List.head? e
        simpa using this
      have e2 : ks.map (·.2) = ps.map (fun p => [p.1, p.2]) := by
        have := congrArg List.tail e
        simpa using this
      refine .cons ?_ (da_refs e2 fun q hq => h q (List.mem_cons_of_mem _ hq))
      have g := h k (by simp)
      rw [e1] at g
      exact .tup g (.cons (.int _) (.cons (.int _) .nil))
theorem pr_inj {a b : Pl} (h : [a.1, a.2] = [b.1, b.2]) : a = b := by
  obtain ⟨x, y⟩ := a
  obtain ⟨z, w⟩ := b
  simp at h
  exact Prod.ext h.1 h.2
theorem mem_pr {ps : List Pl} {a : Pl} : [a.1, a.2] ∈ ps.map (fun p => [p.1, p.2]) ↔ a ∈ ps := by
  constructor
  · intro h
    obtain ⟨b, h1, h2⟩ := List.mem_map.mp h
    rw [← pr_inj h2]; exact h1
  · exact fun h => List.mem_map.mpr ⟨a, h, rfl⟩
theorem pr_of {ps : List Pl} {x : List Int} (h : x ∈ ps.map (fun p => [p.1, p.2])) : ∃ p ∈ ps, x = [p.1, p.2] := by
  obtain ⟨b, h1, h2⟩ := List.mem_map.mp h
  exact ⟨b, h1, h2.symm⟩
/-- lists of pairs, as lists of places -/
theorem un_pr {ps : List Pl} : ∀ {xs : List (List Int)}, (∀ x ∈ xs, x ∈ ps.map (fun p => [p.1, p.2])) → ∃ qs : List Pl, xs = qs.map (fun p => [p.1, p.2]) ∧ ∀ q ∈ qs, q ∈ ps
  | [], _ => ⟨[], rfl, fun q hq => nomatch hq⟩
  | x :: xs, h => by
    obtain ⟨qs, e1, e2⟩ := un_pr (xs := xs) fun y hy => h y (List.mem_cons_of_mem _ hy)
    obtain ⟨p, hp, rfl⟩ := pr_of (h x (by simp))
    refine ⟨p :: qs, by rw [e1]; rfl, fun q hq => ?_⟩
    rcases List.mem_cons.mp hq with e | e
    · subst e; exact hp
    · exact e2 q e
section
variable {P : Program} {w : World} {K : PySem.W.Frag} {σ : L2.St} {S : Sit} {ta : TE}
/-- sorted(set(places)), few places, none below 0 -/
theorem ev_sortset0 {ps : List Pl} (ha : EvD K ta σ S (.list (ps.map eP))) (h64 : ps.length < 64) (hb : ∀ p ∈ ps, (0 ≤ p.1 ∧ p.1 < 64) ∧ 0 ≤ p.2 ∧ p.2 < 64) :
    EvD K (tCB (rSortedT K P w) (tCons (tCB (rSetOfT K P w) (tCons ta tNil)) tNil)) σ S (.list ((sd ps).map eP)) := fun T a Q q =>
  ha T a _ fun v U l o => by
    obtain ⟨b, us, rfl, g1, g2⟩ := Da.lst_eq o
    obtain ⟨ks, rfl, e2, e3⟩ := refs_of g2
    have hlen : ks.length < 64 := by
      have := congrArg List.length e2
      rw [List.length_map, List.length_map] at this
      omega
    refine ⟨b, ks, rfl, SqL.of (U.sub _ _ g1), fun p hp => SqT.of (U.sub _ _ (e3 p hp)), hlen, fun x L hx h1 h2 => ?_⟩
    have hL : ∀ p ∈ L, p.2 ∈ ps.map (fun p => [p.1, p.2]) := fun p hp => by
      rw [← e2]
      exact List.mem_map.mpr ⟨p, h1 p hp, rfl⟩
    refine ⟨x, L, 2, 64, rfl, upd_same, fun p hp => ?_, by decide, fun p hp => ?_, fun L' y hperm hnd _ hpw hy => ?_⟩
    · refine SqT.of ?_
      have g := U.sub _ _ (e3 p (h1 p hp))
      rw [upd_ne (ne_of_none g hx)]
      exact g
    · obtain ⟨z, hz, e⟩ := pr_of (hL p hp)
      rw [e]
      refine ⟨rfl, fun m hm => ?_⟩
      obtain ⟨b1, b2⟩ := hb z hz
      simp at hm
      rcases hm with e | e
      · subst e; exact b1
      · subst e; exact b2
    · have hL' : ∀ p ∈ L', p ∈ L := fun p hp => hperm.mem_iff.mp hp
      obtain ⟨qs, f1, f2⟩ := un_pr (ps := ps) (xs := L'.map (·.2)) fun z hz => by
        obtain ⟨p, hp, rfl⟩ := List.mem_map.mp hz
        exact hL p (hL' p hp)
      have hq : qs = sd ps := by
        refine sd_uniq ?_ fun a => ⟨f2 a, fun ha => ?_⟩
        · have nd : (qs.map fun p => [p.1, p.2]).Nodup := by rw [← f1]; exact hnd
          have pw : (qs.map fun p => [p.1, p.2]).Pairwise (fun a b => TS.code 64 a ≤ TS.code 64 b) := by
            rw [← f1]
            exact List.pairwise_map.mpr hpw
          have both := List.pairwise_map.mp (pw.and nd)
          refine List.Pairwise.imp_of_mem (fun {c d} hc hd h => ?_) both
          obtain ⟨b1, b2⟩ := hb c (f2 c hc)
          obtain ⟨b3, b4⟩ := hb d (f2 d hd)
          exact pair_lt h.1 h.2 b1 b2 b3 b4
        · have h3 : [a.1, a.2] ∈ L.map (·.2) := by
            have : [a.1, a.2] ∈ ks.map (·.2) := by rw [e2]; exact mem_pr.mpr ha
            obtain ⟨p, hp, e⟩ := List.mem_map.mp this
            rw [← e]
            exact h2 p hp
          have h4 : [a.1, a.2] ∈ L'.map (·.2) := by
            obtain ⟨p, hp, e⟩ := List.mem_map.mp h3
            exact List.mem_map.mpr ⟨p, hperm.mem_iff.mpr hp, e⟩
          rw [f1] at h4
          exact mem_pr.mp h4
      subst hq
      let V1 : Sit := U.pushM x (SetTO P w x L) hx
      have lV : Le U V1 := U.pushM_le hx
      refine q (.ref y) (V1.push y _ hy) (l.trans (lV.trans (V1.push_le hy))) (Da.lst upd_same (da_refs f1 fun p hp => ?_))
      exact (lV.trans (V1.push_le hy)).g _ _ (e3 p (h1 p (hL' p hp)))
end
end MW

set_option Elab.async false
set_option linter.all false
set_option maxRecDepth 100000
set_option maxHeartbeats 2000000
namespace MW
open PySem PySem.Spec PyProof.Rows L2
/-- an exception that was raised and caught, held at a -/
def ExC (cls : Value) (a : Addr) : HO := .ext fun h => ∃ (oe : Obj) (vs : Array Value), h.get? a = some oe ∧ Zc cls none oe ∧ oe.data = .fields vs
section
variable {X : Cx} {pins : List (Addr × Obj)} {σ : L2.St} {H : Hp} {sI s' : Shared} {B : Heap}
/-- on the ground again, the exception tracked -/
theorem landT {a : Addr} {oe : Obj} {fv : Array Value} {cls : Value} (I : Inv X pins σ H sI) (nb : ∀ b o, sI.heap.get? b = some o → b ∉ frs X.stack → B.get? b = some o) (st : B.StaysIn s'.heap) (up : sI.heap.UpToSlots s'.heap)
    (os : s'.os = sI.os) (ag : AllBare s'.gens) (hB : B.get? a = none) (na : H a = none) (nfr : a ∉ frs X.stack) (he : s'.heap.get? a = some oe) (hz : Zc cls none oe) (hd : oe.data = .fields fv) : Inv X pins σ (upd H a (ExC cls a)) s' := by
  have nI : sI.heap.get? a = none := by
    cases e : sI.heap.get? a with
    | none => rfl
    | some o => rw [nb a o e nfr] at hB; cases hB
  have ne : ∀ b o, sI.heap.get? b = some o → b ≠ a := fun b o e z => by rw [z, nI] at e; cases e
  have inFr : ∀ b ∈ frs X.stack, ∀ o, sI.heap.get? b = some o → ∃ sl, s'.heap.get? b = some { o with slots := sl } := fun b hb o e => by
    obtain ⟨_, o', e', hn⟩ := I.stack.mem hb
    rw [e] at e'
    cases e'
    exact up b o e hn
  have U : Un (frs X.stack) [] H (upd H a (ExC cls a)) sI.heap s'.heap := by
    refine ⟨?_, ?_, ?_, ?_, ?_, ?_, ?_⟩
    · exact fun b o e _ hb _ => st b o (nb b o e hb)
    · exact fun b o e _ hb _ => inFr b hb o e
    · intro b o e n _
      rw [upd_ne (ne b o e)]
      exact n
    · intro b o e _
      by_cases hb : b ∈ frs X.stack
      · obtain ⟨sl, q⟩ := inFr b hb o e
        exact ⟨_, q⟩
      · exact ⟨o, st b o (nb b o e hb)⟩
    · intro b xs e
      rw [upd_ne (ne_of_none e na)]
      exact e
    · intro b o u e
      rw [upd_ne (ne_of_none e na)]
      exact e
    · intro b ps e
      refine ⟨#[], ?_⟩
      rw [upd_ne (ne_of_none e na), e]
      simp
  have hok : HOk X.prog X.w (upd H a (ExC cls a)) s'.heap := by
    intro b u e
    by_cases hb : b = a
    · subst hb
      rw [upd_same] at e
      cases e
      exact ⟨⟨oe, fv, he, hz, hd⟩, ⟨oe, he⟩, fun _ _ ⟨o, v, q, r⟩ k => ⟨o, v, k o q, r⟩⟩
    · rw [upd_ne hb] at e
      have g : ObjOk X.prog X.w H s'.heap b u := ((I.inGround nb).kept st) b u e
      refine g.stay (fun _ _ _ q => q) (fun c q => ?_) fun c xs q => ?_
      · rw [upd_ne (ne_of_none q na)]; exact q
      · rw [upd_ne (ne_of_none q na)]; exact q
  have J := I.call (ch := []) (h' := s'.heap) (g' := s'.gens) (t' := s'.toks) (d' := s'.drawn) U hok ag (fun _ z => nomatch z)
  obtain ⟨b1, b2, b3, b4, b5⟩ := s'
  have e5 : b5 = sI.os := os
  subst e5
  exact J
theorem suiteT {s : Shared} (I : Inv X pins σ H s) (a : Addr) : Inv (X.suite a (X.pn ++ pins)) [] σ H s :=
  ⟨I.ok.suite _ _, I.os, I.bare, I.base, I.loc, I.cell, I.free, I.freeC, fun p hp => I.pin p (by rw [List.append_nil] at hp; exact hp), I.hok, I.len⟩
theorem unsuiteT {s : Shared} {a : Addr} {pn' : List (Addr × Obj)} (I : Inv (X.suite a (X.pn ++ pins)) pn' σ H s) (ok : X.Ok) : Inv X pins σ H s :=
  ⟨ok, I.os, I.bare, I.base, I.loc, I.cell, I.free, I.freeC, fun p hp => I.pin p (List.mem_append_left _ hp), I.hok, I.len⟩
end
/-- what the clause wishes of an exception of the body: it is the clause's; slot i is the name's, the suite goes on with the exception tracked -/
def wKeep (K : PySem.W.Frag) (c : Value) (i : Nat) (ts : TS) (D : Ends) : WX := fun cls d σ H => d = none ∧ PySem.W.exmOne K cls c = some true ∧
  ∀ a, H a = none → ts { nx := fun σ' H' => D.nx (σ'.set i none) H', rt := fun _ _ => False, bk := fun _ _ => False, ct := fun _ _ => False } (σ.set i (some (.ref a))) (upd H a (ExC cls a))
section
variable {X : Cx} {x n : Str} {c : Value} {i : Nat} {body suite : List Stmt} {b0 : Stmt} {np pos pos' : Pos} {tb : WX → TS} {ts : TS}
theorem ps_tryK (hs : X.stack = X.env :: X.outer) (hf : X.env.frame = some X.env.locals) (hN : X.N.Nodup) (hi : X.N[i]? = some n) (hln : X.env.kindOf n = some .local) (hc : Names X x c)
    (hb : ∀ (W : WX) (pn : List (Addr × Obj)) (xe : Value → Shared → Prop), Takes (X.tr pn xe) W → PassesOwn (model X.prog X.w) X.A X.env xe → PSs (X.tr pn xe) body (tb W))
    (hsu : ∀ (a : Addr) (pn : List (Addr × Obj)), PSs (X.suite a pn) (b0 :: suite) ts) :
    PS X (.Try body [.ExceptHandler (some (.Name x np)) (some n) (b0 :: suite) pos'] [] [] pos) (fun D σ H => tb (wKeep X.K c i ts D) D σ H) := by
  constructor
  intro pins s σ H D I h
  have ok := I.ok
  have hfr : X.A.frames = some (X.env :: X.outer) := by rw [ok.frames, hs]
  have hloc : Loc X.env.scope n := .inl hln
  apply wpAny_Try_except
  refine wpAny_mono ((hb (wKeep X.K c i ts D) (X.pn ++ pins) _ ?takes PassesOwn.looking).run [] s σ H D (I.toTry _) h) ?done (fun _ _ z => z)
  case takes =>
    intro u s' xx
    obtain ⟨a, B, sI, pins', σ', H', cls, d, rfl, J', nb, up, sky, na, os, ag, hd0, hm, hyes⟩ := xx
    subst hd0
    have J : Inv X pins σ' H' sI := J'.ofTry ok
    rw [show (X.tr (X.pn ++ pins) _).stack = X.env :: X.outer from hs] at sky
    show wpAny (model X.prog X.w) X.A (noteFrame (.ref a) X.env) _ _ _
    refine Sky.land Zc.steady hfr hf sky fun h3 fl3 up3 => ?_
    have J3 : Inv X pins σ' H' { s' with heap := h3 } := J.landed nb fl3.1 (up.trans up3) os ag
    obtain ⟨oe3, fv3, he3, hz3, hd3⟩ := fl3.there
    have nfr : a ∉ frs X.stack := fun hmem => by
      rw [hs] at hmem
      obtain ⟨_, o', e', hn⟩ := fl3.2.2.1.mem hmem
      rw [he3] at e'
      cases e'
      exact hn _ hd3
    apply wpAny_handleBy_cons (codeAny_handlers_test ?_) (by intro q; cases q)
    have LT : PySem.W.Looks (model X.prog X.w) h3 (typeOf (.ref a)) cls := fun A Q E s k q => wpAny_typeOf_ref (k _ _ he3) (by rw [hz3.1]; exact q)
    have LM := PySem.W.exm_one (M := model X.prog X.w) J3.kIn LT hm
    have S3 := suiteT J3 a
    have test : ∀ {Q : Value → Shared → Prop} {E : Value → Shared → Prop}, Q c { s' with heap := h3 } → wpAny (model X.prog X.w) (X.A.mark (some (.ref a))) (eval (.Name x np) X.env) Q E { s' with heap := h3 } := fun {Q E} q => by
      obtain ⟨hg, hdbg, hm | ⟨hm, hv, hnn⟩⟩ := hc
      · exact ld_glob (X := X.suite a (X.pn ++ pins)) S3 hg hm q hdbg
      · exact ld_blt (X := X.suite a (X.pn ++ pins)) S3 hg hm hv q hnn hdbg
    apply test
    apply LM.here
    apply codeAny_handlers_suite_as
    refine HandSPX.lands_againZ fl3 fun h4 fl4 up4 => ?_
    obtain ⟨oe4, fv4, he4, hz4, hd4⟩ := fl4.there
    have J4 : Inv X pins σ' (upd H' a (ExC cls a)) { s' with heap := h4 } := landT J nb fl4.1 ((up.trans up3).trans up4) os ag fl4.2.1 na nfr he4 hz4 hd4
    have S4 := suiteT J4 a
    refine store_ok (X := X.suite a (X.pn ++ pins)) (v := .ref a) S4 hN hi hloc rfl (fun s5 S5 => ?_) (.inr hln)
    refine wpAny_mono ((hsu a (X.pn ++ pins)).run [] s5 _ _ _ S5 (hyes a na)) (fun f s6 hsp => ?_) (fun _ _ z => False.elim z)
    cases f with
    | next =>
      obtain ⟨σ6, H6, S6, q6⟩ := hsp
      exact gone_ok (unsuiteT S6 ok) hN hi hln fun s7 J7 => ⟨_, _, J7, q6⟩
    | brk =>
      obtain ⟨_, _, _, q6⟩ := hsp
      exact q6.elim
    | cont =>
      obtain ⟨_, _, _, q6⟩ := hsp
      exact q6.elim
    | ret u =>
      obtain ⟨_, _, _, _, _, q6⟩ := hsp
      exact q6.elim
  case done =>
    intro f s1 hsp
    cases f with
    | next =>
      obtain ⟨σ1, H1, J1, q⟩ := hsp
      exact wpAny_execs_nil ⟨σ1, H1, J1.ofTry ok, q⟩
    | brk =>
      obtain ⟨σ1, H1, J1, q⟩ := hsp
      exact ⟨σ1, H1, J1.ofTry ok, q⟩
    | cont =>
      obtain ⟨σ1, H1, J1, q⟩ := hsp
      exact ⟨σ1, H1, J1.ofTry ok, q⟩
    | ret u =>
      obtain ⟨v, σ1, H1, J1, r, q⟩ := hsp
      exact ⟨v, σ1, H1, J1.ofTry ok, r, q⟩
/-! ### isinstance of such -/
def rIsC (K : PySem.W.Frag) : List V → Hp → VK → Prop := fun xs H Q => ∃ (a D : Addr) (c : V) (cv : Value) (b : Bool), xs = [.ref a, c] ∧ H a = some (ExC (.ref D) a) ∧ ExcC K D ∧ (∀ u, RelV c u → u = cv) ∧ PySem.W.kitOne K (.ref D) cv = some b ∧ Q (.bl b) H
theorem kr_isC {K : PySem.W.Frag} (h : X.K = K := by rfl) : CallR X (.builtin "isinstance") (rIsC K) := by
  subst h
  intro pins s σ H xs us Q I r hh
  obtain ⟨a, D, c, cv, b, rfl, ha, C, hcv, e, q⟩ := hh
  obtain ⟨u1, u2, rfl, r1, r2⟩ := vals2 r
  have e2 := hcv _ r2
  subst e2
  cases (show u1 = Value.ref a from r1)
  obtain ⟨⟨oe, fv, he, hz, hd⟩, _, _⟩ := (show ObjOk X.prog X.w H s.heap a (ExC (.ref D) a) from I.hok a _ ha)
  have J : PySem.W.InstAt s.heap a oe D none := by
    obtain ⟨oc, od, oda, osl⟩ := oe
    obtain ⟨h1, h2⟩ := hz
    dsimp only at h1 h2 hd
    subst h1 h2 hd
    exact ⟨he, rfl, rfl, trivial⟩
  exact PySem.W.kia_one (PySem.W.handS_kitx_exc C.hg C.hk C.hs C.hd C.ha C.hn C.ht C.hm) I.kIn J e (fun z => nomatch z) fun tk => ⟨.bl b, H, I.kept (t' := tk) fun _ _ z => z, rfl, q⟩
end
end MW

set_option Elab.async false
set_option linter.all false
set_option maxRecDepth 100000
set_option maxHeartbeats 2000000
namespace MW
open PySem PySem.Spec PyProof.Rows L2
def isTrue1 : Value → Bool
  | .bool b => b
  | _ => false
theorem bools_of : ∀ {bs : List Bool} {us : List Value}, Vals (bs.map V.bl) us → us = bs.map Value.bool
  | [], us, r => by cases r; rfl
  | b :: bs, us, r => by
    cases r with
    | cons a t => rw [bools_of t, show _ = Value.bool b from a]; rfl
def rCntB (K : PySem.W.Frag) : V → List V → Hp → VK → Prop := fun x xs H Q => ∃ (p : Addr) (bs : List Bool), x = .ref p ∧ xs = [.bl true] ∧ SqL K H p (bs.map V.bl) ∧ Q (.int (bs.count true : Nat)) H
theorem mt_cntB {X : Cx} {K : PySem.W.Frag} (hK : X.K = K := by rfl) : MtR X "list.count" (rCntB K) := by
  subst hK
  intro pins s σ H x xs v us Q I rx rxs h
  obtain ⟨p, bs, rfl, rfl, hs, q⟩ := h
  cases rx
  obtain ⟨u, rfl, ru⟩ := rxs.one
  cases ru
  obtain ⟨its, rv, ⟨⟨cls, dd, data, sl⟩, n, ho, hc, hdn, hd⟩, hlen⟩ := I.list hs
  simp only at hc hd
  subst hc hd
  have hi := bools_of rv
  subst hi
  refine call_meets PySem.F.slot_list_count ⟨_, ho, rfl⟩ PySem.F.entry_list_count (PySem.F.args_list_count_2 _ _)
    (SeqAt.list_countAt p (bs.map Value.bool).toArray n dd sl (.bool true) isTrue1) ⟨ho, fun y hy => ?_, ?_⟩
  · have hy : y ∈ bs.map Value.bool := by simpa using hy
    obtain ⟨b, _, rfl⟩ := List.mem_map.mp hy
    have eb : eqV (.bl b) (.bl true) = isTrue1 (.bool b) := by cases b <;> rfl
    rw [← eb]
    exact eqAt_V (y := .bl b) (x := .bl true) rfl rfl rfl rfl
  · have ec : (bs.map Value.bool).toArray.toList.countP isTrue1 = bs.count true := by
      rw [List.toList_toArray, List.countP_map, List.count_eq_countP]
      congr 1
      funext b
      cases b <;> rfl
    refine ⟨.int (bs.count true : Nat), H, I.tok _, ⟨s.toks, ?_⟩, q⟩
    show Value.int (((bs.map Value.bool).toArray.toList.countP isTrue1 : Nat) : Int) s.toks = Value.int ((bs.count true : Nat) : Int) s.toks
    rw [ec]
theorem ka_index {X : Cx} {K : PySem.W.Frag} (hK : X.K = K := by rfl) : MtR X "list.index" (rIndex K) := hK ▸ mt_index
theorem kpe_bm {X : Cx} {K : PySem.W.Frag} {T id : String} {name : Str} {r : V → List V → Hp → VK → Prop} {o e : Expr} {es : List Expr} {to : TE} {t : TA} {apos cpos : Pos} (hK : X.K = K) (pa : PlainAttrs T) (slot : Slot T name id) (hty : typeOf (.builtin id) = pure (.type "method_descriptor")) (hm : MtR X id r) (ho : PE X o to) (ha : PA X (e :: es) t)
    (hbase : attributeBase o name X.env (eval o X.env) = eval o X.env := by rfl)
    (hfew : ((backTo cpos (starEach (e :: es) X.env)).all (fun x => !x.1) && (backToKw cpos (keywordEach [] X.env)).all (fun x => x.1.isSome)
      && decide ((e :: es).length + ([] : List Keyword).length + (if ([] : List Keyword).isEmpty then 0 else 1) < 30)) = true := by rfl)
    (hline : (apos.endLine == cpos.line) = true := by rfl) (hs : starEach (e :: es) X.env = (false, eval e X.env) :: starEach es X.env := by rfl) (hplain : (backTo cpos (starEach es X.env)).any (·.1) = false := by rfl) :
    PE X (.Call (.Attribute o name apos) (e :: es) [] cpos) (tBM K T r to t) := hK ▸ pe_bm pa slot hty hm ho ha hbase hfew hline hs hplain
section
variable {K : PySem.W.Frag} {σ : L2.St} {S : Sit} {to ta : TE}
theorem ev_cntB {bs : List Bool} (ho : EvD K to σ S (.list (bs.map PyData.bool))) : EvD K (tBM K "list" (rCntB K) to (tCons (tC (.bl true)) tNil)) σ S (.int (bs.count true : Nat)) := fun T a Q q =>
  ho T a _ fun v U l o => by
    obtain ⟨b, us, rfl, e1, e2⟩ := Da.lst_eq o
    have ev := e2.boolsV
    subst ev
    exact ⟨.inl ⟨rfl, _, SqL.of (U.sub _ _ e1)⟩, b, bs, rfl, rfl, SqL.of (U.sub _ _ e1), q _ U l (Da.int _)⟩
theorem ev_idxB {bs : List Bool} {j : Nat} (ho : EvD K to σ S (.list (bs.map PyData.bool))) (hj : bs[j]? = some true) (hb : ∀ m, m < j → bs[m]? = some false) : EvD K (tBM K "list" (rIndex K) to (tCons (tC (.bl true)) tNil)) σ S (.int (j : Nat)) := fun T a Q q =>
  ho T a _ fun v U l o => by
    obtain ⟨b, us, rfl, e1, e2⟩ := Da.lst_eq o
    have ev := e2.boolsV
    subst ev
    refine ⟨.inl ⟨rfl, _, SqL.of (U.sub _ _ e1)⟩, b, bs.map V.bl, .bl true, j, .bl true, rfl, rfl, SqL.of (U.sub _ _ e1), rfl, ?_, ?_, rfl, fun m z hm hz => ?_, q _ U l (Da.int _)⟩
    · rw [List.all_map]
      exact List.all_eq_true.mpr fun _ _ => rfl
    · rw [List.getElem?_map, hj]; rfl
    · rw [List.getElem?_map, hb m hm] at hz
      have := Option.some.inj hz
      subst this
      rfl
end
end MW

set_option Elab.async false
set_option linter.all false
set_option maxRecDepth 100000
set_option maxHeartbeats 2000000
namespace MW
open PySem PySem.Spec PyProof.Rows L2
/-! ### what the head looks at besides -/
def excB (K : PySem.W.Frag) (x : Str) : Bool :=
  He.eqO (PySem.W.findIn K (.ref (He.ga K x)) "__getattribute__") (some (some (.builtin "BaseException.__getattribute__"))) &&
  (He.eqO (PySem.W.findIn K (.ref (He.ga K x)) "__getattr__") (some none) &&
  (PySem.W.hasDictIn K (He.ga K x) &&
  (He.eqO (PySem.W.findIn K (.ref (He.ga K x)) "__class__") (some (some (.builtin "object.__class__"))) &&
  (He.eqO (PySem.W.specialIn K (.builtin "object.__class__") "__get__") (some (some (.builtin "getset_descriptor.__get__"))) &&
  (decide (PySem.W.takesIn K (.builtin "object.__class__") = some true) &&
  (decide (PySem.W.mroIn K (He.ga K x) (.type "object") = some true) &&
  (decide (PySem.W.kitOne K (.ref (He.ga K x)) (.type "ValueError") = some true) &&
  decide (PySem.W.exmOne K (.ref (He.ga K x)) (.ref (He.ga K "MarkError")) = some true))))))))
def kinds5 : List Str := ["BadRule", "BadFloor", "BadWalker", "BadNumber", "BadText"]
def kitsB (K : PySem.W.Frag) : Bool := kinds5.all fun x => excB K x && kinds5.all fun y => decide (PySem.W.kitOne K (.ref (He.ga K x)) (.ref (He.ga K y)) = some (decide (x = y)))
/-- what is known of the five -/
structure Kits (K : PySem.W.Frag) : Prop where
  ex : ∀ x ∈ kinds5, PySem.W.subIn K (.ref (He.ga K x)) (.type "BaseException") = some true → ExcC K (He.ga K x)
  ve : ∀ x ∈ kinds5, PySem.W.kitOne K (.ref (He.ga K x)) (.type "ValueError") = some true
  me : ∀ x ∈ kinds5, PySem.W.exmOne K (.ref (He.ga K x)) (.ref (He.ga K "MarkError")) = some true
  one : ∀ x ∈ kinds5, ∀ y ∈ kinds5, PySem.W.kitOne K (.ref (He.ga K x)) (.ref (He.ga K y)) = some (decide (x = y))
theorem kits_of {K : PySem.W.Frag} (h : kitsB K = true) : Kits K := by
  have h1 : ∀ x ∈ kinds5, excB K x = true ∧ ∀ y ∈ kinds5, PySem.W.kitOne K (.ref (He.ga K x)) (.ref (He.ga K y)) = some (decide (x = y)) := fun x hx => by
    obtain ⟨a, b⟩ := He.ba (List.all_eq_true.mp h x hx)
    exact ⟨a, fun y hy => of_decide_eq_true (List.all_eq_true.mp b y hy)⟩
  refine ⟨fun x hx hs => ?_, fun x hx => ?_, fun x hx => ?_, fun x hx => (h1 x hx).2⟩
  · obtain ⟨a1, b⟩ := He.ba (h1 x hx).1
    obtain ⟨a2, b⟩ := He.ba b
    obtain ⟨a3, b⟩ := He.ba b
    obtain ⟨a4, b⟩ := He.ba b
    obtain ⟨a5, b⟩ := He.ba b
    obtain ⟨a6, b⟩ := He.ba b
    obtain ⟨a7, b⟩ := He.ba b
    exact ⟨He.eqO_ok a1, He.eqO_ok a2, hs, a3, He.eqO_ok a4, He.eqO_ok a5, of_decide_eq_true a6, of_decide_eq_true a7⟩
  · obtain ⟨a1, b⟩ := He.ba (h1 x hx).1
    obtain ⟨a2, b⟩ := He.ba b
    obtain ⟨a3, b⟩ := He.ba b
    obtain ⟨a4, b⟩ := He.ba b
    obtain ⟨a5, b⟩ := He.ba b
    obtain ⟨a6, b⟩ := He.ba b
    obtain ⟨a7, b⟩ := He.ba b
    exact of_decide_eq_true (He.ba b).1
  · obtain ⟨a1, b⟩ := He.ba (h1 x hx).1
    obtain ⟨a2, b⟩ := He.ba b
    obtain ⟨a3, b⟩ := He.ba b
    obtain ⟨a4, b⟩ := He.ba b
    obtain ⟨a5, b⟩ := He.ba b
    obtain ⟨a6, b⟩ := He.ba b
    obtain ⟨a7, b⟩ := He.ba b
    exact of_decide_eq_true (He.ba b).2
end MW

set_option Elab.async false
set_option linter.all false
set_option maxRecDepth 100000
set_option maxHeartbeats 2000000
namespace MW
open PySem PySem.Spec PyProof.Rows L2
/-! ### a number that is not told -/
def EvZ (K : PySem.W.Frag) (te : TE) (σ : L2.St) (S : Sit) (φ : Int → Prop) : Prop := ∀ T, Le S T → ∀ Q : VK, (∀ i U, φ i → Le T U → Q (.int i) U.H) → te σ T.H Q
section
variable {K : PySem.W.Frag} {σ : L2.St} {S : Sit} {δ : List Sl} {ta tb te : TE} {φ ψ χ : Int → Prop}
theorem ez_of {i : Int} (h : EvD K te σ S (.int i)) (hi : φ i) : EvZ K te σ S φ := fun T a Q q => h T a _ fun v U l o => by
  have e := Da.int_eq o
  subst e
  exact q i U hi l
theorem ez_I0 {f : Int → Int → Int} (ha : EvZ K ta σ S φ) (hb : EvZ K tb σ S ψ) (h : ∀ i j, φ i → ψ j → χ (f i j)) : EvZ K (tOp (rI0 fun i j => .int (f i j)) ta tb) σ S χ := fun T a Q q =>
  ha T a _ fun i U1 h1 l1 => hb U1 (a.trans l1) _ fun j U2 h2 l2 => ⟨i, j, rfl, rfl, q _ U2 (h i j h1 h2) (l1.trans l2)⟩
theorem ez_I {C : Int → Int → Prop} {f : Int → Int → Int} (ha : EvZ K ta σ S φ) (hb : EvZ K tb σ S ψ) (hC : ∀ i j, φ i → ψ j → C i j) (h : ∀ i j, φ i → ψ j → χ (f i j)) : EvZ K (tOp (rI C fun i j => .int (f i j)) ta tb) σ S χ := fun T a Q q =>
  ha T a _ fun i U1 h1 l1 => hb U1 (a.trans l1) _ fun j U2 h2 l2 => ⟨i, j, rfl, rfl, hC i j h1 h2, q _ U2 (h i j h1 h2) (l1.trans l2)⟩
theorem st_asgZ {i : Nat} {D : Ends} (hE : Sv K S.G σ δ) (he : EvZ K te σ S φ) (k : ∀ n σ' T, φ n → Le S T → Sv K T.G σ' (δ.set i (.d (.int n))) → D.nx σ' T.H) : tAsg te (gName i) D σ S.H :=
  he S (Le.refl S) _ fun n U h l => k n _ U h l (Sv.set (slOk_d (Da.int n)) i (hE.up l.g))
theorem st_retZ {D : Ends} (he : EvZ K te σ S φ) (k : ∀ n T, φ n → Le S T → D.rt (.int n) T.H) : tRet te D σ S.H :=
  he S (Le.refl S) _ fun n U h l => k n U h l
/-! ### lists that are told by where they stand -/
theorem ev_lenQ {a : Addr} {xs : List V} (ha : Ev K ta σ S (.v (.ref a))) (h : ∀ T, Le S T → SqL K T.H a xs) : EvD K (tCB (rLen K) (tCons ta tNil)) σ S (.int (xs.length : Nat)) :=
  ev_cb1 ha fun T x l hx Q q => by
    cases (show some x = some (V.ref a) from hx)
    exact ⟨_, xs.length, rfl, .inl ⟨xs, h T l, rfl⟩, q _ T (Le.refl T) (Da.int _)⟩
theorem ev_ixQ {a : Addr} {ns : List Int} {i n : Int} (ha : Ev K ta σ S (.v (.ref a))) (hb : EvD K tb σ S (.int i)) (h : ∀ T, Le S T → SqL K T.H a (ns.map V.int)) (e : L2.atI (ns.map V.int) i = some (.int n)) : EvD K (tOp (rIxL K) ta tb) σ S (.int n) :=
  ev_two ha hb fun T x y l hx hy Q q => by
    cases (show some x = some (V.ref a) from hx)
    have ey := Da.int_eq hy
    subst ey
    exact ⟨a, _, i, _, rfl, rfl, h T l, e, q _ T (Le.refl T) (Da.int _)⟩
theorem eb_truQ {a : Addr} {xs : List V} (ha : Ev K ta σ S (.v (.ref a))) (h : ∀ T, Le S T → SqL K T.H a xs) : EvB K (fun σ H Q => ta σ H fun x H' => ∃ k, TruV K x H' k ∧ Q k H') σ S (!xs.isEmpty) := fun T l _ q => ha T l _ fun v U l1 o => by
  cases (show some v = some (V.ref a) from o)
  exact ⟨_, .inl ⟨xs, h U (l.trans l1), rfl⟩, q U l1⟩
end
/-- a text of numbers stands at a, in what stands for good -/
theorem sq_up {K : PySem.W.Frag} {S T : Sit} {a : Addr} {xs : List V} (h : SqL K S.G a xs) (g : Same S.G T.G) : SqL K T.H a xs := T.sub.seq (g.seq h)
/-! ### the draws: how many more there may be -/
def zeros (n : Nat) : List V := List.replicate n (.int 0)
theorem zeros_succ (n : Nat) : zeros n ++ [V.int 0] = zeros (n + 1) := by
  unfold zeros
  rw [List.replicate_succ']
def Town (S : Sit) (t : Addr) (b : Nat) : Prop := S.G t = none ∧ ∃ n, n + b ≤ 500000 ∧ S.H t = some (.lst (zeros n))
theorem Town.up {S T : Sit} {t : Addr} {b : Nat} (h : Town S t b) (l : Le S T) : Town T t b := by
  obtain ⟨g, n, hn, e⟩ := h
  exact ⟨(l.2.2 t _ e).trans g, n, hn, l.2.1 t _ e⟩
theorem Town.less {S : Sit} {t : Addr} {b c : Nat} (h : Town S t b) (hc : c ≤ b) : Town S t c := by
  obtain ⟨g, n, hn, e⟩ := h
  exact ⟨g, n, by omega, e⟩
abbrev Lt (t : Addr) (S T : Sit) : Prop := Lm [t] S T
theorem Lt.refl {t : Addr} (S : Sit) : Lt t S S := (Le.refl S).lm _
theorem Lt.trans {t : Addr} {S T U : Sit} (a : Lt t S T) (b : Lt t T U) (ht : ∃ o, T.H t = some o) : Lt t S U := by
  refine ⟨a.1.trans b.1, fun x o hx h => b.2.1 x o hx (a.2.1 x o hx h), fun x o h => ?_⟩
  by_cases e : x = t
  · subst e
    obtain ⟨o', h'⟩ := ht
    exact (b.2.2 x o' h').trans (a.2.2 x o h)
  · exact (b.2.2 x o (a.2.1 x o (by simp [e]) h)).trans (a.2.2 x o h)
theorem Town.has {S : Sit} {t : Addr} {b : Nat} (h : Town S t b) : ∃ o, S.H t = some o := let ⟨_, _, _, e⟩ := h; ⟨_, e⟩
/-! ### promises of the law's own reckoning -/
def sp__law_cell (K : PySem.W.Frag) : Sp := fun vs H Q _ => ∃ (S : Sit) (a : Addr) (ns : List Int) (k : Int), S.H = H ∧ Vs K S.G vs [.v (.ref a), .d (.int k)] ∧ SqL K S.G a (ns.map V.int) ∧ ∀ i T, Le S T → Q (.int i) T.H
def sp__law_mix (K : PySem.W.Frag) : Sp := fun vs H Q _ => ∃ (S : Sit) (a : Addr) (ns : List Int) (k : Int), S.H = H ∧ Vs K S.G vs [.v (.ref a), .d (.int k)] ∧ SqL K S.G a (ns.map V.int) ∧ ∀ i T, 0 ≤ i → Le S T → Q (.int i) T.H
def sp__law_draw (K : PySem.W.Frag) : Sp := fun vs H Q _ => ∃ (S : Sit) (a t : Addr) (ns : List Int) (many : Int) (b : Nat), S.H = H ∧ Vs K S.G vs [.v (.ref a), .v (.ref t), .d (.int many)] ∧ SqL K S.G a (ns.map V.int) ∧ Town S t (b + 1) ∧ 0 < many ∧
  ∀ i T, 0 ≤ i → i < many → Lt t S T → Town T t b → Q (.int i) T.H
def sp__law_pick (K : PySem.W.Frag) : Sp := fun vs H Q _ => ∃ (S : Sit) (a t : Addr) (ns : List Int) (ds : List PyData) (b : Nat), S.H = H ∧ Vs K S.G vs [.v (.ref a), .v (.ref t), .d (.list ds)] ∧ SqL K S.G a (ns.map V.int) ∧ Town S t (b + 1) ∧ 0 < ds.length ∧
  ∀ d v T, d ∈ ds → Lt t S T → Town T t b → Da K T.G v d → Q v T.H
/-- town.append(0) -/
theorem st_town {K : PySem.W.Frag} {σ : L2.St} {S : Sit} {D : Ends} {ta : TE} {t : Addr} {b : Nat} (ha : Ev K ta σ S (.v (.ref t))) (ht : Town S t (b + 1)) (k : ∀ T, Lt t S T → Town T t b → D.nx σ T.H) :
    tDrop (tBM K "list" rAppend ta (tCons (tC (.int 0)) tNil)) D σ S.H := ha S (Le.refl S) _ fun v U l o => by
  cases (show some v = some (V.ref t) from o)
  obtain ⟨g, n, hn, e⟩ := ht.up l
  refine ⟨.inl ⟨rfl, _, SqL.of e⟩, t, zeros n, .int 0, rfl, rfl, e, szl (by unfold zeros; rw [List.length_replicate]; omega), ?_⟩
  refine k (U.mut t (.lst (zeros n ++ [.int 0])) g) ⟨l.1, fun x u hx h => ?_, fun x u h => l.2.2 x u h⟩ ⟨g, n + 1, by omega, by rw [← zeros_succ]; exact upd_same⟩
  show upd U.H t _ x = some u
  rw [upd_ne (fun z => hx (by simp [z]))]
  exact l.2.1 x u h
/-! ### what may draw -/
/-- it comes to one of Φ's things, draws on the way: b ahead, b' behind -/
def EvN (K : PySem.W.Frag) (t : Addr) (te : TE) (σ : L2.St) (S : Sit) (b b' : Nat) (Φ : PyData → Prop) : Prop := ∀ T, Lt t S T → Town T t b → ∀ Q : VK, (∀ d v U, Φ d → Lt t T U → Town U t b' → Da K U.G v d → Q v U.H) → te σ T.H Q
def EvNA (K : PySem.W.Frag) (t : Addr) (ta : TA) (σ : L2.St) (S : Sit) (b b' : Nat) (Φ : List PyData → Prop) : Prop := ∀ T, Lt t S T → Town T t b → ∀ Q : List V → Hp → Prop, (∀ ds vs U, Φ ds → Lt t T U → Town U t b' → DaAll K U.G vs ds → Q vs U.H) → ta σ T.H Q
section
variable {K : PySem.W.Frag} {t : Addr} {σ : L2.St} {S : Sit} {δ : List Sl} {ta tb te : TE} {b b1 b2 : Nat}
theorem en_pure {d : PyData} (h : ∀ T, Same S.G T.G → EvD K te σ T d) : EvN K t te σ S b b (fun x => x = d) := fun T l ht Q q =>
  h T l.g T (Le.refl T) Q fun v U lU o => q d v U rfl (lU.lm _) (ht.up lU) o
theorem en_imp {Φ Ψ : PyData → Prop} (h : EvN K t te σ S b b1 Φ) (k : ∀ d, Φ d → Ψ d) : EvN K t te σ S b b1 Ψ := fun T l ht Q q => h T l ht Q fun d v U hd => q d v U (k d hd)
theorem en_nil : EvNA K t tNil σ S b b (fun x => x = []) := fun T l ht Q q => q [] [] T rfl (Lt.refl T) ht .nil
theorem en_cons {tr : TA} {Φ : PyData → Prop} {Ψ : List PyData → Prop} (ha : EvN K t ta σ S b b1 Φ) (hr : EvNA K t tr σ S b1 b2 Ψ) : EvNA K t (tCons ta tr) σ S b b2 (fun x => ∃ d ds, x = d :: ds ∧ Φ d ∧ Ψ ds) := fun T l ht Q q =>
  ha T l ht _ fun d v U hd lU tU o => hr U (l.trans lU ht.has) tU _ fun ds vs W hds lW tW o2 => q (d :: ds) (v :: vs) W ⟨d, ds, rfl, hd, hds⟩ (lU.trans lW tU.has) tW (.cons (Da.up lW.g o) o2)
theorem Town.push {U : Sit} {p : Addr} {o : HO} (h : Town U t b) (hp : U.H p = none) : Town (U.push p o hp) t b := h.up (U.push_le hp)
theorem en_tup {tr : TA} {Φ : List PyData → Prop} (ha : EvNA K t tr σ S b b1 Φ) (hl : ∀ ds, Φ ds → ds.length ≤ 1000000) : EvN K t (tTup tr) σ S b b1 (fun x => ∃ ds, x = .tuple ds ∧ Φ ds) := fun T l ht Q q =>
  ha T l ht _ fun ds vs U hds lU tU o => ⟨sz (by rw [o.length]; exact hl ds hds), fun p hp => q _ (.ref p) (U.push p _ hp) ⟨ds, rfl, hds⟩ (lU.trans ((U.push_le hp).lm _) tU.has) (tU.push hp) (Da.tup upd_same (DaAll.up (U.push_le hp).g o))⟩
theorem en_lst {tr : TA} {Φ : List PyData → Prop} (ha : EvNA K t tr σ S b b1 Φ) (hl : ∀ ds, Φ ds → ds.length ≤ 1000000) : EvN K t (tLst tr) σ S b b1 (fun x => ∃ ds, x = .list ds ∧ Φ ds) := fun T l ht Q q =>
  ha T l ht _ fun ds vs U hds lU tU o => ⟨sz (by rw [o.length]; exact hl ds hds), fun p hp => q _ (.ref p) (U.push p _ hp) ⟨ds, rfl, hds⟩ (lU.trans ((U.push_le hp).lm _) tU.has) (tU.push hp) (Da.lst upd_same (DaAll.up (U.push_le hp).g o))⟩
theorem en_I0 {f : Int → Int → Int} {φ ψ χ : Int → Prop} (ha : EvN K t ta σ S b b1 (fun d => ∃ i, d = .int i ∧ φ i)) (hb : EvN K t tb σ S b1 b2 (fun d => ∃ i, d = .int i ∧ ψ i)) (h : ∀ i j, φ i → ψ j → χ (f i j)) : EvN K t (tOp (rI0 fun i j => .int (f i j)) ta tb) σ S b b2 (fun d => ∃ i, d = .int i ∧ χ i) := fun T l ht Q q =>
  ha T l ht _ fun d v U hd lU tU o => hb U (l.trans lU ht.has) tU _ fun e w W he lW tW o2 => by
    obtain ⟨i, rfl, hi⟩ := hd
    obtain ⟨j, rfl, hj⟩ := he
    have e1 := Da.int_eq o
    have e2 := Da.int_eq o2
    subst e1 e2
    exact ⟨i, j, rfl, rfl, q _ _ W ⟨_, rfl, h i j hi hj⟩ (lU.trans lW tU.has) tW (Da.int _)⟩
/-- a draw -/
theorem en_draw {E : XK} {tr : TA} {a : Addr} {ns : List Int} {many : Int} (ha : ∀ T, Same S.G T.G → EvA K tr σ T [.v (.ref a), .v (.ref t), .d (.int many)]) (hs : SqL K S.G a (ns.map V.int)) (hm : 0 < many) :
    EvN K t (tCall (sp__law_draw K) [] E tr) σ S (b + 1) b (fun d => ∃ i, d = .int i ∧ 0 ≤ i ∧ i < many) := fun T l ht Q q =>
  ha T l.g T (Le.refl T) _ fun vs U lU o => by
    rw [List.append_nil]
    exact ⟨U, a, t, ns, many, b, rfl, o, (l.g.trans lU.g).seq hs, ht.up lU, hm, fun i W h0 h1 lW tW => q (.int i) _ W ⟨i, rfl, h0, h1⟩ (Lt.trans (lU.lm _) lW (ht.up lU).has) tW (Da.int i)⟩
theorem en_pick {E : XK} {tr : TA} {a : Addr} {ns : List Int} {ds : List PyData} (ha : ∀ T, Same S.G T.G → EvA K tr σ T [.v (.ref a), .v (.ref t), .d (.list ds)]) (hs : SqL K S.G a (ns.map V.int)) (hm : 0 < ds.length) :
    EvN K t (tCall (sp__law_pick K) [] E tr) σ S (b + 1) b (fun d => d ∈ ds) := fun T l ht Q q =>
  ha T l.g T (Le.refl T) _ fun vs U lU o => by
    rw [List.append_nil]
    exact ⟨U, a, t, ns, ds, b, rfl, o, (l.g.trans lU.g).seq hs, ht.up lU, hm, fun d v W hd lW tW oW => q d v W hd (Lt.trans (lU.lm _) lW (ht.up lU).has) tW oW⟩
theorem st_asgN {i : Nat} {D : Ends} {Φ : PyData → Prop} (hE : Sv K S.G σ δ) (ht : Town S t b) (he : EvN K t te σ S b b1 Φ) (k : ∀ d σ' T, Φ d → Lt t S T → Town T t b1 → Sv K T.G σ' (δ.set i (.d d)) → D.nx σ' T.H) : tAsg te (gName i) D σ S.H :=
  he S (Lt.refl S) ht _ fun d v U hd lU tU o => k d _ U hd lU tU (Sv.set (slOk_d o) i (hE.up lU.g))
theorem st_retN {D : Ends} {Φ : PyData → Prop} (ht : Town S t b) (he : EvN K t te σ S b b1 Φ) (k : ∀ d v T, Φ d → Lt t S T → Town T t b1 → Da K T.G v d → D.rt v T.H) : tRet te D σ S.H :=
  he S (Lt.refl S) ht _ fun d v U hd lU tU o => k d v U hd lU tU o
/-- town = [] -/
theorem st_town0 {i : Nat} {D : Ends} {b : Nat} (hE : Sv K S.G σ δ) (hb : b ≤ 500000) (k : ∀ t σ' T, Le S T → Town T t b → Sv K T.G σ' (δ.set i (.v (.ref t))) → D.nx σ' T.H) : tAsg (tLst tNil) (gName i) D σ S.H := by
  refine ⟨Nat.zero_le _, fun p hp => ?_⟩
  exact k p _ (S.pushM p (.lst []) hp) (S.pushM_le hp) ⟨S.gfree hp, 0, by omega, upd_same⟩ (Sv.set (slOk_v _) i hE)
end
end MW

set_option Elab.async false
set_option linter.all false
set_option maxRecDepth 100000
set_option maxHeartbeats 2000000
namespace MW
open PySem PySem.Spec PyProof.Rows L2
section
variable {K : PySem.W.Frag} {σ : L2.St} {S : Sit} {δ : List Sl} {ta tb : TE}
theorem ev_isNv {v : V} (ha : Ev K ta σ S (.v v)) : EvD K (tOp (fun x y H Q => y = V.non ∧ Q (.bl (decide (x = .non))) H) ta (tC .non)) σ S (.bool (decide (v = .non))) := fun T a Q q =>
  ha T a _ fun x U l o => by
    cases (show some x = some v from o)
    exact ⟨rfl, q _ U l (Da.bl _)⟩
theorem ev_isC {a D : Addr} {c : V} {cv : Value} {b : Bool} (ha : Ev K ta σ S (.v (.ref a))) (hX : S.H a = some (ExC (.ref D) a)) (C : ExcC K D) (hc : ∀ u, RelV c u → u = cv) (e : PySem.W.kitOne K (.ref D) cv = some b) :
    EvD K (tCB (rIsC K) (tCons ta (tCons (tC c) tNil))) σ S (.bool b) := fun T l Q q =>
  ha T l _ fun x U lU o => by
    cases (show some x = some (V.ref a) from o)
    exact ⟨a, D, c, cv, b, rfl, (l.trans lU).2.1 _ _ hX, C, hc, e, q _ U lU (Da.bl _)⟩
/-- found = f(..) in a try's body -/
theorem st_asgS {i : Nat} {sp : Sp} {E : L2.St → XK} {tr : TA} {ss : List Sl} {D : Ends} (ha : EvA K tr σ S ss) (k : ∀ vs T, Le S T → Vs K T.G vs ss → sp vs T.H (fun v H => D.nx (σ.set i (some v)) H) (E σ)) : tAsg (tCallS sp E tr) (gName i) D σ S.H :=
  ha S (Le.refl S) _ fun vs T l o => k vs T l o
/-- caught = e -/
theorem we_keep {c : Value} {i j : Nat} {D : Ends} {cls : Value} {s0 : Sl} (hE : Sv K S.G σ δ) (hi : δ[i]? = some s0) (hm : PySem.W.exmOne K cls c = some true)
    (k : ∀ a σ' T, Le S T → T.H a = some (ExC cls a) → Sv K T.G σ' (((δ.set i (.v (.ref a))).set j (.v (.ref a))).set i .non) → D.nx σ' T.H) : WE (wKeep K c i (tAsg (tVar i) (gName j)) D) σ cls none S.H := by
  refine ⟨rfl, hm, fun a ha => ?_⟩
  have hE1 : Sv K (S.pushM a (ExC cls a) ha).G (σ.set i (some (.ref a))) (δ.set i (.v (.ref a))) := Sv.set (slOk_v (K := K) (G := S.G) (.ref a)) i hE
  have hg : (δ.set i (Sl.v (.ref a)))[i]? = some (.v (.ref a)) := by
    obtain ⟨h, _⟩ := List.getElem?_eq_some_iff.mp hi
    rw [List.getElem?_set_self h]
  refine st_asg (K := K) (S := S.pushM a (ExC cls a) ha) (s := .v (.ref a)) hE1 (ev_varv hE1 hg) fun σ2 T2 l2 hE2 => ?_
  exact k a _ T2 ((S.pushM_le ha).trans l2) (l2.2.1 _ _ upd_same) (Sv.set (slOk_n none) i hE2)
end
def wordOf (x : Str) : Str := if x = "BadRule" then "rule" else if x = "BadFloor" then "floor" else if x = "BadWalker" then "walker" else if x = "BadNumber" then "number" else "text"
def eRef (x : Str) : PyData := .tuple [.str "refused", .str (wordOf x)]
def sp__law_refusal (K : PySem.W.Frag) : Sp := fun vs H Q _ => ∃ (S : Sit) (a : Addr) (x : Str), S.H = H ∧ Vs K S.G vs [.v (.ref a)] ∧ S.H a = some (ExC (.ref (He.ga K x)) a) ∧ x ∈ kinds5 ∧ ∀ v T, Le S T → Da K T.G v (eRef x) → Q v T.H
theorem kinds_ix {x : Str} (h : x ∈ kinds5) : ∃ j, (kinds5.map fun y => decide (x = y))[j]? = some true ∧ (∀ m, m < j → (kinds5.map fun y => decide (x = y))[m]? = some false) ∧ (kinds5.map fun y => decide (x = y)).count true = 1 ∧ L2.atI [PyData.str "rule", PyData.str "floor", PyData.str "walker", PyData.str "number", PyData.str "text"] (j : Nat) = some (.str (wordOf x)) := by
  unfold kinds5 at h
  simp only [List.mem_cons, List.not_mem_nil, or_false] at h
  rcases h with rfl | rfl | rfl | rfl | rfl
  · exact ⟨0, by decide, by decide, by decide, by rfl⟩
  · exact ⟨1, by decide, by decide, by decide, by rfl⟩
  · exact ⟨2, by decide, by decide, by decide, by rfl⟩
  · exact ⟨3, by decide, by decide, by decide, by rfl⟩
  · exact ⟨4, by decide, by decide, by decide, by rfl⟩
end MW

set_option Elab.async false
set_option linter.all false
set_option maxRecDepth 100000
set_option maxHeartbeats 2000000
namespace MW
open PySem PySem.Spec PyProof.Rows L2
/-- a list of one's own: told, and not yet given away -/
def Ow (K : PySem.W.Frag) (S : Sit) (p : Addr) (ds : List PyData) : Prop := S.G p = none ∧ ∃ xs, S.H p = some (.lst xs) ∧ DaAll K S.G xs ds
section
variable {K : PySem.W.Frag} {σ : L2.St} {S T : Sit} {δ : List Sl} {ta te : TE} {p t : Addr} {ds : List PyData} {D : Ends} {b b1 : Nat}
theorem Ow.lm {M : List Addr} (h : Ow K S p ds) (l : Lm M S T) (hp : p ∉ M) : Ow K T p ds := by
  obtain ⟨g, xs, e, d⟩ := h
  exact ⟨(l.2.2 p _ e).trans g, xs, l.2.1 p _ hp e, DaAll.up l.1 d⟩
theorem Ow.up (h : Ow K S p ds) (l : Le S T) : Ow K T p ds := h.lm (l.lm []) (by simp)
theorem Ow.has (h : Ow K S p ds) : ∃ o, S.H p = some o := let ⟨_, _, e, _⟩ := h; ⟨_, e⟩
theorem Lm.le0 (l : Lm [] S T) : Le S T := ⟨l.1, fun a o e => l.2.1 a o (by simp) e, l.2.2⟩
theorem Lm.transM {M N : List Addr} {U : Sit} (a : Lm M S T) (b : Lm N T U) (hN : ∀ x ∈ N, ∃ o, T.H x = some o) (hM : ∀ x ∈ M, ∃ o, T.H x = some o) : Lm (M ++ N) S U := by
  refine ⟨a.1.trans b.1, fun x o hx h => b.2.1 x o (fun z => hx (List.mem_append_right _ z)) (a.2.1 x o (fun z => hx (List.mem_append_left _ z)) h), fun x o h => ?_⟩
  by_cases e : x ∈ M
  · obtain ⟨o', h'⟩ := hM x e
    exact (b.2.2 x o' h').trans (a.2.2 x o h)
  · exact (b.2.2 x o (a.2.1 x o e h)).trans (a.2.2 x o h)
/-- x = [e, ..], a list of one's own -/
theorem st_own {i : Nat} {tr : TA} (hE : Sv K S.G σ δ) (ha : EvA K tr σ S (ds.map Sl.d)) (hl : ds.length ≤ 1000000) (k : ∀ p σ' T, Le S T → (∀ q o, S.H q = some o → q ≠ p) → Ow K T p ds → Sv K T.G σ' (δ.set i (.v (.ref p))) → D.nx σ' T.H) :
    tAsg (tLst tr) (gName i) D σ S.H := ha S (Le.refl S) _ fun xs U l o => by
  have h := Vs.da o
  refine ⟨sz (by rw [h.length]; exact hl), fun p hp => ?_⟩
  exact k p _ (U.pushM p (.lst xs) hp) (l.trans (U.pushM_le hp)) (fun q o hq e => by rw [e, ] at hq; rw [l.2.1 _ _ hq] at hp; cases hp) ⟨U.gfree hp, xs, upd_same, h⟩ (Sv.set (slOk_v (K := K) (G := U.G) (.ref p)) i (hE.up l.g))
/-- x.append(e) -/
theorem Ow.put {d : PyData} {v : V} (h : Ow K S p ds) (o : Da K S.G v d) (hl : ds.length < 900000) : ∃ xs, S.H p = some (.lst xs) ∧ xs.length < sizeLine ∧ ∃ g : S.G p = none, Lm [p] S (S.mut p (.lst (xs ++ [v])) g) ∧ Ow K (S.mut p (.lst (xs ++ [v])) g) p (ds ++ [d]) := by
  obtain ⟨g, xs, e, q⟩ := h
  refine ⟨xs, e, szl (by rw [q.length]; omega), g, ⟨Same.refl _, fun x u hx h => ?_, fun _ _ _ => rfl⟩, g, xs ++ [v], upd_same, q.append (.cons o .nil)⟩
  show upd S.H p _ x = some u
  rw [upd_ne (fun z => hx (by simp [z]))]
  exact h
theorem st_app {d : PyData} (ha : Ev K ta σ S (.v (.ref p))) (hp : Ow K S p ds) (hl : ds.length < 900000) (he : EvD K te σ S d) (k : ∀ T, Lm [p] S T → Ow K T p (ds ++ [d]) → D.nx σ T.H) :
    tDrop (tBM K "list" rAppend ta (tCons te tNil)) D σ S.H := ha S (Le.refl S) _ fun v U l o => by
  cases (show some v = some (V.ref p) from o)
  obtain ⟨_, ys, e0, _⟩ := hp.up l
  refine ⟨.inl ⟨rfl, _, SqL.of e0⟩, he U l _ fun y W lW oW => ?_⟩
  obtain ⟨xs, e1, e2, g, e3, e4⟩ := ((hp.up l).up lW).put oW hl
  refine ⟨p, xs, y, rfl, rfl, e1, e2, k _ ?_ e4⟩
  have := ((l.trans lW).lm []).transM e3 (fun x hx => by simp at hx; subst hx; exact ⟨_, e1⟩) (fun x hx => nomatch hx)
  exact this
theorem st_appN {Φ : PyData → Prop} (ha : Ev K ta σ S (.v (.ref p))) (hp : Ow K S p ds) (hpt : p ≠ t) (hl : ds.length < 900000) (ht : Town S t b) (he : EvN K t te σ S b b1 Φ) (k : ∀ d T, Φ d → Lm [t, p] S T → Town T t b1 → Ow K T p (ds ++ [d]) → D.nx σ T.H) :
    tDrop (tBM K "list" rAppend ta (tCons te tNil)) D σ S.H := ha S (Le.refl S) _ fun v U l o => by
  cases (show some v = some (V.ref p) from o)
  obtain ⟨_, ys, e0, _⟩ := hp.up l
  refine ⟨.inl ⟨rfl, _, SqL.of e0⟩, he U (l.lm _) (ht.up l) _ fun d y W hd lW tW oW => ?_⟩
  have oW' := (hp.up l).lm lW (by simp [hpt])
  obtain ⟨xs, e1, e2, g, e3, e4⟩ := oW'.put oW hl
  refine ⟨p, xs, y, rfl, rfl, e1, e2, k d _ hd ?_ ?_ e4⟩
  · have lt : Lm [t] S W := Lt.trans (l.lm _) lW (ht.up l).has
    exact lt.transM e3 (fun x hx => by simp at hx; subst hx; exact ⟨_, e1⟩) (fun x hx => by simp at hx; subst hx; exact tW.has)
  · obtain ⟨tg, n, hn, et⟩ := tW
    exact ⟨tg, n, hn, e3.2.1 _ _ (by simp [Ne.symm hpt]) et⟩
/-- given away: from now on it stands for good -/
theorem Ow.give (h : Ow K S p ds) : ∃ T : Sit, T.H = S.H ∧ Same S.G T.G ∧ Da K T.G (.ref p) (.list ds) ∧ (∀ q, q ≠ p → T.G q = S.G q) := by
  obtain ⟨g, xs, e, q⟩ := h
  exact ⟨S.freeze p _ e, rfl, S.freeze_g e g, Da.lst upd_same (DaAll.up (S.freeze_g e g) q), fun q hq => upd_ne hq⟩
theorem Sv.give {G : Hp} {v : V} {d : PyData} (o : Da K G v d) : ∀ {σ : L2.St} {δ : List Sl} {i : Nat}, Sv K G σ δ → δ[i]? = some (.v v) → Sv K G σ (δ.set i (.d d))
  | _, _, _, .nil, e => by simp at e
  | _, _, 0, .cons (a := x) a r, e => by
    simp at e
    subst e
    cases (show x = some v from a)
    exact .cons o r
  | _, _, i + 1, .cons a r, e => .cons a (Sv.give o (i := i) r (by simpa using e))
theorem Town.give (h : Town S t b) {T : Sit} (hT : T.H = S.H) (hg : ∀ q, q ≠ p → T.G q = S.G q) (hp : t ≠ p) : Town T t b := by
  obtain ⟨g, n, hn, e⟩ := h
  exact ⟨(hg t hp).trans g, n, hn, by rw [hT]; exact e⟩
/-- [e, ..] * n -/
theorem DaAll.rep {G : Hp} {xs : List V} {ds : List PyData} (h : DaAll K G xs ds) : ∀ n : Nat, DaAll K G (List.replicate n xs).flatten (List.replicate n ds).flatten
  | 0 => .nil
  | n + 1 => by
    rw [List.replicate_succ, List.replicate_succ, List.flatten_cons, List.flatten_cons]
    exact h.append (h.rep n)
theorem ev_rep {tb : TE} {n : Int} (ha : EvD K ta σ S (.list ds)) (hb : EvD K tb σ S (.int n)) (h0 : 0 ≤ n) (hn : n ≤ 1000) (hl : ds.length * n.toNat ≤ 1000000) : EvD K (tOp rRep ta tb) σ S (.list (List.replicate n.toNat ds).flatten) :=
  ev_two ha hb fun T x y _ hx hy Q q => by
    obtain ⟨a, xs, rfl, h1, h2⟩ := Da.lst_eq hx
    have ey := Da.int_eq hy
    subst ey
    refine ⟨a, n, xs, rfl, rfl, T.sub _ _ h1, by omega, by omega, sz (by rw [h2.length]; exact hl), fun p hp => ?_⟩
    exact q (.ref p) (T.push p _ hp) (T.push_le hp) (Da.lst upd_same (DaAll.up (T.push_le hp).g (h2.rep _)))
end
end MW

set_option Elab.async false
set_option linter.all false
set_option maxRecDepth 100000
set_option maxHeartbeats 2000000
namespace MW
open PySem PySem.Spec PyProof.Rows L2
/-- a law that may raise within: the exceptions' shape goes by the world -/
theorem walk_ofW {l : PySem.W.OpenLaw} {n k : Nat} {q : Program} {loose : List Str} {XP : (Str → Option Value) → Heap → Prop} {YP : World → Heap → Prop} {d : DefRec} {CX : World → CXT} {x : Str}
    (hn : l.most = some n) (hn2 : n ≤ sizeLine) (hdf : d.params.defaults = []) (hr : Room k callerA)
    (F : ∀ (w : World) (mg : Str → Option Value) (fa : Addr) (h : Heap), YP w h → h.Ns mainGlobals mg → mg d.name = some (.ref fa) →
      ∃ (K : PySem.W.Frag) (fd : FuncData) (sp : Sp), K.In h ∧ (∀ (s : Shared) (u : Value), BindsTo s fd ⟨[u], []⟩ [(x, u)]) ∧
        (∀ (H : Hp) (a : Addr) (ns : List Int), ns.length ≤ n → SqL K H a (ns.map V.int) → sp [.ref a] H (fun v _ => v = .bl true) fun _ _ _ => False) ∧
        ∀ base : Heap, K.In base → base.Ns mainGlobals mg → FnOk l.prog w K mg base (CX w) k fa fd [x] sp)
    (hCX : ∀ (w : World) (H : Hp) (s : Shared) (e : Value) (s' : Shared), CX w [] H s (fun _ _ _ => False) e s' → False) :
    PySem.W.WalkO q loose XP YP l.row.toRowW d [] (fun f vs => PySem.call f vs) := by
  refine Att.attach_call hn hdf fun w s₀ s₁ mg mb fa o pm cd doc a vs ns G Y ho hd hcd hmg hobj hints hlen hg => ?_
  obtain ⟨K, fd, sp, KX, hb, hsp, hF⟩ := F w mg fa _ Y G.T.g hmg
  exact law_call KX G.T.g G.T.b G.T.builtins G.T.nolimit hg hobj hints (Nat.le_trans hlen hn2) hr hF hb (fun H hO hS => hsp H a ns hlen hS) fun H e s' => hCX w H s₁ e s'
theorem cx_never {P : Program} {w : World} {H : Hp} {s : Shared} {e : Value} {s' : Shared} (h : L2.CX P w [] H s (fun _ _ _ => False) e s') : False := by
  obtain ⟨_, _, _, _, _, _, _, _, _, _, _, _, z⟩ := h
  exact z
theorem xc_of {K : PySem.W.Frag} {h : Heap} {mg : Str → Option Value} {x : Str} (X : K.In h) (G : h.Ns mainGlobals mg) (c1 : (He.Fa.glo x).ok K = true) (c2 : (He.Fa.exc x).ok K = true) : Xc K mg x (He.ga K x) := by
  obtain ⟨a, b, c, d⟩ := He.exc_ok c2
  exact ⟨He.glo_ok X G c1, a, b, c, d⟩
end MW

set_option Elab.async false
set_option linter.all false
set_option maxRecDepth 100000
set_option maxHeartbeats 4000000
namespace MW
open PySem PySem.Spec PyProof.Rows L2
def top (i : Nat) : Stmt := PySem.Challenge.pw_markwalkers_k91_whole_two_at_once.main.body.getD i (.Pass ⟨0, 0, 0, 0⟩)
abbrev cE (K : PySem.W.Frag) (x : Str) : Addr := He.ga K x
/-- what the top has left -/
structure Tx (K : PySem.W.Frag) (mg : Str → Option Value) : Prop where
  len : mg "len" = none
  all : mg "all" = none
  any : mg "any" = none
  sorted : mg "sorted" = none
  set : mg "set" = none
  range : mg "range" = none
  list : mg "list" = none
  tuple : mg "tuple" = none
  min : mg "min" = none
  max : mg "max" = none
  str : mg "str" = none
  int : mg "int" = none
  isinstance : mg "isinstance" = none
  dict : mg "dict" = none
  abs : mg "abs" = none
  ValueError : mg "ValueError" = none
  SIGNS : ∃ t, mg "SIGNS" = some (.str "LNRU" t)
  FAR : ∃ t, mg "FAR" = some (.int 100 t)
  MOST_MARKS : ∃ t, mg "MOST_MARKS" = some (.int 200 t)
  MarkError : Xc K mg "MarkError" (cE K "MarkError")
  BadRule : Xc K mg "BadRule" (cE K "BadRule")
  BadFloor : Xc K mg "BadFloor" (cE K "BadFloor")
  BadWalker : Xc K mg "BadWalker" (cE K "BadWalker")
  BadNumber : Xc K mg "BadNumber" (cE K "BadNumber")
  BadText : Xc K mg "BadText" (cE K "BadText")
  kits : Kits K
  MOST_STEPS : ∃ t, mg "MOST_STEPS" = some (.int 20000 t)
  MOST_PATH : ∃ t, mg "MOST_PATH" = some (.int 2000 t)
local macro_rules | `(tactic| walk_at "ev") => `(tactic| first
  | (refine ev_var (by assumption) ?_; rfl)
  | (refine ev_varv (by assumption) ?_; rfl)
  | exact ev_ci
  | exact ev_cs
  | exact ev_cb
  | exact ev_cn
  | exact eb_yes
  | exact ea_nil
  | exact ea_d0
  | exact eo_none
  | (apply ea_cons <;> walk_at "ev")
  | (apply eo_some <;> walk_at "ev")
  | (apply ev_I0 <;> walk_at "ev")
  | (apply ev_B0 <;> walk_at "ev")
  | (apply ev_chain <;> walk_at "ev")
  | (apply ev_neg <;> walk_at "ev")
  | (apply ev_lenL <;> walk_at "ev")
  | (apply ev_lenT <;> walk_at "ev")
  | (apply eb_test <;> walk_at "ev")
  | (apply eb_B <;> walk_at "ev")
  | (apply eb_not <;> walk_at "ev")
  | (apply ev_notV <;> walk_at "ev")
  | (apply ev_tup <;> walk_at "ev")
  | (apply ea_ds <;> walk_at "ev")
  | (apply ev_ixT <;> walk_at "ev")
  | (apply ev_ixL <;> walk_at "ev")
  | (apply ev_eqD <;> walk_at "ev")
  | (apply ev_neD <;> walk_at "ev")
  | (apply ev_inS <;> walk_at "ev")
  | (apply ev_isN <;> walk_at "ev")
  | (apply ev_notN <;> walk_at "ev")
  | (apply ev_andV <;> walk_at "ev")
  | (apply ev_orV <;> walk_at "ev")
  | (apply eb_and <;> walk_at "ev")
  | (apply eb_or <;> walk_at "ev")
  | (apply ev_I <;> walk_at "ev")
  | (apply ev_lenS <;> walk_at "ev")
  | (apply ev_all <;> walk_at "ev")
  | (apply ev_any <;> walk_at "ev")
  | (intro _; walk_at "ev")
  | rfl
  | (with_reducible assumption)
  | decide
  | omega)
def signs4 : Str := "LNRU"
def ruleOk (r : Str) : Bool := (decide ((2 : Int) ≤ (r.length : Nat)) && decide (((r.length : Nat) : Int) ≤ 5)) && r.cps.toList.all fun c => decide (c ∈ signs4.cps.toList)
/-- what a look at a thing promises: it goes on, or it raises -/
def Looks1 (K : PySem.W.Frag) (S : Sit) (ok : Bool) (C : Str) (Q : VK) (E : XK) : Prop := (ok = true → ∀ T, Le S T → Q .non T.H) ∧ (ok = false → ∀ T, Le S T → E (.ref (cE K C)) none T.H)
def sp_look_rule (K : PySem.W.Frag) : Sp := fun vs H Q E => ∃ (S : Sit) (r : Str), S.H = H ∧ Vs K S.G vs [.d (.str r)] ∧ r.length ≤ 1000 ∧ Looks1 K S (ruleOk r) "BadRule" Q E
def wOk : List Int → Bool
  | [x, y, h] => ((decide (0 - 100 ≤ x) && decide (x ≤ 100)) && (decide (0 - 100 ≤ y) && decide (y ≤ 100))) && (decide (0 ≤ h) && decide (h ≤ 3))
  | _ => false
def sp_look_walker (K : PySem.W.Frag) : Sp := fun vs H Q E => ∃ (S : Sit) (w : List Int), S.H = H ∧ Vs K S.G vs [.d (.tuple (w.map PyData.int))] ∧ w.length ≤ 1000 ∧ Looks1 K S (wOk w) "BadWalker" Q E
def mOk (n most : Int) : Bool := decide (0 ≤ n) && decide (n ≤ most)
def sp_look_many (K : PySem.W.Frag) : Sp := fun vs H Q E => ∃ (S : Sit) (n most : Int), S.H = H ∧ Vs K S.G vs [.d (.int n), .d (.int most)] ∧ Looks1 K S (mOk n most) "BadNumber" Q E
theorem sc_look_rule : FnScope ["rule", "sign"] ["rule"] (defScope (top 13)) := ⟨rfl, rfl, rfl, by decide +kernel, rfl, by decide +kernel, by decide +kernel⟩
theorem sc_look_walker : FnScope ["walker", "good"] ["walker"] (defScope (top 14)) := ⟨rfl, rfl, rfl, by decide +kernel, rfl, by decide +kernel, by decide +kernel⟩
theorem sc_look_many : FnScope ["many", "most"] ["many", "most"] (defScope (top 24)) := ⟨rfl, rfl, rfl, by decide +kernel, rfl, by decide +kernel, by decide +kernel⟩
section
variable {P : Program} {w : World} {K : PySem.W.Frag} {mg : Str → Option Value} {base : Heap}
theorem k_look_many (T : Tx K mg) (D : Def K mg "look_many" (top 24)) : FnK P w K mg base 1 "look_many" ["many", "most"] (sp_look_many K) := by
  refine fn_mk D sc_look_many (fun vs H Q E h => ?_) (fun _ _ _ _ _ _ us hl => match us, hl with | [_, _], _ => rfl) (fun f cdv A outer s H vs Q E hr h => ?_)
  · obtain ⟨S, n, most, rfl, hv, _⟩ := h
    exact hv.len
  obtain ⟨S, n, most, rfl, hv, h1, h2⟩ := h
  refine ⟨_, (pss_one (ps_if (pt_not (pt_chain op_le op_le pe_int (pv 0) (pv 1))) (pss_one (ps_rz T.BadNumber rfl rfl rfl rfl rfl)) pss_nil)), ?_⟩
  have hE := Sv.start (N := ["many", "most"]) hv rfl
  apply st_if (K := K)
  case hb => walk_at "ev"
  case h1 => exact fun e T l => h2 (not_t e) T l
  case h2 => exact fun e T l => h1 (not_f e) T l
theorem k_look_walker (T : Tx K mg) (D : Def K mg "look_walker" (top 14)) : FnK P w K mg base 1 "look_walker" ["walker"] (sp_look_walker K) := by
  refine fn_mk D sc_look_walker (fun vs H Q E h => ?_) (fun _ _ _ _ _ _ us hl => match us, hl with | [_], _ => rfl) (fun f cdv A outer s H vs Q E hr h => ?_)
  · obtain ⟨S, w, rfl, hv, _⟩ := h
    exact hv.len
  obtain ⟨S, w, rfl, hv, hl, h1, h2⟩ := h
  refine ⟨_, (pss_cons (ps_set (i := 1) sc_look_walker.nd rfl (Or.inl rfl) (pe_and (pe_cmpR (kr_eqD (K := K) hr.units) (pe_callB (kr_len (K := K)) (by rfl) T.len (by decide +kernel) (pa_cons (pv 0) pa_nil)) pe_int (nomark _)) (pe_and (pe_chain op_le op_le (pe_op op_sub pe_int (pe_kint T.FAR)) (pe_ix (kx_tup (K := K)) (pv 0) pe_int (fun _ _ => rfl)) (pe_kint T.FAR)) (pe_one (pe_chain op_le op_le (pe_op op_sub pe_int (pe_kint T.FAR)) (pe_ix (kx_tup (K := K)) (pv 0) pe_int (fun _ _ => rfl)) (pe_kint T.FAR))))))
      (pss_one (ps_if (PW.pt (pw_or (pt_not (pt_val (pv 1))) (pw_or1 (pt_not (pt_chain op_le op_le pe_int (pe_ix (kx_tup (K := K)) (pv 0) pe_int (fun _ _ => rfl)) pe_int))))) (pss_one (ps_rz T.BadWalker rfl rfl rfl rfl rfl)) pss_nil))), ?_⟩
  have hE := Sv.start (N := ["walker", "good"]) hv rfl
  by_cases h3 : ∃ x y z, w = [x, y, z]
  · obtain ⟨x, y, z, rfl⟩ := h3
    apply st_asg hE
    case he => walk_at "ev"
    case k =>
      intro σ1 T1 l1 hE1
      dsimp only
      apply st_if (K := K)
      case hb => walk_at "ev"
      case h1 => exact fun e T l => h2 (by simp [wOk, PyData.eqv] at e ⊢; omega) T (l1.trans l)
      case h2 => exact fun e T l => h1 (by simp [wOk, PyData.eqv] at e ⊢; omega) T (l1.trans l)
  · have n3 : ¬ w.length = 3 := fun e => h3 (match w, e with | [x, y, z], _ => ⟨x, y, z, rfl⟩)
    have e0 : wOk w = false := by
      unfold wOk
      split
      · exact absurd ⟨_, _, _, rfl⟩ h3
      · rfl
    have e1 : PyData.eqv (.int (((w.map PyData.int).length : Nat) : Int)) (.int 3) = false := by
      simp [PyData.eqv]; omega
    apply st_asg hE
    case he =>
      apply ev_andV (b := false)
      · walk_at "ev"
      · intro e
        rw [e1] at e
        cases e
    case k =>
      intro σ1 T1 l1 hE1
      rw [e1] at hE1
      dsimp only
      apply st_if (K := K) (b := true)
      case hb =>
        apply eb_or (a := true) (b := false)
        · exact eb_not (b := false) (by walk_at "ev")
        · intro e
          cases e
      case h1 => exact fun e T l => h2 e0 T (l1.trans l)
      case h2 => exact fun e T l => nomatch e
theorem k_look_rule (T : Tx K mg) (D : Def K mg "look_rule" (top 13)) : FnK P w K mg base 1 "look_rule" ["rule"] (sp_look_rule K) := by
  refine fn_mk D sc_look_rule (fun vs H Q E h => ?_) (fun _ _ _ _ _ _ us hl => match us, hl with | [_], _ => rfl) (fun f cdv A outer s H vs Q E hr h => ?_)
  · obtain ⟨S, r, rfl, hv, _⟩ := h
    exact hv.len
  obtain ⟨S, r, rfl, hv, hl, h1, h2⟩ := h
  refine ⟨_, (pss_one (ps_if (PW.pt (pw_or (pt_not (pt_chain op_le op_le pe_int (pe_callB (kr_len (K := K)) (by rfl) T.len (by decide +kernel) (pa_cons (pv 0) pa_nil)) pe_int)) (pw_or1 (pt_not (pt_val (pe_callB (kr_all (K := K) rfl) (by rfl) T.all (by decide +kernel) (pa_cons (pe_lc (own := [("sign", 1)]) rfl sc_look_rule.nd (pi_str (pv 0)) (blkOk_by (N := ["rule", "sign"]) (sc := defScope (top 13)) (by decide +kernel)) (fun _ _ _ _ _ => (pg_name (i := 1) sc_look_rule.nd rfl (Or.inl rfl))) (fun _ _ _ _ _ => pts_nil) (fun _ _ _ _ _ => (pe_cmpR op_in_sign (pv 1) (pe_kstr T.SIGNS) (by rfl)))) pa_nil))))))) (pss_one (ps_rz T.BadRule rfl rfl rfl rfl rfl)) pss_nil)), ?_⟩
  have hE := Sv.start (N := ["rule", "sign"]) hv rfl
  apply st_if (K := K) (b := !ruleOk r)
  case hb =>
    unfold ruleOk
    rw [Bool.not_and]
    apply eb_or
    · walk_at "ev"
    · intro _
      apply eb_not
      apply eb_B
      refine ev_is (ev_all (bs := r.cps.toList.map fun c => decide (c ∈ signs4.cps.toList)) ?_) (by simp [List.all_map])
      rw [List.map_map]
      refine ev_lcm hE (ei_str (x := r) (by walk_at "ev")) (fun c => [(1, .str ⟨#[c]⟩)]) _ (fun c _ => tg_name) (fun c _ q hq => by simp at hq; subst hq; simp) (fun c _ σ' T l hE' => ?_) (by have : r.cps.toList.length = r.length := rfl; omega)
      exact ev_inS (ev_var hE' rfl) ev_cs
  case h1 => exact fun e T l => h2 (not_t e) T l
  case h2 => exact fun e T l => h1 (not_f e) T l
end

end MW

set_option Elab.async false
set_option linter.all false
set_option maxRecDepth 100000
set_option maxHeartbeats 4000000
namespace MW
open PySem PySem.Spec PyProof.Rows L2
local macro_rules | `(tactic| walk_at "ev") => `(tactic| first
  | (refine ev_var (by assumption) ?_; rfl)
  | (refine ev_varv (by assumption) ?_; rfl)
  | exact ev_ci
  | exact ev_cs
  | exact ev_cb
  | exact ev_cn
  | exact eb_yes
  | exact ea_nil
  | exact ea_d0
  | exact eo_none
  | (apply ea_cons <;> walk_at "ev")
  | (apply eo_some <;> walk_at "ev")
  | (apply ev_I0 <;> walk_at "ev")
  | (apply ev_B0 <;> walk_at "ev")
  | (apply ev_chain <;> walk_at "ev")
  | (apply ev_neg <;> walk_at "ev")
  | (apply ev_lenL <;> walk_at "ev")
  | (apply ev_lenT <;> walk_at "ev")
  | (apply eb_test <;> walk_at "ev")
  | (apply eb_B <;> walk_at "ev")
  | (apply eb_not <;> walk_at "ev")
  | (apply ev_notV <;> walk_at "ev")
  | (apply ev_tup <;> walk_at "ev")
  | (apply ea_ds <;> walk_at "ev")
  | (apply ev_ixT <;> walk_at "ev")
  | (apply ev_ixL <;> walk_at "ev")
  | (apply ev_eqD <;> walk_at "ev")
  | (apply ev_neD <;> walk_at "ev")
  | (apply ev_inS <;> walk_at "ev")
  | (apply ev_isN <;> walk_at "ev")
  | (apply ev_notN <;> walk_at "ev")
  | (apply ev_andV <;> walk_at "ev")
  | (apply ev_orV <;> walk_at "ev")
  | (apply eb_and <;> walk_at "ev")
  | (apply eb_or <;> walk_at "ev")
  | (apply ev_I <;> walk_at "ev")
  | (apply ev_lenS <;> walk_at "ev")
  | (apply ev_all <;> walk_at "ev")
  | (apply ev_any <;> walk_at "ev")
  | (intro _; walk_at "ev")
  | rfl
  | (with_reducible assumption)
  | decide
  | omega)
/-- floors that our rule of few places serves -/
def Fl0 (n : Nat) (fl : List Mk) : Prop := fl.length ≤ 200 → fl.all (markOk n) = true → fl.length < 64 ∧ ∀ p ∈ fl.map plOf, (0 ≤ p.1 ∧ p.1 < 64) ∧ 0 ≤ p.2 ∧ p.2 < 64
def sp_look_floor (K : PySem.W.Frag) : Sp := fun vs H Q E => ∃ (S : Sit) (r : Str) (fl : List Mk), S.H = H ∧ Vs K S.G vs [.d (.str r), .d (.list (fl.map eM))] ∧ r.length ≤ 1000 ∧ fl.length ≤ 1000 ∧ Fl0 r.length fl ∧ Looks1 K S (floorOk r.length fl) "BadFloor" Q E
theorem sc_look_floor : FnScope ["rule", "floor", "mark", "x", "y", "colour", "places"] ["rule", "floor"] (defScope (top 15)) := ⟨rfl, rfl, rfl, by decide +kernel, rfl, by decide +kernel, by decide +kernel⟩
section
variable {P : Program} {w : World} {K : PySem.W.Frag} {mg : Str → Option Value} {base : Heap}
theorem k_look_floor (T : Tx K mg) (D : Def K mg "look_floor" (top 15)) : FnK P w K mg base 1 "look_floor" ["rule", "floor"] (sp_look_floor K) := by
  refine fn_mk D sc_look_floor (fun vs H Q E h => ?_) (fun _ _ _ _ _ _ us hl => match us, hl with | [_, _], _ => rfl) (fun f cdv A outer s H vs Q E hr h => ?_)
  · obtain ⟨S, r, fl, rfl, hv, _⟩ := h
    exact hv.len
  obtain ⟨S, r, fl, rfl, hv, hrl, hfl, h0, h1, h2⟩ := h
  refine ⟨_, (pss_cons (ps_if (PW.pt (pw_or (pt_cmpR op_gt (pe_callB (kr_len (K := K)) (by rfl) T.len (by decide +kernel) (pa_cons (pv 1) pa_nil)) (pe_kint T.MOST_MARKS) (nomark _)) (pw_or1 (pt_not (pt_val (pe_callB (kr_all (K := K) rfl) (by rfl) T.all (by decide +kernel) (pa_cons (pe_lc (own := [("mark", 2)]) rfl sc_look_floor.nd (kpi_list (K := K) (pv 1)) (blkOk_by (N := ["rule", "floor", "mark", "x", "y", "colour", "places"]) (sc := defScope (top 15)) (by decide +kernel)) (fun _ _ _ _ _ => (pg_name (i := 2) sc_look_floor.nd rfl (Or.inl rfl))) (fun _ _ _ _ _ => pts_nil) (fun _ _ _ _ _ => (pe_cmpR (kr_eqD (K := K) hr.units) (pe_callB (kr_len (K := K)) (by rfl) T.len (by decide +kernel) (pa_cons (pv 2) pa_nil)) pe_int (nomark _)))) pa_nil))))))) (pss_one (ps_rz T.BadFloor rfl rfl rfl rfl rfl)) pss_nil)
      (pss_cons (ps_for (passes_of rfl) rfl (kpi_list (K := K) (pv 1)) (kpg_tup (K := K) rfl (pgs_cons (pg_name (i := 3) sc_look_floor.nd rfl (Or.inl rfl)) (pgs_cons (pg_name (i := 4) sc_look_floor.nd rfl (Or.inl rfl)) (pgs_cons (pg_name (i := 5) sc_look_floor.nd rfl (Or.inl rfl)) pgs_nil)))) (pss_one (ps_if (PW.pt (pw_or (pt_not (pt_chain op_le op_le (pe_op op_sub pe_int (pe_kint T.FAR)) (pv 3) (pe_kint T.FAR))) (pw_or (pt_not (pt_chain op_le op_le (pe_op op_sub pe_int (pe_kint T.FAR)) (pv 4) (pe_kint T.FAR))) (pw_or1 (pt_not (pt_chain op_le op_lt pe_int (pv 5) (pe_callB (kr_len (K := K)) (by rfl) T.len (by decide +kernel) (pa_cons (pv 0) pa_nil)))))))) (pss_one (ps_rz T.BadFloor rfl rfl rfl rfl rfl)) pss_nil)))
      (pss_cons (ps_setLc (i := 6) (own := [("mark", 2)]) rfl sc_look_floor.nd rfl rfl (sw_true rfl rfl rfl (by decide +kernel)) (kpi_list (K := K) (pv 1)) (blkOk_by (N := ["rule", "floor", "mark", "x", "y", "colour", "places"]) (sc := defScope (top 15)) (by decide +kernel)) (fun _ _ _ _ _ => (pg_name (i := 2) sc_look_floor.nd rfl (Or.inl rfl))) (fun _ _ _ _ _ => pts_nil) (fun _ _ _ _ _ => (pe_slice (ks_tup (K := K)) (pv 2) po_none (po_some pe_int))))
      (pss_one (ps_if (pt_cmpR (kr_neD (K := K) hr.units) (pe_callB (cr_sortedT rfl) (by rfl) T.sorted (by decide +kernel) (pa_cons (pe_callTy (cr_setOfT rfl hr.units) (by rfl) T.set (by decide +kernel) (pa_cons (pv 6) pa_nil)) pa_nil)) (pv 6) (nomark _)) (pss_one (ps_rz T.BadFloor rfl rfl rfl rfl rfl)) pss_nil))))), ?_⟩
  have hE := Sv.start (N := ["rule", "floor", "mark", "x", "y", "colour", "places"]) hv rfl
  -- too many marks
  apply st_if (K := K) (b := decide ((200 : Int) < ((fl.map eM).length : Nat)) || !true)
  case hb =>
    apply eb_or
    · walk_at "ev"
    · intro _
      apply eb_not
      apply eb_B
      refine ev_is (ev_all (bs := fl.map fun _ => true) ?_) (by simp [List.all_map])
      rw [List.map_map]
      refine ev_lcm hE (ei_list (by walk_at "ev")) (fun m => [(2, eM m)]) _ (fun m _ => tg_name) (fun m _ q hq => by simp at hq; subst hq; simp) (fun m _ σ' T l hE' => ?_) (by omega)
      refine ev_is (ev_eqD (d := .int 3) (e := .int 3) (ev_lenT (ds := [.int m.1, .int m.2.1, .int m.2.2]) (ev_var hE' rfl)) ev_ci rfl rfl) rfl
  case h1 =>
    intro e T l
    refine h2 ?_ T l
    simp at e
    unfold floorOk
    rw [decide_eq_false (by omega)]
    rfl
  case h2 =>
    intro e T1 l1
    simp at e
    have hl : fl.length ≤ 200 := by omega
    dsimp only [tNext]
    -- the marks, one by one
    apply st_forT (xs := fl) (enc := eM) (ei_list (ev_var (hE.up l1.g) rfl)) (fun _ n σ' T => Le T1 T ∧ (fl.take n).all (markOk r.length) = true ∧ Sv K T.G σ' [.d (.str r), .d (.list (fl.map eM)), .non, .non, .non, .non, .non])
    case h0 => exact fun U l => ⟨l, rfl, (hE.up (l1.trans l).g)⟩
    case hs =>
      intro U n m σ' T v lU hm hG hI hv
      obtain ⟨lT, hall, hE'⟩ := hI
      refine tg_tup3 v σ' T _ hv fun σ2 hE2 _ => ?_
      have hE2 := hE2 _ hE'
      apply st_if (K := K) (b := !markOk r.length m)
      case hb =>
        apply eb_is
        · apply eb_or
          · walk_at "ev"
          · intro _
            apply eb_or
            · walk_at "ev"
            · intro _
              apply eb_not
              apply eb_test
              apply ev_chain
              · walk_at "ev"
              · walk_at "ev"
              · exact ev_lenS (ev_var hE2 rfl) (by omega)
        · unfold markOk
          simp only [Bool.not_and]
      case h1 =>
        intro e T2 l2
        refine h2 ?_ T2 (l1.trans (lT.trans l2))
        have : fl.all (markOk r.length) = false := by
          cases q : fl.all (markOk r.length) with
          | false => rfl
          | true =>
            have z := List.all_eq_true.mp q m (List.mem_of_getElem? hm)
            rw [z] at e
            cases e
        unfold floorOk
        rw [this, Bool.false_and, Bool.and_false]
      case h2 =>
        intro e T2 l2
        refine ⟨T2, rfl, l2.g, lT.trans l2, ?_, (((hE2.up l2.g).forget 3).forget 4).forget 5⟩
        rw [List.take_add_one, hm, List.all_append, hall]
        simp [not_f e]
    case hd =>
      intro U σ' T2 lU hG hI
      obtain ⟨lT, hall, hE'⟩ := hI
      rw [List.take_length] at hall
      dsimp only
      -- the places
      apply st_asg (s := .d (.list ((fl.map plOf).map eP))) hE'
      case he =>
        rw [List.map_map]
        refine ev_lcm hE' (ei_list (ev_var hE' rfl)) (fun m => [(2, eM m)]) _ (fun m _ => tg_name) (fun m _ q hq => by simp at hq; subst hq; simp) (fun m _ σ' T l hE' => ?_) (by omega)
        exact ev_slT (ds := [.int m.1, .int m.2.1, .int m.2.2]) (ev_var hE' rfl) eo_none (eo_some ev_ci) (by show ¬ (HT.sIx 3 0 none = 0 ∧ HT.sIx 3 3 (some 2) = 3); decide)
      case k =>
        intro σ3 T3 l3 hE3
        dsimp only
        obtain ⟨z1, z2⟩ := h0 hl hall
        have sh : ∀ l : List Pl, SeqAt.shaped (.list (l.map eP)) = true := fun l => (shp_map shp_P l).to (by decide)
        apply st_if (K := K) (b := !decide (sd (fl.map plOf) = fl.map plOf))
        case hb =>
          apply eb_test
          refine ev_is (ev_neD (ev_sortset0 (ev_var hE3 rfl) (by rw [List.length_map]; exact z1) z2) (ev_var hE3 rfl) (sh _) (sh _)) (by rw [eqv_lists eqv_P])
        case h1 =>
          intro e T4 l4
          refine h2 ?_ T4 (((l1.trans lT).trans l3).trans l4)
          unfold floorOk
          rw [not_t e, Bool.and_false, Bool.and_false]
        case h2 =>
          intro e T4 l4
          refine h1 ?_ T4 (((l1.trans lT).trans l3).trans l4)
          unfold floorOk
          rw [not_f e, hall, decide_eq_true hl]
          rfl
end

end MW

set_option Elab.async false
set_option linter.all false
set_option maxRecDepth 100000
set_option maxHeartbeats 4000000
namespace MW
open PySem PySem.Spec PyProof.Rows L2
local macro_rules | `(tactic| walk_at "ev") => `(tactic| first
  | (refine ev_var (by assumption) ?_; rfl)
  | (refine ev_varv (by assumption) ?_; rfl)
  | exact ev_ci
  | exact ev_cs
  | exact ev_cb
  | exact ev_cn
  | exact eb_yes
  | exact ea_nil
  | exact ea_d0
  | exact eo_none
  | (apply ea_cons <;> walk_at "ev")
  | (apply eo_some <;> walk_at "ev")
  | (apply ev_I0 <;> walk_at "ev")
  | (apply ev_B0 <;> walk_at "ev")
  | (apply ev_chain <;> walk_at "ev")
  | (apply ev_neg <;> walk_at "ev")
  | (apply ev_lenL <;> walk_at "ev")
  | (apply ev_lenT <;> walk_at "ev")
  | (apply eb_test <;> walk_at "ev")
  | (apply eb_B <;> walk_at "ev")
  | (apply eb_not <;> walk_at "ev")
  | (apply ev_notV <;> walk_at "ev")
  | (apply ev_tup <;> walk_at "ev")
  | (apply ea_ds <;> walk_at "ev")
  | (apply ev_ixT <;> walk_at "ev")
  | (apply ev_ixL <;> walk_at "ev")
  | (apply ev_eqD <;> walk_at "ev")
  | (apply ev_neD <;> walk_at "ev")
  | (apply ev_inS <;> walk_at "ev")
  | (apply ev_isN <;> walk_at "ev")
  | (apply ev_notN <;> walk_at "ev")
  | (apply ev_andV <;> walk_at "ev")
  | (apply ev_orV <;> walk_at "ev")
  | (apply eb_and <;> walk_at "ev")
  | (apply eb_or <;> walk_at "ev")
  | (apply ev_I <;> walk_at "ev")
  | (apply ev_lenS <;> walk_at "ev")
  | (apply ev_all <;> walk_at "ev")
  | (apply ev_any <;> walk_at "ev")
  | (intro _; walk_at "ev")
  | rfl
  | (with_reducible assumption)
  | decide
  | omega)
theorem sc__law_cell : FnScope ["script", "k"] ["script", "k"] (defScope (top 57)) := ⟨rfl, rfl, rfl, by decide +kernel, rfl, by decide +kernel, by decide +kernel⟩
theorem sc__law_mix : FnScope ["script", "k", "number"] ["script", "k"] (defScope (top 58)) := ⟨rfl, rfl, rfl, by decide +kernel, rfl, by decide +kernel, by decide +kernel⟩
theorem sc__law_draw : FnScope ["script", "town", "many"] ["script", "town", "many"] (defScope (top 59)) := ⟨rfl, rfl, rfl, by decide +kernel, rfl, by decide +kernel, by decide +kernel⟩
theorem sc__law_pick : FnScope ["script", "town", "some"] ["script", "town", "some"] (defScope (top 60)) := ⟨rfl, rfl, rfl, by decide +kernel, rfl, by decide +kernel, by decide +kernel⟩
section
variable {P : Program} {w : World} {K : PySem.W.Frag} {mg : Str → Option Value} {base : Heap}
theorem k__law_cell (T : Tx K mg) (D : Def K mg "_law_cell" (top 57)) : FnK P w K mg base 1 "_law_cell" ["script", "k"] (sp__law_cell K) := by
  refine fn_mk D sc__law_cell (fun vs H Q E h => ?_) (fun _ _ _ _ _ _ us hl => match us, hl with | [_, _], _ => rfl) (fun f cdv A outer s H vs Q E hr h => ?_)
  · obtain ⟨S, a, ns, k, rfl, hv, _⟩ := h
    exact hv.len
  obtain ⟨S, a, ns, k, rfl, hv, hs, h1⟩ := h
  refine ⟨_, (pss_cons (ps_if (pt_truth (pv 0) (by intro _; rfl)) (pss_one (ps_ret (pe_ix (kx_list (K := K)) (pv 0) (pe_op op_mod (pv 1) (pe_callB (kr_len (K := K)) (by rfl) T.len (by decide +kernel) (pa_cons (pv 0) pa_nil))) (fun _ _ => rfl)))) pss_nil)
      (pss_one (ps_ret pe_int))), ?_⟩
  have hE := Sv.start (N := ["script", "k"]) hv rfl
  apply st_if (K := K) (b := !(ns.map V.int).isEmpty)
  case hb => exact eb_truQ (ev_varv hE rfl) fun T l => sq_up hs l.g
  case h1 =>
    intro e T1 l1
    have hE1 := hE.up l1.g
    have hl : 0 < ns.length := by
      cases ns with
      | nil => cases e
      | cons n ns => simp
    have hr0 := Int.emod_nonneg k (show ((ns.length : Nat) : Int) ≠ 0 by omega)
    have hr1 := Int.emod_lt_of_pos k (show (0 : Int) < ((ns.length : Nat) : Int) by omega)
    have hlt : (k % (ns.length : Int)).toNat < ns.length := by omega
    refine st_ret (ev_ixQ (i := k % ((ns.map V.int).length : Nat)) (n := ns[(k % (ns.length : Int)).toNat]) (ev_varv hE1 rfl) (ev_I (ev_var hE1 rfl) (ev_lenQ (ev_varv hE1 rfl) fun T l => sq_up hs (l1.trans l).g) ?_) (fun T l => sq_up hs (l1.trans l).g) ?_) fun v T2 l2 o => ?_
    · show (0 : Int) < ((ns.map V.int).length : Nat)
      rw [List.length_map]; omega
    · unfold L2.atI ixN
      rw [List.length_map, if_pos hr0, if_pos hr1]
      show (ns.map V.int)[(k % (ns.length : Int)).toNat]? = _
      rw [List.getElem?_map, List.getElem?_eq_getElem hlt]
      rfl
    · have ev := Da.int_eq o
      subst ev
      exact h1 _ T2 (l1.trans l2)
  case h2 =>
    intro e T1 l1
    dsimp only [tNext]
    refine st_ret (K := K) ev_ci fun v T2 l2 o => ?_
    have ev := Da.int_eq o
    subst ev
    exact h1 _ T2 (l1.trans l2)
theorem k__law_mix (T : Tx K mg) (D : Def K mg "_law_mix" (top 58)) (F__law_cell : FnK P w K mg base 1 "_law_cell" ["script", "k"] (sp__law_cell K)) : FnK P w K mg base 2 "_law_mix" ["script", "k"] (sp__law_mix K) := by
  refine fn_mk D sc__law_mix (fun vs H Q E h => ?_) (fun _ _ _ _ _ _ us hl => match us, hl with | [_, _], _ => rfl) (fun f cdv A outer s H vs Q E hr h => ?_)
  · obtain ⟨S, a, ns, k, rfl, hv, _⟩ := h
    exact hv.len
  obtain ⟨S, a, ns, k, rfl, hv, hs, h1⟩ := h
  refine ⟨_, (pss_cons (ps_set (i := 2) sc__law_mix.nd rfl (Or.inl rfl) (pe_op op_mod (pe_op op_add (pe_fn F__law_cell (hr.mono (by decide)) (passes_call (takes_of rfl rfl rfl rfl) (fun _ _ _ _ h => h)) (pa_cons (pv 0) (pa_cons (pv 1) pa_nil))) (pe_op op_mul pe_int (pe_op op_add (pv 1) pe_int))) pe_int))
      (pss_cons (ps_set (i := 2) sc__law_mix.nd rfl (Or.inl rfl) (pe_op op_mod (pe_op op_pow (pv 2) pe_int) pe_int))
      (pss_one (ps_ret (pe_op op_mod (pe_op op_add (pe_op op_mul (pe_op op_fdiv (pv 2) pe_int) pe_int) (pv 2)) pe_int))))), ?_⟩
  have hE := Sv.start (N := ["script", "k", "number"]) hv rfl
  refine st_asgZ (φ := fun n => 0 ≤ n ∧ n < 4294967291) hE ?_ fun n σ1 T1 hn l1 hE1 => ?_
  · refine ez_I (φ := fun _ => True) (ψ := fun j => j = 4294967291) (ez_I0 (φ := fun _ => True) (ψ := fun _ => True) ?_ ?_ fun _ _ _ _ => trivial) (ez_of ev_ci rfl) (fun i j _ hj => ?_) (fun i j _ hj => ?_)
    · intro T0 l0 Q0 q0
      refine (ea_cons (ev_varv hE rfl) (ea_cons (ev_var hE rfl) ea_nil)) T0 l0 _ fun vs U lU o => ?_
      rw [List.append_nil]
      exact ⟨U, a, ns, k, rfl, o, (l0.trans lU).g.seq hs, fun i W lW => q0 i W trivial (lU.trans lW)⟩
    · exact ez_of (ev_I ev_ci (ev_I0 (ev_var hE rfl) ev_ci) (.inl ⟨by decide, by decide⟩)) trivial
    · subst hj; show (0 : Int) < 4294967291; decide
    · subst hj
      exact ⟨Int.emod_nonneg _ (by decide), Int.emod_lt_of_pos _ (by decide)⟩
  dsimp only
  refine st_asgZ (φ := fun n => 0 ≤ n ∧ n < 4294967279) hE1 ?_ fun m σ2 T2 hm l2 hE2 => ?_
  · refine ez_I (φ := fun _ => True) (ψ := fun j => j = 4294967279) (ez_of (ev_I (ev_var hE1 rfl) ev_ci ?_) trivial) (ez_of ev_ci rfl) (fun i j _ hj => ?_) (fun i j _ hj => ?_)
    · refine ⟨by decide, by decide, ?_⟩
      have : n.natAbs < 4294967291 := by omega
      exact Nat.lt_trans this (by decide)
    · subst hj; show (0 : Int) < 4294967279; decide
    · subst hj
      exact ⟨Int.emod_nonneg _ (by decide), Int.emod_lt_of_pos _ (by decide)⟩
  dsimp only
  refine st_retZ (K := K) (φ := fun n => 0 ≤ n) ?_ fun z T3 hz l3 => h1 z T3 hz ((l1.trans l2).trans l3)
  refine ez_I (φ := fun _ => True) (ψ := fun j => j = 4294967231) (ez_of (ev_I0 (ev_I (ev_I (ev_var hE2 rfl) ev_ci ⟨by decide, by decide⟩) ev_ci (.inr ⟨by decide, by decide⟩)) (ev_var hE2 rfl)) trivial) (ez_of ev_ci rfl) (fun i j _ hj => ?_) (fun i j _ hj => ?_)
  · subst hj; show (0 : Int) < 4294967231; decide
  · subst hj
    exact Int.emod_nonneg _ (by decide)
theorem k__law_draw (T : Tx K mg) (D : Def K mg "_law_draw" (top 59)) (F__law_mix : FnK P w K mg base 2 "_law_mix" ["script", "k"] (sp__law_mix K)) : FnK P w K mg base 3 "_law_draw" ["script", "town", "many"] (sp__law_draw K) := by
  refine fn_mk D sc__law_draw (fun vs H Q E h => ?_) (fun _ _ _ _ _ _ us hl => match us, hl with | [_, _, _], _ => rfl) (fun f cdv A outer s H vs Q E hr h => ?_)
  · obtain ⟨S, a, t, ns, many, b, rfl, hv, _⟩ := h
    exact hv.len
  obtain ⟨S, a, t, ns, many, b, rfl, hv, hs, ht, hm, h1⟩ := h
  refine ⟨_, (pss_cons (ps_expr (kpe_bm (K := K) rfl PySem.F.plainAttrs_list PySem.F.slot_list_append PySem.F.type_list_append mt_append (pv 1) (pa_cons pe_int pa_nil)))
      (pss_one (ps_ret (pe_op op_mod (pe_op op_fdiv (pe_fn F__law_mix (hr.mono (by decide)) (passes_call (takes_of rfl rfl rfl rfl) (fun _ _ _ _ h => h)) (pa_cons (pv 0) (pa_cons (pe_callB (kr_len (K := K)) (by rfl) T.len (by decide +kernel) (pa_cons (pv 1) pa_nil)) pa_nil))) pe_int) (pv 2))))), ?_⟩
  have hE := Sv.start (N := ["script", "town", "many"]) hv rfl
  refine st_town (K := K) (ev_varv hE rfl) ht fun T1 l1 t1 => ?_
  have hE1 := hE.up l1.g
  dsimp only
  obtain ⟨g1, n1, hn1, e1⟩ := id t1
  refine st_retZ (K := K) (φ := fun n => 0 ≤ n ∧ n < many) ?_ fun z T2 hz l2 => h1 z T2 hz.1 hz.2 (l1.trans (l2.lm _) t1.has) (t1.up l2)
  refine ez_I (φ := fun n => 0 ≤ n) (ψ := fun j => j = many) (ez_I (φ := fun n => 0 ≤ n) (ψ := fun j => j = 8) ?_ (ez_of ev_ci rfl) (fun i j _ hj => ?_) (fun i j hi hj => ?_)) (ez_of (ev_var hE1 rfl) rfl) (fun i j _ hj => ?_) (fun i j _ hj => ?_)
  · intro T0 l0 Q0 q0
    refine (ea_cons (ev_varv hE1 rfl) (ea_cons (ev_lenQ (xs := zeros n1) (ev_varv hE1 rfl) fun T l => SqL.of (l.2.1 _ _ e1)) ea_nil)) T0 l0 _ fun vs U lU o => ?_
    rw [List.append_nil]
    exact ⟨U, a, ns, _, rfl, o, (l1.g.trans (l0.trans lU).g).seq hs, fun i W hi lW => q0 i W hi (lU.trans lW)⟩
  · subst hj; exact ⟨by decide, by decide⟩
  · subst hj; exact Int.ediv_nonneg hi (by decide)
  · subst hj; exact hm
  · subst hj; exact ⟨Int.emod_nonneg _ (by omega), Int.emod_lt_of_pos _ hm⟩
theorem k__law_pick (T : Tx K mg) (D : Def K mg "_law_pick" (top 60)) (F__law_draw : FnK P w K mg base 3 "_law_draw" ["script", "town", "many"] (sp__law_draw K)) : FnK P w K mg base 4 "_law_pick" ["script", "town", "some"] (sp__law_pick K) := by
  refine fn_mk D sc__law_pick (fun vs H Q E h => ?_) (fun _ _ _ _ _ _ us hl => match us, hl with | [_, _, _], _ => rfl) (fun f cdv A outer s H vs Q E hr h => ?_)
  · obtain ⟨S, a, t, ns, ds, b, rfl, hv, _⟩ := h
    exact hv.len
  obtain ⟨S, a, t, ns, ds, b, rfl, hv, hs, ht, hm, h1⟩ := h
  refine ⟨_, (pss_one (ps_ret (pe_ix (kx_list (K := K)) (pv 2) (pe_fn F__law_draw (hr.mono (by decide)) (passes_call (takes_of rfl rfl rfl rfl) (fun _ _ _ _ h => h)) (pa_cons (pv 0) (pa_cons (pv 1) (pa_cons (pe_callB (kr_len (K := K)) (by rfl) T.len (by decide +kernel) (pa_cons (pv 2) pa_nil)) pa_nil)))) (fun _ _ => rfl)))), ?_⟩
  have hE := Sv.start (N := ["script", "town", "some"]) hv rfl
  have hd := en_draw (K := K) (t := t) (E := E) (σ := L2.start ["script", "town", "some"] vs) (S := S) (b := b) (a := a) (ns := ns) (many := (ds.length : Nat)) (tr := tCons (tVar 0) (tCons (tVar 1) (tCons (tCB (rLen K) (tCons (tVar 2) tNil)) tNil)))
    (fun T g => ea_cons (ev_varv (hE.up g) rfl) (ea_cons (ev_varv (hE.up g) rfl) (ea_cons (ev_lenL (ev_var (hE.up g) rfl)) ea_nil))) hs (by omega)
  unfold tRet tOp
  refine ev_var hE (i := 2) rfl S (Le.refl S) _ fun v U lU o => ?_
  dsimp only
  refine hd U (lU.lm _) (ht.up lU) _ fun d w T2 hd l2 t2 o2 => ?_
  obtain ⟨i, rfl, hi0, hi1⟩ := hd
  have ew := Da.int_eq o2
  subst ew
  obtain ⟨x, xs, rfl, e1, e2⟩ := Da.lst_eq (Da.up l2.g o)
  have hlt : i.toNat < ds.length := by omega
  have eI : L2.atI ds i = some ds[i.toNat] := by
    unfold L2.atI ixN
    rw [if_pos hi0, if_pos hi1]
    exact List.getElem?_eq_getElem hlt
  obtain ⟨z, e3, e4⟩ := e2.atI eI
  exact ⟨x, xs, i, z, rfl, rfl, SqL.of (T2.sub _ _ e1), e3, h1 _ z T2 (List.getElem_mem hlt) (Lt.trans (lU.lm _) l2 (ht.up lU).has) t2 e4⟩
end

end MW

set_option Elab.async false
set_option linter.all false
set_option maxRecDepth 100000
set_option maxHeartbeats 4000000
namespace MW
open PySem PySem.Spec PyProof.Rows L2
local macro_rules | `(tactic| walk_at "ev") => `(tactic| first
  | (refine ev_var (by assumption) ?_; rfl)
  | (refine ev_varv (by assumption) ?_; rfl)
  | exact ev_ci
  | exact ev_cs
  | exact ev_cb
  | exact ev_cn
  | exact eb_yes
  | exact ea_nil
  | exact ea_d0
  | exact eo_none
  | (apply ea_cons <;> walk_at "ev")
  | (apply eo_some <;> walk_at "ev")
  | (apply ev_I0 <;> walk_at "ev")
  | (apply ev_B0 <;> walk_at "ev")
  | (apply ev_chain <;> walk_at "ev")
  | (apply ev_neg <;> walk_at "ev")
  | (apply ev_lenL <;> walk_at "ev")
  | (apply ev_lenT <;> walk_at "ev")
  | (apply eb_test <;> walk_at "ev")
  | (apply eb_B <;> walk_at "ev")
  | (apply eb_not <;> walk_at "ev")
  | (apply ev_notV <;> walk_at "ev")
  | (apply ev_tup <;> walk_at "ev")
  | (apply ea_ds <;> walk_at "ev")
  | (apply ev_ixT <;> walk_at "ev")
  | (apply ev_ixL <;> walk_at "ev")
  | (apply ev_eqD <;> walk_at "ev")
  | (apply ev_neD <;> walk_at "ev")
  | (apply ev_inS <;> walk_at "ev")
  | (apply ev_isN <;> walk_at "ev")
  | (apply ev_notN <;> walk_at "ev")
  | (apply ev_andV <;> walk_at "ev")
  | (apply ev_orV <;> walk_at "ev")
  | (apply eb_and <;> walk_at "ev")
  | (apply eb_or <;> walk_at "ev")
  | (apply ev_I <;> walk_at "ev")
  | (apply ev_lenS <;> walk_at "ev")
  | (apply ev_all <;> walk_at "ev")
  | (apply ev_any <;> walk_at "ev")
  | (intro _; walk_at "ev")
  | rfl
  | (with_reducible assumption)
  | decide
  | omega)
def Sz (r : Str) (w : List Int) (fl : List Mk) : Prop := r.length ≤ 1000 ∧ w.length ≤ 1000 ∧ fl.length ≤ 1000 ∧ Fl0 r.length fl
def eW (w : List Int) : PyData := .tuple (w.map PyData.int)
def eF (fl : List Mk) : PyData := .list (fl.map eM)
def bad3 (r : Str) (w : List Int) (fl : List Mk) : Option Str := if ruleOk r = false then some "BadRule" else if wOk w = false then some "BadWalker" else if floorOk r.length fl = false then some "BadFloor" else none
def bad4 (r : Str) (w : List Int) (fl : List Mk) (n most : Int) : Option Str := match bad3 r w fl with
  | some x => some x
  | none => if mOk n most = false then some "BadNumber" else none
def sp_look_all (K : PySem.W.Frag) : Sp := fun vs H Q E => ∃ (S : Sit) (r : Str) (w : List Int) (fl : List Mk), S.H = H ∧ Vs K S.G vs [.d (.str r), .d (eW w), .d (eF fl)] ∧ Sz r w fl ∧ (bad3 r w fl = none → ∀ T, Le S T → Q .non T.H) ∧ ∀ x, bad3 r w fl = some x → ∀ T, Le S T → E (.ref (cE K x)) none T.H
def sp_bad3 (K : PySem.W.Frag) : Sp := fun vs H Q E => ∃ (S : Sit) (r : Str) (w : List Int) (fl : List Mk) (x : Str), S.H = H ∧ Vs K S.G vs [.d (.str r), .d (eW w), .d (eF fl)] ∧ Sz r w fl ∧ bad3 r w fl = some x ∧ ∀ T, Le S T → E (.ref (cE K x)) none T.H
def sp_bad3a (K : PySem.W.Frag) : Sp := fun vs H Q E => ∃ (S : Sit) (r : Str) (w : List Int) (fl : List Mk) (n : Int) (x : Str), S.H = H ∧ Vs K S.G vs [.d (.str r), .d (eW w), .d (eF fl), .d (.int n)] ∧ Sz r w fl ∧ bad3 r w fl = some x ∧ ∀ T, Le S T → E (.ref (cE K x)) none T.H
def sp_bad3b (K : PySem.W.Frag) : Sp := fun vs H Q E => ∃ (S : Sit) (r : Str) (w : List Int) (fl : List Mk) (n m : Int) (x : Str), S.H = H ∧ Vs K S.G vs [.d (.str r), .d (eW w), .d (eF fl), .d (.int n), .d (.int m)] ∧ Sz r w fl ∧ bad3 r w fl = some x ∧ ∀ T, Le S T → E (.ref (cE K x)) none T.H
def sp_bad4 (most : Int) (K : PySem.W.Frag) : Sp := fun vs H Q E => ∃ (S : Sit) (r : Str) (w : List Int) (fl : List Mk) (n : Int) (x : Str), S.H = H ∧ Vs K S.G vs [.d (.str r), .d (eW w), .d (eF fl), .d (.int n)] ∧ Sz r w fl ∧ bad4 r w fl n most = some x ∧ ∀ T, Le S T → E (.ref (cE K x)) none T.H
def sp_alike (K : PySem.W.Frag) : Sp := fun vs H Q E => ∃ (S : Sit) (r : Str) (w : List Int) (fl : List Mk) (w2 : List Int) (fl2 : List Mk) (x : Str), S.H = H ∧ Vs K S.G vs [.d (.str r), .d (eW w), .d (eF fl), .d (eW w2), .d (eF fl2)] ∧ Sz r w fl ∧ Sz r w2 fl2 ∧ (bad3 r w fl = some x ∨ (bad3 r w fl = none ∧ bad3 r w2 fl2 = some x)) ∧ ∀ T, Le S T → E (.ref (cE K x)) none T.H
section
variable {K : PySem.W.Frag} {σ : L2.St} {S : Sit} {E : XK} {tr : TA} {D : Ends} {r : Str} {w : List Int} {fl : List Mk} {n most : Int} {x : Str}
theorem st_look (ha : EvA K tr σ S [.d (.str r), .d (eW w), .d (eF fl)]) (hz : Sz r w fl) (k1 : bad3 r w fl = none → ∀ T, Le S T → D.nx σ T.H) (k2 : ∀ x, bad3 r w fl = some x → ∀ T, Le S T → E (.ref (cE K x)) none T.H) :
    tDrop (tCall (sp_look_all K) [] E tr) D σ S.H := st_dropC ha fun vs T l hv => by
  rw [List.append_nil]
  exact ⟨T, r, w, fl, rfl, hv, hz, fun e U lU => k1 e U (l.trans lU), fun x e U lU => k2 x e U (l.trans lU)⟩
theorem st_many (ha : EvA K tr σ S [.d (.int n), .d (.int most)]) (k1 : mOk n most = true → ∀ T, Le S T → D.nx σ T.H) (k2 : mOk n most = false → ∀ T, Le S T → E (.ref (cE K "BadNumber")) none T.H) :
    tDrop (tCall (sp_look_many K) [] E tr) D σ S.H := st_dropC ha fun vs T l hv => by
  rw [List.append_nil]
  exact ⟨T, n, most, rfl, hv, fun e U lU => k1 e U (l.trans lU), fun e U lU => k2 e U (l.trans lU)⟩
theorem tc_bad4 (ha : EvA K tr σ S [.d (.str r), .d (eW w), .d (eF fl), .d (.int n)]) (hz : Sz r w fl) (hb : bad4 r w fl n most = some x) (k : ∀ T, Le S T → E (.ref (cE K x)) none T.H) (Q : VK) : tCall (sp_bad4 most K) [] E tr σ S.H Q :=
  ha S (Le.refl S) _ fun vs T l hv => by
    rw [List.append_nil]
    exact ⟨T, r, w, fl, n, x, rfl, hv, hz, hb, fun U lU => k U (l.trans lU)⟩
theorem tc_bad3 (ha : EvA K tr σ S [.d (.str r), .d (eW w), .d (eF fl)]) (hz : Sz r w fl) (hb : bad3 r w fl = some x) (k : ∀ T, Le S T → E (.ref (cE K x)) none T.H) (Q : VK) : tCall (sp_bad3 K) [] E tr σ S.H Q :=
  ha S (Le.refl S) _ fun vs T l hv => by
    rw [List.append_nil]
    exact ⟨T, r, w, fl, x, rfl, hv, hz, hb, fun U lU => k U (l.trans lU)⟩
theorem tc_bad3a (ha : EvA K tr σ S [.d (.str r), .d (eW w), .d (eF fl), .d (.int n)]) (hz : Sz r w fl) (hb : bad3 r w fl = some x) (k : ∀ T, Le S T → E (.ref (cE K x)) none T.H) (Q : VK) : tCall (sp_bad3a K) [] E tr σ S.H Q :=
  ha S (Le.refl S) _ fun vs T l hv => by
    rw [List.append_nil]
    exact ⟨T, r, w, fl, n, x, rfl, hv, hz, hb, fun U lU => k U (l.trans lU)⟩
theorem tc_bad3b {m : Int} (ha : EvA K tr σ S [.d (.str r), .d (eW w), .d (eF fl), .d (.int n), .d (.int m)]) (hz : Sz r w fl) (hb : bad3 r w fl = some x) (k : ∀ T, Le S T → E (.ref (cE K x)) none T.H) (Q : VK) : tCall (sp_bad3b K) [] E tr σ S.H Q :=
  ha S (Le.refl S) _ fun vs T l hv => by
    rw [List.append_nil]
    exact ⟨T, r, w, fl, n, m, x, rfl, hv, hz, hb, fun U lU => k U (l.trans lU)⟩
theorem tc_alike {w2 : List Int} {fl2 : List Mk} (ha : EvA K tr σ S [.d (.str r), .d (eW w), .d (eF fl), .d (eW w2), .d (eF fl2)]) (hz : Sz r w fl) (hz2 : Sz r w2 fl2) (hb : bad3 r w fl = some x ∨ (bad3 r w fl = none ∧ bad3 r w2 fl2 = some x)) (k : ∀ T, Le S T → E (.ref (cE K x)) none T.H) (Q : VK) : tCall (sp_alike K) [] E tr σ S.H Q :=
  ha S (Le.refl S) _ fun vs T l hv => by
    rw [List.append_nil]
    exact ⟨T, r, w, fl, w2, fl2, x, rfl, hv, hz, hz2, hb, fun U lU => k U (l.trans lU)⟩
theorem bad4_of {x : Str} (h : bad3 r w fl = some x) : bad4 r w fl n most = some x := by unfold bad4; rw [h]
theorem bad4_no (h : bad3 r w fl = none) (m : mOk n most = false) : bad4 r w fl n most = some "BadNumber" := by unfold bad4; rw [h]; simp [m]
theorem st_dnew {δ : List Sl} {i : Nat} (hE : Sv K S.G σ δ) (k : ∀ p σ' T, Le S T → T.H p = some (.dT []) → T.G p = none → Sv K T.G σ' (δ.set i (.v (.ref p))) → D.nx σ' T.H) : tAsg tDNewT (gName i) D σ S.H := fun p hp =>
  k p _ (S.pushM p (.dT []) hp) (S.pushM_le hp) upd_same (S.gfree hp) (Sv.set (slOk_v (K := K) (G := S.G) (.ref p)) i hE)
end
theorem sc_look_all : FnScope ["rule", "walker", "floor"] ["rule", "walker", "floor"] (defScope (top 16)) := ⟨rfl, rfl, rfl, by decide +kernel, rfl, by decide +kernel, by decide +kernel⟩
theorem sc_run : FnScope ["rule", "walker", "floor", "many", "colours", "k"] ["rule", "walker", "floor", "many"] (defScope (top 25)) := ⟨rfl, rfl, rfl, by decide +kernel, rfl, by decide +kernel, by decide +kernel⟩
theorem sc_back : FnScope ["rule", "walker", "floor", "many", "colours", "k"] ["rule", "walker", "floor", "many"] (defScope (top 26)) := ⟨rfl, rfl, rfl, by decide +kernel, rfl, by decide +kernel, by decide +kernel⟩
theorem sc_path : FnScope ["rule", "walker", "floor", "many", "colours", "found", "k"] ["rule", "walker", "floor", "many"] (defScope (top 27)) := ⟨rfl, rfl, rfl, by decide +kernel, rfl, by decide +kernel, by decide +kernel⟩
theorem sc_read_colours : FnScope ["rule", "walker", "floor", "many", "colours", "found", "k"] ["rule", "walker", "floor", "many"] (defScope (top 28)) := ⟨rfl, rfl, rfl, by decide +kernel, rfl, by decide +kernel, by decide +kernel⟩
theorem sc_period : FnScope ["rule", "walker", "floor", "many", "colours", "here", "k"] ["rule", "walker", "floor", "many"] (defScope (top 45)) := ⟨rfl, rfl, rfl, by decide +kernel, rfl, by decide +kernel, by decide +kernel⟩
theorem sc_counts : FnScope ["rule", "walker", "floor", "many", "left", "mark", "colour"] ["rule", "walker", "floor", "many"] (defScope (top 31)) := ⟨rfl, rfl, rfl, by decide +kernel, rfl, by decide +kernel, by decide +kernel⟩
theorem sc_box : FnScope ["rule", "walker", "floor", "many", "some", "xs", "one", "ys"] ["rule", "walker", "floor", "many"] (defScope (top 30)) := ⟨rfl, rfl, rfl, by decide +kernel, rfl, by decide +kernel, by decide +kernel⟩
theorem sc_times_seen : FnScope ["rule", "walker", "floor", "many", "found", "one", "place"] ["rule", "walker", "floor", "many"] (defScope (top 29)) := ⟨rfl, rfl, rfl, by decide +kernel, rfl, by decide +kernel, by decide +kernel⟩
theorem sc_mirrored : FnScope ["rule", "walker", "floor"] ["rule", "walker", "floor"] (defScope (top 37)) := ⟨rfl, rfl, rfl, by decide +kernel, rfl, by decide +kernel, by decide +kernel⟩
theorem sc_plain : FnScope ["rule", "walker", "floor"] ["rule", "walker", "floor"] (defScope (top 38)) := ⟨rfl, rfl, rfl, by decide +kernel, rfl, by decide +kernel, by decide +kernel⟩
theorem sc_is_even : FnScope ["rule", "walker", "floor", "seen"] ["rule", "walker", "floor"] (defScope (top 41)) := ⟨rfl, rfl, rfl, by decide +kernel, rfl, by decide +kernel, by decide +kernel⟩
theorem sc_written : FnScope ["rule", "walker", "floor", "words", "x", "y", "colour"] ["rule", "walker", "floor"] (defScope (top 55)) := ⟨rfl, rfl, rfl, by decide +kernel, rfl, by decide +kernel, by decide +kernel⟩
theorem sc_turned : FnScope ["rule", "walker", "floor", "quarters"] ["rule", "walker", "floor", "quarters"] (defScope (top 35)) := ⟨rfl, rfl, rfl, by decide +kernel, rfl, by decide +kernel, by decide +kernel⟩
theorem sc_goes_on : FnScope ["rule", "walker", "floor", "long"] ["rule", "walker", "floor", "long"] (defScope (top 50)) := ⟨rfl, rfl, rfl, by decide +kernel, rfl, by decide +kernel, by decide +kernel⟩
theorem sc_shown : FnScope ["rule", "walker", "floor", "start", "long", "colours", "k"] ["rule", "walker", "floor", "start", "long"] (defScope (top 51)) := ⟨rfl, rfl, rfl, by decide +kernel, rfl, by decide +kernel, by decide +kernel⟩
theorem sc_way_on : FnScope ["rule", "walker", "floor", "many", "most", "colours", "start", "long"] ["rule", "walker", "floor", "many", "most"] (defScope (top 52)) := ⟨rfl, rfl, rfl, by decide +kernel, rfl, by decide +kernel, by decide +kernel⟩
theorem sc_are_alike : FnScope ["rule", "walker", "floor", "other_walker", "other_floor"] ["rule", "walker", "floor", "other_walker", "other_floor"] (defScope (top 40)) := ⟨rfl, rfl, rfl, by decide +kernel, rfl, by decide +kernel, by decide +kernel⟩
section
variable {P : Program} {w : World} {K : PySem.W.Frag} {mg : Str → Option Value} {base : Heap}
theorem k_look_all (T : Tx K mg) (D : Def K mg "look_all" (top 16)) (F_look_rule : FnK P w K mg base 1 "look_rule" ["rule"] (sp_look_rule K)) (F_look_walker : FnK P w K mg base 1 "look_walker" ["walker"] (sp_look_walker K)) (F_look_floor : FnK P w K mg base 1 "look_floor" ["rule", "floor"] (sp_look_floor K)) : FnK P w K mg base 2 "look_all" ["rule", "walker", "floor"] (sp_look_all K) := by
  refine fn_mk D sc_look_all (fun vs H Q E h => ?_) (fun _ _ _ _ _ _ us hl => match us, hl with | [_, _, _], _ => rfl) (fun f cdv A outer s H vs Q E hr h => ?_)
  · obtain ⟨S, r, w, fl, rfl, hv, _⟩ := h
    exact hv.len
  obtain ⟨S, r, w, fl, rfl, hv, hz, h1, h2⟩ := h
  refine ⟨_, (pss_cons (ps_expr (pe_fn F_look_rule (hr.mono (by decide)) (passes_call (takes_of rfl rfl rfl rfl) (fun _ _ _ _ h => h)) (pa_cons (pv 0) pa_nil)))
      (pss_cons (ps_expr (pe_fn F_look_walker (hr.mono (by decide)) (passes_call (takes_of rfl rfl rfl rfl) (fun _ _ _ _ h => h)) (pa_cons (pv 1) pa_nil)))
      (pss_one (ps_expr (pe_fn F_look_floor (hr.mono (by decide)) (passes_call (takes_of rfl rfl rfl rfl) (fun _ _ _ _ h => h)) (pa_cons (pv 0) (pa_cons (pv 2) pa_nil))))))), ?_⟩
  have hE := Sv.start (N := ["rule", "walker", "floor"]) hv rfl
  refine st_dropC (K := K) (ss := [.d (.str r)]) (by walk_at "ev") fun vs1 T1 l1 hv1 => ?_
  rw [List.append_nil]
  refine ⟨T1, r, rfl, hv1, hz.1, fun e1 T l => ?_, fun e1 T l => h2 _ (by unfold bad3; rw [if_pos e1]) T (l1.trans l)⟩
  have l1 := l1.trans l
  have hE1 := hE.up l1.g
  dsimp only
  refine st_dropC (K := K) (ss := [.d (eW w)]) (by walk_at "ev") fun vs2 T2 l2 hv2 => ?_
  rw [List.append_nil]
  refine ⟨T2, w, rfl, hv2, hz.2.1, fun e2 T l => ?_, fun e2 T l => h2 _ (by unfold bad3; rw [if_neg (by rw [e1]; decide), if_pos e2]) T ((l1.trans l2).trans l)⟩
  have l2 := (l1.trans l2).trans l
  have hE2 := hE.up l2.g
  dsimp only
  refine st_dropC (K := K) (ss := [.d (.str r), .d (eF fl)]) (by walk_at "ev") fun vs3 T3 l3 hv3 => ?_
  rw [List.append_nil]
  refine ⟨T3, r, fl, rfl, hv3, hz.1, hz.2.2.1, hz.2.2.2, fun e3 T l => ?_, fun e3 T l => h2 _ (by unfold bad3; rw [if_neg (by rw [e1]; decide), if_neg (by rw [e2]; decide), if_pos e3]) T ((l2.trans l3).trans l)⟩
  exact h1 (by unfold bad3; rw [if_neg (by rw [e1]; decide), if_neg (by rw [e2]; decide), if_neg (by rw [e3]; decide)]) T ((l2.trans l3).trans l)
theorem k_run (T : Tx K mg) (D : Def K mg "run" (top 25)) (F_look_all : FnK P w K mg base 2 "look_all" ["rule", "walker", "floor"] (sp_look_all K)) (F_look_many : FnK P w K mg base 1 "look_many" ["many", "most"] (sp_look_many K)) : FnK P w K mg base 3 "run" ["rule", "walker", "floor", "many"] (sp_bad4 20000 K) := by
  refine fn_mk D sc_run (fun vs H Q E h => ?_) (fun _ _ _ _ _ _ us hl => match us, hl with | [_, _, _, _], _ => rfl) (fun f cdv A outer s H vs Q E hr h => ?_)
  · obtain ⟨S, r, w, fl, n, x, rfl, hv, _⟩ := h
    exact hv.len
  obtain ⟨S, r, w, fl, n, x, rfl, hv, hz, hb, hx⟩ := h
  refine ⟨_, (pss_cons (ps_expr (pe_fn F_look_all (hr.mono (by decide)) (passes_call (takes_of rfl rfl rfl rfl) (fun _ _ _ _ h => h)) (pa_cons (pv 0) (pa_cons (pv 1) (pa_cons (pv 2) pa_nil)))))
      (pss_cons (ps_expr (pe_fn F_look_many (hr.mono (by decide)) (passes_call (takes_of rfl rfl rfl rfl) (fun _ _ _ _ h => h)) (pa_cons (pv 3) (pa_cons (pe_kint T.MOST_STEPS) pa_nil))))
      pss_never)), ?_⟩
  have hE := Sv.start (N := ["rule", "walker", "floor", "many", "colours", "k"]) hv rfl
  refine st_look (K := K) (r := r) (w := w) (fl := fl) (by walk_at "ev") hz (fun e T1 l1 => ?_) (fun y e T l => ?_)
  · have hE1 := hE.up l1.g
    dsimp only
    refine st_many (K := K) (n := n) (most := 20000) (by walk_at "ev") (fun m T2 l2 => ?_) (fun m T2 l2 => ?_)
    · unfold bad4 at hb
      rw [e] at hb
      simp [m] at hb
    · rw [bad4_no e m] at hb
      cases hb
      exact hx T2 (l1.trans l2)
  · rw [bad4_of e] at hb
    cases hb
    exact hx T l
theorem k_back (T : Tx K mg) (D : Def K mg "back" (top 26)) (F_look_all : FnK P w K mg base 2 "look_all" ["rule", "walker", "floor"] (sp_look_all K)) (F_look_many : FnK P w K mg base 1 "look_many" ["many", "most"] (sp_look_many K)) : FnK P w K mg base 3 "back" ["rule", "walker", "floor", "many"] (sp_bad4 20000 K) := by
  refine fn_mk D sc_back (fun vs H Q E h => ?_) (fun _ _ _ _ _ _ us hl => match us, hl with | [_, _, _, _], _ => rfl) (fun f cdv A outer s H vs Q E hr h => ?_)
  · obtain ⟨S, r, w, fl, n, x, rfl, hv, _⟩ := h
    exact hv.len
  obtain ⟨S, r, w, fl, n, x, rfl, hv, hz, hb, hx⟩ := h
  refine ⟨_, (pss_cons (ps_expr (pe_fn F_look_all (hr.mono (by decide)) (passes_call (takes_of rfl rfl rfl rfl) (fun _ _ _ _ h => h)) (pa_cons (pv 0) (pa_cons (pv 1) (pa_cons (pv 2) pa_nil)))))
      (pss_cons (ps_expr (pe_fn F_look_many (hr.mono (by decide)) (passes_call (takes_of rfl rfl rfl rfl) (fun _ _ _ _ h => h)) (pa_cons (pv 3) (pa_cons (pe_kint T.MOST_STEPS) pa_nil))))
      pss_never)), ?_⟩
  have hE := Sv.start (N := ["rule", "walker", "floor", "many", "colours", "k"]) hv rfl
  refine st_look (K := K) (r := r) (w := w) (fl := fl) (by walk_at "ev") hz (fun e T1 l1 => ?_) (fun y e T l => ?_)
  · have hE1 := hE.up l1.g
    dsimp only
    refine st_many (K := K) (n := n) (most := 20000) (by walk_at "ev") (fun m T2 l2 => ?_) (fun m T2 l2 => ?_)
    · unfold bad4 at hb
      rw [e] at hb
      simp [m] at hb
    · rw [bad4_no e m] at hb
      cases hb
      exact hx T2 (l1.trans l2)
  · rw [bad4_of e] at hb
    cases hb
    exact hx T l
theorem k_path (T : Tx K mg) (D : Def K mg "path" (top 27)) (F_look_all : FnK P w K mg base 2 "look_all" ["rule", "walker", "floor"] (sp_look_all K)) (F_look_many : FnK P w K mg base 1 "look_many" ["many", "most"] (sp_look_many K)) : FnK P w K mg base 3 "path" ["rule", "walker", "floor", "many"] (sp_bad4 2000 K) := by
  refine fn_mk D sc_path (fun vs H Q E h => ?_) (fun _ _ _ _ _ _ us hl => match us, hl with | [_, _, _, _], _ => rfl) (fun f cdv A outer s H vs Q E hr h => ?_)
  · obtain ⟨S, r, w, fl, n, x, rfl, hv, _⟩ := h
    exact hv.len
  obtain ⟨S, r, w, fl, n, x, rfl, hv, hz, hb, hx⟩ := h
  refine ⟨_, (pss_cons (ps_expr (pe_fn F_look_all (hr.mono (by decide)) (passes_call (takes_of rfl rfl rfl rfl) (fun _ _ _ _ h => h)) (pa_cons (pv 0) (pa_cons (pv 1) (pa_cons (pv 2) pa_nil)))))
      (pss_cons (ps_expr (pe_fn F_look_many (hr.mono (by decide)) (passes_call (takes_of rfl rfl rfl rfl) (fun _ _ _ _ h => h)) (pa_cons (pv 3) (pa_cons (pe_kint T.MOST_PATH) pa_nil))))
      pss_never)), ?_⟩
  have hE := Sv.start (N := ["rule", "walker", "floor", "many", "colours", "found", "k"]) hv rfl
  refine st_look (K := K) (r := r) (w := w) (fl := fl) (by walk_at "ev") hz (fun e T1 l1 => ?_) (fun y e T l => ?_)
  · have hE1 := hE.up l1.g
    dsimp only
    refine st_many (K := K) (n := n) (most := 2000) (by walk_at "ev") (fun m T2 l2 => ?_) (fun m T2 l2 => ?_)
    · unfold bad4 at hb
      rw [e] at hb
      simp [m] at hb
    · rw [bad4_no e m] at hb
      cases hb
      exact hx T2 (l1.trans l2)
  · rw [bad4_of e] at hb
    cases hb
    exact hx T l
theorem k_read_colours (T : Tx K mg) (D : Def K mg "read_colours" (top 28)) (F_look_all : FnK P w K mg base 2 "look_all" ["rule", "walker", "floor"] (sp_look_all K)) (F_look_many : FnK P w K mg base 1 "look_many" ["many", "most"] (sp_look_many K)) : FnK P w K mg base 3 "read_colours" ["rule", "walker", "floor", "many"] (sp_bad4 2000 K) := by
  refine fn_mk D sc_read_colours (fun vs H Q E h => ?_) (fun _ _ _ _ _ _ us hl => match us, hl with | [_, _, _, _], _ => rfl) (fun f cdv A outer s H vs Q E hr h => ?_)
  · obtain ⟨S, r, w, fl, n, x, rfl, hv, _⟩ := h
    exact hv.len
  obtain ⟨S, r, w, fl, n, x, rfl, hv, hz, hb, hx⟩ := h
  refine ⟨_, (pss_cons (ps_expr (pe_fn F_look_all (hr.mono (by decide)) (passes_call (takes_of rfl rfl rfl rfl) (fun _ _ _ _ h => h)) (pa_cons (pv 0) (pa_cons (pv 1) (pa_cons (pv 2) pa_nil)))))
      (pss_cons (ps_expr (pe_fn F_look_many (hr.mono (by decide)) (passes_call (takes_of rfl rfl rfl rfl) (fun _ _ _ _ h => h)) (pa_cons (pv 3) (pa_cons (pe_kint T.MOST_PATH) pa_nil))))
      pss_never)), ?_⟩
  have hE := Sv.start (N := ["rule", "walker", "floor", "many", "colours", "found", "k"]) hv rfl
  refine st_look (K := K) (r := r) (w := w) (fl := fl) (by walk_at "ev") hz (fun e T1 l1 => ?_) (fun y e T l => ?_)
  · have hE1 := hE.up l1.g
    dsimp only
    refine st_many (K := K) (n := n) (most := 2000) (by walk_at "ev") (fun m T2 l2 => ?_) (fun m T2 l2 => ?_)
    · unfold bad4 at hb
      rw [e] at hb
      simp [m] at hb
    · rw [bad4_no e m] at hb
      cases hb
      exact hx T2 (l1.trans l2)
  · rw [bad4_of e] at hb
    cases hb
    exact hx T l
theorem k_period (T : Tx K mg) (D : Def K mg "period" (top 45)) (F_look_all : FnK P w K mg base 2 "look_all" ["rule", "walker", "floor"] (sp_look_all K)) (F_look_many : FnK P w K mg base 1 "look_many" ["many", "most"] (sp_look_many K)) : FnK P w K mg base 3 "period" ["rule", "walker", "floor", "many"] (sp_bad4 2000 K) := by
  refine fn_mk D sc_period (fun vs H Q E h => ?_) (fun _ _ _ _ _ _ us hl => match us, hl with | [_, _, _, _], _ => rfl) (fun f cdv A outer s H vs Q E hr h => ?_)
  · obtain ⟨S, r, w, fl, n, x, rfl, hv, _⟩ := h
    exact hv.len
  obtain ⟨S, r, w, fl, n, x, rfl, hv, hz, hb, hx⟩ := h
  refine ⟨_, (pss_cons (ps_expr (pe_fn F_look_all (hr.mono (by decide)) (passes_call (takes_of rfl rfl rfl rfl) (fun _ _ _ _ h => h)) (pa_cons (pv 0) (pa_cons (pv 1) (pa_cons (pv 2) pa_nil)))))
      (pss_cons (ps_expr (pe_fn F_look_many (hr.mono (by decide)) (passes_call (takes_of rfl rfl rfl rfl) (fun _ _ _ _ h => h)) (pa_cons (pv 3) (pa_cons (pe_kint T.MOST_PATH) pa_nil))))
      pss_never)), ?_⟩
  have hE := Sv.start (N := ["rule", "walker", "floor", "many", "colours", "here", "k"]) hv rfl
  refine st_look (K := K) (r := r) (w := w) (fl := fl) (by walk_at "ev") hz (fun e T1 l1 => ?_) (fun y e T l => ?_)
  · have hE1 := hE.up l1.g
    dsimp only
    refine st_many (K := K) (n := n) (most := 2000) (by walk_at "ev") (fun m T2 l2 => ?_) (fun m T2 l2 => ?_)
    · unfold bad4 at hb
      rw [e] at hb
      simp [m] at hb
    · rw [bad4_no e m] at hb
      cases hb
      exact hx T2 (l1.trans l2)
  · rw [bad4_of e] at hb
    cases hb
    exact hx T l
theorem k_counts (T : Tx K mg) (D : Def K mg "counts" (top 31)) (F_run : FnK P w K mg base 3 "run" ["rule", "walker", "floor", "many"] (sp_bad4 20000 K)) : FnK P w K mg base 4 "counts" ["rule", "walker", "floor", "many"] (sp_bad4 20000 K) := by
  refine fn_mk D sc_counts (fun vs H Q E h => ?_) (fun _ _ _ _ _ _ us hl => match us, hl with | [_, _, _, _], _ => rfl) (fun f cdv A outer s H vs Q E hr h => ?_)
  · obtain ⟨S, r, w, fl, n, x, rfl, hv, _⟩ := h
    exact hv.len
  obtain ⟨S, r, w, fl, n, x, rfl, hv, hz, hb, hx⟩ := h
  refine ⟨_, (pss_cons (ps_set (i := 4) sc_counts.nd rfl (Or.inr rfl) (pe_ix (kx_tup (K := K)) (pe_fn F_run (hr.mono (by decide)) (passes_call (takes_of rfl rfl rfl rfl) (fun _ _ _ _ h => h)) (pa_cons (pv 0) (pa_cons (pv 1) (pa_cons (pv 2) (pa_cons (pv 3) pa_nil))))) pe_int (fun _ _ => rfl)))
      pss_never), ?_⟩
  have hE := Sv.start (N := ["rule", "walker", "floor", "many", "left", "mark", "colour"]) hv rfl
  exact tc_bad4 (K := K) (r := r) (w := w) (fl := fl) (n := n) (by walk_at "ev") hz hb (fun T l => hx T l) _
theorem k_box (T : Tx K mg) (D : Def K mg "box" (top 30)) (F_path : FnK P w K mg base 3 "path" ["rule", "walker", "floor", "many"] (sp_bad4 2000 K)) : FnK P w K mg base 4 "box" ["rule", "walker", "floor", "many"] (sp_bad4 2000 K) := by
  refine fn_mk D sc_box (fun vs H Q E h => ?_) (fun _ _ _ _ _ _ us hl => match us, hl with | [_, _, _, _], _ => rfl) (fun f cdv A outer s H vs Q E hr h => ?_)
  · obtain ⟨S, r, w, fl, n, x, rfl, hv, _⟩ := h
    exact hv.len
  obtain ⟨S, r, w, fl, n, x, rfl, hv, hz, hb, hx⟩ := h
  refine ⟨_, (pss_cons (ps_set (i := 4) sc_box.nd rfl (Or.inl rfl) (pe_fn F_path (hr.mono (by decide)) (passes_call (takes_of rfl rfl rfl rfl) (fun _ _ _ _ h => h)) (pa_cons (pv 0) (pa_cons (pv 1) (pa_cons (pv 2) (pa_cons (pv 3) pa_nil))))))
      pss_never), ?_⟩
  have hE := Sv.start (N := ["rule", "walker", "floor", "many", "some", "xs", "one", "ys"]) hv rfl
  exact tc_bad4 (K := K) (r := r) (w := w) (fl := fl) (n := n) (by walk_at "ev") hz hb (fun T l => hx T l) _
theorem k_times_seen (T : Tx K mg) (D : Def K mg "times_seen" (top 29)) (F_path : FnK P w K mg base 3 "path" ["rule", "walker", "floor", "many"] (sp_bad4 2000 K)) : FnK P w K mg base 4 "times_seen" ["rule", "walker", "floor", "many"] (sp_bad4 2000 K) := by
  refine fn_mk D sc_times_seen (fun vs H Q E h => ?_) (fun _ _ _ _ _ _ us hl => match us, hl with | [_, _, _, _], _ => rfl) (fun f cdv A outer s H vs Q E hr h => ?_)
  · obtain ⟨S, r, w, fl, n, x, rfl, hv, _⟩ := h
    exact hv.len
  obtain ⟨S, r, w, fl, n, x, rfl, hv, hz, hb, hx⟩ := h
  refine ⟨_, (pss_cons (ps_set (i := 4) sc_times_seen.nd rfl (Or.inr rfl) pe_dnewT)
      (pss_cons (ps_for (passes_of rfl) rfl (kpi_list (K := K) (pe_slice (ks_list (K := K)) (pe_fn F_path (hr.mono (by decide)) (passes_call (takes_of rfl rfl rfl rfl) (fun _ _ _ _ h => h)) (pa_cons (pv 0) (pa_cons (pv 1) (pa_cons (pv 2) (pa_cons (pv 3) pa_nil))))) po_none (po_some (pe_un un_neg pe_int)))) (pg_name (i := 5) sc_times_seen.nd rfl (Or.inl rfl)) pss_never)
      pss_never)), ?_⟩
  have hE := Sv.start (N := ["rule", "walker", "floor", "many", "found", "one", "place"]) hv rfl
  refine st_dnew hE fun p σ1 T1 l1 _ _ hE1 => ?_
  dsimp only
  unfold tFor iList L2.tSl
  exact tc_bad4 (K := K) (r := r) (w := w) (fl := fl) (n := n) (by walk_at "ev") hz hb (fun T l => hx T (l1.trans l)) _
theorem k_mirrored (T : Tx K mg) (D : Def K mg "mirrored" (top 37)) (F_look_all : FnK P w K mg base 2 "look_all" ["rule", "walker", "floor"] (sp_look_all K)) : FnK P w K mg base 3 "mirrored" ["rule", "walker", "floor"] (sp_bad3 K) := by
  refine fn_mk D sc_mirrored (fun vs H Q E h => ?_) (fun _ _ _ _ _ _ us hl => match us, hl with | [_, _, _], _ => rfl) (fun f cdv A outer s H vs Q E hr h => ?_)
  · obtain ⟨S, r, w, fl, x, rfl, hv, _⟩ := h
    exact hv.len
  obtain ⟨S, r, w, fl, x, rfl, hv, hz, hb, hx⟩ := h
  refine ⟨_, (pss_cons (ps_expr (pe_fn F_look_all (hr.mono (by decide)) (passes_call (takes_of rfl rfl rfl rfl) (fun _ _ _ _ h => h)) (pa_cons (pv 0) (pa_cons (pv 1) (pa_cons (pv 2) pa_nil)))))
      pss_never), ?_⟩
  have hE := Sv.start (N := ["rule", "walker", "floor"]) hv rfl
  refine st_look (K := K) (r := r) (w := w) (fl := fl) (by walk_at "ev") hz (fun e T1 l1 => ?_) (fun y e T l => ?_)
  · rw [e] at hb
    cases hb
  · rw [e] at hb
    cases hb
    exact hx T l
theorem k_plain (T : Tx K mg) (D : Def K mg "plain" (top 38)) (F_look_all : FnK P w K mg base 2 "look_all" ["rule", "walker", "floor"] (sp_look_all K)) : FnK P w K mg base 3 "plain" ["rule", "walker", "floor"] (sp_bad3 K) := by
  refine fn_mk D sc_plain (fun vs H Q E h => ?_) (fun _ _ _ _ _ _ us hl => match us, hl with | [_, _, _], _ => rfl) (fun f cdv A outer s H vs Q E hr h => ?_)
  · obtain ⟨S, r, w, fl, x, rfl, hv, _⟩ := h
    exact hv.len
  obtain ⟨S, r, w, fl, x, rfl, hv, hz, hb, hx⟩ := h
  refine ⟨_, (pss_cons (ps_expr (pe_fn F_look_all (hr.mono (by decide)) (passes_call (takes_of rfl rfl rfl rfl) (fun _ _ _ _ h => h)) (pa_cons (pv 0) (pa_cons (pv 1) (pa_cons (pv 2) pa_nil)))))
      pss_never), ?_⟩
  have hE := Sv.start (N := ["rule", "walker", "floor"]) hv rfl
  refine st_look (K := K) (r := r) (w := w) (fl := fl) (by walk_at "ev") hz (fun e T1 l1 => ?_) (fun y e T l => ?_)
  · rw [e] at hb
    cases hb
  · rw [e] at hb
    cases hb
    exact hx T l
theorem k_is_even (T : Tx K mg) (D : Def K mg "is_even" (top 41)) (F_look_all : FnK P w K mg base 2 "look_all" ["rule", "walker", "floor"] (sp_look_all K)) : FnK P w K mg base 3 "is_even" ["rule", "walker", "floor"] (sp_bad3 K) := by
  refine fn_mk D sc_is_even (fun vs H Q E h => ?_) (fun _ _ _ _ _ _ us hl => match us, hl with | [_, _, _], _ => rfl) (fun f cdv A outer s H vs Q E hr h => ?_)
  · obtain ⟨S, r, w, fl, x, rfl, hv, _⟩ := h
    exact hv.len
  obtain ⟨S, r, w, fl, x, rfl, hv, hz, hb, hx⟩ := h
  refine ⟨_, (pss_cons (ps_expr (pe_fn F_look_all (hr.mono (by decide)) (passes_call (takes_of rfl rfl rfl rfl) (fun _ _ _ _ h => h)) (pa_cons (pv 0) (pa_cons (pv 1) (pa_cons (pv 2) pa_nil)))))
      pss_never), ?_⟩
  have hE := Sv.start (N := ["rule", "walker", "floor", "seen"]) hv rfl
  refine st_look (K := K) (r := r) (w := w) (fl := fl) (by walk_at "ev") hz (fun e T1 l1 => ?_) (fun y e T l => ?_)
  · rw [e] at hb
    cases hb
  · rw [e] at hb
    cases hb
    exact hx T l
theorem k_written (T : Tx K mg) (D : Def K mg "written" (top 55)) (F_look_all : FnK P w K mg base 2 "look_all" ["rule", "walker", "floor"] (sp_look_all K)) : FnK P w K mg base 3 "written" ["rule", "walker", "floor"] (sp_bad3 K) := by
  refine fn_mk D sc_written (fun vs H Q E h => ?_) (fun _ _ _ _ _ _ us hl => match us, hl with | [_, _, _], _ => rfl) (fun f cdv A outer s H vs Q E hr h => ?_)
  · obtain ⟨S, r, w, fl, x, rfl, hv, _⟩ := h
    exact hv.len
  obtain ⟨S, r, w, fl, x, rfl, hv, hz, hb, hx⟩ := h
  refine ⟨_, (pss_cons (ps_expr (pe_fn F_look_all (hr.mono (by decide)) (passes_call (takes_of rfl rfl rfl rfl) (fun _ _ _ _ h => h)) (pa_cons (pv 0) (pa_cons (pv 1) (pa_cons (pv 2) pa_nil)))))
      pss_never), ?_⟩
  have hE := Sv.start (N := ["rule", "walker", "floor", "words", "x", "y", "colour"]) hv rfl
  refine st_look (K := K) (r := r) (w := w) (fl := fl) (by walk_at "ev") hz (fun e T1 l1 => ?_) (fun y e T l => ?_)
  · rw [e] at hb
    cases hb
  · rw [e] at hb
    cases hb
    exact hx T l
theorem k_turned (T : Tx K mg) (D : Def K mg "turned" (top 35)) (F_look_all : FnK P w K mg base 2 "look_all" ["rule", "walker", "floor"] (sp_look_all K)) : FnK P w K mg base 3 "turned" ["rule", "walker", "floor", "quarters"] (sp_bad3a K) := by
  refine fn_mk D sc_turned (fun vs H Q E h => ?_) (fun _ _ _ _ _ _ us hl => match us, hl with | [_, _, _, _], _ => rfl) (fun f cdv A outer s H vs Q E hr h => ?_)
  · obtain ⟨S, r, w, fl, n, x, rfl, hv, _⟩ := h
    exact hv.len
  obtain ⟨S, r, w, fl, n, x, rfl, hv, hz, hb, hx⟩ := h
  refine ⟨_, (pss_cons (ps_expr (pe_fn F_look_all (hr.mono (by decide)) (passes_call (takes_of rfl rfl rfl rfl) (fun _ _ _ _ h => h)) (pa_cons (pv 0) (pa_cons (pv 1) (pa_cons (pv 2) pa_nil)))))
      pss_never), ?_⟩
  have hE := Sv.start (N := ["rule", "walker", "floor", "quarters"]) hv rfl
  refine st_look (K := K) (r := r) (w := w) (fl := fl) (by walk_at "ev") hz (fun e T1 l1 => ?_) (fun y e T l => ?_)
  · rw [e] at hb
    cases hb
  · rw [e] at hb
    cases hb
    exact hx T l
theorem k_goes_on (T : Tx K mg) (D : Def K mg "goes_on" (top 50)) (F_look_all : FnK P w K mg base 2 "look_all" ["rule", "walker", "floor"] (sp_look_all K)) : FnK P w K mg base 3 "goes_on" ["rule", "walker", "floor", "long"] (sp_bad3a K) := by
  refine fn_mk D sc_goes_on (fun vs H Q E h => ?_) (fun _ _ _ _ _ _ us hl => match us, hl with | [_, _, _, _], _ => rfl) (fun f cdv A outer s H vs Q E hr h => ?_)
  · obtain ⟨S, r, w, fl, n, x, rfl, hv, _⟩ := h
    exact hv.len
  obtain ⟨S, r, w, fl, n, x, rfl, hv, hz, hb, hx⟩ := h
  refine ⟨_, (pss_cons (ps_expr (pe_fn F_look_all (hr.mono (by decide)) (passes_call (takes_of rfl rfl rfl rfl) (fun _ _ _ _ h => h)) (pa_cons (pv 0) (pa_cons (pv 1) (pa_cons (pv 2) pa_nil)))))
      pss_never), ?_⟩
  have hE := Sv.start (N := ["rule", "walker", "floor", "long"]) hv rfl
  refine st_look (K := K) (r := r) (w := w) (fl := fl) (by walk_at "ev") hz (fun e T1 l1 => ?_) (fun y e T l => ?_)
  · rw [e] at hb
    cases hb
  · rw [e] at hb
    cases hb
    exact hx T l
theorem k_shown (T : Tx K mg) (D : Def K mg "shown" (top 51)) (F_look_all : FnK P w K mg base 2 "look_all" ["rule", "walker", "floor"] (sp_look_all K)) : FnK P w K mg base 3 "shown" ["rule", "walker", "floor", "start", "long"] (sp_bad3b K) := by
  refine fn_mk D sc_shown (fun vs H Q E h => ?_) (fun _ _ _ _ _ _ us hl => match us, hl with | [_, _, _, _, _], _ => rfl) (fun f cdv A outer s H vs Q E hr h => ?_)
  · obtain ⟨S, r, w, fl, n, m, x, rfl, hv, _⟩ := h
    exact hv.len
  obtain ⟨S, r, w, fl, n, m, x, rfl, hv, hz, hb, hx⟩ := h
  refine ⟨_, (pss_cons (ps_expr (pe_fn F_look_all (hr.mono (by decide)) (passes_call (takes_of rfl rfl rfl rfl) (fun _ _ _ _ h => h)) (pa_cons (pv 0) (pa_cons (pv 1) (pa_cons (pv 2) pa_nil)))))
      pss_never), ?_⟩
  have hE := Sv.start (N := ["rule", "walker", "floor", "start", "long", "colours", "k"]) hv rfl
  refine st_look (K := K) (r := r) (w := w) (fl := fl) (by walk_at "ev") hz (fun e T1 l1 => ?_) (fun y e T l => ?_)
  · rw [e] at hb
    cases hb
  · rw [e] at hb
    cases hb
    exact hx T l
theorem k_way_on (T : Tx K mg) (D : Def K mg "way_on" (top 52)) (F_look_all : FnK P w K mg base 2 "look_all" ["rule", "walker", "floor"] (sp_look_all K)) : FnK P w K mg base 3 "way_on" ["rule", "walker", "floor", "many", "most"] (sp_bad3b K) := by
  refine fn_mk D sc_way_on (fun vs H Q E h => ?_) (fun _ _ _ _ _ _ us hl => match us, hl with | [_, _, _, _, _], _ => rfl) (fun f cdv A outer s H vs Q E hr h => ?_)
  · obtain ⟨S, r, w, fl, n, m, x, rfl, hv, _⟩ := h
    exact hv.len
  obtain ⟨S, r, w, fl, n, m, x, rfl, hv, hz, hb, hx⟩ := h
  refine ⟨_, (pss_cons (ps_expr (pe_fn F_look_all (hr.mono (by decide)) (passes_call (takes_of rfl rfl rfl rfl) (fun _ _ _ _ h => h)) (pa_cons (pv 0) (pa_cons (pv 1) (pa_cons (pv 2) pa_nil)))))
      pss_never), ?_⟩
  have hE := Sv.start (N := ["rule", "walker", "floor", "many", "most", "colours", "start", "long"]) hv rfl
  refine st_look (K := K) (r := r) (w := w) (fl := fl) (by walk_at "ev") hz (fun e T1 l1 => ?_) (fun y e T l => ?_)
  · rw [e] at hb
    cases hb
  · rw [e] at hb
    cases hb
    exact hx T l
theorem k_are_alike (T : Tx K mg) (D : Def K mg "are_alike" (top 40)) (F_look_all : FnK P w K mg base 2 "look_all" ["rule", "walker", "floor"] (sp_look_all K)) : FnK P w K mg base 3 "are_alike" ["rule", "walker", "floor", "other_walker", "other_floor"] (sp_alike K) := by
  refine fn_mk D sc_are_alike (fun vs H Q E h => ?_) (fun _ _ _ _ _ _ us hl => match us, hl with | [_, _, _, _, _], _ => rfl) (fun f cdv A outer s H vs Q E hr h => ?_)
  · obtain ⟨S, r, w, fl, w2, fl2, x, rfl, hv, _⟩ := h
    exact hv.len
  obtain ⟨S, r, w, fl, w2, fl2, x, rfl, hv, hz, hz2, hb, hx⟩ := h
  refine ⟨_, (pss_cons (ps_expr (pe_fn F_look_all (hr.mono (by decide)) (passes_call (takes_of rfl rfl rfl rfl) (fun _ _ _ _ h => h)) (pa_cons (pv 0) (pa_cons (pv 1) (pa_cons (pv 2) pa_nil)))))
      (pss_cons (ps_expr (pe_fn F_look_all (hr.mono (by decide)) (passes_call (takes_of rfl rfl rfl rfl) (fun _ _ _ _ h => h)) (pa_cons (pv 0) (pa_cons (pv 3) (pa_cons (pv 4) pa_nil)))))
      pss_never)), ?_⟩
  have hE := Sv.start (N := ["rule", "walker", "floor", "other_walker", "other_floor"]) hv rfl
  refine st_look (K := K) (r := r) (w := w) (fl := fl) (by walk_at "ev") hz (fun e T1 l1 => ?_) (fun y e T l => ?_)
  · have hE1 := hE.up l1.g
    dsimp only
    rw [e] at hb
    refine st_look (K := K) (r := r) (w := w2) (fl := fl2) (by walk_at "ev") hz2 (fun e2 T2 l2 => ?_) (fun y e2 T2 l2 => ?_)
    · rw [e2] at hb
      rcases hb with h | ⟨_, h⟩ <;> cases h
    · rw [e2] at hb
      rcases hb with h | ⟨_, h⟩ <;> cases h
      exact hx T2 (l1.trans l2)
  · rw [e] at hb
    rcases hb with h | ⟨h, _⟩ <;> cases h
    exact hx T l
end

end MW

set_option Elab.async false
set_option linter.all false
set_option maxRecDepth 100000
set_option maxHeartbeats 4000000
namespace MW
open PySem PySem.Spec PyProof.Rows L2
local macro_rules | `(tactic| walk_at "ev") => `(tactic| first
  | (refine ev_var (by assumption) ?_; rfl)
  | (refine ev_varv (by assumption) ?_; rfl)
  | exact ev_ci
  | exact ev_cs
  | exact ev_cb
  | exact ev_cn
  | exact eb_yes
  | exact ea_nil
  | exact ea_d0
  | exact eo_none
  | (apply ea_cons <;> walk_at "ev")
  | (apply eo_some <;> walk_at "ev")
  | (apply ev_I0 <;> walk_at "ev")
  | (apply ev_B0 <;> walk_at "ev")
  | (apply ev_chain <;> walk_at "ev")
  | (apply ev_neg <;> walk_at "ev")
  | (apply ev_lenL <;> walk_at "ev")
  | (apply ev_lenT <;> walk_at "ev")
  | (apply eb_test <;> walk_at "ev")
  | (apply eb_B <;> walk_at "ev")
  | (apply eb_not <;> walk_at "ev")
  | (apply ev_notV <;> walk_at "ev")
  | (apply ev_tup <;> walk_at "ev")
  | (apply ea_ds <;> walk_at "ev")
  | (apply ev_ixT <;> walk_at "ev")
  | (apply ev_ixL <;> walk_at "ev")
  | (apply ev_eqD <;> walk_at "ev")
  | (apply ev_neD <;> walk_at "ev")
  | (apply ev_inS <;> walk_at "ev")
  | (apply ev_isN <;> walk_at "ev")
  | (apply ev_notN <;> walk_at "ev")
  | (apply ev_andV <;> walk_at "ev")
  | (apply ev_orV <;> walk_at "ev")
  | (apply eb_and <;> walk_at "ev")
  | (apply eb_or <;> walk_at "ev")
  | (apply ev_I <;> walk_at "ev")
  | (apply ev_lenS <;> walk_at "ev")
  | (apply ev_all <;> walk_at "ev")
  | (apply ev_any <;> walk_at "ev")
  | (intro _; walk_at "ev")
  | rfl
  | (with_reducible assumption)
  | decide
  | omega)
/-- what the law asks of a wrong thing -/
def eSome (r : Str) (w : List Int) (fl : List Mk) (n : Int) : PyData := .list [.str r, eW w, eF fl, .int n]
def BadW (kind : Int) (r : Str) (w : List Int) (fl : List Mk) (n : Int) (x : Str) : Prop := bad3 r w fl = some x ∨ (kind < 8 ∧ bad3 r w fl = none ∧ mOk n 20000 = false ∧ mOk n 2000 = false ∧ x = "BadNumber")
theorem BadW.b4 {kind : Int} {r : Str} {w : List Int} {fl : List Mk} {n : Int} {x : Str} (h : BadW kind r w fl n x) : bad4 r w fl n 20000 = some x ∧ bad4 r w fl n 2000 = some x := by
  rcases h with h | ⟨_, h, m1, m2, rfl⟩
  · exact ⟨bad4_of h, bad4_of h⟩
  · exact ⟨bad4_no h m1, bad4_no h m2⟩
theorem BadW.b3 {kind : Int} {r : Str} {w : List Int} {fl : List Mk} {n : Int} {x : Str} (h : BadW kind r w fl n x) (hk : 8 ≤ kind) : bad3 r w fl = some x := by
  rcases h with h | ⟨h, _⟩
  · exact h
  · omega
def sp_one (lo : Int) (K : PySem.W.Frag) : Sp := fun vs H Q E => ∃ (S : Sit) (kind : Int) (r : Str) (w : List Int) (fl : List Mk) (n : Int) (x : Str), S.H = H ∧ Vs K S.G vs [.d (.int kind), .d (eSome r w fl n)] ∧ lo ≤ kind ∧ kind < 18 ∧ Sz r w fl ∧ BadW kind r w fl n x ∧ ∀ T, Le S T → E (.ref (cE K x)) none T.H
theorem eq_t {i j : Int} (h : PyData.eqv (.int i) (.int j) = true) : i = j := by rw [eqv_ints] at h; exact of_decide_eq_true h
theorem eq_f {i j : Int} (h : PyData.eqv (.int i) (.int j) = false) : i ≠ j := by rw [eqv_ints] at h; exact of_decide_eq_false h
theorem sz0 {r : Str} (h : r.length ≤ 1000) : Sz r [0, 0, 0] [] := ⟨h, by decide, by decide, fun _ _ => ⟨by decide, fun p hp => nomatch hp⟩⟩
/-- the rule alone is looked at first -/
theorem alike_or {r : Str} {w : List Int} {fl : List Mk} {x : Str} (h : bad3 r w fl = some x) : bad3 r [0, 0, 0] [] = some x ∨ (bad3 r [0, 0, 0] [] = none ∧ bad3 r w fl = some x) := by
  by_cases e : ruleOk r = false
  · left
    unfold bad3 at h ⊢
    rw [if_pos e] at h ⊢
    exact h
  · right
    refine ⟨?_, h⟩
    unfold bad3
    rw [if_neg e, if_neg (by decide), if_neg (by unfold floorOk; simp [sd])]
theorem sc__law_one_b : FnScope ["kind", "some", "rule", "walker", "floor", "many"] ["kind", "some"] (defScope (top 62)) := ⟨rfl, rfl, rfl, by decide +kernel, rfl, by decide +kernel, by decide +kernel⟩
theorem sc__law_one : FnScope ["kind", "some", "rule", "walker", "floor", "many"] ["kind", "some"] (defScope (top 63)) := ⟨rfl, rfl, rfl, by decide +kernel, rfl, by decide +kernel, by decide +kernel⟩
section
variable {P : Program} {w : World} {K : PySem.W.Frag} {mg : Str → Option Value} {base : Heap}
theorem k__law_one_b (T : Tx K mg) (D : Def K mg "_law_one_b" (top 62)) (F_is_even : FnK P w K mg base 3 "is_even" ["rule", "walker", "floor"] (sp_bad3 K)) (F_written : FnK P w K mg base 3 "written" ["rule", "walker", "floor"] (sp_bad3 K)) (F_turned : FnK P w K mg base 3 "turned" ["rule", "walker", "floor", "quarters"] (sp_bad3a K)) (F_are_alike : FnK P w K mg base 3 "are_alike" ["rule", "walker", "floor", "other_walker", "other_floor"] (sp_alike K)) : FnK P w K mg base 5 "_law_one_b" ["kind", "some"] (sp_one 13 K) := by
  refine fn_mk D sc__law_one_b (fun vs H Q E h => ?_) (fun _ _ _ _ _ _ us hl => match us, hl with | [_, _], _ => rfl) (fun f cdv A outer s H vs Q E hr h => ?_)
  · obtain ⟨S, kind, r, w, fl, n, x, rfl, hv, _⟩ := h
    exact hv.len
  obtain ⟨S, kind, r, w, fl, n, x, rfl, hv, hk0, hk1, hz, hb, hx⟩ := h
  refine ⟨_, (pss_cons (ps_set (i := 2) sc__law_one_b.nd rfl (Or.inl rfl) (pe_ix (kx_list (K := K)) (pv 1) pe_int (fun _ _ => rfl)))
      (pss_cons (ps_set (i := 3) sc__law_one_b.nd rfl (Or.inl rfl) (pe_ix (kx_list (K := K)) (pv 1) pe_int (fun _ _ => rfl)))
      (pss_cons (ps_set (i := 4) sc__law_one_b.nd rfl (Or.inl rfl) (pe_ix (kx_list (K := K)) (pv 1) pe_int (fun _ _ => rfl)))
      (pss_cons (ps_set (i := 5) sc__law_one_b.nd rfl (Or.inl rfl) (pe_ix (kx_list (K := K)) (pv 1) pe_int (fun _ _ => rfl)))
      (pss_cons (ps_if (pt_cmpR (kr_eqD (K := K) hr.units) (pv 0) pe_int (nomark _)) (pss_one (ps_ret (pe_fn F_is_even (hr.mono (by decide)) (passes_call (takes_of rfl rfl rfl rfl) (fun _ _ _ _ h => h)) (pa_cons (pv 2) (pa_cons (pv 3) (pa_cons (pv 4) pa_nil)))))) pss_nil)
      (pss_cons (ps_if (pt_cmpR (kr_eqD (K := K) hr.units) (pv 0) pe_int (nomark _)) (pss_one (ps_ret (pe_fn F_written (hr.mono (by decide)) (passes_call (takes_of rfl rfl rfl rfl) (fun _ _ _ _ h => h)) (pa_cons (pv 2) (pa_cons (pv 3) (pa_cons (pv 4) pa_nil)))))) pss_nil)
      (pss_cons (ps_if (pt_cmpR (kr_eqD (K := K) hr.units) (pv 0) pe_int (nomark _)) (pss_one (ps_ret (pe_fn F_turned (hr.mono (by decide)) (passes_call (takes_of rfl rfl rfl rfl) (fun _ _ _ _ h => h)) (pa_cons (pv 2) (pa_cons (pv 3) (pa_cons (pv 4) (pa_cons (pv 5) pa_nil))))))) pss_nil)
      (pss_cons (ps_if (pt_cmpR (kr_eqD (K := K) hr.units) (pv 0) pe_int (nomark _)) (pss_one (ps_ret (pe_fn F_are_alike (hr.mono (by decide)) (passes_call (takes_of rfl rfl rfl rfl) (fun _ _ _ _ h => h)) (pa_cons (pv 2) (pa_cons (pv 3) (pa_cons (pv 4) (pa_cons (pe_tup (pa_cons pe_int (pa_cons pe_int (pa_cons pe_int pa_nil)))) (pa_cons (pe_lst pa_nil) pa_nil)))))))) pss_nil)
      (pss_cons (ps_if (pt_cmpR (kr_eqD (K := K) hr.units) (pv 0) pe_int (nomark _)) (pss_one (ps_ret (pe_fn F_are_alike (hr.mono (by decide)) (passes_call (takes_of rfl rfl rfl rfl) (fun _ _ _ _ h => h)) (pa_cons (pv 2) (pa_cons (pe_tup (pa_cons pe_int (pa_cons pe_int (pa_cons pe_int pa_nil)))) (pa_cons (pe_lst pa_nil) (pa_cons (pv 3) (pa_cons (pv 4) pa_nil)))))))) pss_nil)
      (pss_one (ps_ret pe_non))))))))))), ?_⟩
  have hE := Sv.start (N := ["kind", "some", "rule", "walker", "floor", "many"]) (n := 4) hv rfl
  refine st_asg (s := .d (.str r)) hE (ev_ixL (ds := [.str r, eW w, eF fl, .int n]) (ev_var hE rfl) ev_ci rfl) fun σ1 T1 l1 hE1 => ?_
  dsimp only
  refine st_asg (s := .d (eW w)) hE1 (ev_ixL (ds := [.str r, eW w, eF fl, .int n]) (ev_var hE1 rfl) ev_ci rfl) fun σ2 T2 l2 hE2 => ?_
  dsimp only
  refine st_asg (s := .d (eF fl)) hE2 (ev_ixL (ds := [.str r, eW w, eF fl, .int n]) (ev_var hE2 rfl) ev_ci rfl) fun σ3 T3 l3 hE3 => ?_
  dsimp only
  refine st_asg (s := .d (.int n)) hE3 (ev_ixL (ds := [.str r, eW w, eF fl, .int n]) (ev_var hE3 rfl) ev_ci rfl) fun σ4 U0 l4 hE4 => ?_
  have lL := ((l1.trans l2).trans l3).trans l4
  clear hE hE1 hE2 hE3 l1 l2 l3 l4
  dsimp only
  apply st_if (K := K) (b := PyData.eqv (.int kind) (.int 13))
  case hb => exact eb_test (ev_eqD (ev_var hE4 rfl) ev_ci rfl rfl)
  case' h1 =>
    intro e U l
    have ek := eq_t e
    have lL := lL.trans l
    have hE5 := hE4.up l.g
    clear hE4
    unfold tRet
    exact tc_bad3 (K := K) (r := r) (w := w) (fl := fl) (by walk_at "ev") hz (hb.b3 (by omega)) (fun T l => hx T (lL.trans l)) _
  intro e13 U l
  have n13 := eq_f e13
  have lL := lL.trans l
  have hE4 := hE4.up l.g
  clear l
  dsimp only [tNext]
  apply st_if (K := K) (b := PyData.eqv (.int kind) (.int 14))
  case hb => exact eb_test (ev_eqD (ev_var hE4 rfl) ev_ci rfl rfl)
  case' h1 =>
    intro e U l
    have ek := eq_t e
    have lL := lL.trans l
    have hE5 := hE4.up l.g
    clear hE4
    unfold tRet
    exact tc_bad3 (K := K) (r := r) (w := w) (fl := fl) (by walk_at "ev") hz (hb.b3 (by omega)) (fun T l => hx T (lL.trans l)) _
  intro e14 U l
  have n14 := eq_f e14
  have lL := lL.trans l
  have hE4 := hE4.up l.g
  clear l
  dsimp only [tNext]
  apply st_if (K := K) (b := PyData.eqv (.int kind) (.int 15))
  case hb => exact eb_test (ev_eqD (ev_var hE4 rfl) ev_ci rfl rfl)
  case' h1 =>
    intro e U l
    have ek := eq_t e
    have lL := lL.trans l
    have hE5 := hE4.up l.g
    clear hE4
    unfold tRet
    exact tc_bad3a (K := K) (r := r) (w := w) (fl := fl) (n := n) (by walk_at "ev") hz (hb.b3 (by omega)) (fun T l => hx T (lL.trans l)) _
  intro e15 U l
  have n15 := eq_f e15
  have lL := lL.trans l
  have hE4 := hE4.up l.g
  clear l
  dsimp only [tNext]
  apply st_if (K := K) (b := PyData.eqv (.int kind) (.int 16))
  case hb => exact eb_test (ev_eqD (ev_var hE4 rfl) ev_ci rfl rfl)
  case' h1 =>
    intro e U l
    have ek := eq_t e
    have lL := lL.trans l
    have hE5 := hE4.up l.g
    clear hE4
    unfold tRet
    exact tc_alike (K := K) (r := r) (w := w) (fl := fl) (w2 := [0, 0, 0]) (fl2 := []) (ea_cons (ev_var hE5 rfl) (ea_cons (ev_var hE5 rfl) (ea_cons (ev_var hE5 rfl) (ea_cons (ev_tup (ds := [.int 0, .int 0, .int 0]) (ea_ds ev_ci (ea_ds ev_ci (ea_ds ev_ci ea_d0))) (by decide)) (ea_cons (ev_lst (ds := []) ea_d0 (by decide)) ea_nil))))) hz (sz0 hz.1) (.inl (hb.b3 (by omega))) (fun T l => hx T (lL.trans l)) _
  intro e16 U l
  have n16 := eq_f e16
  have lL := lL.trans l
  have hE4 := hE4.up l.g
  clear l
  dsimp only [tNext]
  apply st_if (K := K) (b := PyData.eqv (.int kind) (.int 17))
  case hb => exact eb_test (ev_eqD (ev_var hE4 rfl) ev_ci rfl rfl)
  case' h1 =>
    intro e U l
    have ek := eq_t e
    have lL := lL.trans l
    have hE5 := hE4.up l.g
    clear hE4
    unfold tRet
    exact tc_alike (K := K) (r := r) (w := [0, 0, 0]) (fl := []) (w2 := w) (fl2 := fl) (ea_cons (ev_var hE5 rfl) (ea_cons (ev_tup (ds := [.int 0, .int 0, .int 0]) (ea_ds ev_ci (ea_ds ev_ci (ea_ds ev_ci ea_d0))) (by decide)) (ea_cons (ev_lst (ds := []) ea_d0 (by decide)) (ea_cons (ev_var hE5 rfl) (ea_cons (ev_var hE5 rfl) ea_nil))))) (sz0 hz.1) hz (alike_or (hb.b3 (by omega))) (fun T l => hx T (lL.trans l)) _
  intro e17 U l
  have n17 := eq_f e17
  have lL := lL.trans l
  have hE4 := hE4.up l.g
  clear l
  dsimp only [tNext]
  omega
theorem k__law_one (T : Tx K mg) (D : Def K mg "_law_one" (top 63)) (F_run : FnK P w K mg base 3 "run" ["rule", "walker", "floor", "many"] (sp_bad4 20000 K)) (F_back : FnK P w K mg base 3 "back" ["rule", "walker", "floor", "many"] (sp_bad4 20000 K)) (F_counts : FnK P w K mg base 4 "counts" ["rule", "walker", "floor", "many"] (sp_bad4 20000 K)) (F_path : FnK P w K mg base 3 "path" ["rule", "walker", "floor", "many"] (sp_bad4 2000 K)) (F_read_colours : FnK P w K mg base 3 "read_colours" ["rule", "walker", "floor", "many"] (sp_bad4 2000 K)) (F_times_seen : FnK P w K mg base 4 "times_seen" ["rule", "walker", "floor", "many"] (sp_bad4 2000 K)) (F_box : FnK P w K mg base 4 "box" ["rule", "walker", "floor", "many"] (sp_bad4 2000 K)) (F_period : FnK P w K mg base 3 "period" ["rule", "walker", "floor", "many"] (sp_bad4 2000 K)) (F_goes_on : FnK P w K mg base 3 "goes_on" ["rule", "walker", "floor", "long"] (sp_bad3a K)) (F_shown : FnK P w K mg base 3 "shown" ["rule", "walker", "floor", "start", "long"] (sp_bad3b K)) (F_way_on : FnK P w K mg base 3 "way_on" ["rule", "walker", "floor", "many", "most"] (sp_bad3b K)) (F_mirrored : FnK P w K mg base 3 "mirrored" ["rule", "walker", "floor"] (sp_bad3 K)) (F_plain : FnK P w K mg base 3 "plain" ["rule", "walker", "floor"] (sp_bad3 K)) (F__law_one_b : FnK P w K mg base 5 "_law_one_b" ["kind", "some"] (sp_one 13 K)) : FnK P w K mg base 6 "_law_one" ["kind", "some"] (sp_one 0 K) := by
  refine fn_mk D sc__law_one (fun vs H Q E h => ?_) (fun _ _ _ _ _ _ us hl => match us, hl with | [_, _], _ => rfl) (fun f cdv A outer s H vs Q E hr h => ?_)
  · obtain ⟨S, kind, r, w, fl, n, x, rfl, hv, _⟩ := h
    exact hv.len
  obtain ⟨S, kind, r, w, fl, n, x, rfl, hv, hk0, hk1, hz, hb, hx⟩ := h
  refine ⟨_, (pss_cons (ps_set (i := 2) sc__law_one.nd rfl (Or.inl rfl) (pe_ix (kx_list (K := K)) (pv 1) pe_int (fun _ _ => rfl)))
      (pss_cons (ps_set (i := 3) sc__law_one.nd rfl (Or.inl rfl) (pe_ix (kx_list (K := K)) (pv 1) pe_int (fun _ _ => rfl)))
      (pss_cons (ps_set (i := 4) sc__law_one.nd rfl (Or.inl rfl) (pe_ix (kx_list (K := K)) (pv 1) pe_int (fun _ _ => rfl)))
      (pss_cons (ps_set (i := 5) sc__law_one.nd rfl (Or.inl rfl) (pe_ix (kx_list (K := K)) (pv 1) pe_int (fun _ _ => rfl)))
      (pss_cons (ps_if (pt_cmpR (kr_eqD (K := K) hr.units) (pv 0) pe_int (nomark _)) (pss_one (ps_ret (pe_fn F_run (hr.mono (by decide)) (passes_call (takes_of rfl rfl rfl rfl) (fun _ _ _ _ h => h)) (pa_cons (pv 2) (pa_cons (pv 3) (pa_cons (pv 4) (pa_cons (pv 5) pa_nil))))))) pss_nil)
      (pss_cons (ps_if (pt_cmpR (kr_eqD (K := K) hr.units) (pv 0) pe_int (nomark _)) (pss_one (ps_ret (pe_fn F_back (hr.mono (by decide)) (passes_call (takes_of rfl rfl rfl rfl) (fun _ _ _ _ h => h)) (pa_cons (pv 2) (pa_cons (pv 3) (pa_cons (pv 4) (pa_cons (pv 5) pa_nil))))))) pss_nil)
      (pss_cons (ps_if (pt_cmpR (kr_eqD (K := K) hr.units) (pv 0) pe_int (nomark _)) (pss_one (ps_ret (pe_fn F_counts (hr.mono (by decide)) (passes_call (takes_of rfl rfl rfl rfl) (fun _ _ _ _ h => h)) (pa_cons (pv 2) (pa_cons (pv 3) (pa_cons (pv 4) (pa_cons (pv 5) pa_nil))))))) pss_nil)
      (pss_cons (ps_if (pt_cmpR (kr_eqD (K := K) hr.units) (pv 0) pe_int (nomark _)) (pss_one (ps_ret (pe_fn F_path (hr.mono (by decide)) (passes_call (takes_of rfl rfl rfl rfl) (fun _ _ _ _ h => h)) (pa_cons (pv 2) (pa_cons (pv 3) (pa_cons (pv 4) (pa_cons (pv 5) pa_nil))))))) pss_nil)
      (pss_cons (ps_if (pt_cmpR (kr_eqD (K := K) hr.units) (pv 0) pe_int (nomark _)) (pss_one (ps_ret (pe_fn F_read_colours (hr.mono (by decide)) (passes_call (takes_of rfl rfl rfl rfl) (fun _ _ _ _ h => h)) (pa_cons (pv 2) (pa_cons (pv 3) (pa_cons (pv 4) (pa_cons (pv 5) pa_nil))))))) pss_nil)
      (pss_cons (ps_if (pt_cmpR (kr_eqD (K := K) hr.units) (pv 0) pe_int (nomark _)) (pss_one (ps_ret (pe_fn F_times_seen (hr.mono (by decide)) (passes_call (takes_of rfl rfl rfl rfl) (fun _ _ _ _ h => h)) (pa_cons (pv 2) (pa_cons (pv 3) (pa_cons (pv 4) (pa_cons (pv 5) pa_nil))))))) pss_nil)
      (pss_cons (ps_if (pt_cmpR (kr_eqD (K := K) hr.units) (pv 0) pe_int (nomark _)) (pss_one (ps_ret (pe_fn F_box (hr.mono (by decide)) (passes_call (takes_of rfl rfl rfl rfl) (fun _ _ _ _ h => h)) (pa_cons (pv 2) (pa_cons (pv 3) (pa_cons (pv 4) (pa_cons (pv 5) pa_nil))))))) pss_nil)
      (pss_cons (ps_if (pt_cmpR (kr_eqD (K := K) hr.units) (pv 0) pe_int (nomark _)) (pss_one (ps_ret (pe_fn F_period (hr.mono (by decide)) (passes_call (takes_of rfl rfl rfl rfl) (fun _ _ _ _ h => h)) (pa_cons (pv 2) (pa_cons (pv 3) (pa_cons (pv 4) (pa_cons (pv 5) pa_nil))))))) pss_nil)
      (pss_cons (ps_if (pt_cmpR (kr_eqD (K := K) hr.units) (pv 0) pe_int (nomark _)) (pss_one (ps_ret (pe_fn F_goes_on (hr.mono (by decide)) (passes_call (takes_of rfl rfl rfl rfl) (fun _ _ _ _ h => h)) (pa_cons (pv 2) (pa_cons (pv 3) (pa_cons (pv 4) (pa_cons (pv 5) pa_nil))))))) pss_nil)
      (pss_cons (ps_if (pt_cmpR (kr_eqD (K := K) hr.units) (pv 0) pe_int (nomark _)) (pss_one (ps_ret (pe_fn F_shown (hr.mono (by decide)) (passes_call (takes_of rfl rfl rfl rfl) (fun _ _ _ _ h => h)) (pa_cons (pv 2) (pa_cons (pv 3) (pa_cons (pv 4) (pa_cons (pv 5) (pa_cons (pe_un un_neg pe_int) pa_nil)))))))) pss_nil)
      (pss_cons (ps_if (pt_cmpR (kr_eqD (K := K) hr.units) (pv 0) pe_int (nomark _)) (pss_one (ps_ret (pe_fn F_way_on (hr.mono (by decide)) (passes_call (takes_of rfl rfl rfl rfl) (fun _ _ _ _ h => h)) (pa_cons (pv 2) (pa_cons (pv 3) (pa_cons (pv 4) (pa_cons (pv 5) (pa_cons (pe_un un_neg pe_int) pa_nil)))))))) pss_nil)
      (pss_cons (ps_if (pt_cmpR (kr_eqD (K := K) hr.units) (pv 0) pe_int (nomark _)) (pss_one (ps_ret (pe_fn F_mirrored (hr.mono (by decide)) (passes_call (takes_of rfl rfl rfl rfl) (fun _ _ _ _ h => h)) (pa_cons (pv 2) (pa_cons (pv 3) (pa_cons (pv 4) pa_nil)))))) pss_nil)
      (pss_cons (ps_if (pt_cmpR (kr_eqD (K := K) hr.units) (pv 0) pe_int (nomark _)) (pss_one (ps_ret (pe_fn F_plain (hr.mono (by decide)) (passes_call (takes_of rfl rfl rfl rfl) (fun _ _ _ _ h => h)) (pa_cons (pv 2) (pa_cons (pv 3) (pa_cons (pv 4) pa_nil)))))) pss_nil)
      (pss_one (ps_ret (pe_fn F__law_one_b (hr.mono (by decide)) (passes_call (takes_of rfl rfl rfl rfl) (fun _ _ _ _ h => h)) (pa_cons (pv 0) (pa_cons (pv 1) pa_nil)))))))))))))))))))))), ?_⟩
  have hE := Sv.start (N := ["kind", "some", "rule", "walker", "floor", "many"]) (n := 4) hv rfl
  refine st_asg (s := .d (.str r)) hE (ev_ixL (ds := [.str r, eW w, eF fl, .int n]) (ev_var hE rfl) ev_ci rfl) fun σ1 T1 l1 hE1 => ?_
  dsimp only
  refine st_asg (s := .d (eW w)) hE1 (ev_ixL (ds := [.str r, eW w, eF fl, .int n]) (ev_var hE1 rfl) ev_ci rfl) fun σ2 T2 l2 hE2 => ?_
  dsimp only
  refine st_asg (s := .d (eF fl)) hE2 (ev_ixL (ds := [.str r, eW w, eF fl, .int n]) (ev_var hE2 rfl) ev_ci rfl) fun σ3 T3 l3 hE3 => ?_
  dsimp only
  refine st_asg (s := .d (.int n)) hE3 (ev_ixL (ds := [.str r, eW w, eF fl, .int n]) (ev_var hE3 rfl) ev_ci rfl) fun σ4 U0 l4 hE4 => ?_
  have lL := ((l1.trans l2).trans l3).trans l4
  clear hE hE1 hE2 hE3 l1 l2 l3 l4
  dsimp only
  apply st_if (K := K) (b := PyData.eqv (.int kind) (.int 0))
  case hb => exact eb_test (ev_eqD (ev_var hE4 rfl) ev_ci rfl rfl)
  case' h1 =>
    intro e U l
    have ek := eq_t e
    have lL := lL.trans l
    have hE5 := hE4.up l.g
    clear hE4
    unfold tRet
    exact tc_bad4 (K := K) (r := r) (w := w) (fl := fl) (n := n) (by walk_at "ev") hz hb.b4.1 (fun T l => hx T (lL.trans l)) _
  intro e0 U l
  have n0 := eq_f e0
  have lL := lL.trans l
  have hE4 := hE4.up l.g
  clear l
  dsimp only [tNext]
  apply st_if (K := K) (b := PyData.eqv (.int kind) (.int 1))
  case hb => exact eb_test (ev_eqD (ev_var hE4 rfl) ev_ci rfl rfl)
  case' h1 =>
    intro e U l
    have ek := eq_t e
    have lL := lL.trans l
    have hE5 := hE4.up l.g
    clear hE4
    unfold tRet
    exact tc_bad4 (K := K) (r := r) (w := w) (fl := fl) (n := n) (by walk_at "ev") hz hb.b4.1 (fun T l => hx T (lL.trans l)) _
  intro e1 U l
  have n1 := eq_f e1
  have lL := lL.trans l
  have hE4 := hE4.up l.g
  clear l
  dsimp only [tNext]
  apply st_if (K := K) (b := PyData.eqv (.int kind) (.int 2))
  case hb => exact eb_test (ev_eqD (ev_var hE4 rfl) ev_ci rfl rfl)
  case' h1 =>
    intro e U l
    have ek := eq_t e
    have lL := lL.trans l
    have hE5 := hE4.up l.g
    clear hE4
    unfold tRet
    exact tc_bad4 (K := K) (r := r) (w := w) (fl := fl) (n := n) (by walk_at "ev") hz hb.b4.1 (fun T l => hx T (lL.trans l)) _
  intro e2 U l
  have n2 := eq_f e2
  have lL := lL.trans l
  have hE4 := hE4.up l.g
  clear l
  dsimp only [tNext]
  apply st_if (K := K) (b := PyData.eqv (.int kind) (.int 3))
  case hb => exact eb_test (ev_eqD (ev_var hE4 rfl) ev_ci rfl rfl)
  case' h1 =>
    intro e U l
    have ek := eq_t e
    have lL := lL.trans l
    have hE5 := hE4.up l.g
    clear hE4
    unfold tRet
    exact tc_bad4 (K := K) (r := r) (w := w) (fl := fl) (n := n) (by walk_at "ev") hz hb.b4.2 (fun T l => hx T (lL.trans l)) _
  intro e3 U l
  have n3 := eq_f e3
  have lL := lL.trans l
  have hE4 := hE4.up l.g
  clear l
  dsimp only [tNext]
  apply st_if (K := K) (b := PyData.eqv (.int kind) (.int 4))
  case hb => exact eb_test (ev_eqD (ev_var hE4 rfl) ev_ci rfl rfl)
  case' h1 =>
    intro e U l
    have ek := eq_t e
    have lL := lL.trans l
    have hE5 := hE4.up l.g
    clear hE4
    unfold tRet
    exact tc_bad4 (K := K) (r := r) (w := w) (fl := fl) (n := n) (by walk_at "ev") hz hb.b4.2 (fun T l => hx T (lL.trans l)) _
  intro e4 U l
  have n4 := eq_f e4
  have lL := lL.trans l
  have hE4 := hE4.up l.g
  clear l
  dsimp only [tNext]
  apply st_if (K := K) (b := PyData.eqv (.int kind) (.int 5))
  case hb => exact eb_test (ev_eqD (ev_var hE4 rfl) ev_ci rfl rfl)
  case' h1 =>
    intro e U l
    have ek := eq_t e
    have lL := lL.trans l
    have hE5 := hE4.up l.g
    clear hE4
    unfold tRet
    exact tc_bad4 (K := K) (r := r) (w := w) (fl := fl) (n := n) (by walk_at "ev") hz hb.b4.2 (fun T l => hx T (lL.trans l)) _
  intro e5 U l
  have n5 := eq_f e5
  have lL := lL.trans l
  have hE4 := hE4.up l.g
  clear l
  dsimp only [tNext]
  apply st_if (K := K) (b := PyData.eqv (.int kind) (.int 6))
  case hb => exact eb_test (ev_eqD (ev_var hE4 rfl) ev_ci rfl rfl)
  case' h1 =>
    intro e U l
    have ek := eq_t e
    have lL := lL.trans l
    have hE5 := hE4.up l.g
    clear hE4
    unfold tRet
    exact tc_bad4 (K := K) (r := r) (w := w) (fl := fl) (n := n) (by walk_at "ev") hz hb.b4.2 (fun T l => hx T (lL.trans l)) _
  intro e6 U l
  have n6 := eq_f e6
  have lL := lL.trans l
  have hE4 := hE4.up l.g
  clear l
  dsimp only [tNext]
  apply st_if (K := K) (b := PyData.eqv (.int kind) (.int 7))
  case hb => exact eb_test (ev_eqD (ev_var hE4 rfl) ev_ci rfl rfl)
  case' h1 =>
    intro e U l
    have ek := eq_t e
    have lL := lL.trans l
    have hE5 := hE4.up l.g
    clear hE4
    unfold tRet
    exact tc_bad4 (K := K) (r := r) (w := w) (fl := fl) (n := n) (by walk_at "ev") hz hb.b4.2 (fun T l => hx T (lL.trans l)) _
  intro e7 U l
  have n7 := eq_f e7
  have lL := lL.trans l
  have hE4 := hE4.up l.g
  clear l
  dsimp only [tNext]
  apply st_if (K := K) (b := PyData.eqv (.int kind) (.int 8))
  case hb => exact eb_test (ev_eqD (ev_var hE4 rfl) ev_ci rfl rfl)
  case' h1 =>
    intro e U l
    have ek := eq_t e
    have lL := lL.trans l
    have hE5 := hE4.up l.g
    clear hE4
    unfold tRet
    exact tc_bad3a (K := K) (r := r) (w := w) (fl := fl) (n := n) (by walk_at "ev") hz (hb.b3 (by omega)) (fun T l => hx T (lL.trans l)) _
  intro e8 U l
  have n8 := eq_f e8
  have lL := lL.trans l
  have hE4 := hE4.up l.g
  clear l
  dsimp only [tNext]
  apply st_if (K := K) (b := PyData.eqv (.int kind) (.int 9))
  case hb => exact eb_test (ev_eqD (ev_var hE4 rfl) ev_ci rfl rfl)
  case' h1 =>
    intro e U l
    have ek := eq_t e
    have lL := lL.trans l
    have hE5 := hE4.up l.g
    clear hE4
    unfold tRet
    exact tc_bad3b (K := K) (r := r) (w := w) (fl := fl) (n := n) (m := -1) (by walk_at "ev") hz (hb.b3 (by omega)) (fun T l => hx T (lL.trans l)) _
  intro e9 U l
  have n9 := eq_f e9
  have lL := lL.trans l
  have hE4 := hE4.up l.g
  clear l
  dsimp only [tNext]
  apply st_if (K := K) (b := PyData.eqv (.int kind) (.int 10))
  case hb => exact eb_test (ev_eqD (ev_var hE4 rfl) ev_ci rfl rfl)
  case' h1 =>
    intro e U l
    have ek := eq_t e
    have lL := lL.trans l
    have hE5 := hE4.up l.g
    clear hE4
    unfold tRet
    exact tc_bad3b (K := K) (r := r) (w := w) (fl := fl) (n := n) (m := -1) (by walk_at "ev") hz (hb.b3 (by omega)) (fun T l => hx T (lL.trans l)) _
  intro e10 U l
  have n10 := eq_f e10
  have lL := lL.trans l
  have hE4 := hE4.up l.g
  clear l
  dsimp only [tNext]
  apply st_if (K := K) (b := PyData.eqv (.int kind) (.int 11))
  case hb => exact eb_test (ev_eqD (ev_var hE4 rfl) ev_ci rfl rfl)
  case' h1 =>
    intro e U l
    have ek := eq_t e
    have lL := lL.trans l
    have hE5 := hE4.up l.g
    clear hE4
    unfold tRet
    exact tc_bad3 (K := K) (r := r) (w := w) (fl := fl) (by walk_at "ev") hz (hb.b3 (by omega)) (fun T l => hx T (lL.trans l)) _
  intro e11 U l
  have n11 := eq_f e11
  have lL := lL.trans l
  have hE4 := hE4.up l.g
  clear l
  dsimp only [tNext]
  apply st_if (K := K) (b := PyData.eqv (.int kind) (.int 12))
  case hb => exact eb_test (ev_eqD (ev_var hE4 rfl) ev_ci rfl rfl)
  case' h1 =>
    intro e U l
    have ek := eq_t e
    have lL := lL.trans l
    have hE5 := hE4.up l.g
    clear hE4
    unfold tRet
    exact tc_bad3 (K := K) (r := r) (w := w) (fl := fl) (by walk_at "ev") hz (hb.b3 (by omega)) (fun T l => hx T (lL.trans l)) _
  intro e12 U l
  have n12 := eq_f e12
  have lL := lL.trans l
  have hE4 := hE4.up l.g
  clear l
  dsimp only [tNext]
  unfold tRet
  refine (ea_cons (ev_var hE4 rfl) (ea_cons (ev_var hE4 rfl) ea_nil)) _ (Le.refl _) _ fun vs V0 lV hv => ?_
  rw [List.append_nil]
  exact ⟨V0, kind, r, w, fl, n, x, rfl, hv, by omega, hk1, hz, hb, fun T l => hx T ((lL.trans lV).trans l)⟩
end

end MW

set_option Elab.async false
set_option linter.all false
set_option maxRecDepth 100000
set_option maxHeartbeats 4000000
namespace MW
open PySem PySem.Spec PyProof.Rows L2
local macro_rules | `(tactic| walk_at "ev") => `(tactic| first
  | (refine ev_var (by assumption) ?_; rfl)
  | (refine ev_varv (by assumption) ?_; rfl)
  | exact ev_ci
  | exact ev_cs
  | exact ev_cb
  | exact ev_cn
  | exact eb_yes
  | exact ea_nil
  | exact ea_d0
  | exact eo_none
  | (apply ea_cons <;> walk_at "ev")
  | (apply eo_some <;> walk_at "ev")
  | (apply ev_I0 <;> walk_at "ev")
  | (apply ev_B0 <;> walk_at "ev")
  | (apply ev_chain <;> walk_at "ev")
  | (apply ev_neg <;> walk_at "ev")
  | (apply ev_lenL <;> walk_at "ev")
  | (apply ev_lenT <;> walk_at "ev")
  | (apply eb_test <;> walk_at "ev")
  | (apply eb_B <;> walk_at "ev")
  | (apply eb_not <;> walk_at "ev")
  | (apply ev_notV <;> walk_at "ev")
  | (apply ev_tup <;> walk_at "ev")
  | (apply ea_ds <;> walk_at "ev")
  | (apply ev_ixT <;> walk_at "ev")
  | (apply ev_ixL <;> walk_at "ev")
  | (apply ev_eqD <;> walk_at "ev")
  | (apply ev_neD <;> walk_at "ev")
  | (apply ev_inS <;> walk_at "ev")
  | (apply ev_isN <;> walk_at "ev")
  | (apply ev_notN <;> walk_at "ev")
  | (apply ev_andV <;> walk_at "ev")
  | (apply ev_orV <;> walk_at "ev")
  | (apply eb_and <;> walk_at "ev")
  | (apply eb_or <;> walk_at "ev")
  | (apply ev_I <;> walk_at "ev")
  | (apply ev_lenS <;> walk_at "ev")
  | (apply ev_all <;> walk_at "ev")
  | (apply ev_any <;> walk_at "ev")
  | (intro _; walk_at "ev")
  | rfl
  | (with_reducible assumption)
  | decide
  | omega)
theorem sc__law_refusal : FnScope ["caught", "kinds"] ["caught"] (defScope (top 61)) := ⟨rfl, rfl, rfl, by decide +kernel, rfl, by decide +kernel, by decide +kernel⟩
theorem sc__law_told : FnScope ["kind", "some", "caught", "found", "e"] ["kind", "some"] (defScope (top 64)) := ⟨rfl, rfl, rfl, by decide +kernel, rfl, by decide +kernel, by decide +kernel⟩
section
variable {P : Program} {w : World} {K : PySem.W.Frag} {mg : Str → Option Value} {base : Heap}
theorem k__law_refusal (T : Tx K mg) (D : Def K mg "_law_refusal" (top 61)) : FnK P w K mg base 1 "_law_refusal" ["caught"] (sp__law_refusal K) := by
  refine fn_mk D sc__law_refusal (fun vs H Q E h => ?_) (fun _ _ _ _ _ _ us hl => match us, hl with | [_], _ => rfl) (fun f cdv A outer s H vs Q E hr h => ?_)
  · obtain ⟨S, a, x, rfl, hv, _⟩ := h
    exact hv.len
  obtain ⟨S, a, x, rfl, hv, hX, hx, h1⟩ := h
  refine ⟨_, (pss_cons (ps_if (pt_cmpR op_isN (pv 0) pe_non (nomark _)) (pss_one (ps_ret (pe_tup (pa_cons pe_str pa_nil)))) pss_nil)
      (pss_cons (ps_set (i := 1) sc__law_refusal.nd rfl (Or.inl rfl) (pe_lst (pa_cons (pe_callB (kr_isC (K := K)) (by rfl) T.isinstance (by decide +kernel) (pa_cons (pv 0) (pa_cons (pe_kref T.BadRule.g) pa_nil))) (pa_cons (pe_callB (kr_isC (K := K)) (by rfl) T.isinstance (by decide +kernel) (pa_cons (pv 0) (pa_cons (pe_kref T.BadFloor.g) pa_nil))) (pa_cons (pe_callB (kr_isC (K := K)) (by rfl) T.isinstance (by decide +kernel) (pa_cons (pv 0) (pa_cons (pe_kref T.BadWalker.g) pa_nil))) pa_nil)))))
      (pss_cons (ps_set (i := 1) sc__law_refusal.nd rfl (Or.inl rfl) (pe_op op_cat (pv 1) (pe_lst (pa_cons (pe_callB (kr_isC (K := K)) (by rfl) T.isinstance (by decide +kernel) (pa_cons (pv 0) (pa_cons (pe_kref T.BadNumber.g) pa_nil))) (pa_cons (pe_callB (kr_isC (K := K)) (by rfl) T.isinstance (by decide +kernel) (pa_cons (pv 0) (pa_cons (pe_kref T.BadText.g) pa_nil))) pa_nil)))))
      (pss_cons (ps_if (PW.pt (pw_or (pt_cmpR (kr_neD (K := K) hr.units) (kpe_bm (K := K) rfl PySem.F.plainAttrs_list PySem.F.slot_list_count PySem.F.type_list_count (mt_cntB (K := K)) (pv 1) (pa_cons pe_bl pa_nil)) pe_int (nomark _)) (pw_or1 (pt_not (pt_val (pe_callB (kr_isC (K := K)) (by rfl) T.isinstance (by decide +kernel) (pa_cons (pv 0) (pa_cons (pe_bltn (v := .ty "ValueError") (by rfl) T.ValueError (by decide +kernel) rfl) pa_nil)))))))) (pss_one (ps_ret (pe_tup (pa_cons pe_str pa_nil)))) pss_nil)
      (pss_one (ps_ret (pe_tup (pa_cons pe_str (pa_cons (pe_ix (kx_list (K := K)) (pe_lst (pa_cons pe_str (pa_cons pe_str (pa_cons pe_str (pa_cons pe_str (pa_cons pe_str pa_nil)))))) (kpe_bm (K := K) rfl PySem.F.plainAttrs_list PySem.F.slot_list_index PySem.F.type_list_index (ka_index (K := K)) (pv 1) (pa_cons pe_bl pa_nil)) (fun _ _ => rfl)) pa_nil))))))))), ?_⟩
  have hE := Sv.start (N := ["caught", "kinds"]) (n := 1) hv rfl
  have hs : PySem.W.subIn K (.ref (He.ga K x)) (.type "BaseException") = some true := by
    have h := hx
    unfold kinds5 at h
    simp only [List.mem_cons, List.not_mem_nil, or_false] at h
    rcases h with rfl | rfl | rfl | rfl | rfl
    · exact T.BadRule.b
    · exact T.BadFloor.b
    · exact T.BadWalker.b
    · exact T.BadNumber.b
    · exact T.BadText.b
  have C := T.kits.ex x hx hs
  have one : ∀ y ∈ kinds5, ∀ (σ : L2.St) (S' : Sit) (δ : List Sl), Le S S' → Sv K S'.G σ δ → δ[0]? = some (.v (.ref a)) → EvD K (tCB (rIsC K) (tCons (tVar 0) (tCons (tC (.ref (He.ga K y))) tNil))) σ S' (.bool (decide (x = y))) := fun y hy σ S' δ l hE' e =>
    ev_isC (ev_varv hE' e) (l.2.1 _ _ hX) C (fun u r => r) (T.kits.one x hx y hy)
  obtain ⟨j, j1, j2, j3, j4⟩ := kinds_ix hx
  apply st_if (K := K) (b := false)
  case hb => exact eb_test (ev_is (ev_isNv (v := .ref a) (ev_varv hE rfl)) rfl)
  case h1 => exact fun e => nomatch e
  case h2 =>
    intro _ T1 l1
    have hE1 := hE.up l1.g
    dsimp only [tNext]
    refine st_asg (s := .d (.list ([decide (x = "BadRule"), decide (x = "BadFloor"), decide (x = "BadWalker")].map PyData.bool))) hE1 (ev_lst (ea_ds (one _ (by decide) _ _ _ l1 hE1 rfl) (ea_ds (one _ (by decide) _ _ _ l1 hE1 rfl) (ea_ds (one _ (by decide) _ _ _ l1 hE1 rfl) ea_d0))) (by show 3 ≤ _; decide)) fun σ2 T2 l2 hE2 => ?_
    dsimp only
    have l2 := l1.trans l2
    refine st_asg (s := .d (.list (((kinds5.map fun y => decide (x = y))).map PyData.bool))) hE2 (ev_cat (xs := [decide (x = "BadRule"), decide (x = "BadFloor"), decide (x = "BadWalker")].map PyData.bool) (ys := [decide (x = "BadNumber"), decide (x = "BadText")].map PyData.bool) (ev_var hE2 rfl) (ev_lst (ea_ds (one _ (by decide) _ _ _ l2 hE2 rfl) (ea_ds (one _ (by decide) _ _ _ l2 hE2 rfl) ea_d0)) (by show 2 ≤ _; decide)) (by show 5 ≤ _; decide)) fun σ3 T3 l3 hE3 => ?_
    dsimp only
    have l3 := l2.trans l3
    apply st_if (K := K) (b := false)
    case hb =>
      refine eb_is (eb_or (a := false) (b := false) ?_ fun _ => ?_) rfl
      · refine eb_test (ev_is (ev_neD (ev_cntB (bs := kinds5.map fun y => decide (x = y)) (ev_var hE3 rfl)) ev_ci rfl rfl) ?_)
        rw [j3]
        rfl
      · exact eb_not (b := true) (eb_B (ev_isC (cv := .type "ValueError") (ev_varv hE3 rfl) (l3.2.1 _ _ hX) C (fun u r => r) (T.kits.ve x hx)))
    case h1 => exact fun e => nomatch e
    case h2 =>
      intro _ T4 l4
      have hE4 := hE3.up l4.g
      dsimp only [tNext]
      refine st_ret (s := .d (eRef x)) (ev_tup (ds := [.str "refused", .str (wordOf x)]) (ea_ds ev_cs (ea_ds (ev_ixL (ds := [.str "rule", .str "floor", .str "walker", .str "number", .str "text"]) (i := (j : Nat)) (ev_lst (ea_ds ev_cs (ea_ds ev_cs (ea_ds ev_cs (ea_ds ev_cs (ea_ds ev_cs ea_d0))))) (by decide)) (ev_idxB (bs := kinds5.map fun y => decide (x = y)) (ev_var hE4 rfl) j1 j2) j4) ea_d0)) (by show 2 ≤ _; decide)) fun v T5 l5 o => ?_
      exact h1 v T5 ((l3.trans l4).trans l5) o
/-- what the law's question comes to, k91's own -/
def sp__law_told (K : PySem.W.Frag) : Sp := fun vs H Q _ => ∃ (S : Sit) (kind : Int) (r : Str) (w : List Int) (fl : List Mk) (n : Int) (x : Str), S.H = H ∧ Vs K S.G vs [.d (.int kind), .d (eSome r w fl n)] ∧ 0 ≤ kind ∧ kind < 18 ∧ Sz r w fl ∧ BadW kind r w fl n x ∧ x ∈ kinds5 ∧ ∀ v T, Le S T → Da K T.G v (eRef x) → Q v T.H
theorem k__law_told (T : Tx K mg) (D : Def K mg "_law_told" (top 64)) (F__law_one : FnK P w K mg base 6 "_law_one" ["kind", "some"] (sp_one 0 K)) (F__law_refusal : FnK P w K mg base 1 "_law_refusal" ["caught"] (sp__law_refusal K)) : FnK P w K mg base 7 "_law_told" ["kind", "some"] (sp__law_told K) := by
  refine fn_mk D sc__law_told (fun vs H Q E h => ?_) (fun _ _ _ _ _ _ us hl => match us, hl with | [_, _], _ => rfl) (fun f cdv A outer s H vs Q E hr h => ?_)
  · obtain ⟨S, kind, r, w, fl, n, x, rfl, hv, _⟩ := h
    exact hv.len
  obtain ⟨S, kind, r, w, fl, n, x, rfl, hv, hk0, hk1, hz, hb, hx, h1⟩ := h
  refine ⟨_, (pss_cons (ps_set (i := 2) sc__law_told.nd rfl (Or.inl rfl) pe_non)
      (pss_cons (ps_set (i := 3) sc__law_told.nd rfl (Or.inl rfl) pe_non)
      (pss_cons (ps_tryK (i := 4) rfl rfl sc__law_told.nd rfl rfl ⟨rfl, by decide, Or.inl T.MarkError.g⟩ (fun W pn xe tk _ => (pss_one (ps_set (i := 3) sc__law_told.nd rfl (Or.inl rfl) (pe_fnS F__law_one (hr.mono (by decide)) tk (pa_cons (pv 0) (pa_cons (pv 1) pa_nil)))))) (fun a pn => (pss_one (ps_set (i := 2) sc__law_told.nd rfl (Or.inl rfl) (pv 4)))))
      (pss_one (ps_ret (pe_ifExp (pt_cmpR op_isN (pv 2) pe_non (nomark _)) (pe_tup (pa_cons pe_str (pa_cons (pv 3) pa_nil))) (pe_fn F__law_refusal (hr.mono (by decide)) (passes_call (takes_of rfl rfl rfl rfl) (fun _ _ _ _ h => h)) (pa_cons (pv 2) pa_nil)))))))), ?_⟩
  have hE := Sv.start (N := ["kind", "some", "caught", "found", "e"]) (n := 3) hv rfl
  refine st_asg hE ev_cn fun σ1 T1 l1 hE1 => ?_
  dsimp only
  refine st_asg hE1 ev_cn fun σ2 T2 l2 hE2 => ?_
  dsimp only
  refine st_asgS (ss := [.d (.int kind), .d (eSome r w fl n)]) (ea_cons (ev_var hE2 rfl) (ea_cons (ev_var hE2 rfl) ea_nil)) fun vs T3 l3 hv => ?_
  refine ⟨T3, kind, r, w, fl, n, x, rfl, hv, hk0, hk1, hz, hb, fun T4 l4 => ?_⟩
  refine we_keep (S := T4) (hE2.up (l3.trans l4).g) rfl (T.kits.me x hx) fun a σ5 T5 l5 hX hE5 => ?_
  dsimp only
  have lL := ((((l1.trans l2).trans l3).trans l4).trans l5)
  unfold tRet
  refine eb_test (ev_is (ev_isNv (v := .ref a) (ev_varv hE5 rfl)) (d' := .bool false) rfl) T5 (Le.refl T5) _ fun T6 l6 => iteF ?_
  refine (ea_cons (ev_varv (v := .ref a) (hE5.up l6.g) rfl) ea_nil) T6 (Le.refl T6) _ fun vs T7 l7 hv7 => ?_
  rw [List.append_nil]
  exact ⟨T7, a, x, rfl, hv7, (l6.trans l7).2.1 _ _ hX, hx, fun v T8 l8 o => h1 v T8 (((lL.trans l6).trans l7).trans l8) o⟩
end

end MW

set_option Elab.async false
set_option linter.all false
set_option maxRecDepth 100000
set_option maxHeartbeats 4000000
namespace MW
open PySem PySem.Spec PyProof.Rows L2
local macro_rules | `(tactic| walk_at "ev") => `(tactic| first
  | (refine ev_var (by assumption) ?_; rfl)
  | (refine ev_varv (by assumption) ?_; rfl)
  | exact ev_ci
  | exact ev_cs
  | exact ev_cb
  | exact ev_cn
  | exact eb_yes
  | exact ea_nil
  | exact ea_d0
  | exact eo_none
  | (apply ea_cons <;> walk_at "ev")
  | (apply eo_some <;> walk_at "ev")
  | (apply ev_I0 <;> walk_at "ev")
  | (apply ev_B0 <;> walk_at "ev")
  | (apply ev_chain <;> walk_at "ev")
  | (apply ev_neg <;> walk_at "ev")
  | (apply ev_lenL <;> walk_at "ev")
  | (apply ev_lenT <;> walk_at "ev")
  | (apply eb_test <;> walk_at "ev")
  | (apply eb_B <;> walk_at "ev")
  | (apply eb_not <;> walk_at "ev")
  | (apply ev_notV <;> walk_at "ev")
  | (apply ev_tup <;> walk_at "ev")
  | (apply ea_ds <;> walk_at "ev")
  | (apply ev_ixT <;> walk_at "ev")
  | (apply ev_ixL <;> walk_at "ev")
  | (apply ev_eqD <;> walk_at "ev")
  | (apply ev_neD <;> walk_at "ev")
  | (apply ev_inS <;> walk_at "ev")
  | (apply ev_isN <;> walk_at "ev")
  | (apply ev_notN <;> walk_at "ev")
  | (apply ev_andV <;> walk_at "ev")
  | (apply ev_orV <;> walk_at "ev")
  | (apply eb_and <;> walk_at "ev")
  | (apply eb_or <;> walk_at "ev")
  | (apply ev_I <;> walk_at "ev")
  | (apply ev_lenS <;> walk_at "ev")
  | (apply ev_all <;> walk_at "ev")
  | (apply ev_any <;> walk_at "ev")
  | (intro _; walk_at "ev")
  | rfl
  | (with_reducible assumption)
  | decide
  | omega)
theorem sc_law : FnScope ["script", "town", "bad_rule", "bad_walker", "bad_floor", "long", "k", "bad_many", "good", "cases", "some", "word", "kind"] ["script"] (defScope (top 65)) := ⟨rfl, rfl, rfl, by decide +kernel, rfl, by decide +kernel, by decide +kernel⟩
def longF : List Mk := (List.range 201).map fun k => (((0 + (k : Nat) : Int) / 20, (0 + (k : Nat) : Int) % 20, 1) : Mk)
structure Case where
  r : Str
  w : List Int
  fl : List Mk
  n : Int
  x : Str
def eC (c : Case) : PyData := .tuple [eSome c.r c.w c.fl c.n, .str (wordOf c.x)]
def FlB (fl : List Mk) : Prop := (∀ n, Fl0 n fl) ∧ floorOk 2 fl = false ∧ fl.length ≤ 1000
theorem flb_small {fl : List Mk} (h : fl.length < 64) (h2 : (fl.map plOf).all (fun p => decide ((0 ≤ p.1 ∧ p.1 < 64) ∧ 0 ≤ p.2 ∧ p.2 < 64)) = true) (h3 : floorOk 2 fl = false) : FlB fl :=
  ⟨fun n _ _ => ⟨h, fun p hp => of_decide_eq_true (List.all_eq_true.mp h2 p hp)⟩, h3, by omega⟩
theorem flb_bad {m : Mk} (h : ∀ n, markOk n m = false) : FlB [m] := by
  refine ⟨fun n _ h2 => ?_, ?_, by show 1 ≤ _; decide⟩
  · simp [h n] at h2
  · unfold floorOk
    simp [h 2]
theorem flb_long : FlB longF := by
  have e : longF.length = 201 := by unfold longF; rw [List.length_map, List.length_range]
  refine ⟨fun n h => ?_, ?_, ?_⟩
  · omega
  · unfold floorOk
    rw [decide_eq_false (by omega)]
    rfl
  · omega
theorem bad3_rule {r : Str} {w : List Int} {fl : List Mk} (h : ruleOk r = false) : bad3 r w fl = some ("BadRule" : Str) := by unfold bad3; rw [if_pos h]
theorem bad3_walker {r : Str} {w : List Int} {fl : List Mk} (h : ruleOk r = true) (h2 : wOk w = false) : bad3 r w fl = some ("BadWalker" : Str) := by unfold bad3; rw [if_neg (by rw [h]; decide), if_pos h2]
theorem bad3_floor {r : Str} {w : List Int} {fl : List Mk} (h : ruleOk r = true) (h2 : wOk w = true) (h3 : floorOk r.length fl = false) : bad3 r w fl = some ("BadFloor" : Str) := by unfold bad3; rw [if_neg (by rw [h]; decide), if_neg (by rw [h2]; decide), if_pos h3]
theorem bad3_none {r : Str} {w : List Int} {fl : List Mk} (h : ruleOk r = true) (h2 : wOk w = true) (h3 : floorOk r.length fl = true) : bad3 r w fl = none := by unfold bad3; rw [if_neg (by rw [h]; decide), if_neg (by rw [h2]; decide), if_neg (by rw [h3]; decide)]
theorem ev_told {K : PySem.W.Frag} {σ : L2.St} {S : Sit} {E : XK} {tr : TA} {kind : Int} {r : Str} {w : List Int} {fl : List Mk} {n : Int} {x : Str} (ha : EvA K tr σ S [.d (.int kind), .d (eSome r w fl n)]) (h0 : 0 ≤ kind) (h1 : kind < 18) (hz : Sz r w fl) (hb : BadW kind r w fl n x) (hx : x ∈ kinds5) :
    EvD K (tCall (sp__law_told K) [] E tr) σ S (eRef x) := fun T l Q q => ha T l _ fun vs U lU hv => by
  rw [List.append_nil]
  exact ⟨U, kind, r, w, fl, n, x, rfl, hv, h0, h1, hz, hb, hx, fun v W lW o => q v W (lU.trans lW) o⟩
def sp_law (K : PySem.W.Frag) : Sp := fun vs H Q _ => ∃ (S : Sit) (a : Addr) (ns : List Int), S.H = H ∧ Vs K S.G vs [.v (.ref a)] ∧ SqL K S.G a (ns.map V.int) ∧ ∀ H', Q (.bl true) H'
theorem eqv_refl_str (a b : Str) : PyData.eqv (.tuple [.str a, .str b]) (.tuple [.str a, .str b]) = true := by
  simp [PyData.eqv, PyData.eqvAll]
theorem shp_ref {x : Str} (h : x ∈ kinds5) : SeqAt.shaped (eRef x) = true := by
  unfold kinds5 at h
  simp only [List.mem_cons, List.not_mem_nil, or_false] at h
  rcases h with rfl | rfl | rfl | rfl | rfl <;> decide +kernel
section
variable {P : Program} {w : World} {K : PySem.W.Frag} {mg : Str → Option Value} {base : Heap}
theorem k_law (T : Tx K mg) (D : Def K mg "law" (top 65)) (F__law_draw : FnK P w K mg base 3 "_law_draw" ["script", "town", "many"] (sp__law_draw K)) (F__law_pick : FnK P w K mg base 4 "_law_pick" ["script", "town", "some"] (sp__law_pick K)) (F__law_told : FnK P w K mg base 7 "_law_told" ["kind", "some"] (sp__law_told K)) : FnK P w K mg base 8 "law" ["script"] (sp_law K) := by
  refine fn_mk D sc_law (fun vs H Q E h => ?_) (fun _ _ _ _ _ _ us hl => match us, hl with | [_], _ => rfl) (fun f cdv A outer s H vs Q E hr h => ?_)
  · obtain ⟨S, a, ns, rfl, hv, _⟩ := h
    exact hv.len
  obtain ⟨S, a, ns, rfl, hv, hs, hQ⟩ := h
  refine ⟨_, (pss_cons (ps_set (i := 1) sc_law.nd rfl (Or.inl rfl) (pe_lst pa_nil))
      (pss_cons (ps_set (i := 2) sc_law.nd rfl (Or.inl rfl) (pe_fn F__law_pick (hr.mono (by decide)) (passes_call (takes_of rfl rfl rfl rfl) (fun _ _ _ _ h => h)) (pa_cons (pv 0) (pa_cons (pv 1) (pa_cons (pe_lst (pa_cons pe_str (pa_cons pe_str (pa_cons pe_str (pa_cons pe_str (pa_cons pe_str (pa_cons pe_str pa_nil))))))) pa_nil)))))
      (pss_cons (ps_set (i := 3) sc_law.nd rfl (Or.inl rfl) (pe_fn F__law_pick (hr.mono (by decide)) (passes_call (takes_of rfl rfl rfl rfl) (fun _ _ _ _ h => h)) (pa_cons (pv 0) (pa_cons (pv 1) (pa_cons (pe_lst (pa_cons (pe_tup (pa_cons pe_int (pa_cons pe_int (pa_cons pe_int pa_nil)))) (pa_cons (pe_tup (pa_cons pe_int (pa_cons (pe_un un_neg pe_int) (pa_cons pe_int pa_nil)))) (pa_cons (pe_tup (pa_cons pe_int (pa_cons pe_int (pa_cons pe_int pa_nil)))) (pa_cons (pe_tup (pa_cons pe_int (pa_cons pe_int (pa_cons (pe_un un_neg pe_int) pa_nil)))) (pa_cons (pe_tup (pa_cons pe_int (pa_cons pe_int (pa_cons pe_int pa_nil)))) (pa_cons (pe_tup (pa_cons (pe_un un_neg pe_int) (pa_cons pe_int (pa_cons pe_int pa_nil)))) pa_nil))))))) pa_nil)))))
      (pss_cons (ps_set (i := 4) sc_law.nd rfl (Or.inl rfl) (pe_fn F__law_pick (hr.mono (by decide)) (passes_call (takes_of rfl rfl rfl rfl) (fun _ _ _ _ h => h)) (pa_cons (pv 0) (pa_cons (pv 1) (pa_cons (pe_lst (pa_cons (pe_lst (pa_cons (pe_tup (pa_cons pe_int (pa_cons pe_int (pa_cons pe_int pa_nil)))) pa_nil)) (pa_cons (pe_lst (pa_cons (pe_tup (pa_cons pe_int (pa_cons pe_int (pa_cons pe_int pa_nil)))) pa_nil)) (pa_cons (pe_lst (pa_cons (pe_tup (pa_cons pe_int (pa_cons pe_int (pa_cons pe_int pa_nil)))) (pa_cons (pe_tup (pa_cons pe_int (pa_cons pe_int (pa_cons pe_int pa_nil)))) pa_nil))) (pa_cons (pe_lst (pa_cons (pe_tup (pa_cons pe_int (pa_cons pe_int (pa_cons pe_int pa_nil)))) (pa_cons (pe_tup (pa_cons pe_int (pa_cons pe_int (pa_cons pe_int pa_nil)))) pa_nil))) pa_nil))))) pa_nil)))))
      (pss_cons (ps_setLc (i := 5) (own := [("k", 6)]) rfl sc_law.nd rfl rfl (sw_true rfl rfl rfl (by decide +kernel)) (pi_range1 rfl T.range (pa_cons pe_int pa_nil)) (blkOk_by (N := ["script", "town", "bad_rule", "bad_walker", "bad_floor", "long", "k", "bad_many", "good", "cases", "some", "word", "kind"]) (sc := defScope (top 65)) (by decide +kernel)) (fun _ _ _ _ _ => (pg_name (i := 6) sc_law.nd rfl (Or.inl rfl))) (fun _ _ _ _ _ => pts_nil) (fun _ _ _ _ _ => (pe_tup (pa_cons (pe_op op_fdiv (pv 6) pe_int) (pa_cons (pe_op op_mod (pv 6) pe_int) (pa_cons pe_int pa_nil))))))
      (pss_cons (ps_set (i := 4) sc_law.nd rfl (Or.inl rfl) (pe_fn F__law_pick (hr.mono (by decide)) (passes_call (takes_of rfl rfl rfl rfl) (fun _ _ _ _ h => h)) (pa_cons (pv 0) (pa_cons (pv 1) (pa_cons (pe_lst (pa_cons (pv 4) (pa_cons (pe_lst (pa_cons (pe_tup (pa_cons pe_int (pa_cons pe_int (pa_cons pe_int pa_nil)))) pa_nil)) (pa_cons (pe_lst (pa_cons (pe_tup (pa_cons pe_int (pa_cons (pe_un un_neg pe_int) (pa_cons pe_int pa_nil)))) pa_nil)) (pa_cons (pv 5) pa_nil))))) pa_nil)))))
      (pss_cons (ps_set (i := 7) sc_law.nd rfl (Or.inl rfl) (pe_fn F__law_pick (hr.mono (by decide)) (passes_call (takes_of rfl rfl rfl rfl) (fun _ _ _ _ h => h)) (pa_cons (pv 0) (pa_cons (pv 1) (pa_cons (pe_lst (pa_cons (pe_un un_neg pe_int) (pa_cons pe_int pa_nil))) pa_nil)))))
      (pss_cons (ps_set (i := 8) sc_law.nd rfl (Or.inl rfl) (pe_fn F__law_pick (hr.mono (by decide)) (passes_call (takes_of rfl rfl rfl rfl) (fun _ _ _ _ h => h)) (pa_cons (pv 0) (pa_cons (pv 1) (pa_cons (pe_lst (pa_cons pe_str (pa_cons pe_str (pa_cons pe_str (pa_cons pe_str pa_nil))))) pa_nil)))))
      (pss_cons (ps_set (i := 9) sc_law.nd rfl (Or.inl rfl) (pe_lst (pa_cons (pe_tup (pa_cons (pe_lst (pa_cons (pv 2) (pa_cons (pv 3) (pa_cons (pv 4) (pa_cons (pv 7) pa_nil))))) (pa_cons pe_str pa_nil))) (pa_cons (pe_tup (pa_cons (pe_lst (pa_cons (pv 8) (pa_cons (pv 3) (pa_cons (pv 4) (pa_cons (pv 7) pa_nil))))) (pa_cons pe_str pa_nil))) pa_nil))))
      (pss_cons (ps_expr (kpe_bm (K := K) rfl PySem.F.plainAttrs_list PySem.F.slot_list_append PySem.F.type_list_append mt_append (pv 9) (pa_cons (pe_tup (pa_cons (pe_lst (pa_cons (pv 8) (pa_cons (pe_tup (pa_cons pe_int (pa_cons pe_int (pa_cons (pe_fn F__law_draw (hr.mono (by decide)) (passes_call (takes_of rfl rfl rfl rfl) (fun _ _ _ _ h => h)) (pa_cons (pv 0) (pa_cons (pv 1) (pa_cons pe_int pa_nil)))) pa_nil)))) (pa_cons (pv 4) (pa_cons (pv 7) pa_nil))))) (pa_cons pe_str pa_nil))) pa_nil)))
      (pss_cons (ps_for (passes_of rfl) rfl (kpi_list (K := K) (pv 9)) (kpg_tup (K := K) rfl (pgs_cons (pg_name (i := 10) sc_law.nd rfl (Or.inr rfl)) (pgs_cons (pg_name (i := 11) sc_law.nd rfl (Or.inl rfl)) pgs_nil))) (pss_one (ps_for (passes_of rfl) rfl (pi_range1 rfl T.range (pa_cons pe_int pa_nil)) (pg_name (i := 12) sc_law.nd rfl (Or.inl rfl)) (pss_one (ps_if (pt_cmpR (kr_neD (K := K) hr.units) (pe_fn F__law_told (hr.mono (by decide)) (passes_call (takes_of rfl rfl rfl rfl) (fun _ _ _ _ h => h)) (pa_cons (pv 12) (pa_cons (pv 10) pa_nil))) (pe_tup (pa_cons pe_str (pa_cons (pv 11) pa_nil))) (nomark _)) (pss_one (ps_ret pe_bl)) pss_nil)))))
      (pss_cons (ps_set (i := 10) sc_law.nd rfl (Or.inr rfl) (pe_lst (pa_cons (pv 8) (pa_cons (pe_tup (pa_cons pe_int (pa_cons pe_int (pa_cons pe_int pa_nil)))) (pa_cons (pe_lst (pa_cons (pe_tup (pa_cons pe_int (pa_cons pe_int (pa_cons pe_int pa_nil)))) pa_nil)) (pa_cons (pv 7) pa_nil))))))
      (pss_one (ps_ret (pe_cmpR (kr_eqD (K := K) hr.units) (pe_lc (own := [("kind", 12)]) rfl sc_law.nd (pi_range1 rfl T.range (pa_cons pe_int pa_nil)) (blkOk_by (N := ["script", "town", "bad_rule", "bad_walker", "bad_floor", "long", "k", "bad_many", "good", "cases", "some", "word", "kind"]) (sc := defScope (top 65)) (by decide +kernel)) (fun _ _ _ _ _ => (pg_name (i := 12) sc_law.nd rfl (Or.inl rfl))) (fun _ _ _ _ _ => pts_nil) (fun _ _ _ _ _ => (pe_fn F__law_told (hr.mono (by decide)) passL (pa_cons (pv 12) (pa_cons (pv 10) pa_nil))))) (pe_op op_rep (pe_lst (pa_cons (pe_tup (pa_cons pe_str (pa_cons pe_str pa_nil))) pa_nil)) pe_int) (nomark _)))))))))))))))), ?_⟩
  have hE := Sv.start (N := ["script", "town", "bad_rule", "bad_walker", "bad_floor", "long", "k", "bad_many", "good", "cases", "some", "word", "kind"]) (n := 12) hv rfl
  -- town
  refine st_town0 (b := 20) hE (by decide) fun t σ1 T1 l1 t1 hE1 => ?_
  have hs1 := l1.g.seq hs
  clear hE
  dsimp only
  -- bad_rule
  refine st_asgN (K := K) hE1 t1 (en_imp (en_pick (b := 19) (ds := [.str "", .str "L", .str "LRNULR", .str "LX", .str "lr", .str "L R"]) (fun T g => by have hE' := hE1.up g; clear hE1; exact ea_cons (ev_varv hE' rfl) (ea_cons (ev_varv hE' rfl) (ea_cons (ev_lst (ea_ds ev_cs (ea_ds ev_cs (ea_ds ev_cs (ea_ds ev_cs (ea_ds ev_cs (ea_ds ev_cs ea_d0)))))) (by decide)) ea_nil))) hs1 (by decide))
    (Ψ := fun d => ∃ r : Str, d = .str r ∧ ruleOk r = false ∧ r.length ≤ 1000) fun d hd => ?_) fun d2 σ2 T2 hd2 l2 t2 hE2 => ?_
  · simp only [List.mem_cons, List.not_mem_nil, or_false] at hd
    rcases hd with rfl | rfl | rfl | rfl | rfl | rfl <;> exact ⟨_, rfl, by decide, by decide⟩
  obtain ⟨r, rfl, hr1, hr2⟩ := hd2
  have hs2 := l2.g.seq hs1
  clear hE1
  dsimp only
  -- bad_walker
  refine st_asgN (K := K) hE2 t2 (en_imp (en_pick (b := 18) (ds := [eW [101, 0, 0], eW [0, -101, 0], eW [0, 0, 4], eW [0, 0, -1], eW [0, 101, 3], eW [-101, 0, 2]]) (fun T g => by have hE' := hE2.up g; clear hE2; exact ea_cons (ev_varv hE' rfl) (ea_cons (ev_varv hE' rfl) (ea_cons (ev_lst (ea_ds (by walk_at "ev") (ea_ds (by walk_at "ev") (ea_ds (by walk_at "ev") (ea_ds (by walk_at "ev") (ea_ds (by walk_at "ev") (ea_ds (by walk_at "ev") ea_d0)))))) (by decide)) ea_nil))) hs2 (by decide))
    (Ψ := fun d => ∃ w : List Int, d = eW w ∧ wOk w = false ∧ w.length ≤ 1000) fun d hd => ?_) fun d3 σ3 T3 hd3 l3 t3 hE3 => ?_
  · simp only [List.mem_cons, List.not_mem_nil, or_false] at hd
    rcases hd with rfl | rfl | rfl | rfl | rfl | rfl <;> exact ⟨_, rfl, by decide, by decide⟩
  obtain ⟨wk, rfl, hw1, hw2⟩ := hd3
  have hs3 := l3.g.seq hs2
  clear hE2
  dsimp only
  -- bad_floor
  refine st_asgN (K := K) hE3 t3 (en_imp (en_pick (b := 17) (ds := [eF [(0, 0, 0)], eF [(0, 0, 2)], eF [(1, 0, 1), (0, 0, 1)], eF [(0, 0, 1), (0, 0, 1)]]) (fun T g => by have hE' := hE3.up g; clear hE3; exact ea_cons (ev_varv hE' rfl) (ea_cons (ev_varv hE' rfl) (ea_cons (ev_lst (ea_ds (ev_lst (ea_ds (by walk_at "ev") ea_d0) (by decide)) (ea_ds (ev_lst (ea_ds (by walk_at "ev") ea_d0) (by decide)) (ea_ds (ev_lst (ea_ds (by walk_at "ev") (ea_ds (by walk_at "ev") ea_d0)) (by decide)) (ea_ds (ev_lst (ea_ds (by walk_at "ev") (ea_ds (by walk_at "ev") ea_d0)) (by decide)) ea_d0)))) (by decide)) ea_nil))) hs3 (by decide))
    (Ψ := fun d => ∃ fl : List Mk, d = eF fl ∧ FlB fl) fun d hd => ?_) fun d4 σ4 T4 hd4 l4 t4 hE4 => ?_
  · simp only [List.mem_cons, List.not_mem_nil, or_false] at hd
    rcases hd with rfl | rfl | rfl | rfl <;> exact ⟨_, rfl, flb_small (by decide) (by decide) (by decide)⟩
  obtain ⟨f0, rfl, hf0⟩ := hd4
  have hs4 := l4.g.seq hs3
  clear hE3
  dsimp only
  -- long
  refine st_asg (s := .d (eF longF)) hE4 ?_ fun σ5 T5 l5 hE5 => ?_
  · have e : eF longF = .list ((List.range 201).map fun k => eM (((0 + (k : Nat) : Int) / 20, (0 + (k : Nat) : Int) % 20, 1) : Mk)) := by
      unfold eF longF
      rw [List.map_map]
      rfl
    rw [e]
    exact ev_lcm (xs := List.range 201) (enc := fun k => PyData.int (0 + (k : Nat))) hE4 (ei_rng1 (j := 201) (ea_cons ev_ci ea_nil) (by decide) (by decide)) (fun k => [(6, .int (0 + (k : Nat)))]) _ (fun k _ => tg_name) (fun k _ q hq => by simp at hq; subst hq; simp) (fun k _ σ' T l hE' => ev_tup (ea_ds (ev_I (ev_var hE' rfl) ev_ci ⟨by decide, by decide⟩) (ea_ds (ev_I (ev_var hE' rfl) ev_ci (by show (0 : Int) < 20; decide)) (ea_ds ev_ci ea_d0))) (by show 3 ≤ _; decide)) (by rw [List.length_range]; decide)
  have t5 := t4.up l5
  have hs5 := l5.g.seq hs4
  clear hE4
  dsimp only
  -- bad_floor again
  refine st_asgN (K := K) hE5 t5 (en_imp (en_pick (b := 16) (ds := [eF f0, eF [(101, 0, 1)], eF [(0, -101, 1)], eF longF]) (fun T g => by have hE' := hE5.up g; clear hE5; exact ea_cons (ev_varv hE' rfl) (ea_cons (ev_varv hE' rfl) (ea_cons (ev_lst (ea_ds (ev_var hE' rfl) (ea_ds (ev_lst (ea_ds (by walk_at "ev") ea_d0) (by decide)) (ea_ds (ev_lst (ea_ds (by walk_at "ev") ea_d0) (by decide)) (ea_ds (ev_var hE' rfl) ea_d0)))) (by show 4 ≤ _; decide)) ea_nil))) hs5 (by show 0 < 4; decide))
    (Ψ := fun d => ∃ fl : List Mk, d = eF fl ∧ FlB fl) fun d hd => ?_) fun d6 σ6 T6 hd6 l6 t6 hE6 => ?_
  · simp only [List.mem_cons, List.not_mem_nil, or_false] at hd
    rcases hd with rfl | rfl | rfl | rfl
    · exact ⟨_, rfl, hf0⟩
    · exact ⟨_, rfl, flb_bad fun n => by unfold markOk; simp⟩
    · exact ⟨_, rfl, flb_bad fun n => by unfold markOk; simp⟩
    · exact ⟨_, rfl, flb_long⟩
  obtain ⟨fl, rfl, hfl⟩ := hd6
  have hs6 := l6.g.seq hs5
  clear hE5
  dsimp only
  -- bad_many
  refine st_asgN (K := K) hE6 t6 (en_imp (en_pick (b := 15) (ds := [.int (-1), .int 20001]) (fun T g => by have hE' := hE6.up g; clear hE6; exact ea_cons (ev_varv hE' rfl) (ea_cons (ev_varv hE' rfl) (ea_cons (ev_lst (ea_ds (by walk_at "ev") (ea_ds ev_ci ea_d0)) (by decide)) ea_nil))) hs6 (by decide))
    (Ψ := fun d => ∃ n : Int, d = .int n ∧ mOk n 20000 = false ∧ mOk n 2000 = false) fun d hd => ?_) fun d7 σ7 T7 hd7 l7 t7 hE7 => ?_
  · simp only [List.mem_cons, List.not_mem_nil, or_false] at hd
    rcases hd with rfl | rfl <;> exact ⟨_, rfl, by decide, by decide⟩
  obtain ⟨n, rfl, hn1, hn2⟩ := hd7
  have hs7 := l7.g.seq hs6
  clear hE6
  dsimp only
  -- good
  refine st_asgN (K := K) hE7 t7 (en_imp (en_pick (b := 14) (ds := [.str "LR", .str "RL", .str "LL", .str "NU"]) (fun T g => by have hE' := hE7.up g; clear hE7; exact ea_cons (ev_varv hE' rfl) (ea_cons (ev_varv hE' rfl) (ea_cons (ev_lst (ea_ds ev_cs (ea_ds ev_cs (ea_ds ev_cs (ea_ds ev_cs ea_d0)))) (by decide)) ea_nil))) hs7 (by decide))
    (Ψ := fun d => ∃ g : Str, d = .str g ∧ ruleOk g = true ∧ g.length = 2) fun d hd => ?_) fun d8 σ8 T8 hd8 l8 t8 hE8 => ?_
  · simp only [List.mem_cons, List.not_mem_nil, or_false] at hd
    rcases hd with rfl | rfl | rfl | rfl <;> exact ⟨_, rfl, by decide, by decide⟩
  obtain ⟨g, rfl, hg1, hg2⟩ := hd8
  have hs8 := l8.g.seq hs7
  clear hE7
  dsimp only
  -- cases
  refine st_own (ds := [eC ⟨r, wk, fl, n, "BadRule"⟩, eC ⟨g, wk, fl, n, "BadWalker"⟩]) hE8 (ea_ds (ev_tup (ds := [eSome r wk fl n, .str "rule"]) (ea_ds (ev_lst (ea_ds (ev_var hE8 rfl) (ea_ds (ev_var hE8 rfl) (ea_ds (ev_var hE8 rfl) (ea_ds (ev_var hE8 rfl) ea_d0)))) (by show 4 ≤ _; decide)) (ea_ds ev_cs ea_d0)) (by show 2 ≤ _; decide)) (ea_ds (ev_tup (ds := [eSome g wk fl n, .str "walker"]) (ea_ds (ev_lst (ea_ds (ev_var hE8 rfl) (ea_ds (ev_var hE8 rfl) (ea_ds (ev_var hE8 rfl) (ea_ds (ev_var hE8 rfl) ea_d0)))) (by show 4 ≤ _; decide)) (ea_ds ev_cs ea_d0)) (by show 2 ≤ _; decide)) ea_d0)) (by show 2 ≤ _; decide) fun p σ9 T9 l9 np w9 hE9 => ?_
  have t9 := t8.up l9
  have hs9 := l9.g.seq hs8
  have hpt : p ≠ t := fun e => by
    obtain ⟨o, ho⟩ := t8.has
    exact np t o ho e.symm
  clear hE8
  dsimp only
  -- cases.append
  refine st_appN (K := K) (ev_varv hE9 rfl) w9 hpt (by show 2 < _; decide) t9 (b1 := 19 - 1 - 5) (Φ := fun d => ∃ h : Int, d = eC ⟨g, [0, 0, h], fl, n, "BadFloor"⟩ ∧ 0 ≤ h ∧ h < 4) ?_ fun d T10 hd l10 t10 w10 => ?_
  · have hd := en_draw (K := K) (t := t) (E := E) (S := T9) (b := 13) (σ := σ9) (many := 4) (tr := tCons (tVar 0) (tCons (tVar 1) (tCons (tC (.int 4)) tNil))) (fun T g => ea_cons (ev_varv (hE9.up g) rfl) (ea_cons (ev_varv (hE9.up g) rfl) (ea_cons ev_ci ea_nil))) hs9 (by decide)
    have hw := en_tup (en_cons (en_pure fun T _ => ev_ci (i := 0)) (en_cons (en_pure fun T _ => ev_ci (i := 0)) (en_cons hd en_nil))) (fun ds h => by obtain ⟨_, _, rfl, _, _, _, rfl, _, _, _, rfl, _, rfl⟩ := h; show 3 ≤ _; decide)
    have hl := en_lst (en_cons (b := 14) (en_pure (d := .str g) fun T g => ev_var (i := 8) (hE9.up g) rfl) (en_cons hw (en_cons (en_pure (d := eF fl) fun T g => ev_var (i := 4) (hE9.up g) rfl) (en_cons (en_pure (d := .int n) fun T g => ev_var (i := 7) (hE9.up g) rfl) en_nil)))) (fun ds h => by obtain ⟨_, _, rfl, _, _, _, rfl, _, _, _, rfl, _, _, _, rfl, _, rfl⟩ := h; show 4 ≤ _; decide)
    have ht := en_tup (en_cons hl (en_cons (en_pure (d := .str "floor") fun T _ => ev_cs) en_nil)) (fun ds h => by obtain ⟨_, _, rfl, _, _, _, rfl, _, rfl⟩ := h; show 2 ≤ _; decide)
    refine en_imp ht fun d h => ?_
    obtain ⟨_, rfl, _, _, rfl, ⟨_, rfl, _, _, rfl, rfl, _, _, rfl, ⟨_, rfl, _, _, rfl, rfl, _, _, rfl, rfl, _, _, rfl, ⟨i, rfl, i0, i1⟩, rfl⟩, _, _, rfl, rfl, _, _, rfl, rfl, rfl⟩, _, _, rfl, rfl, rfl⟩ := h
    exact ⟨i, rfl, i0, i1⟩
  obtain ⟨h, rfl, h0, h4⟩ := hd
  have hE10 := hE9.up l10.g
  clear hE9
  obtain ⟨U, eU, gU, oU, _⟩ := w10.give
  have hE11 := Sv.give oU (i := 9) (hE10.up gU) rfl
  rw [← eU]
  dsimp only
  have wG : wOk [0, 0, h] = true := by unfold wOk; simp; omega
  have good : ∀ c ∈ [Case.mk r wk fl n "BadRule", Case.mk g wk fl n "BadWalker", Case.mk g [0, 0, h] fl n "BadFloor"], Sz c.r c.w c.fl ∧ bad3 c.r c.w c.fl = some c.x ∧ c.x ∈ kinds5 := by
    intro c hc
    simp only [List.mem_cons, List.not_mem_nil, or_false] at hc
    rcases hc with rfl | rfl | rfl
    · exact ⟨⟨hr2, hw2, hfl.2.2, hfl.1 _⟩, bad3_rule hr1, by show ("BadRule" : Str) ∈ kinds5; decide⟩
    · exact ⟨⟨by rw [hg2]; decide, hw2, hfl.2.2, hfl.1 _⟩, bad3_walker hg1 hw1, by show ("BadWalker" : Str) ∈ kinds5; decide⟩
    · exact ⟨⟨by rw [hg2]; decide, by show 3 ≤ _; decide, hfl.2.2, hfl.1 _⟩, bad3_floor hg1 wG (by rw [hg2]; exact hfl.2.1), by show ("BadFloor" : Str) ∈ kinds5; decide⟩
  apply st_forT (xs := [Case.mk r wk fl n "BadRule", Case.mk g wk fl n "BadWalker", Case.mk g [0, 0, h] fl n "BadFloor"]) (enc := eC) (ei_list (ev_var hE11 rfl)) (fun _ _ σ' T => ∃ x3 x4 x5 x6 x7 x8 x9 x10, Sv K T.G σ' [x3, x4, x5, x6, x7, x8, x9, .d (.int n), .d (.str g), x10, .non, .non, .non])
  case h0 => exact fun U l => ⟨_, _, _, _, _, _, _, _, hE11.up l.g⟩
  case hs =>
    intro U1 k c σ' T v lU hk hG hI hv
    obtain ⟨x3, x4, x5, x6, x7, x8, x9, x10, hI⟩ := hI
    refine tg_tup2 v σ' T _ hv fun σ2 hE2 _ => ?_
    have hE2 := hE2 _ hI
    obtain ⟨c1, c2, c3⟩ := good c (List.mem_of_getElem? hk)
    have rg : EvI K (iRng1 (tCons (tC (.int 18)) tNil)) σ2 T (rngD 0 (18 : Int).toNat) := ei_rng1 (ea_cons ev_ci ea_nil) (by decide) (by decide)
    apply st_for rg (fun _ _ σ' T => ∃ x12, Sv K T.G σ' [x3, x4, x5, x6, x7, x8, x9, .d (.int n), .d (.str g), x10, .d (eSome c.r c.w c.fl c.n), .d (.str (wordOf c.x)), x12])
    case h0 => exact fun U l => ⟨_, hE2.up l.g⟩
    case hs =>
      intro U2 m d σ3 T3 v3 lU3 hm hG3 hI3 hv3
      obtain ⟨x12, hI3⟩ := hI3
      obtain ⟨hm1, rfl⟩ := rngD_get hm
      have hm2 : m < 18 := hm1
      refine tg_name v3 σ3 T3 _ hv3 fun σ4 hE4 _ => ?_
      have hE4 := hE4 _ hI3
      apply st_if (K := K) (b := false)
      case hb =>
        refine eb_test (ev_is (ev_neD (ev_told (kind := 0 + (m : Nat)) (r := c.r) (w := c.w) (fl := c.fl) (n := c.n) (x := c.x) (ea_cons (ev_var hE4 rfl) (ea_cons (ev_var hE4 rfl) ea_nil)) (by omega) (by omega) c1 (.inl c2) c3) (ev_tup (ds := [.str "refused", .str (wordOf c.x)]) (ea_ds ev_cs (ea_ds (ev_var hE4 rfl) ea_d0)) (by show 2 ≤ _; decide)) (shp_ref c3) (shp_ref c3)) ?_)
        unfold eRef
        rw [eqv_refl_str]
        rfl
      case h1 => exact fun e => nomatch e
      case h2 => exact fun _ T4 l4 => ⟨T4, rfl, l4.g, _, hE4.up l4.g⟩
    case hd =>
      intro U2 σ3 T3 lU3 hG3 hI3
      obtain ⟨x12, hI3⟩ := hI3
      exact ⟨T3, rfl, lU3.g.trans hG3, _, _, _, _, _, _, _, _, ((hI3.forget 10).forget 11).forget 12⟩
  case hd =>
    intro U1 σ' T lU hG hI
    obtain ⟨x3, x4, x5, x6, x7, x8, x9, x10, hI⟩ := hI
    dsimp only
    refine st_asg (s := .d (eSome g [0, 0, 0] [(0, 0, 1)] n)) hI (ev_lst (ea_ds (ev_var hI rfl) (ea_ds (ev_tup (ds := [.int 0, .int 0, .int 0]) (by walk_at "ev") (by decide)) (ea_ds (ev_lst (ds := [eM (0, 0, 1)]) (ea_ds (by walk_at "ev") ea_d0) (by decide)) (ea_ds (ev_var hI rfl) ea_d0)))) (by show 4 ≤ _; decide)) fun σ2 T2 l2 hE2 => ?_
    dsimp only
    refine st_ret (K := K) (s := .d (.bool true)) ?_ fun v T3 l3 o => ?_
    · have sz1 : Sz g [0, 0, 0] [(0, 0, 1)] := ⟨by rw [hg2]; decide, by decide, by decide, fun _ _ => ⟨by decide, by decide⟩⟩
      have b1 : bad3 g [0, 0, 0] [(0, 0, 1)] = none := bad3_none hg1 (by decide) (by rw [hg2]; decide)
      have rg : EvI K (iRng1 (tCons (tC (.int 8)) tNil)) σ2 T2 ((List.range 8).map fun k => PyData.int (0 + (k : Nat))) := ei_rng1 (j := 8) (ea_cons ev_ci ea_nil) (by decide) (by decide)
      refine ev_is (ev_eqD (d := .list ((List.range 8).map fun _ => eRef "BadNumber")) (ev_lcm hE2 rg (fun k => [(12, .int (0 + (k : Nat)))]) (fun _ => eRef "BadNumber") (fun k _ => tg_name) (fun k _ q hq => by simp at hq; subst hq; simp) (fun k hk σ' T l hE' => ev_told (kind := 0 + (k : Nat)) (r := g) (w := [0, 0, 0]) (fl := [(0, 0, 1)]) (n := n) (ea_cons (ev_var hE' rfl) (ea_cons (ev_var hE' rfl) ea_nil)) (by omega) (by have := List.mem_range.mp hk; omega) sz1 (.inr ⟨by have := List.mem_range.mp hk; omega, b1, hn1, hn2, rfl⟩) (by decide)) (by decide)) (ev_rep (ds := [eRef "BadNumber"]) (n := 8) (ev_lst (ea_ds (ev_tup (ds := [.str "refused", .str "number"]) (ea_ds ev_cs (ea_ds ev_cs ea_d0)) (by decide)) ea_d0) (by decide)) ev_ci (by decide) (by decide) (by decide)) (by decide +kernel) (by decide +kernel)) ?_
      exact congrArg PyData.bool (by decide +kernel)
    · have ev := Da.bl_eq o
      subst ev
      exact hQ _
end

end MW

set_option Elab.async false
set_option linter.all false
set_option maxRecDepth 100000
set_option maxHeartbeats 0
namespace MW
open PySem PySem.Spec PyProof.Rows L2
def d_look_rule : He.DefD := ⟨("look_rule", none), "look_rule", "look_rule", defArgs (top 13), defBody (top 13), defScope (top 13), [], []⟩
def d_look_walker : He.DefD := ⟨("look_walker", none), "look_walker", "look_walker", defArgs (top 14), defBody (top 14), defScope (top 14), [], []⟩
def d_look_floor : He.DefD := ⟨("look_floor", none), "look_floor", "look_floor", defArgs (top 15), defBody (top 15), defScope (top 15), [], []⟩
def d_look_all : He.DefD := ⟨("look_all", none), "look_all", "look_all", defArgs (top 16), defBody (top 16), defScope (top 16), [], []⟩
def d_marks : He.DefD := ⟨("marks", none), "marks", "marks", defArgs (top 17), defBody (top 17), defScope (top 17), [], []⟩
def d_told : He.DefD := ⟨("told", none), "told", "told", defArgs (top 18), defBody (top 18), defScope (top 18), [], []⟩
def d_go : He.DefD := ⟨("go", none), "go", "go", defArgs (top 22), defBody (top 22), defScope (top 22), [], []⟩
def d_go_back : He.DefD := ⟨("go_back", none), "go_back", "go_back", defArgs (top 23), defBody (top 23), defScope (top 23), [], []⟩
def d_look_many : He.DefD := ⟨("look_many", none), "look_many", "look_many", defArgs (top 24), defBody (top 24), defScope (top 24), [], []⟩
def d_run : He.DefD := ⟨("run", none), "run", "run", defArgs (top 25), defBody (top 25), defScope (top 25), [], []⟩
def d_back : He.DefD := ⟨("back", none), "back", "back", defArgs (top 26), defBody (top 26), defScope (top 26), [], []⟩
def d_path : He.DefD := ⟨("path", none), "path", "path", defArgs (top 27), defBody (top 27), defScope (top 27), [], []⟩
def d_read_colours : He.DefD := ⟨("read_colours", none), "read_colours", "read_colours", defArgs (top 28), defBody (top 28), defScope (top 28), [], []⟩
def d_times_seen : He.DefD := ⟨("times_seen", none), "times_seen", "times_seen", defArgs (top 29), defBody (top 29), defScope (top 29), [], []⟩
def d_box : He.DefD := ⟨("box", none), "box", "box", defArgs (top 30), defBody (top 30), defScope (top 30), [], []⟩
def d_counts : He.DefD := ⟨("counts", none), "counts", "counts", defArgs (top 31), defBody (top 31), defScope (top 31), [], []⟩
def d_quarter : He.DefD := ⟨("quarter", none), "quarter", "quarter", defArgs (top 33), defBody (top 33), defScope (top 33), [], []⟩
def d_turn_all : He.DefD := ⟨("turn_all", none), "turn_all", "turn_all", defArgs (top 34), defBody (top 34), defScope (top 34), [], []⟩
def d_turned : He.DefD := ⟨("turned", none), "turned", "turned", defArgs (top 35), defBody (top 35), defScope (top 35), [], []⟩
def d_mirror_all : He.DefD := ⟨("mirror_all", none), "mirror_all", "mirror_all", defArgs (top 36), defBody (top 36), defScope (top 36), [], []⟩
def d_mirrored : He.DefD := ⟨("mirrored", none), "mirrored", "mirrored", defArgs (top 37), defBody (top 37), defScope (top 37), [], []⟩
def d_plain : He.DefD := ⟨("plain", none), "plain", "plain", defArgs (top 38), defBody (top 38), defScope (top 38), [], []⟩
def d_plain_of : He.DefD := ⟨("plain_of", none), "plain_of", "plain_of", defArgs (top 39), defBody (top 39), defScope (top 39), [], []⟩
def d_are_alike : He.DefD := ⟨("are_alike", none), "are_alike", "are_alike", defArgs (top 40), defBody (top 40), defScope (top 40), [], []⟩
def d_is_even : He.DefD := ⟨("is_even", none), "is_even", "is_even", defArgs (top 41), defBody (top 41), defScope (top 41), [], []⟩
def d_period : He.DefD := ⟨("period", none), "period", "period", defArgs (top 45), defBody (top 45), defScope (top 45), [], []⟩
def d_one_round : He.DefD := ⟨("one_round", none), "one_round", "one_round", defArgs (top 46), defBody (top 46), defScope (top 46), [], []⟩
def d_is_on : He.DefD := ⟨("is_on", none), "is_on", "is_on", defArgs (top 47), defBody (top 47), defScope (top 47), [], []⟩
def d_along : He.DefD := ⟨("along", none), "along", "along", defArgs (top 48), defBody (top 48), defScope (top 48), [], []⟩
def d_overlaps : He.DefD := ⟨("overlaps", none), "overlaps", "overlaps", defArgs (top 49), defBody (top 49), defScope (top 49), [], []⟩
def d_goes_on : He.DefD := ⟨("goes_on", none), "goes_on", "goes_on", defArgs (top 50), defBody (top 50), defScope (top 50), [], []⟩
def d_shown : He.DefD := ⟨("shown", none), "shown", "shown", defArgs (top 51), defBody (top 51), defScope (top 51), [], []⟩
def d_way_on : He.DefD := ⟨("way_on", none), "way_on", "way_on", defArgs (top 52), defBody (top 52), defScope (top 52), [], []⟩
def d_written : He.DefD := ⟨("written", none), "written", "written", defArgs (top 55), defBody (top 55), defScope (top 55), [], []⟩
def d__law_cell : He.DefD := ⟨("_law_cell", none), "_law_cell", "_law_cell", defArgs (top 57), defBody (top 57), defScope (top 57), [], []⟩
def d__law_mix : He.DefD := ⟨("_law_mix", none), "_law_mix", "_law_mix", defArgs (top 58), defBody (top 58), defScope (top 58), [], []⟩
def d__law_draw : He.DefD := ⟨("_law_draw", none), "_law_draw", "_law_draw", defArgs (top 59), defBody (top 59), defScope (top 59), [], []⟩
def d__law_pick : He.DefD := ⟨("_law_pick", none), "_law_pick", "_law_pick", defArgs (top 60), defBody (top 60), defScope (top 60), [], []⟩
def d__law_refusal : He.DefD := ⟨("_law_refusal", none), "_law_refusal", "_law_refusal", defArgs (top 61), defBody (top 61), defScope (top 61), [], []⟩
def d__law_one_b : He.DefD := ⟨("_law_one_b", none), "_law_one_b", "_law_one_b", defArgs (top 62), defBody (top 62), defScope (top 62), [], []⟩
def d__law_one : He.DefD := ⟨("_law_one", none), "_law_one", "_law_one", defArgs (top 63), defBody (top 63), defScope (top 63), [], []⟩
def d__law_told : He.DefD := ⟨("_law_told", none), "_law_told", "_law_told", defArgs (top 64), defBody (top 64), defScope (top 64), [], []⟩
def d_law : He.DefD := ⟨("law", none), "law", "law", defArgs (top 65), defBody (top 65), defScope (top 65), [], []⟩
def fn : List He.DefD := [d_look_rule, d_look_walker, d_look_floor, d_look_all, d_marks, d_told, d_go, d_go_back, d_look_many, d_run, d_back, d_path, d_read_colours, d_times_seen, d_box, d_counts, d_quarter, d_turn_all, d_turned, d_mirror_all, d_mirrored, d_plain, d_plain_of, d_are_alike, d_is_even, d_period, d_one_round, d_is_on, d_along, d_overlaps, d_goes_on, d_shown, d_way_on, d_written, d__law_cell, d__law_mix, d__law_draw, d__law_pick, d__law_refusal, d__law_one_b, d__law_one, d__law_told, d_law]
def fa : List He.Fa := [.glo "look_rule", .glo "look_walker", .glo "look_floor", .glo "look_all", .glo "marks", .glo "told", .glo "go", .glo "go_back", .glo "look_many", .glo "run", .glo "back", .glo "path", .glo "read_colours", .glo "times_seen", .glo "box", .glo "counts", .glo "quarter", .glo "turn_all", .glo "turned", .glo "mirror_all", .glo "mirrored", .glo "plain", .glo "plain_of", .glo "are_alike", .glo "is_even", .glo "period", .glo "one_round", .glo "is_on", .glo "along", .glo "overlaps", .glo "goes_on", .glo "shown", .glo "way_on", .glo "written", .glo "_law_cell", .glo "_law_mix", .glo "_law_draw", .glo "_law_pick", .glo "_law_refusal", .glo "_law_one_b", .glo "_law_one", .glo "_law_told", .glo "law", .glo "MarkError", .glo "BadRule", .glo "BadFloor", .glo "BadWalker", .glo "BadNumber", .glo "BadText", .str "SIGNS" "LNRU", .glo "TURNS", .glo "AHEAD", .int "FAR" 100, .int "MOST_MARKS" 200, .int "MOST_STEPS" 20000, .int "MOST_PATH" 2000, .int "MOST_LONG" 120, .int "MOST_START" 12000, .str "HEADINGS" "^>v<", .exc "MarkError", .exc "BadRule", .exc "BadFloor", .exc "BadWalker", .exc "BadNumber", .exc "BadText", .free "len", .free "all", .free "any", .free "sorted", .free "set", .free "range", .free "list", .free "tuple", .free "min", .free "max", .free "str", .free "int", .free "isinstance", .free "dict", .free "abs", .free "ValueError"]
def ts : List He.Tab := [(fun K => He.ga K "TURNS", ["N", "R", "U", "L"])]
def ex (K : PySem.W.Frag) : Bool := kitsB K
abbrev R : PySem.W.OpenRow := PySem.W.OpenLaw.row PySem.Challenge.rw_markwalkers_k91_whole_two_at_once
abbrev hk : PySem.W.Hook := He.hookX 5 fa fn ts [] ex
def ob (s : PySem.W.SharedT) : He.AlX := He.obsX 5 fa fn ts [] ex (HandSHeadRun.getT s)
theorem ob_eq (s : PySem.W.SharedT) : ob s = hk.obs s.abs := He.obsX_eq (HandSHeadRun.getT_eq s)

def nm0 : List PySem.Str := ["look_rule", "look_walker", "look_floor", "look_all", "marks", "told", "go", "go_back", "look_many", "run", "back", "path", "read_colours", "times_seen", "box", "counts", "quarter", "turn_all", "turned", "mirror_all", "mirrored", "plain", "plain_of", "are_alike", "is_even", "period", "one_round", "is_on", "along", "overlaps"]
def nm1 : List PySem.Str := ["goes_on", "shown", "way_on", "written", "_law_cell", "_law_mix", "_law_draw", "_law_pick", "_law_refusal", "_law_one_b", "_law_one", "_law_told", "MarkError", "BadRule", "BadFloor", "BadWalker", "BadNumber", "BadText", "SIGNS", "TURNS", "AHEAD", "FAR", "MOST_MARKS", "MOST_STEPS", "MOST_PATH", "MOST_LONG", "MOST_START", "HEADINGS"]
def nms : List PySem.Str := nm0 ++ nm1
theorem run0 (w : World) : HandSHeadRun.RunEq R (PySem.W.view R.prog [65]) hk ob 4000 nms (w.withFollow "special-get-raises" false) := by
  intro os
  kernel_rfl
theorem run1 (w : World) : HandSHeadRun.RunEq R (PySem.W.view R.prog [65]) hk ob 4000 nms (w.withFollow "special-get-raises" true) := by
  intro os
  kernel_rfl
theorem run (w : World) : HandSHeadRun.RunEq R (PySem.W.view R.prog [65]) hk ob 4000 nms w :=
  PySem.W.byRow2 "special-get-raises" (P := fun w => HandSHeadRun.RunEq R (PySem.W.view R.prog [65]) hk ob 4000 nms w) run0 run1 w
theorem tx {w : World} {K : PySem.W.Frag} {h : Heap} {mg : Str → Option Value} (X : K.In h) (G : h.Ns mainGlobals mg) (c : He.SaysX fa fn ts [] ex w h K) : Tx K mg :=
  ⟨He.free_ok X G (c.t.d.fact 65 (f := .free "len") rfl),
   He.free_ok X G (c.t.d.fact 66 (f := .free "all") rfl),
   He.free_ok X G (c.t.d.fact 67 (f := .free "any") rfl),
   He.free_ok X G (c.t.d.fact 68 (f := .free "sorted") rfl),
   He.free_ok X G (c.t.d.fact 69 (f := .free "set") rfl),
   He.free_ok X G (c.t.d.fact 70 (f := .free "range") rfl),
   He.free_ok X G (c.t.d.fact 71 (f := .free "list") rfl),
   He.free_ok X G (c.t.d.fact 72 (f := .free "tuple") rfl),
   He.free_ok X G (c.t.d.fact 73 (f := .free "min") rfl),
   He.free_ok X G (c.t.d.fact 74 (f := .free "max") rfl),
   He.free_ok X G (c.t.d.fact 75 (f := .free "str") rfl),
   He.free_ok X G (c.t.d.fact 76 (f := .free "int") rfl),
   He.free_ok X G (c.t.d.fact 77 (f := .free "isinstance") rfl),
   He.free_ok X G (c.t.d.fact 78 (f := .free "dict") rfl),
   He.free_ok X G (c.t.d.fact 79 (f := .free "abs") rfl),
   He.free_ok X G (c.t.d.fact 80 (f := .free "ValueError") rfl),
   He.str_ok X G (c.t.d.fact 49 (f := .str "SIGNS" "LNRU") rfl),
   He.int_ok X G (c.t.d.fact 52 (f := .int "FAR" 100) rfl),
   He.int_ok X G (c.t.d.fact 53 (f := .int "MOST_MARKS" 200) rfl),
   xc_of X G (c.t.d.fact 43 (f := .glo "MarkError") rfl) (c.t.d.fact 59 (f := .exc "MarkError") rfl),
   xc_of X G (c.t.d.fact 44 (f := .glo "BadRule") rfl) (c.t.d.fact 60 (f := .exc "BadRule") rfl),
   xc_of X G (c.t.d.fact 45 (f := .glo "BadFloor") rfl) (c.t.d.fact 61 (f := .exc "BadFloor") rfl),
   xc_of X G (c.t.d.fact 46 (f := .glo "BadWalker") rfl) (c.t.d.fact 62 (f := .exc "BadWalker") rfl),
   xc_of X G (c.t.d.fact 47 (f := .glo "BadNumber") rfl) (c.t.d.fact 63 (f := .exc "BadNumber") rfl),
   xc_of X G (c.t.d.fact 48 (f := .glo "BadText") rfl) (c.t.d.fact 64 (f := .exc "BadText") rfl),
   kits_of c.more,
   He.int_ok X G (c.t.d.fact 54 (f := .int "MOST_STEPS" 20000) rfl),
   He.int_ok X G (c.t.d.fact 55 (f := .int "MOST_PATH" 2000) rfl)⟩
section
variable {w : World} {K : PySem.W.Frag} {h : Heap} {mg : Str → Option Value} (X : K.In h) (G : h.Ns mainGlobals mg) (c : He.SaysX fa fn ts [] ex w h K)
include X G c
theorem D_look_rule : Def K mg "look_rule" (top 13) := by
  obtain ⟨fd, F⟩ := c.t.d.def_ 0 (d := d_look_rule) rfl
  exact ⟨_, fd, F, He.glo_ok X G (c.t.d.fact 0 (f := .glo "look_rule") rfl)⟩
theorem D_look_walker : Def K mg "look_walker" (top 14) := by
  obtain ⟨fd, F⟩ := c.t.d.def_ 1 (d := d_look_walker) rfl
  exact ⟨_, fd, F, He.glo_ok X G (c.t.d.fact 1 (f := .glo "look_walker") rfl)⟩
theorem D_look_floor : Def K mg "look_floor" (top 15) := by
  obtain ⟨fd, F⟩ := c.t.d.def_ 2 (d := d_look_floor) rfl
  exact ⟨_, fd, F, He.glo_ok X G (c.t.d.fact 2 (f := .glo "look_floor") rfl)⟩
theorem D_look_all : Def K mg "look_all" (top 16) := by
  obtain ⟨fd, F⟩ := c.t.d.def_ 3 (d := d_look_all) rfl
  exact ⟨_, fd, F, He.glo_ok X G (c.t.d.fact 3 (f := .glo "look_all") rfl)⟩
theorem D_look_many : Def K mg "look_many" (top 24) := by
  obtain ⟨fd, F⟩ := c.t.d.def_ 8 (d := d_look_many) rfl
  exact ⟨_, fd, F, He.glo_ok X G (c.t.d.fact 8 (f := .glo "look_many") rfl)⟩
theorem D_run : Def K mg "run" (top 25) := by
  obtain ⟨fd, F⟩ := c.t.d.def_ 9 (d := d_run) rfl
  exact ⟨_, fd, F, He.glo_ok X G (c.t.d.fact 9 (f := .glo "run") rfl)⟩
theorem D_back : Def K mg "back" (top 26) := by
  obtain ⟨fd, F⟩ := c.t.d.def_ 10 (d := d_back) rfl
  exact ⟨_, fd, F, He.glo_ok X G (c.t.d.fact 10 (f := .glo "back") rfl)⟩
theorem D_path : Def K mg "path" (top 27) := by
  obtain ⟨fd, F⟩ := c.t.d.def_ 11 (d := d_path) rfl
  exact ⟨_, fd, F, He.glo_ok X G (c.t.d.fact 11 (f := .glo "path") rfl)⟩
theorem D_read_colours : Def K mg "read_colours" (top 28) := by
  obtain ⟨fd, F⟩ := c.t.d.def_ 12 (d := d_read_colours) rfl
  exact ⟨_, fd, F, He.glo_ok X G (c.t.d.fact 12 (f := .glo "read_colours") rfl)⟩
theorem D_times_seen : Def K mg "times_seen" (top 29) := by
  obtain ⟨fd, F⟩ := c.t.d.def_ 13 (d := d_times_seen) rfl
  exact ⟨_, fd, F, He.glo_ok X G (c.t.d.fact 13 (f := .glo "times_seen") rfl)⟩
theorem D_box : Def K mg "box" (top 30) := by
  obtain ⟨fd, F⟩ := c.t.d.def_ 14 (d := d_box) rfl
  exact ⟨_, fd, F, He.glo_ok X G (c.t.d.fact 14 (f := .glo "box") rfl)⟩
theorem D_counts : Def K mg "counts" (top 31) := by
  obtain ⟨fd, F⟩ := c.t.d.def_ 15 (d := d_counts) rfl
  exact ⟨_, fd, F, He.glo_ok X G (c.t.d.fact 15 (f := .glo "counts") rfl)⟩
theorem D_turned : Def K mg "turned" (top 35) := by
  obtain ⟨fd, F⟩ := c.t.d.def_ 18 (d := d_turned) rfl
  exact ⟨_, fd, F, He.glo_ok X G (c.t.d.fact 18 (f := .glo "turned") rfl)⟩
theorem D_mirrored : Def K mg "mirrored" (top 37) := by
  obtain ⟨fd, F⟩ := c.t.d.def_ 20 (d := d_mirrored) rfl
  exact ⟨_, fd, F, He.glo_ok X G (c.t.d.fact 20 (f := .glo "mirrored") rfl)⟩
theorem D_plain : Def K mg "plain" (top 38) := by
  obtain ⟨fd, F⟩ := c.t.d.def_ 21 (d := d_plain) rfl
  exact ⟨_, fd, F, He.glo_ok X G (c.t.d.fact 21 (f := .glo "plain") rfl)⟩
theorem D_are_alike : Def K mg "are_alike" (top 40) := by
  obtain ⟨fd, F⟩ := c.t.d.def_ 23 (d := d_are_alike) rfl
  exact ⟨_, fd, F, He.glo_ok X G (c.t.d.fact 23 (f := .glo "are_alike") rfl)⟩
theorem D_is_even : Def K mg "is_even" (top 41) := by
  obtain ⟨fd, F⟩ := c.t.d.def_ 24 (d := d_is_even) rfl
  exact ⟨_, fd, F, He.glo_ok X G (c.t.d.fact 24 (f := .glo "is_even") rfl)⟩
theorem D_period : Def K mg "period" (top 45) := by
  obtain ⟨fd, F⟩ := c.t.d.def_ 25 (d := d_period) rfl
  exact ⟨_, fd, F, He.glo_ok X G (c.t.d.fact 25 (f := .glo "period") rfl)⟩
theorem D_goes_on : Def K mg "goes_on" (top 50) := by
  obtain ⟨fd, F⟩ := c.t.d.def_ 30 (d := d_goes_on) rfl
  exact ⟨_, fd, F, He.glo_ok X G (c.t.d.fact 30 (f := .glo "goes_on") rfl)⟩
theorem D_shown : Def K mg "shown" (top 51) := by
  obtain ⟨fd, F⟩ := c.t.d.def_ 31 (d := d_shown) rfl
  exact ⟨_, fd, F, He.glo_ok X G (c.t.d.fact 31 (f := .glo "shown") rfl)⟩
theorem D_way_on : Def K mg "way_on" (top 52) := by
  obtain ⟨fd, F⟩ := c.t.d.def_ 32 (d := d_way_on) rfl
  exact ⟨_, fd, F, He.glo_ok X G (c.t.d.fact 32 (f := .glo "way_on") rfl)⟩
theorem D_written : Def K mg "written" (top 55) := by
  obtain ⟨fd, F⟩ := c.t.d.def_ 33 (d := d_written) rfl
  exact ⟨_, fd, F, He.glo_ok X G (c.t.d.fact 33 (f := .glo "written") rfl)⟩
theorem D__law_cell : Def K mg "_law_cell" (top 57) := by
  obtain ⟨fd, F⟩ := c.t.d.def_ 34 (d := d__law_cell) rfl
  exact ⟨_, fd, F, He.glo_ok X G (c.t.d.fact 34 (f := .glo "_law_cell") rfl)⟩
theorem D__law_mix : Def K mg "_law_mix" (top 58) := by
  obtain ⟨fd, F⟩ := c.t.d.def_ 35 (d := d__law_mix) rfl
  exact ⟨_, fd, F, He.glo_ok X G (c.t.d.fact 35 (f := .glo "_law_mix") rfl)⟩
theorem D__law_draw : Def K mg "_law_draw" (top 59) := by
  obtain ⟨fd, F⟩ := c.t.d.def_ 36 (d := d__law_draw) rfl
  exact ⟨_, fd, F, He.glo_ok X G (c.t.d.fact 36 (f := .glo "_law_draw") rfl)⟩
theorem D__law_pick : Def K mg "_law_pick" (top 60) := by
  obtain ⟨fd, F⟩ := c.t.d.def_ 37 (d := d__law_pick) rfl
  exact ⟨_, fd, F, He.glo_ok X G (c.t.d.fact 37 (f := .glo "_law_pick") rfl)⟩
theorem D__law_refusal : Def K mg "_law_refusal" (top 61) := by
  obtain ⟨fd, F⟩ := c.t.d.def_ 38 (d := d__law_refusal) rfl
  exact ⟨_, fd, F, He.glo_ok X G (c.t.d.fact 38 (f := .glo "_law_refusal") rfl)⟩
theorem D__law_one_b : Def K mg "_law_one_b" (top 62) := by
  obtain ⟨fd, F⟩ := c.t.d.def_ 39 (d := d__law_one_b) rfl
  exact ⟨_, fd, F, He.glo_ok X G (c.t.d.fact 39 (f := .glo "_law_one_b") rfl)⟩
theorem D__law_one : Def K mg "_law_one" (top 63) := by
  obtain ⟨fd, F⟩ := c.t.d.def_ 40 (d := d__law_one) rfl
  exact ⟨_, fd, F, He.glo_ok X G (c.t.d.fact 40 (f := .glo "_law_one") rfl)⟩
theorem D__law_told : Def K mg "_law_told" (top 64) := by
  obtain ⟨fd, F⟩ := c.t.d.def_ 41 (d := d__law_told) rfl
  exact ⟨_, fd, F, He.glo_ok X G (c.t.d.fact 41 (f := .glo "_law_told") rfl)⟩
theorem D_law : Def K mg "law" (top 65) := by
  obtain ⟨fd, F⟩ := c.t.d.def_ 42 (d := d_law) rfl
  exact ⟨_, fd, F, He.glo_ok X G (c.t.d.fact 42 (f := .glo "law") rfl)⟩
theorem all_ok (base : Heap) : FnK (PySem.Challenge.rw_markwalkers_k91_whole_two_at_once).prog w K mg base 8 "law" ["script"] (sp_law K) := by
  have T := tx X G c
  have F_look_rule := k_look_rule (P := (PySem.Challenge.rw_markwalkers_k91_whole_two_at_once).prog) (w := w) (base := base) T (D_look_rule X G c)
  have F_look_walker := k_look_walker (P := (PySem.Challenge.rw_markwalkers_k91_whole_two_at_once).prog) (w := w) (base := base) T (D_look_walker X G c)
  have F_look_floor := k_look_floor (P := (PySem.Challenge.rw_markwalkers_k91_whole_two_at_once).prog) (w := w) (base := base) T (D_look_floor X G c)
  have F_look_many := k_look_many (P := (PySem.Challenge.rw_markwalkers_k91_whole_two_at_once).prog) (w := w) (base := base) T (D_look_many X G c)
  have F_look_all := k_look_all (P := (PySem.Challenge.rw_markwalkers_k91_whole_two_at_once).prog) (w := w) (base := base) T (D_look_all X G c) F_look_rule F_look_walker F_look_floor
  have F__law_cell := k__law_cell (P := (PySem.Challenge.rw_markwalkers_k91_whole_two_at_once).prog) (w := w) (base := base) T (D__law_cell X G c)
  have F__law_mix := k__law_mix (P := (PySem.Challenge.rw_markwalkers_k91_whole_two_at_once).prog) (w := w) (base := base) T (D__law_mix X G c) F__law_cell
  have F__law_draw := k__law_draw (P := (PySem.Challenge.rw_markwalkers_k91_whole_two_at_once).prog) (w := w) (base := base) T (D__law_draw X G c) F__law_mix
  have F__law_pick := k__law_pick (P := (PySem.Challenge.rw_markwalkers_k91_whole_two_at_once).prog) (w := w) (base := base) T (D__law_pick X G c) F__law_draw
  have F_run := k_run (P := (PySem.Challenge.rw_markwalkers_k91_whole_two_at_once).prog) (w := w) (base := base) T (D_run X G c) F_look_all F_look_many
  have F_back := k_back (P := (PySem.Challenge.rw_markwalkers_k91_whole_two_at_once).prog) (w := w) (base := base) T (D_back X G c) F_look_all F_look_many
  have F_path := k_path (P := (PySem.Challenge.rw_markwalkers_k91_whole_two_at_once).prog) (w := w) (base := base) T (D_path X G c) F_look_all F_look_many
  have F_read_colours := k_read_colours (P := (PySem.Challenge.rw_markwalkers_k91_whole_two_at_once).prog) (w := w) (base := base) T (D_read_colours X G c) F_look_all F_look_many
  have F_period := k_period (P := (PySem.Challenge.rw_markwalkers_k91_whole_two_at_once).prog) (w := w) (base := base) T (D_period X G c) F_look_all F_look_many
  have F_counts := k_counts (P := (PySem.Challenge.rw_markwalkers_k91_whole_two_at_once).prog) (w := w) (base := base) T (D_counts X G c) F_run
  have F_box := k_box (P := (PySem.Challenge.rw_markwalkers_k91_whole_two_at_once).prog) (w := w) (base := base) T (D_box X G c) F_path
  have F_times_seen := k_times_seen (P := (PySem.Challenge.rw_markwalkers_k91_whole_two_at_once).prog) (w := w) (base := base) T (D_times_seen X G c) F_path
  have F_mirrored := k_mirrored (P := (PySem.Challenge.rw_markwalkers_k91_whole_two_at_once).prog) (w := w) (base := base) T (D_mirrored X G c) F_look_all
  have F_plain := k_plain (P := (PySem.Challenge.rw_markwalkers_k91_whole_two_at_once).prog) (w := w) (base := base) T (D_plain X G c) F_look_all
  have F_is_even := k_is_even (P := (PySem.Challenge.rw_markwalkers_k91_whole_two_at_once).prog) (w := w) (base := base) T (D_is_even X G c) F_look_all
  have F_written := k_written (P := (PySem.Challenge.rw_markwalkers_k91_whole_two_at_once).prog) (w := w) (base := base) T (D_written X G c) F_look_all
  have F_turned := k_turned (P := (PySem.Challenge.rw_markwalkers_k91_whole_two_at_once).prog) (w := w) (base := base) T (D_turned X G c) F_look_all
  have F_goes_on := k_goes_on (P := (PySem.Challenge.rw_markwalkers_k91_whole_two_at_once).prog) (w := w) (base := base) T (D_goes_on X G c) F_look_all
  have F_shown := k_shown (P := (PySem.Challenge.rw_markwalkers_k91_whole_two_at_once).prog) (w := w) (base := base) T (D_shown X G c) F_look_all
  have F_way_on := k_way_on (P := (PySem.Challenge.rw_markwalkers_k91_whole_two_at_once).prog) (w := w) (base := base) T (D_way_on X G c) F_look_all
  have F_are_alike := k_are_alike (P := (PySem.Challenge.rw_markwalkers_k91_whole_two_at_once).prog) (w := w) (base := base) T (D_are_alike X G c) F_look_all
  have F__law_one_b := k__law_one_b (P := (PySem.Challenge.rw_markwalkers_k91_whole_two_at_once).prog) (w := w) (base := base) T (D__law_one_b X G c) F_is_even F_written F_turned F_are_alike
  have F__law_one := k__law_one (P := (PySem.Challenge.rw_markwalkers_k91_whole_two_at_once).prog) (w := w) (base := base) T (D__law_one X G c) F_run F_back F_counts F_path F_read_colours F_times_seen F_box F_period F_goes_on F_shown F_way_on F_mirrored F_plain F__law_one_b
  have F__law_refusal := k__law_refusal (P := (PySem.Challenge.rw_markwalkers_k91_whole_two_at_once).prog) (w := w) (base := base) T (D__law_refusal X G c)
  have F__law_told := k__law_told (P := (PySem.Challenge.rw_markwalkers_k91_whole_two_at_once).prog) (w := w) (base := base) T (D__law_told X G c) F__law_one F__law_refusal
  have F_law := k_law (P := (PySem.Challenge.rw_markwalkers_k91_whole_two_at_once).prog) (w := w) (base := base) T (D_law X G c) F__law_draw F__law_pick F__law_told
  exact F_law
end
theorem facts {w : World} {K : PySem.W.Frag} {h : Heap} {mg : Str → Option Value} {f : Addr} (X : K.In h) (G : h.Ns mainGlobals mg) (hfa : mg ("law" : Str) = some (.ref f)) (c : He.SaysX fa fn ts [] ex w h K) :
    ∃ fd : FuncData, (∀ (s : Shared) (v : Value), BindsTo s fd ⟨[v], []⟩ [("script", v)]) ∧ ∀ base : Heap, FnOk (PySem.Challenge.rw_markwalkers_k91_whole_two_at_once).prog w K mg base (L2.CX (PySem.Challenge.rw_markwalkers_k91_whole_two_at_once).prog w) 8 f fd ["script"] (sp_law K) := by
  obtain ⟨fd, F⟩ := c.t.d.def_ 42 (d := d_law) rfl
  have e := hfa.symm.trans (He.glo_ok X G (c.t.d.fact 42 (f := .glo "law") rfl))
  cases e
  have b := FunD.bindsA (ps := ["script"]) F fun _ _ _ _ _ _ us hl => match us, hl with | [_], _ => rfl
  refine ⟨fd, fun s v => b s [v] rfl, fun base => ?_⟩
  obtain ⟨f', fd', F', g', _, _, oc, od, osl, lk⟩ := all_ok X G c base
  cases hfa.symm.trans g'
  obtain ⟨oc2, od2, _, _, _, _, _, _, _, osl2, _, lk2, _⟩ := F.ex
  cases lk.symm.trans lk2
  exact F'
end MW
open PySem PySem.W PySem.Calls PyProof.Rows
theorem PySem.Challenge.cw_markwalkers_k91_whole_two_at_once_holds : PySem.Challenge.rw_markwalkers_k91_whole_two_at_once.Holds := by
  w_on; o_law
  refine HandSHeadRun.head_any (r := OpenLaw.row PySem.Challenge.rw_markwalkers_k91_whole_two_at_once) (q := view (OpenLaw.row PySem.Challenge.rw_markwalkers_k91_whole_two_at_once).prog [65]) (H := MW.hk) (ob := MW.ob) (M := 4000) (loose := MW.nms) (d := HandSHeadRun.topDef (OpenLaw.row PySem.Challenge.rw_markwalkers_k91_whole_two_at_once).prog 65) (kwd := []) MW.ob_eq
    (by kernel_rfl) (fun s => by kernel_rfl) MW.run (by kernel_rfl) (by kernel_rfl) (by kernel_rfl) (by rfl) (by first | assumption | decide +kernel) (by decide +kernel) ⟨rfl, rfl, rfl, rfl, rfl, by decide +kernel⟩ ?hw ?hc
  case hw => w_witness2
  case hc =>
    refine MW.walk_ofW (l := PySem.Challenge.rw_markwalkers_k91_whole_two_at_once) (n := 63) (k := 8) (x := "script") (CX := fun w => L2.CX (PySem.Challenge.rw_markwalkers_k91_whole_two_at_once).prog w) rfl (by decide) (by kernel_rfl) ⟨rfl, by decide, by decide⟩ ?F (fun _ _ _ _ _ z => MW.cx_never z)
    intro w mg fa h Y G hmg0
    obtain ⟨K, KX, c⟩ := Y
    have hmg : mg ("law" : PySem.Str) = some (.ref fa) := by
      have e : (HandSHeadRun.topDef (OpenLaw.row PySem.Challenge.rw_markwalkers_k91_whole_two_at_once).prog 65).name = ("law" : PySem.Str) := by kernel_rfl
      rw [← e]
      exact hmg0
    obtain ⟨fd, hb, hF⟩ := MW.facts (w := w) KX G hmg c
    exact ⟨K, fd, MW.sp_law K, KX, hb, fun H a ns hl hS => ⟨⟨H, H, L2.Same.refl _⟩, a, ns, rfl, .cons rfl .nil, hS, fun _ => rfl⟩, fun base _ _ => hF base⟩

