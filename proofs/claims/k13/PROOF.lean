import PyProof.Rows.All
import Wide.All
import OpenK.AllK
import Wide.FinOn
import HandS.ForMost
import HandS.Exc
import HandS.TryOnly
import HandS.ExcOwn
import HandS.WordsExc
import HandS.Wide
import HandS.Style
import HandS.IsInst
import HandS.TupLe
import HandS.TupSets
import HandS.Deep
import HandS.Flow
import HandS.More
import HandS.HotCalls
import HandS.ExcIs
import HandS.SortRule
import HandS.Sort
import HandS.SortInts
import KE.SortData
import KE.DatumOrd
import PyProof.WalksMore
import PyProof.Rows.SumAny
import HandS.Walk
import PySem.Challenge.RW_threewards_k13_whole_all_cuts
set_option Elab.async false
set_option linter.all false
set_option maxRecDepth 100000
set_option maxHeartbeats 4000000
/-! The data layer: what stands in the slots is told as data (PyData), by a steady part S of the abstract heap; lists that are still being made are owned. -/
namespace DL
open PySem PySem.Spec PyProof.Rows L2

abbrev Fg := PySem.W.Frag

/-! ### values as data -/
mutual
inductive Rp (K : Fg) (S : Hp) : V → PyData → Prop
  | non : Rp K S .non .none
  | bl (b : Bool) : Rp K S (.bl b) (.bool b)
  | int (i : Int) : Rp K S (.int i) (.int i)
  | str (x : Str) : Rp K S (.str x) (.str x)
  | lst {a : Addr} {xs : List V} {ds : List PyData} : S a = some (.lst xs) → RpA K S xs ds → Rp K S (.ref a) (.list ds)
  | tup {a : Addr} {xs : List V} {ds : List PyData} : S a = some (.tup xs) → RpA K S xs ds → Rp K S (.ref a) (.tuple ds)
  | scr {a : Addr} {ns : List Int} : SqL K S a (ns.map V.int) → Rp K S (.ref a) (.dict [(.none, .list (ns.map PyData.int))])
  | dic {a : Addr} {kvs : List (List Key × V)} {ds : List (PyData × PyData)} : Rd S a (.dT kvs) → RpK K S kvs ds → Rp K S (.ref a) (.dict ds)
  | adr (a : Addr) : Rp K S (.ref a) (.dict [(.bool true, .int (a : Int))])
inductive RpA (K : Fg) (S : Hp) : List V → List PyData → Prop
  | nil : RpA K S [] []
  | cons {v : V} {vs : List V} {d : PyData} {ds : List PyData} : Rp K S v d → RpA K S vs ds → RpA K S (v :: vs) (d :: ds)
inductive RpK (K : Fg) (S : Hp) : List (List Key × V) → List (PyData × PyData) → Prop
  | nil : RpK K S [] []
  | cons {i j : Int} {v : V} {kvs : List (List Key × V)} {d : PyData} {ds : List (PyData × PyData)} : Rp K S v d → RpK K S kvs ds → RpK K S (([.inl i, .inl j], v) :: kvs) ((.tuple [.int i, .int j], d) :: ds)
end

theorem Rd.mono {S S' : Hp} {a : Addr} {u : HO} (e : Same S S') (h : Rd S a u) : Rd S' a u := h.elim (fun q => .inl (e _ _ q)) fun ⟨o, q⟩ => .inr ⟨o, e _ _ q⟩
section
variable {K : Fg} {S S' : Hp}
mutual
theorem Rp.mono (e : Same S S') : ∀ {v : V} {d : PyData}, Rp K S v d → Rp K S' v d
  | _, _, .non => .non
  | _, _, .bl b => .bl b
  | _, _, .int i => .int i
  | _, _, .str x => .str x
  | _, _, .lst h r => .lst (e _ _ h) (RpA.mono e r)
  | _, _, .tup h r => .tup (e _ _ h) (RpA.mono e r)
  | _, _, .scr h => .scr (e.seq h)
  | _, _, .dic h r => .dic (Rd.mono e h) (RpK.mono e r)
  | _, _, .adr a => .adr a
theorem RpA.mono (e : Same S S') : ∀ {vs : List V} {ds : List PyData}, RpA K S vs ds → RpA K S' vs ds
  | _, _, .nil => .nil
  | _, _, .cons h r => .cons (Rp.mono e h) (RpA.mono e r)
theorem RpK.mono (e : Same S S') : ∀ {vs : List (List Key × V)} {ds : List (PyData × PyData)}, RpK K S vs ds → RpK K S' vs ds
  | _, _, .nil => .nil
  | _, _, .cons h r => .cons (Rp.mono e h) (RpK.mono e r)
end
theorem RpA.length : ∀ {vs : List V} {ds : List PyData}, RpA K S vs ds → vs.length = ds.length
  | _, _, .nil => rfl
  | _, _, .cons _ r => congrArg (· + 1) (RpA.length r)
theorem RpA.get : ∀ {vs : List V} {ds : List PyData} {i : Nat} {d : PyData}, RpA K S vs ds → ds[i]? = some d → ∃ v, vs[i]? = some v ∧ Rp K S v d
  | _, _, _, _, .nil, h => by simp at h
  | _, _, 0, _, .cons h _, e => by
    simp at e
    subst e
    exact ⟨_, rfl, h⟩
  | _, _, i + 1, d, .cons _ r, e => by
    obtain ⟨v, h1, h2⟩ := RpA.get (i := i) (d := d) r (by simpa using e)
    exact ⟨v, by simpa using h1, h2⟩
theorem RpA.append : ∀ {vs ws : List V} {ds es : List PyData}, RpA K S vs ds → RpA K S ws es → RpA K S (vs ++ ws) (ds ++ es)
  | _, _, _, _, .nil, r => r
  | _, _, _, _, .cons h t, r => .cons h (RpA.append t r)
theorem RpA.take : ∀ {vs : List V} {ds : List PyData} (n : Nat), RpA K S vs ds → RpA K S (vs.take n) (ds.take n)
  | _, _, 0, _ => .nil
  | _, _, _ + 1, .nil => .nil
  | _, _, n + 1, .cons h r => .cons h (RpA.take n r)
theorem RpA.drop : ∀ {vs : List V} {ds : List PyData} (n : Nat), RpA K S vs ds → RpA K S (vs.drop n) (ds.drop n)
  | _, _, 0, r => r
  | _, _, _ + 1, .nil => .nil
  | _, _, n + 1, .cons _ r => RpA.drop n r
theorem RpA.reverse : ∀ {vs : List V} {ds : List PyData}, RpA K S vs ds → RpA K S vs.reverse ds.reverse
  | _, _, .nil => .nil
  | _, _, .cons h r => by
    rw [List.reverse_cons, List.reverse_cons]
    exact RpA.append (RpA.reverse r) (.cons h .nil)
theorem RpA.set {v : V} {d : PyData} (h : Rp K S v d) : ∀ {vs : List V} {ds : List PyData} (i : Nat), RpA K S vs ds → RpA K S (vs.set i v) (ds.set i d)
  | _, _, _, .nil => .nil
  | _, _, 0, .cons _ r => .cons h r
  | _, _, i + 1, .cons q r => .cons q (RpA.set h i r)
theorem RpA.eraseIdx : ∀ {vs : List V} {ds : List PyData} (i : Nat), RpA K S vs ds → RpA K S (vs.eraseIdx i) (ds.eraseIdx i)
  | _, _, _, .nil => .nil
  | _, _, 0, .cons _ r => r
  | _, _, i + 1, .cons q r => .cons q (RpA.eraseIdx i r)
theorem RpA.dropLast {vs : List V} {ds : List PyData} (h : RpA K S vs ds) : RpA K S vs.dropLast ds.dropLast := by
  rw [List.dropLast_eq_take, List.dropLast_eq_take, h.length]
  exact h.take _
/-- ints -/
theorem RpA.ints : ∀ {vs : List V} {ns : List Int}, RpA K S vs (ns.map PyData.int) → vs = ns.map V.int
  | _, [], .nil => rfl
  | _, n :: ns, .cons h r => by
    cases h
    rw [RpA.ints r]
    rfl
theorem RpA.of_ints : ∀ (ns : List Int), RpA K S (ns.map V.int) (ns.map PyData.int)
  | [] => .nil
  | n :: ns => .cons (.int n) (RpA.of_ints ns)
theorem RpA.bools : ∀ {vs : List V} {bs : List Bool}, RpA K S vs (bs.map PyData.bool) → vs = bs.map V.bl
  | _, [], .nil => rfl
  | _, b :: bs, .cons h r => by
    cases h
    rw [RpA.bools r]
    rfl
end

/-! ### the state -/
inductive Sv where
  | v (w : V) | d (x : PyData)
inductive Ow where
  | lst (ds : List PyData) | dct (ds : List (PyData × PyData))
structure Gs where
  c : List (Option Sv)
  o : List (Addr × Ow) := []
def slot (K : Fg) (S : Hp) (s : Option V) : Option Sv → Prop
  | none => True
  | some (.v w) => s = some w
  | some (.d x) => ∃ w, s = some w ∧ Rp K S w x
def Sl (K : Fg) (S : Hp) : L2.St → List (Option Sv) → Prop
  | [], [] => True
  | s :: σ, g :: Γ => slot K S s g ∧ Sl K S σ Γ
  | _, _ => False
def OwOk (K : Fg) (S H : Hp) (a : Addr) : Ow → Prop
  | .lst ds => ∃ vs, H a = some (.lst vs) ∧ RpA K S vs ds
  | .dct ds => ∃ kvs, H a = some (.dT kvs) ∧ RpK K S kvs ds
structure Ok (K : Fg) (S H : Hp) (σ : L2.St) (G : Gs) : Prop where
  sh : Same S H
  sl : Sl K S σ G.c
  ow : ∀ p ∈ G.o, S p.1 = none ∧ OwOk K S H p.1 p.2
  nd : (G.o.map (·.1)).Nodup
structure Gr (S H S' H' : Hp) : Prop where
  s : Same S S'
  h : Same H H'
  sh : Same S' H'
  new : ∀ a o, H a = some o → Mut (some o) → S a = none → S' a = none

section
variable {K : Fg} {S H S' H' S2 H2 : Hp} {σ : L2.St} {G : Gs}
theorem Gr.refl (h : Same S H) : Gr S H S H := ⟨Same.refl S, Same.refl H, h, fun _ _ _ _ n => n⟩
theorem Gr.trans (a : Gr S H S' H') (b : Gr S' H' S2 H2) : Gr S H S2 H2 :=
  ⟨a.s.trans b.s, a.h.trans b.h, b.sh, fun x o e m n => b.new x o (a.h x o e) m (a.new x o e m n)⟩
theorem same_new {p : Addr} (h : H p = none) (o : HO) : Same H (upd H p o) := fun b u q => by rw [upd_ne (ne_of_none q h)]; exact q
theorem same_upd2 {p : Addr} {o : HO} (e : Same S H) (h : H p = none) : Same (upd S p o) (upd H p o) := fun b u q => by
  by_cases hb : b = p
  · subst hb
    rw [upd_same] at q ⊢
    exact q
  · rw [upd_ne hb] at q ⊢
    exact e b u q
/-- a new object, steady -/
theorem Gr.lay {p : Addr} {o : HO} (g : Gr S H S' H') (h : H' p = none) : Gr S H (upd S' p o) (upd H' p o) :=
  ⟨g.s.trans (same_new (g.sh.free h) o), g.h.trans (same_new h o), same_upd2 g.sh h, fun a u e m n => by
    rw [upd_ne (ne_of_none (g.h a u e) h)]
    exact g.new a u e m n⟩
/-- a new object, not steady -/
theorem Gr.raw {p : Addr} {o : HO} (g : Gr S H S' H') (h : H' p = none) : Gr S H S' (upd H' p o) :=
  ⟨g.s, g.h.trans (same_new h o), g.sh.trans (same_new h o), g.new⟩
theorem slot.mono (e : Same S S') {s : Option V} : ∀ {g : Option Sv}, slot K S s g → slot K S' s g
  | none, _ => trivial
  | some (.v w), h => h
  | some (.d x), ⟨w, h1, h2⟩ => ⟨w, h1, h2.mono e⟩
theorem Sl.mono (e : Same S S') : ∀ {σ : L2.St} {Γ : List (Option Sv)}, Sl K S σ Γ → Sl K S' σ Γ
  | [], [], _ => trivial
  | s :: σ, g :: Γ, h => ⟨slot.mono e h.1, Sl.mono e h.2⟩
  | [], _ :: _, h => h.elim
  | _ :: _, [], h => h.elim
theorem Sl.get : ∀ {σ : L2.St} {Γ : List (Option Sv)} {i : Nat} {g : Option Sv}, Sl K S σ Γ → Γ[i]? = some g → ∃ s, σ[i]? = some s ∧ slot K S s g
  | [], [], _, _, _, h => by simp at h
  | s :: σ, g :: Γ, 0, _, h, e => by
    simp at e
    subst e
    exact ⟨s, rfl, h.1⟩
  | s :: σ, g :: Γ, i + 1, g', h, e => by
    obtain ⟨t, h1, h2⟩ := Sl.get (i := i) h.2 (by simpa using e)
    exact ⟨t, by simpa using h1, h2⟩
  | [], _ :: _, _, _, h, _ => h.elim
  | _ :: _, [], _, _, h, _ => h.elim
theorem Sl.set {s : Option V} {g : Option Sv} (hg : slot K S s g) : ∀ {σ : L2.St} {Γ : List (Option Sv)} (i : Nat), Sl K S σ Γ → Sl K S (σ.set i s) (Γ.set i g)
  | [], [], _, _ => trivial
  | _ :: _, _ :: _, 0, h => ⟨hg, h.2⟩
  | _ :: _, _ :: _, i + 1, h => ⟨h.1, Sl.set hg i h.2⟩
  | [], _ :: _, _, h => h.elim
  | _ :: _, [], _, h => h.elim
def wipeC (Γ : List (Option Sv)) : List Nat → List (Option Sv)
  | [] => Γ
  | v :: vs => (wipeC Γ vs).set v none
theorem Sl.wipe (h : Sl K S σ G.c) : ∀ vs, Sl K S (L2.wipe σ vs) (wipeC G.c vs)
  | [] => h
  | v :: vs => Sl.set (g := none) trivial v (Sl.wipe h vs)
theorem OwOk.mono (es : Same S S') (eh : Same H H') {a : Addr} : ∀ {w : Ow}, OwOk K S H a w → OwOk K S' H' a w
  | .lst _, ⟨vs, h1, h2⟩ => ⟨vs, eh _ _ h1, h2.mono es⟩
  | .dct _, ⟨vs, h1, h2⟩ => ⟨vs, eh _ _ h1, h2.mono es⟩
theorem OwOk.there {a : Addr} : ∀ {w : Ow}, OwOk K S H a w → ∃ o, H a = some o
  | .lst _, ⟨_, h1, _⟩ => ⟨_, h1⟩
  | .dct _, ⟨_, h1, _⟩ => ⟨_, h1⟩
theorem OwOk.mut {a : Addr} : ∀ {w : Ow}, OwOk K S H a w → ∃ o, H a = some o ∧ Mut (some o)
  | .lst _, ⟨_, h1, _⟩ => ⟨_, h1, trivial⟩
  | .dct _, ⟨_, h1, _⟩ => ⟨_, h1, trivial⟩
theorem Ok.mono (k : Ok K S H σ G) (g : Gr S H S' H') : Ok K S' H' σ G :=
  ⟨g.sh, k.sl.mono g.s, fun p hp => by
    obtain ⟨h1, h2⟩ := k.ow p hp
    obtain ⟨o, ho, hm⟩ := h2.mut
    exact ⟨g.new _ o ho hm h1, h2.mono g.s g.h⟩, k.nd⟩
theorem Ok.gr (k : Ok K S H σ G) : Gr S H S H := Gr.refl k.sh
end

/-! ### the widest readings -/
section
variable (X : Cx)
def wE (e : Expr) : TE := fun σ H Q => ∀ pins s, Inv X pins σ H s → wpAny (model X.prog X.w) X.A (eval e X.env) (EP X pins σ Q) X.xe s
def wT (e : Expr) : TT := fun σ H Q => ∀ pins s, Inv X pins σ H s → wpAny (model X.prog X.w) X.A (isTrue e X.env (eval e X.env)) (TP X pins σ Q) X.xe s
def wW (e : Expr) : TT := fun σ H Q => ∀ wh pins s, Inv X pins σ H s → wpAny (model X.prog X.w) X.A (isTrue e X.env wh) (TP X pins σ Q) X.xe s
def wA (es : List Expr) : TA := fun σ H Q => ∀ pos pins s, Inv X pins σ H s → wpAny (model X.prog X.w) X.A (spliced (backTo pos (starEach es X.env))) (AP X pins σ Q) X.xe s
def wS (st : Stmt) : TS := fun D σ H => ∀ pins s, Inv X pins σ H s → wpAny (model X.prog X.w) X.A (exec st X.env) (SP X pins D) X.xe s
def wB (st : List Stmt) : TS := fun D σ H => ∀ pins s, Inv X pins σ H s → wpAny (model X.prog X.w) X.A (execs st X.env) (SP X pins D) X.xe s
end
section
variable {X : Cx} {e : Expr} {es : List Expr} {st : Stmt} {sts : List Stmt} {σ : L2.St} {H : Hp}
theorem pe_w : PE X e (wE X e) := ⟨fun pins s _ _ _ I h => h pins s I⟩
theorem pt_w : PT X e (wT X e) := ⟨fun pins s _ _ _ I h => h pins s I⟩
theorem pw_w : PW X e (wW X e) := ⟨fun wh pins s _ _ _ I h => h wh pins s I⟩
theorem pa_w : PA X es (wA X es) := ⟨fun pos pins s _ _ _ I h => h pos pins s I⟩
theorem ps_w : PS X st (wS X st) := ⟨fun pins s _ _ _ I h => h pins s I⟩
theorem pss_w : PSs X sts (wB X sts) := ⟨fun pins s _ _ _ I h => h pins s I⟩
theorem wE_of {t : TE} {Q : VK} (p : PE X e t) (h : t σ H Q) : wE X e σ H Q := fun pins s I => p.run pins s σ H Q I h
theorem wT_of {t : TT} {Q : Bool → Hp → Prop} (p : PT X e t) (h : t σ H Q) : wT X e σ H Q := fun pins s I => p.run pins s σ H Q I h
theorem wW_of {t : TT} {Q : Bool → Hp → Prop} (p : PW X e t) (h : t σ H Q) : wW X e σ H Q := fun wh pins s I => p.run wh pins s σ H Q I h
theorem wA_of {t : TA} {Q : List V → Hp → Prop} (p : PA X es t) (h : t σ H Q) : wA X es σ H Q := fun pos pins s I => p.run pos pins s σ H Q I h
theorem wS_of {t : TS} {D : Ends} (p : PS X st t) (h : t D σ H) : wS X st D σ H := fun pins s I => p.run pins s σ H D I h
theorem wB_of {t : TS} {D : Ends} (p : PSs X sts t) (h : t D σ H) : wB X sts D σ H := fun pins s I => p.run pins s σ H D I h
end

/-! ### expressions -/
structure ED (X : Cx) (G : Gs) (e : Expr) (x : PyData) : Prop where
  run : ∀ (σ : L2.St) (S H : Hp), Ok X.K S H σ G → ∀ Q : VK, (∀ v S' H', Gr S H S' H' → Rp X.K S' v x → Q v H') → wE X e σ H Q
instance {X : Cx} {G : Gs} {e : Expr} {x : PyData} : CoeFun (ED X G e x) (fun _ => ∀ (σ : L2.St) (S H : Hp), Ok X.K S H σ G → ∀ Q : VK, (∀ v S' H', Gr S H S' H' → Rp X.K S' v x → Q v H') → wE X e σ H Q) := ⟨ED.run⟩
/-- a list that can be read -/
structure EL (X : Cx) (G : Gs) (e : Expr) (ds : List PyData) : Prop where
  run : ∀ (σ : L2.St) (S H : Hp), Ok X.K S H σ G → ∀ Q : VK, (∀ a vs S' H', Gr S H S' H' → H' a = some (.lst vs) → RpA X.K S' vs ds → Q (.ref a) H') → wE X e σ H Q
instance {X : Cx} {G : Gs} {e : Expr} {ds : List PyData} : CoeFun (EL X G e ds) (fun _ => ∀ (σ : L2.St) (S H : Hp), Ok X.K S H σ G → ∀ Q : VK, (∀ a vs S' H', Gr S H S' H' → H' a = some (.lst vs) → RpA X.K S' vs ds → Q (.ref a) H') → wE X e σ H Q) := ⟨EL.run⟩
/-- a new list -/
structure EF (X : Cx) (G : Gs) (e : Expr) (ds : List PyData) : Prop where
  run : ∀ (σ : L2.St) (S H : Hp), Ok X.K S H σ G → ∀ Q : VK, (∀ a vs S' H', Gr S H S' H' → H a = none → S' a = none → H' a = some (.lst vs) → RpA X.K S' vs ds → Q (.ref a) H') → wE X e σ H Q
instance {X : Cx} {G : Gs} {e : Expr} {ds : List PyData} : CoeFun (EF X G e ds) (fun _ => ∀ (σ : L2.St) (S H : Hp), Ok X.K S H σ G → ∀ Q : VK, (∀ a vs S' H', Gr S H S' H' → H a = none → S' a = none → H' a = some (.lst vs) → RpA X.K S' vs ds → Q (.ref a) H') → wE X e σ H Q) := ⟨EF.run⟩
structure ET (X : Cx) (G : Gs) (e : Expr) (b : Bool) : Prop where
  run : ∀ (σ : L2.St) (S H : Hp), Ok X.K S H σ G → ∀ Q : Bool → Hp → Prop, (∀ S' H', Gr S H S' H' → Q b H') → wT X e σ H Q
instance {X : Cx} {G : Gs} {e : Expr} {b : Bool} : CoeFun (ET X G e b) (fun _ => ∀ (σ : L2.St) (S H : Hp), Ok X.K S H σ G → ∀ Q : Bool → Hp → Prop, (∀ S' H', Gr S H S' H' → Q b H') → wT X e σ H Q) := ⟨ET.run⟩
structure EW (X : Cx) (G : Gs) (e : Expr) (b : Bool) : Prop where
  run : ∀ (σ : L2.St) (S H : Hp), Ok X.K S H σ G → ∀ Q : Bool → Hp → Prop, (∀ S' H', Gr S H S' H' → Q b H') → wW X e σ H Q
instance {X : Cx} {G : Gs} {e : Expr} {b : Bool} : CoeFun (EW X G e b) (fun _ => ∀ (σ : L2.St) (S H : Hp), Ok X.K S H σ G → ∀ Q : Bool → Hp → Prop, (∀ S' H', Gr S H S' H' → Q b H') → wW X e σ H Q) := ⟨EW.run⟩
structure EA (X : Cx) (G : Gs) (es : List Expr) (xs : List PyData) : Prop where
  run : ∀ (σ : L2.St) (S H : Hp), Ok X.K S H σ G → ∀ Q : List V → Hp → Prop, (∀ vs S' H', Gr S H S' H' → RpA X.K S' vs xs → Q vs H') → wA X es σ H Q
instance {X : Cx} {G : Gs} {es : List Expr} {xs : List PyData} : CoeFun (EA X G es xs) (fun _ => ∀ (σ : L2.St) (S H : Hp), Ok X.K S H σ G → ∀ Q : List V → Hp → Prop, (∀ vs S' H', Gr S H S' H' → RpA X.K S' vs xs → Q vs H') → wA X es σ H Q) := ⟨EA.run⟩

/-- a new list becomes steady -/
theorem Gr.freeze {S H S' H' : Hp} {a : Addr} {o : HO} (g : Gr S H S' H') (h : H a = none) (hs : S' a = none) (ho : H' a = some o) : Gr S H (upd S' a o) H' :=
  ⟨g.s.trans (same_new hs o), g.h, fun b u q => by
    by_cases hb : b = a
    · subst hb
      rw [upd_same] at q
      rw [ho]
      exact q
    · rw [upd_ne hb] at q
      exact g.sh b u q, fun b u e m n => by
    rw [upd_ne (ne_of_none e h)]
    exact g.new b u e m n⟩
section
variable {X : Cx} {G : Gs} {e : Expr} {ds : List PyData}
theorem EF.ed (h : EF X G e ds) : ED X G e (.list ds) := ⟨fun σ S H k Q q => h σ S H k Q fun a vs S' H' g ha hs ho r =>
  q _ _ _ (g.freeze ha hs ho) (.lst upd_same (r.mono (same_new hs _)))⟩
theorem ED.el (h : ED X G e (.list ds)) : EL X G e ds := ⟨fun σ S H k Q q => h σ S H k Q fun v S' H' g r => by
  cases r with
  | lst h1 h2 => exact q _ _ _ _ g (g.sh _ _ h1) h2⟩
theorem EF.el (h : EF X G e ds) : EL X G e ds := h.ed.el
theorem ED.is {x y : PyData} (h : ED X G e x) (E : x = y) : ED X G e y := E ▸ h
theorem EF.is {x y : List PyData} (h : EF X G e x) (E : x = y) : EF X G e y := E ▸ h
theorem EL.is {x y : List PyData} (h : EL X G e x) (E : x = y) : EL X G e y := E ▸ h
theorem ET.is {x y : Bool} (h : ET X G e x) (E : x = y) : ET X G e y := E ▸ h
end
end DL

set_option Elab.async false
set_option linter.all false
set_option maxRecDepth 100000
set_option maxHeartbeats 4000000
namespace DL
open PySem PySem.Spec PyProof.Rows L2

/-! ### encodings -/
abbrev P2 := Int × Int
abbrev dI (i : Int) : PyData := .int i
abbrev dP (p : P2) : PyData := .tuple [.int p.1, .int p.2]
abbrev dT (p : Int × Int × Int) : PyData := .tuple [.int p.1, .int p.2.1, .int p.2.2]
abbrev dPs (ps : List P2) : PyData := .list (ps.map dP)
abbrev dScr (ns : List Int) : PyData := .dict [(.none, .list (ns.map PyData.int))]
/-- the item at an int place, from the end where it is below nought -/
def gz {α : Type} [Inhabited α] (xs : List α) (k : Int) : α := (atI xs k).getD default
theorem atI_in {α : Type} {xs : List α} {k : Int} (h : -(xs.length : Int) ≤ k ∧ k < xs.length) : ∃ (j : Nat) (hj : j < xs.length), atI xs k = some xs[j] ∧ (j : Int) = if 0 ≤ k then k else k + xs.length := by
  unfold atI ixN
  by_cases c : 0 ≤ k
  · rw [if_pos c, if_pos h.2]
    have hj : k.toNat < xs.length := by omega
    refine ⟨k.toNat, hj, ?_, by rw [if_pos c]; omega⟩
    simp [hj]
  · rw [if_neg c, if_pos h.1]
    have hj : (k + xs.length).toNat < xs.length := by omega
    refine ⟨(k + xs.length).toNat, hj, ?_, by rw [if_neg c]; omega⟩
    simp [hj]
theorem gz_at {α : Type} [Inhabited α] {xs : List α} {k : Int} (h : -(xs.length : Int) ≤ k ∧ k < xs.length) : atI xs k = some (gz xs k) := by
  obtain ⟨j, hj, e, _⟩ := atI_in h
  unfold gz
  rw [e]
  rfl
theorem atI_map {α β : Type} (f : α → β) (xs : List α) (k : Int) : atI (xs.map f) k = (atI xs k).map f := by
  unfold atI
  rw [List.length_map]
  cases ixN xs.length k with
  | none => rfl
  | some j => simp

section
variable {X : Cx} {G : Gs} {a b c e i : Expr} {es rest : List Expr} {pos : Pos} {x y : PyData} {ds : List PyData} {m n : Int} {p q : Bool}

/-! ### names and constants -/
theorem ed_var {z : Str} (k : Nat) (h : G.c[k]? = some (some (.d x))) (hN : X.N[k]? = some z := by rfl) (hv : Vis X.env.scope z := by first | exact Or.inl rfl | exact Or.inr (Or.inl rfl) | exact Or.inr (Or.inr rfl)) (hd : (z == ("__debug__" : Str)) = false := by decide)
    (hcd : (z == ("__classdict__" : Str)) = false := by decide) : ED X G (.Name z pos) x := ⟨fun σ S H k' Q q => by
  obtain ⟨s, h1, w, h2, h3⟩ := k'.sl.get h
  refine wE_of (pv k hN hv hd hcd) ⟨w, ?_, q w S H k'.gr h3⟩
  rw [h1, h2]⟩
/-- an owned list, read -/
theorem el_own {z : Str} {l : Addr} (k : Nat) (h : G.c[k]? = some (some (.v (.ref l)))) (ho : (l, Ow.lst ds) ∈ G.o) (hN : X.N[k]? = some z := by rfl) (hv : Vis X.env.scope z := by first | exact Or.inl rfl | exact Or.inr (Or.inl rfl) | exact Or.inr (Or.inr rfl)) (hd : (z == ("__debug__" : Str)) = false := by decide)
    (hcd : (z == ("__classdict__" : Str)) = false := by decide) : EL X G (.Name z pos) ds := ⟨fun σ S H k' Q q => by
  obtain ⟨s, h1, h2⟩ := k'.sl.get h
  obtain ⟨vs, h3, h4⟩ := (k'.ow _ ho).2
  refine wE_of (pv k hN hv hd hcd) ⟨.ref l, ?_, q l vs S H k'.gr h3 h4⟩
  rw [h1, h2]⟩
theorem ed_int {j} : ED X G (.Constant (.int m) j pos) (.int m) := ⟨fun σ S H k Q q => wE_of pe_int (q _ S H k.gr (.int m))⟩
theorem ed_bl {t : Bool} {j} : ED X G (.Constant (.bool t) j pos) (.bool t) := ⟨fun σ S H k Q q => wE_of pe_bl (q _ S H k.gr (.bl t))⟩
theorem ed_non {j} : ED X G (.Constant .none j pos) .none := ⟨fun σ S H k Q q => wE_of pe_non (q _ S H k.gr .non)⟩
theorem ed_str {z} {j} : ED X G (.Constant (.str z) j pos) (.str z) := ⟨fun σ S H k Q q => wE_of pe_str (q _ S H k.gr (.str z))⟩
theorem ed_glob {z : Str} {t : Tok} (hm : X.mg z = some (.int m t)) (hg : Gl X z := by rfl) (hd : (z == ("__debug__" : Str)) = false := by decide) : ED X G (.Name z pos) (.int m) := ⟨fun σ S H k Q q =>
  wE_of (pe_glob (v := .int m) hg hm ⟨t, rfl⟩ hd) (q _ S H k.gr (.int m))⟩

/-! ### two operands -/
theorem ed_bin {f : Expr} {r : R2} {z : PyData} (he : PE X f (tOp r (wE X a) (wE X b))) (ha : ED X G a x) (hb : ED X G b y)
    (hr : ∀ v u S H, Same S H → Rp X.K S v x → Rp X.K S u y → ∀ Q : VK, (∀ w S' H', Gr S H S' H' → Rp X.K S' w z → Q w H') → r v u H Q) : ED X G f z := ⟨fun σ S H k Q q =>
  wE_of he (ha σ S H k _ fun v S1 H1 g1 r1 => hb σ S1 H1 (k.mono g1) _ fun u S2 H2 g2 r2 => hr v u S2 H2 g2.sh (r1.mono g2.s) r2 Q fun w S3 H3 g3 r3 => q w S3 H3 ((g1.trans g2).trans g3) r3)⟩
theorem rI_ok {C : Int → Int → Prop} {g : Int → Int → Int} (h : C m n) {v u : V} {S H : Hp} (sh : Same S H) (r1 : Rp X.K S v (.int m)) (r2 : Rp X.K S u (.int n)) {Q : VK} (q : ∀ w S' H', Gr S H S' H' → Rp X.K S' w (.int (g m n)) → Q w H') :
    rI C (fun i j => .int (g i j)) v u H Q := by
  cases r1
  cases r2
  exact ⟨m, n, rfl, rfl, h, q _ S H (Gr.refl sh) (.int _)⟩
theorem rI0_ok {g : Int → Int → Int} {v u : V} {S H : Hp} (sh : Same S H) (r1 : Rp X.K S v (.int m)) (r2 : Rp X.K S u (.int n)) {Q : VK} (q : ∀ w S' H', Gr S H S' H' → Rp X.K S' w (.int (g m n)) → Q w H') :
    rI0 (fun i j => .int (g i j)) v u H Q := by
  cases r1
  cases r2
  exact ⟨m, n, rfl, rfl, q _ S H (Gr.refl sh) (.int _)⟩
theorem ed_add (ha : ED X G a (.int m)) (hb : ED X G b (.int n)) : ED X G (.BinOp a .Add b pos) (.int (m + n)) := ed_bin (pe_op op_add pe_w pe_w) ha hb fun _ _ _ _ sh r1 r2 _ q => rI0_ok sh r1 r2 q
theorem ed_sub (ha : ED X G a (.int m)) (hb : ED X G b (.int n)) : ED X G (.BinOp a .Sub b pos) (.int (m - n)) := ed_bin (pe_op op_sub pe_w pe_w) ha hb fun _ _ _ _ sh r1 r2 _ q => rI0_ok sh r1 r2 q
theorem ed_mul (ha : ED X G a (.int m)) (hb : ED X G b (.int n)) (h : CMulW m n) : ED X G (.BinOp a .Mult b pos) (.int (m * n)) := ed_bin (pe_op op_mulW pe_w pe_w) ha hb fun _ _ _ _ sh r1 r2 _ q => rI_ok h sh r1 r2 q
theorem ed_fdiv (ha : ED X G a (.int m)) (hb : ED X G b (.int n)) (h : CDiv m n) : ED X G (.BinOp a .FloorDiv b pos) (.int (m / n)) := ed_bin (pe_op op_fdiv pe_w pe_w) ha hb fun _ _ _ _ sh r1 r2 _ q => rI_ok h sh r1 r2 q
theorem ed_mod (ha : ED X G a (.int m)) (hb : ED X G b (.int n)) (h : 0 < n) : ED X G (.BinOp a .Mod b pos) (.int (m % n)) := ed_bin (pe_op op_mod pe_w pe_w) ha hb fun _ _ _ _ sh r1 r2 _ q => rI_ok (C := fun _ j => 0 < j) (g := fun i j => i % j) h sh r1 r2 q
theorem ed_pow (ha : ED X G a (.int m)) (hb : ED X G b (.int n)) (h : CPow m n) : ED X G (.BinOp a .Pow b pos) (.int (m ^ n.toNat)) := ed_bin (pe_op op_pow pe_w pe_w) ha hb fun _ _ _ _ sh r1 r2 _ q => rI_ok h sh r1 r2 q
theorem ed_neg (ha : ED X G a (.int m)) : ED X G (.UnaryOp .USub a pos) (.int (-m)) := ⟨fun σ S H k Q q =>
  wE_of (pe_un un_neg pe_w) (ha σ S H k _ fun v S1 H1 g1 r1 => by
    cases r1
    exact ⟨m, rfl, q _ S1 H1 g1 (.int _)⟩)⟩

/-! ### comparisons, by values -/
def CD (X : Cx) (op : CmpOp) (x y : PyData) (p : Bool) : Prop := ∃ r : R2, OpR X (compareOp op) r ∧ ∀ v u S H, Same S H → Rp X.K S v x → Rp X.K S u y → ∀ Q : VK, Q (.bl p) H → r v u H Q
theorem cd_I0 {op : CmpOp} {g : Int → Int → Bool} (h : OpR X (compareOp op) (rI0 fun i j => .bl (g i j))) : CD X op (.int m) (.int n) (g m n) := ⟨_, h, fun v u S H sh r1 r2 Q q => by
  cases r1
  cases r2
  exact ⟨m, n, rfl, rfl, q⟩⟩
theorem cd_lt : CD X .Lt (.int m) (.int n) (decide (m < n)) := cd_I0 op_lt
theorem cd_le : CD X .LtE (.int m) (.int n) (decide (m ≤ n)) := cd_I0 op_le
theorem cd_gt : CD X .Gt (.int m) (.int n) (decide (n < m)) := cd_I0 op_gt
theorem cd_ge : CD X .GtE (.int m) (.int n) (decide (n ≤ m)) := cd_I0 op_ge
theorem cd_eqI : CD X .Eq (.int m) (.int n) (decide (m = n)) := ⟨_, op_eq, fun v u S H sh r1 r2 Q q => by
  cases r1
  cases r2
  exact ⟨rfl, by rw [show decide (V.int m = V.int n) = decide (m = n) from by rw [dec_int, Bool.beq_eq_decide_eq]]; exact q⟩⟩
theorem cd_neI : CD X .NotEq (.int m) (.int n) (!decide (m = n)) := ⟨_, op_ne, fun v u S H sh r1 r2 Q q => by
  cases r1
  cases r2
  exact ⟨rfl, by rw [show decide (V.int m = V.int n) = decide (m = n) from by rw [dec_int, Bool.beq_eq_decide_eq]]; exact q⟩⟩
theorem cd_eqB : CD X .Eq (.bool p) (.bool q) (p == q) := ⟨_, op_eq, fun v u S H sh r1 r2 Q q' => by
  cases r1
  cases r2
  exact ⟨rfl, by rw [dec_bl]; exact q'⟩⟩
theorem cd_neB : CD X .NotEq (.bool p) (.bool q) (p != q) := ⟨_, op_ne, fun v u S H sh r1 r2 Q q' => by
  cases r1
  cases r2
  exact ⟨rfl, by rw [dec_bl]; exact q'⟩⟩
theorem cd_eqS {z w : Str} : CD X .Eq (.str z) (.str w) (z == w) := ⟨_, op_eq, fun v u S H sh r1 r2 Q q' => by
  cases r1
  cases r2
  exact ⟨rfl, by rw [dec_str]; exact q'⟩⟩
theorem cd_neS {z w : Str} : CD X .NotEq (.str z) (.str w) (z != w) := ⟨_, op_ne, fun v u S H sh r1 r2 Q q' => by
  cases r1
  cases r2
  exact ⟨rfl, by rw [dec_str]; exact q'⟩⟩
theorem cd_isB : CD X .Is (.bool p) (.bool q) (decide (p = q)) := ⟨_, op_is_bl, fun v u S H sh r1 r2 Q q' => by
  cases r1
  cases r2
  exact ⟨p, q, rfl, rfl, q'⟩⟩
theorem cd_notB : CD X .IsNot (.bool p) (.bool q) (!decide (p = q)) := ⟨_, op_isnot_bl, fun v u S H sh r1 r2 Q q' => by
  cases r1
  cases r2
  exact ⟨p, q, rfl, rfl, q'⟩⟩
theorem ed_cmp {op : CmpOp} (ha : ED X G a x) (hb : ED X G b y) (hc : CD X op x y p) (hm : behindInMarks op b = false := by first | exact nomark _ | rfl) : ED X G (.Compare a [op] [b] pos) (.bool p) := by
  obtain ⟨r, ho, hr⟩ := hc
  exact ed_bin (pe_cmpR ho pe_w pe_w hm) ha hb fun v u S H sh r1 r2 Q q => hr v u S H sh r1 r2 Q (q _ S H (Gr.refl sh) (.bl p))
theorem et_cmp {op : CmpOp} (ha : ED X G a x) (hb : ED X G b y) (hc : CD X op x y p) (hm : behindInMarks op b = false := by first | exact nomark _ | rfl) : ET X G (.Compare a [op] [b] pos) p := by
  obtain ⟨r, ho, hr⟩ := hc
  exact ⟨fun σ S H k Q q => wT_of (pt_cmpR ho pe_w pe_w hm) (ha σ S H k _ fun v S1 H1 g1 r1 => hb σ S1 H1 (k.mono g1) _ fun u S2 H2 g2 r2 => hr v u S2 H2 g2.sh (r1.mono g2.s) r2 _ ⟨p, rfl, q S2 H2 (g1.trans g2)⟩)⟩
theorem ed_chain {o1 o2 : CmpOp} {z : PyData} (ha : ED X G a x) (hb : ED X G b y) (hc : ED X G c z) (h1 : CD X o1 x y p) (h2 : CD X o2 y z q) (hm : lastMarks [o1, o2] [b, c] = false := by with_unfolding_all rfl) : ED X G (.Compare a [o1, o2] [b, c] pos) (.bool (p && q)) := by
  obtain ⟨r, ho, hr⟩ := h1
  obtain ⟨r', ho', hr'⟩ := h2
  refine ⟨fun σ S H k Q k' => wE_of (pe_chain ho ho' pe_w pe_w pe_w hm) (ha σ S H k _ fun v S1 H1 g1 r1 => hb σ S1 H1 (k.mono g1) _ fun u S2 H2 g2 r2 => hr v u S2 H2 g2.sh (r1.mono g2.s) r2 _ ⟨p, rfl, ?_⟩)⟩
  cases p with
  | true => exact iteT (hc σ S2 H2 (k.mono (g1.trans g2)) _ fun w S3 H3 g3 r3 => hr' u w S3 H3 g3.sh (r2.mono g3.s) r3 _ (k' _ S3 H3 ((g1.trans g2).trans g3) (.bl q)))
  | false => exact iteF (k' _ S2 H2 (g1.trans g2) (.bl false))
theorem et_chain {o1 o2 : CmpOp} {z : PyData} (ha : ED X G a x) (hb : ED X G b y) (hc : ED X G c z) (h1 : CD X o1 x y p) (h2 : CD X o2 y z q) (hm : lastMarks [o1, o2] [b, c] = false := by with_unfolding_all rfl) : ET X G (.Compare a [o1, o2] [b, c] pos) (p && q) := by
  obtain ⟨r, ho, hr⟩ := h1
  obtain ⟨r', ho', hr'⟩ := h2
  refine ⟨fun σ S H k Q k' => wT_of (pt_chain ho ho' pe_w pe_w pe_w hm) (ha σ S H k _ fun v S1 H1 g1 r1 => hb σ S1 H1 (k.mono g1) _ fun u S2 H2 g2 r2 => hr v u S2 H2 g2.sh (r1.mono g2.s) r2 _ ⟨p, rfl, ?_⟩)⟩
  cases p with
  | true => exact iteT (hc σ S2 H2 (k.mono (g1.trans g2)) _ fun w S3 H3 g3 r3 => hr' u w S3 H3 g3.sh (r2.mono g3.s) r3 _ ⟨q, rfl, k' S3 H3 ((g1.trans g2).trans g3)⟩)
  | false => exact iteF ⟨false, rfl, k' S2 H2 (g1.trans g2)⟩

/-! ### and, or, not -/
theorem ed_one {op} (h : ED X G a x) : ED X G (.BoolOp op [a] pos) x := ⟨fun σ S H k Q q => wE_of (pe_one pe_w) (h σ S H k Q q)⟩
theorem ed_and (ha : ED X G a (.bool p)) (hb : p = true → ED X G (.BoolOp .And (b :: rest) pos) (.bool q)) : ED X G (.BoolOp .And (a :: b :: rest) pos) (.bool (p && q)) := ⟨fun σ S H k Q k' =>
  wE_of (pe_and pe_w pe_w) (ha σ S H k _ fun v S1 H1 g1 r1 => by
    cases r1
    refine ⟨p, rfl, ?_⟩
    cases p with
    | true => exact iteT (hb rfl σ S1 H1 (k.mono g1) Q fun w S2 H2 g2 r2 => k' w S2 H2 (g1.trans g2) r2)
    | false => exact iteF (k' _ S1 H1 g1 (.bl false)))⟩
theorem ed_or (ha : ED X G a (.bool p)) (hb : p = false → ED X G (.BoolOp .Or (b :: rest) pos) (.bool q)) : ED X G (.BoolOp .Or (a :: b :: rest) pos) (.bool (p || q)) := ⟨fun σ S H k Q k' =>
  wE_of (pe_or pe_w pe_w) (ha σ S H k _ fun v S1 H1 g1 r1 => by
    cases r1
    refine ⟨p, rfl, ?_⟩
    cases p with
    | false => exact iteF (hb rfl σ S1 H1 (k.mono g1) Q fun w S2 H2 g2 r2 => k' w S2 H2 (g1.trans g2) r2)
    | true => exact iteT (k' _ S1 H1 g1 (.bl true)))⟩
theorem ed_not (ha : ED X G a (.bool p)) : ED X G (.UnaryOp .Not a pos) (.bool (!p)) := ⟨fun σ S H k Q k' =>
  wE_of (pe_not pe_w) (ha σ S H k _ fun v S1 H1 g1 r1 => by
    cases r1
    exact ⟨p, rfl, k' _ S1 H1 g1 (.bl _)⟩)⟩
theorem ew_and1 (h : ET X G a p) : EW X G (.BoolOp .And [a] pos) p := ⟨fun σ S H k Q q => wW_of (pw_and1 pt_w) (h σ S H k Q q)⟩
theorem ew_or1 (h : ET X G a p) : EW X G (.BoolOp .Or [a] pos) p := ⟨fun σ S H k Q q => wW_of (pw_or1 pt_w) (h σ S H k Q q)⟩
theorem ew_and (ha : ET X G a p) (hb : p = true → EW X G (.BoolOp .And (b :: rest) pos) q) : EW X G (.BoolOp .And (a :: b :: rest) pos) (p && q) := ⟨fun σ S H k Q k' =>
  wW_of (pw_and pt_w pw_w) (ha σ S H k _ fun S1 H1 g1 => by
    cases p with
    | true => exact iteT (hb rfl σ S1 H1 (k.mono g1) Q fun S2 H2 g2 => k' S2 H2 (g1.trans g2))
    | false => exact iteF (k' S1 H1 g1))⟩
theorem ew_or (ha : ET X G a p) (hb : p = false → EW X G (.BoolOp .Or (b :: rest) pos) q) : EW X G (.BoolOp .Or (a :: b :: rest) pos) (p || q) := ⟨fun σ S H k Q k' =>
  wW_of (pw_or pt_w pw_w) (ha σ S H k _ fun S1 H1 g1 => by
    cases p with
    | false => exact iteF (hb rfl σ S1 H1 (k.mono g1) Q fun S2 H2 g2 => k' S2 H2 (g1.trans g2))
    | true => exact iteT (k' S1 H1 g1))⟩
theorem EW.et (h : EW X G e p) : ET X G e p := ⟨fun σ S H k Q q => wT_of (PW.pt pw_w) (h σ S H k Q q)⟩
theorem et_not (ha : ET X G a p) : ET X G (.UnaryOp .Not a pos) (!p) := ⟨fun σ S H k Q k' => wT_of (pt_not pt_w) (ha σ S H k _ fun S1 H1 g1 => k' S1 H1 g1)⟩
theorem et_val (h : ED X G e (.bool p)) (he : ∀ whole, isTrue e X.env whole = (do let v ← whole; standAt e.pos; holding [v] (truthy v)) := by intro _; rfl) : ET X G e p := ⟨fun σ S H k Q q =>
  wT_of (pt_val pe_w he) (h σ S H k _ fun v S1 H1 g1 r1 => by
    cases r1
    exact ⟨p, rfl, q S1 H1 g1⟩)⟩
theorem ed_ifExp {t : Bool} (hc : ET X G c t) (ha : t = true → ED X G a x) (hb : t = false → ED X G b x) : ED X G (.IfExp c a b pos) x := ⟨fun σ S H k Q q =>
  wE_of (pe_ifExp pt_w pe_w pe_w) (hc σ S H k _ fun S1 H1 g1 => by
    cases t with
    | true => exact iteT (ha rfl σ S1 H1 (k.mono g1) Q fun v S2 H2 g2 r2 => q v S2 H2 (g1.trans g2) r2)
    | false => exact iteF (hb rfl σ S1 H1 (k.mono g1) Q fun v S2 H2 g2 r2 => q v S2 H2 (g1.trans g2) r2))⟩

/-! ### places -/
theorem ed_ixT (ha : ED X G e (.tuple ds)) (hb : ED X G i (.int m)) (h : atI ds m = some x) (hs : PlainIx i := by exact fun _ _ => rfl) : ED X G (.Subscript e i pos) x := ed_bin (pe_ix ix_tup pe_w pe_w hs) ha hb fun v u S H sh r1 r2 Q q => by
  cases r1 with
  | tup h1 h2 =>
    cases r2
    obtain ⟨j, e1, e2, e3, e4⟩ := atI_get h
    obtain ⟨w, e5, e6⟩ := h2.get e2
    refine ⟨_, _, m, w, rfl, rfl, SqT.of (sh _ _ h1), ?_, q w S H (Gr.refl sh) e6⟩
    unfold atI at h ⊢
    rw [h2.length]
    cases z : ixN ds.length m with
    | none => rw [z] at h; cases h
    | some j' =>
      rw [z] at h
      obtain ⟨w', e7, e8⟩ := h2.get h
      have q1 := ixN_seq z
      have : j' = j := Option.some.inj (q1.1.symm.trans e1)
      subst this
      exact e5
theorem el_bin {f : Expr} {r : R2} {z : PyData} (he : PE X f (tOp r (wE X a) (wE X b))) (ha : EL X G a ds) (hb : ED X G b y)
    (hr : ∀ l vs u S H, Same S H → H l = some (.lst vs) → RpA X.K S vs ds → Rp X.K S u y → ∀ Q : VK, (∀ w S' H', Gr S H S' H' → Rp X.K S' w z → Q w H') → r (.ref l) u H Q) : ED X G f z := ⟨fun σ S H k Q q =>
  wE_of he (ha σ S H k _ fun l vs S1 H1 g1 h1 r1 => hb σ S1 H1 (k.mono g1) _ fun u S2 H2 g2 r2 => hr l vs u S2 H2 g2.sh (g2.h _ _ h1) (r1.mono g2.s) r2 Q fun w S3 H3 g3 r3 => q w S3 H3 ((g1.trans g2).trans g3) r3)⟩
theorem atI_rp {K : Fg} {S : Hp} {vs : List V} (r : RpA K S vs ds) (h : atI ds m = some x) : ∃ w, atI vs m = some w ∧ Rp K S w x := by
  unfold atI at h ⊢
  rw [r.length]
  cases z : ixN ds.length m with
  | none => rw [z] at h; cases h
  | some j =>
    rw [z] at h
    exact r.get h
theorem ed_ixL (ha : EL X G e ds) (hb : ED X G i (.int m)) (h : atI ds m = some x) (hs : PlainIx i := by exact fun _ _ => rfl) : ED X G (.Subscript e i pos) x := el_bin (pe_ix ix_list pe_w pe_w hs) ha hb fun l vs u S H sh h1 h2 r2 Q q => by
  cases r2
  obtain ⟨w, e1, e2⟩ := atI_rp h2 h
  exact ⟨l, vs, m, w, rfl, rfl, SqL.of h1, e1, q w S H (Gr.refl sh) e2⟩
/-- an item of a list of like things -/
theorem ed_ix {α : Type} [Inhabited α] {f : α → PyData} {xs : List α} (ha : EL X G e (xs.map f)) (hb : ED X G i (.int m)) (h : -(xs.length : Int) ≤ m ∧ m < xs.length) (hs : PlainIx i := by exact fun _ _ => rfl) : ED X G (.Subscript e i pos) (f (gz xs m)) :=
  ed_ixL ha hb (by rw [atI_map, gz_at h]; rfl) hs
/-- the script's -/
theorem ed_ixS {ns : List Int} (ha : ED X G e (dScr ns)) (hb : ED X G i (.int m)) (h : -(ns.length : Int) ≤ m ∧ m < ns.length) (hs : PlainIx i := by exact fun _ _ => rfl) : ED X G (.Subscript e i pos) (.int (gz ns m)) := ed_bin (pe_ix ix_list pe_w pe_w hs) ha hb fun v u S H sh r1 r2 Q q => by
  have go : ∀ l, SqL X.K S l (ns.map V.int) → rIxL X.K (.ref l) u H Q := fun l hl => by
    cases r2
    exact ⟨l, _, m, .int (gz ns m), rfl, rfl, sh.seq hl, by rw [atI_map, gz_at h]; rfl, q _ S H (Gr.refl sh) (.int _)⟩
  generalize hz : dScr ns = z at r1
  cases r1 with
  | scr h1 =>
    have e1 := congrArg (fun d => match d with | PyData.dict [(_, PyData.list l)] => l | _ => []) hz
    have e2 : ns = _ := List.map_inj_right (fun a b h => PyData.int.inj h) |>.mp e1
    subst e2
    exact go _ h1
  | dic h1 h2 => 
    cases h2 <;> cases hz
  | _ => cases hz
theorem ed_lenS {ns : List Int} {q1 : Pos} (ha : ED X G e (dScr ns)) (hm : X.mg "len" = none) (hg : Gl X "len" := by rfl) (he : starEach [e] X.env = (false, eval e X.env) :: starEach [] X.env := by rfl) : ED X G (.Call (.Name "len" q1) [e] [] pos) (.int (ns.length : Int)) := ⟨fun σ S H k Q q =>
  wE_of (pe_callB call_len_seq hg hm PySem.boot_len (pa_cons pe_w pa_nil he) (he := he)) (ha σ S H k _ fun v S1 H1 g1 r1 => by
    have go : ∀ l, SqL X.K S1 l (ns.map V.int) → tNil σ H1 fun xs H2 => ∃ p ys, (V.ref l :: xs) = [V.ref p] ∧ (SqL X.K H2 p ys ∨ SqT X.K H2 p ys) ∧ Q (.int ys.length) H2 := fun l hl => by
      refine ⟨l, _, rfl, .inl (g1.sh.seq hl), ?_⟩
      rw [List.length_map]
      exact q _ S1 H1 g1 (.int _)
    generalize hz : dScr ns = z at r1
    cases r1 with
    | scr h1 =>
      have e1 := congrArg (fun d => match d with | PyData.dict [(_, PyData.list l)] => l | _ => []) hz
      have e2 : ns = _ := List.map_inj_right (fun a b h => PyData.int.inj h) |>.mp e1
      subst e2
      exact go _ h1
    | dic h1 h2 =>
      cases h2 <;> cases hz
    | _ => cases hz)⟩

/-! ### arguments, displays -/
theorem ea_nil : EA X G [] [] := ⟨fun σ S H k Q q => wA_of pa_nil (q _ S H k.gr .nil)⟩
theorem ea_cons {xs : List PyData} (h : ED X G e x) (hr : EA X G es xs) (hs : starEach (e :: es) X.env = (false, eval e X.env) :: starEach es X.env := by rfl) : EA X G (e :: es) (x :: xs) := ⟨fun σ S H k Q q =>
  wA_of (pa_cons pe_w pa_w hs) (h σ S H k _ fun v S1 H1 g1 r1 => hr σ S1 H1 (k.mono g1) _ fun vs S2 H2 g2 r2 => q _ S2 H2 (g1.trans g2) (.cons (r1.mono g2.s) r2))⟩
theorem ed_tup {k1} (h : EA X G es ds) (hl : ds.length ≤ 1000 := by first | decide | exact Nat.le_of_ble_eq_true rfl) : ED X G (.Tuple es k1 pos) (.tuple ds) := ⟨fun σ S H k Q q =>
  wE_of (pe_tup pa_w) (h σ S H k _ fun vs S1 H1 g1 r1 => ⟨by rw [r1.length]; exact Nat.le_of_lt (small1000 hl), fun p hp => q _ _ _ (g1.lay hp) (.tup upd_same (r1.mono (same_new (g1.sh.free hp) _)))⟩)⟩
theorem ef_lst (h : EA X G es ds) (hl : ds.length ≤ 1000 := by first | decide | exact Nat.le_of_ble_eq_true rfl) : EF X G (.List es pos) ds := ⟨fun σ S H k Q q =>
  wE_of (pe_lst pa_w) (h σ S H k _ fun vs S1 H1 g1 r1 => ⟨by rw [r1.length]; exact Nat.le_of_lt (small1000 hl), fun p hp => q _ _ _ _ (g1.raw hp) (g1.h.free hp) (g1.sh.free hp) upd_same r1⟩)⟩
theorem ef_cat {es : List PyData} (ha : EL X G a ds) (hb : EL X G b es) (hl : ds.length + es.length ≤ 100000) : EF X G (.BinOp a .Add b pos) (ds ++ es) := ⟨fun σ S H k Q q =>
  wE_of (pe_op op_cat pe_w pe_w) (ha σ S H k _ fun l vs S1 H1 g1 h1 r1 => hb σ S1 H1 (k.mono g1) _ fun l2 ws S2 H2 g2 h2 r2 =>
    ⟨l, l2, vs, ws, rfl, rfl, g2.h _ _ h1, h2, by rw [r1.length, r2.length]; exact Nat.le_trans hl (by decide), fun p hp =>
      q _ _ _ _ ((g1.trans g2).raw hp) ((g1.trans g2).h.free hp) (g2.sh.free hp) upd_same ((r1.mono g2.s).append r2)⟩)⟩
/-! ### parts -/
theorem ef_from {p2 : Pos} (ha : EL X G a ds) (hb : ED X G b (.int m)) (h0 : 0 ≤ m) : EF X G (.Subscript a (.Slice (some b) none none p2) pos) (ds.drop m.toNat) := ⟨fun σ S H k Q q =>
  wE_of (pe_slice sl_list pe_w (po_some pe_w) po_none) (ha σ S H k _ fun l vs S1 H1 g1 h1 r1 => hb σ S1 H1 (k.mono g1) _ fun u S2 H2 g2 r2 => by
    cases r2
    refine ⟨m, rfl, l, vs, rfl, SqL.of (g2.h _ _ h1), fun p hp => ?_⟩
    refine q _ _ _ _ ((g1.trans g2).raw hp) ((g1.trans g2).h.free hp) (g2.sh.free hp) upd_same ?_
    obtain ⟨j, rfl⟩ : ∃ j : Nat, m = j := ⟨m.toNat, by omega⟩
    unfold cutV
    rw [show HT.sIx vs.length 0 (some ((j : Nat) : Int)) = min j vs.length from HT.sIx_nat vs.length 0 j, HT.sIx_none]
    have e : (vs.drop (min j vs.length)).take (vs.length - min j vs.length) = vs.drop j := by
      by_cases c : j ≤ vs.length
      · rw [Nat.min_eq_left c]
        exact List.take_of_length_le (by rw [List.length_drop]; exact Nat.le_refl _)
      · rw [Nat.min_eq_right (by omega), List.drop_of_length_le (Nat.le_refl _), List.drop_of_length_le (by omega), List.take_nil]
    rw [e]
    exact (r1.mono g2.s).drop _)⟩
theorem ef_to {p2 : Pos} (ha : EL X G a ds) (hb : ED X G b (.int m)) (h0 : 0 ≤ m) : EF X G (.Subscript a (.Slice none (some b) none p2) pos) (ds.take m.toNat) := ⟨fun σ S H k Q q =>
  wE_of (pe_slice sl_list pe_w po_none (po_some pe_w)) (ha σ S H k _ fun l vs S1 H1 g1 h1 r1 => hb σ S1 H1 (k.mono g1) _ fun u S2 H2 g2 r2 => by
    cases r2
    refine ⟨m, rfl, l, vs, rfl, SqL.of (g2.h _ _ h1), fun p hp => ?_⟩
    refine q _ _ _ _ ((g1.trans g2).raw hp) ((g1.trans g2).h.free hp) (g2.sh.free hp) upd_same ?_
    obtain ⟨j, rfl⟩ : ∃ j : Nat, m = j := ⟨m.toNat, by omega⟩
    unfold cutV
    rw [show HT.sIx vs.length vs.length (some ((j : Nat) : Int)) = min j vs.length from HT.sIx_nat vs.length vs.length j, HT.sIx_none]
    have e : (vs.drop 0).take (min j vs.length - 0) = vs.take j := by
      rw [List.drop_zero, Nat.sub_zero]
      by_cases c : j ≤ vs.length
      · rw [Nat.min_eq_left c]
      · rw [Nat.min_eq_right (by omega), List.take_length, List.take_of_length_le (by omega)]
    rw [e]
    exact (r1.mono g2.s).take _)⟩
theorem ef_rev {k1 : Nat} {p1 p2 p3 : Pos} (ha : EL X G a ds) : EF X G (.Subscript a (.Slice none none (some (.UnaryOp .USub (.Constant (.int 1) k1 p1) p2)) p3) pos) ds.reverse := ⟨fun σ S H k Q q =>
  wE_of (pe_revL pe_w) (ha σ S H k _ fun l vs S1 H1 g1 h1 r1 => ⟨l, vs, rfl, SqL.of h1, fun p hp => q _ _ _ _ (g1.raw hp) (g1.h.free hp) (g1.sh.free hp) upd_same r1.reverse⟩)⟩
end
end DL

set_option Elab.async false
set_option linter.all false
set_option maxRecDepth 100000
set_option maxHeartbeats 4000000
namespace DL
open PySem PySem.Spec PyProof.Rows L2

/-! ### what a def hands back -/
inductive Rs where
  | dat (x : PyData) | new (ds : List PyData) | exc (C : Addr) | nw2 (x : PyData) (ds : List PyData) | nwR (d : List PyData) (ds : List PyData)
def RsOk (K : Fg) (S H S' H' : Hp) (v : V) : Rs → Prop
  | .dat x => Rp K S' v x
  | .new ds => ∃ a vs, v = .ref a ∧ H a = none ∧ S' a = none ∧ H' a = some (.lst vs) ∧ RpA K S' vs ds
  | .exc _ => False
  | .nw2 x ds => ∃ t a vs u, v = .ref t ∧ H a = none ∧ S' a = none ∧ H' a = some (.lst vs) ∧ RpA K S' vs ds ∧ Rp K S' u x ∧ S' t = some (.tup [u, .ref a])
  | .nwR d ds => ∃ a b vs ws, v = .ref a ∧ a ≠ b ∧ H a = none ∧ H b = none ∧ S' a = none ∧ S' b = none ∧ H' a = some (.lst (.ref b :: vs)) ∧ H' b = some (.lst ws) ∧ RpA K S' vs ds ∧ RpA K S' ws d
abbrev Rl := List PyData → Rs → Prop
def spD (K : Fg) (R : Rl) : Sp := fun vs H Q E => ∃ S xs r, Same S H ∧ RpA K S vs xs ∧ R xs r ∧ (∀ v S' H', Gr S H S' H' → RsOk K S H S' H' v r → Q v H') ∧ ∀ C, r = .exc C → ∀ S' H', Gr S H S' H' → E (.ref C) none H'
/-- a def of the text that keeps R -/
structure FD (P : Program) (w : World) (K : Fg) (mg : Str → Option Value) (base : Heap) (cx : CXT) (x : Str) (k : Nat) (R : Rl) : Prop where
  ex : ∃ f fd ps, FnOk P w K mg base cx k f fd ps (spD K R) ∧ mg x = some (.ref f) ∧ PySem.W.keepIn K (.ref f) = true ∧ Binds K fd ps []
theorem FD.mono {P : Program} {w : World} {K : Fg} {mg : Str → Option Value} {base : Heap} {cx : CXT} {x : Str} {j k : Nat} {R : Rl} (F : FD P w K mg base cx x j R) (h : j ≤ k) : FD P w K mg base cx x k R := by
  obtain ⟨f, fd, ps, h1, h2⟩ := F.ex
  exact ⟨f, fd, ps, h1.mono h, h2⟩
abbrev EF0 : XK := fun _ _ _ => False
theorem passF {X : Cx} : Passes (L2.CX X.prog X.w) X EF0 := fun _ _ _ _ _ _ _ h => by
  obtain ⟨_, _, _, _, _, _, _, _, _, _, _, _, q⟩ := h
  exact q.elim

section
variable {X : Cx} {G : Gs} {a b c e i : Expr} {es rest : List Expr} {pos : Pos} {x y : PyData} {ds xs : List PyData} {m n : Int} {p q : Bool}

/-! ### calls of the text's own defs -/
theorem ed_call {z : Str} {q1 : Pos} {cx : CXT} {k : Nat} {R : Rl} (F : FD X.prog X.w X.K X.mg X.base cx z k R) (hr : Room k X.A) (hx : Passes cx X EF0) (ha : EA X G (e :: es) xs) (h : R xs (.dat y)) (hg : Gl X z := by rfl) (hdb : (z == ("__debug__" : Str)) = false := by decide)
    (he : starEach (e :: es) X.env = (false, eval e X.env) :: starEach es X.env := by rfl) (hpl : (backTo pos (starEach es X.env)).any (·.1) = false := by rfl) : ED X G (.Call (.Name z q1) (e :: es) [] pos) y := ⟨fun σ S H k' Q q => by
  obtain ⟨f, fd, ps, h1, h2, h3, h4⟩ := F.ex
  exact wE_of (pe_call h1 hr hg h2 h3 h4 .nil hx pa_w hdb he hpl) (ha σ S H k' _ fun vs S1 H1 g1 r1 => by
    refine ⟨S1, xs, _, g1.sh, by rw [List.append_nil]; exact r1, h, fun v S2 H2 g2 r2 => q v S2 H2 (g1.trans g2) r2, fun C z => by cases z⟩)⟩
theorem ef_call {z : Str} {q1 : Pos} {cx : CXT} {k : Nat} {R : Rl} (F : FD X.prog X.w X.K X.mg X.base cx z k R) (hr : Room k X.A) (hx : Passes cx X EF0) (ha : EA X G (e :: es) xs) (h : R xs (.new ds)) (hg : Gl X z := by rfl) (hdb : (z == ("__debug__" : Str)) = false := by decide)
    (he : starEach (e :: es) X.env = (false, eval e X.env) :: starEach es X.env := by rfl) (hpl : (backTo pos (starEach es X.env)).any (·.1) = false := by rfl) : EF X G (.Call (.Name z q1) (e :: es) [] pos) ds := ⟨fun σ S H k' Q q => by
  obtain ⟨f, fd, ps, h1, h2, h3, h4⟩ := F.ex
  exact wE_of (pe_call h1 hr hg h2 h3 h4 .nil hx pa_w hdb he hpl) (ha σ S H k' _ fun vs S1 H1 g1 r1 => by
    refine ⟨S1, xs, _, g1.sh, by rw [List.append_nil]; exact r1, h, fun v S2 H2 g2 r2 => ?_, fun C z => by cases z⟩
    obtain ⟨l, ws, rfl, n1, n2, e1, e2⟩ := r2
    exact q l ws S2 H2 (g1.trans g2) (g1.h.free n1) n2 e1 e2)⟩

/-! ### built-in calls -/
theorem ed_callB {z : Str} {id : String} {q1 : Pos} {r : List V → Hp → VK → Prop} (hc : CallR X (.builtin id) r) (hm : X.mg z = none) (ha : EA X G (e :: es) xs) (h : ∀ vs S H, Same S H → RpA X.K S vs xs → ∀ Q : VK, (∀ v S' H', Gr S H S' H' → Rp X.K S' v y → Q v H') → r vs H Q)
    (hg : Gl X z := by rfl) (hv : bootBuiltins z = some (.builtin id) := by decide +kernel) (hn : z ≠ "__name__" := by decide) (hdb : (z == ("__debug__" : Str)) = false := by decide)
    (he : starEach (e :: es) X.env = (false, eval e X.env) :: starEach es X.env := by rfl) (hpl : (backTo pos (starEach es X.env)).any (·.1) = false := by rfl) : ED X G (.Call (.Name z q1) (e :: es) [] pos) y := ⟨fun σ S H k' Q q =>
  wE_of (pe_callB hc hg hm hv pa_w hn hdb he hpl) (ha σ S H k' _ fun vs S1 H1 g1 r1 => h vs S1 H1 g1.sh r1 Q fun v S2 H2 g2 r2 => q v S2 H2 (g1.trans g2) r2)⟩
theorem ed_callT {z : Str} {id : String} {q1 : Pos} {r : List V → Hp → VK → Prop} (hc : CallR X (.type id) r) (hm : X.mg z = none) (ha : EA X G (e :: es) xs) (h : ∀ vs S H, Same S H → RpA X.K S vs xs → ∀ Q : VK, (∀ v S' H', Gr S H S' H' → Rp X.K S' v y → Q v H') → r vs H Q)
    (hg : Gl X z := by rfl) (hv : bootBuiltins z = some (.type id) := by decide +kernel) (hn : z ≠ "__name__" := by decide) (hdb : (z == ("__debug__" : Str)) = false := by decide)
    (he : starEach (e :: es) X.env = (false, eval e X.env) :: starEach es X.env := by rfl) (hpl : (backTo pos (starEach es X.env)).any (·.1) = false := by rfl) : ED X G (.Call (.Name z q1) (e :: es) [] pos) y := ⟨fun σ S H k' Q q =>
  wE_of (pe_callTy hc hg hm hv pa_w hn hdb he hpl) (ha σ S H k' _ fun vs S1 H1 g1 r1 => h vs S1 H1 g1.sh r1 Q fun v S2 H2 g2 r2 => q v S2 H2 (g1.trans g2) r2)⟩
theorem rpa1 {K : Fg} {S : Hp} {vs : List V} (r : RpA K S vs [x]) : ∃ v, vs = [v] ∧ Rp K S v x := by
  cases r with
  | cons h t => cases t; exact ⟨_, rfl, h⟩
theorem rpa2 {K : Fg} {S : Hp} {vs : List V} (r : RpA K S vs [x, y]) : ∃ v u, vs = [v, u] ∧ Rp K S v x ∧ Rp K S u y := by
  cases r with
  | cons h t =>
    cases t with
    | cons h' t => cases t; exact ⟨_, _, rfl, h, h'⟩
/-- the argument a list that is read (an owned one too) -/
theorem ed_callL {z : Str} {id : String} {q1 : Pos} {r : List V → Hp → VK → Prop} (hc : CallR X (.builtin id) r) (hm : X.mg z = none) (ha : EL X G e ds) (h : ∀ l vs S H, Same S H → H l = some (.lst vs) → RpA X.K S vs ds → ∀ Q : VK, (∀ v S' H', Gr S H S' H' → Rp X.K S' v y → Q v H') → r [.ref l] H Q)
    (hg : Gl X z := by rfl) (hv : bootBuiltins z = some (.builtin id) := by decide +kernel) (hn : z ≠ "__name__" := by decide) (hdb : (z == ("__debug__" : Str)) = false := by decide)
    (he : starEach [e] X.env = (false, eval e X.env) :: starEach [] X.env := by rfl) (hpl : (backTo pos (starEach [] X.env)).any (·.1) = false := by rfl) : ED X G (.Call (.Name z q1) [e] [] pos) y := ⟨fun σ S H k' Q q =>
  wE_of (pe_callB hc hg hm hv (pa_cons pe_w pa_nil he) hn hdb he hpl) (ha σ S H k' _ fun l vs S1 H1 g1 h1 r1 => h l vs S1 H1 g1.sh h1 r1 Q fun v S2 H2 g2 r2 => q v S2 H2 (g1.trans g2) r2)⟩
theorem ed_len {q1 : Pos} (hm : X.mg "len" = none) (ha : EL X G e ds) (hg : Gl X "len" := by rfl) (he : starEach [e] X.env = (false, eval e X.env) :: starEach [] X.env := by rfl) (hpl : (backTo pos (starEach [] X.env)).any (·.1) = false := by rfl) : ED X G (.Call (.Name "len" q1) [e] [] pos) (.int (ds.length : Int)) :=
  ed_callL call_len_seq hm ha (fun l vs S H sh h1 r1 Q q => ⟨l, vs, rfl, .inl (SqL.of h1), by rw [r1.length]; exact q _ S H (Gr.refl sh) (.int _)⟩) hg PySem.boot_len (by decide) (by decide) he hpl
theorem ed_lenT {q1 : Pos} (hm : X.mg "len" = none) (ha : ED X G e (.tuple ds)) (hg : Gl X "len" := by rfl) (he : starEach [e] X.env = (false, eval e X.env) :: starEach [] X.env := by rfl) (hpl : (backTo pos (starEach [] X.env)).any (·.1) = false := by rfl) : ED X G (.Call (.Name "len" q1) [e] [] pos) (.int (ds.length : Int)) :=
  ed_callB call_len_seq hm (ea_cons ha ea_nil he) (fun vs S H sh r Q q => by
    obtain ⟨v, rfl, r1⟩ := rpa1 r
    cases r1 with
    | tup h1 r1 => exact ⟨_, _, rfl, .inr (SqT.of (sh _ _ h1)), by rw [r1.length]; exact q _ S H (Gr.refl sh) (.int _)⟩) hg PySem.boot_len (by decide) (by decide) he hpl
theorem ed_abs {q1 : Pos} (hm : X.mg "abs" = none) (ha : ED X G e (.int m)) (hg : Gl X "abs" := by rfl) (he : starEach [e] X.env = (false, eval e X.env) :: starEach [] X.env := by rfl) (hpl : (backTo pos (starEach [] X.env)).any (·.1) = false := by rfl) : ED X G (.Call (.Name "abs" q1) [e] [] pos) (.int (m.natAbs : Int)) :=
  ed_callB call_abs hm (ea_cons ha ea_nil he) (fun vs S H sh r Q q => by
    obtain ⟨v, rfl, r1⟩ := rpa1 r
    cases r1
    refine ⟨m, rfl, ?_⟩
    have e1 : (if m < 0 then -m else m) = (m.natAbs : Int) := by split <;> omega
    rw [e1]
    exact q _ S H (Gr.refl sh) (.int _)) hg (by decide +kernel) (by decide) (by decide) he hpl
theorem ed_max2 {q1 : Pos} (hm : X.mg "max" = none) (ha : ED X G a (.int m)) (hb : ED X G b (.int n)) (hc : X.calm = true := by rfl) (hg : Gl X "max" := by rfl) (hs : starEach [b] X.env = (false, eval b X.env) :: starEach [] X.env := by rfl) (he : starEach [a, b] X.env = (false, eval a X.env) :: starEach [b] X.env := by rfl) (hpl : (backTo pos (starEach [b] X.env)).any (·.1) = false := by rfl) : ED X G (.Call (.Name "max" q1) [a, b] [] pos) (.int (max m n)) :=
  ed_callB (call_max2 hc) hm (ea_cons ha (ea_cons hb ea_nil hs) he) (fun vs S H sh r Q q => by
    obtain ⟨v, u, rfl, r1, r2⟩ := rpa2 r
    cases r1
    cases r2
    refine ⟨m, n, rfl, ?_⟩
    have e1 : (if n > m then n else m) = max m n := by split <;> omega
    rw [e1]
    exact q _ S H (Gr.refl sh) (.int _)) hg (by decide +kernel) (by decide) (by decide) he hpl
theorem ed_min2 {q1 : Pos} (hm : X.mg "min" = none) (ha : ED X G a (.int m)) (hb : ED X G b (.int n)) (hc : X.calm = true := by rfl) (hg : Gl X "min" := by rfl) (hs : starEach [b] X.env = (false, eval b X.env) :: starEach [] X.env := by rfl) (he : starEach [a, b] X.env = (false, eval a X.env) :: starEach [b] X.env := by rfl) (hpl : (backTo pos (starEach [b] X.env)).any (·.1) = false := by rfl) : ED X G (.Call (.Name "min" q1) [a, b] [] pos) (.int (min m n)) :=
  ed_callB (call_min2 hc) hm (ea_cons ha (ea_cons hb ea_nil hs) he) (fun vs S H sh r Q q => by
    obtain ⟨v, u, rfl, r1, r2⟩ := rpa2 r
    cases r1
    cases r2
    refine ⟨m, n, rfl, ?_⟩
    have e1 : (if n < m then n else m) = min m n := by split <;> omega
    rw [e1]
    exact q _ S H (Gr.refl sh) (.int _)) hg (by decide +kernel) (by decide) (by decide) he hpl
def b2n (b : Bool) : Int := if b then 1 else 0
theorem ed_intB {q1 : Pos} (hm : X.mg "int" = none) (ha : ED X G e (.bool p)) (hg : Gl X "int" := by rfl) (he : starEach [e] X.env = (false, eval e X.env) :: starEach [] X.env := by rfl) (hpl : (backTo pos (starEach [] X.env)).any (·.1) = false := by rfl) : ED X G (.Call (.Name "int" q1) [e] [] pos) (.int (b2n p)) :=
  ed_callT call_int1 hm (ea_cons ha ea_nil he) (fun vs S H sh r Q q => by
    obtain ⟨v, rfl, r1⟩ := rpa1 r
    cases r1
    exact .inr ⟨p, rfl, q _ S H (Gr.refl sh) (.int _)⟩) hg (by decide +kernel) (by decide) (by decide) he hpl
theorem ed_sum {q1 : Pos} {ns : List Int} (hm : X.mg "sum" = none) (ha : EL X G e (ns.map PyData.int)) (hc : X.calm = true := by rfl) (hg : Gl X "sum" := by rfl) (he : starEach [e] X.env = (false, eval e X.env) :: starEach [] X.env := by rfl) (hpl : (backTo pos (starEach [] X.env)).any (·.1) = false := by rfl) : ED X G (.Call (.Name "sum" q1) [e] [] pos) (.int ns.sum) :=
  ed_callL (cr_sum hc) hm ha (fun l vs S H sh h1 r1 Q q => ⟨l, ns, rfl, by rw [r1.ints] at h1; exact SqL.of h1, q _ S H (Gr.refl sh) (.int _)⟩) hg (by decide +kernel) (by decide) (by decide) he hpl
theorem ed_maxL {q1 : Pos} {ns : List Int} (hm : X.mg "max" = none) (ha : EL X G e (ns.map PyData.int)) (hl : 0 < ns.length) (hM : m ∈ ns ∧ ∀ y ∈ ns, y ≤ m) (hc : X.calm = true := by rfl) (hg : Gl X "max" := by rfl) (he : starEach [e] X.env = (false, eval e X.env) :: starEach [] X.env := by rfl) (hpl : (backTo pos (starEach [] X.env)).any (·.1) = false := by rfl) : ED X G (.Call (.Name "max" q1) [e] [] pos) (.int m) :=
  ed_callL (cr_max hc) hm ha (fun l vs S H sh h1 r1 Q q => ⟨l, ns, rfl, by rw [r1.ints] at h1; exact SqL.of h1, hl, fun m' h1 h2 => by
    have e1 : m' = m := Int.le_antisymm (hM.2 m' h1) (h2 m hM.1)
    rw [e1]
    exact q _ S H (Gr.refl sh) (.int _)⟩) hg (by decide +kernel) (by decide) (by decide) he hpl
theorem ed_minL {q1 : Pos} {ns : List Int} (hm : X.mg "min" = none) (ha : EL X G e (ns.map PyData.int)) (hl : 0 < ns.length) (hM : m ∈ ns ∧ ∀ y ∈ ns, m ≤ y) (hc : X.calm = true := by rfl) (hg : Gl X "min" := by rfl) (he : starEach [e] X.env = (false, eval e X.env) :: starEach [] X.env := by rfl) (hpl : (backTo pos (starEach [] X.env)).any (·.1) = false := by rfl) : ED X G (.Call (.Name "min" q1) [e] [] pos) (.int m) :=
  ed_callL (cr_min hc) hm ha (fun l vs S H sh h1 r1 Q q => ⟨l, ns, rfl, by rw [r1.ints] at h1; exact SqL.of h1, hl, fun m' h1 h2 => by
    have e1 : m' = m := Int.le_antisymm (h2 m hM.1) (hM.2 m' h1)
    rw [e1]
    exact q _ S H (Gr.refl sh) (.int _)⟩) hg (by decide +kernel) (by decide) (by decide) he hpl
theorem ed_all {q1 : Pos} {bs : List Bool} (hm : X.mg "all" = none) (ha : EL X G e (bs.map PyData.bool)) (hc : X.calm = true := by rfl) (hg : Gl X "all" := by rfl) (he : starEach [e] X.env = (false, eval e X.env) :: starEach [] X.env := by rfl) (hpl : (backTo pos (starEach [] X.env)).any (·.1) = false := by rfl) : ED X G (.Call (.Name "all" q1) [e] [] pos) (.bool (bs.all id)) :=
  ed_callL (cr_all hc) hm ha (fun l vs S H sh h1 r1 Q q => ⟨l, bs, rfl, by rw [r1.bools] at h1; exact SqL.of h1, q _ S H (Gr.refl sh) (.bl _)⟩) hg (by decide +kernel) (by decide) (by decide) he hpl
/-- list(e) -/
theorem ef_list {q1 : Pos} (hm : X.mg "list" = none) (ha : EL X G e ds) (hg : Gl X "list" := by rfl) (he : starEach [e] X.env = (false, eval e X.env) :: starEach [] X.env := by rfl) (hpl : (backTo pos (starEach [] X.env)).any (·.1) = false := by rfl) : EF X G (.Call (.Name "list" q1) [e] [] pos) ds := ⟨fun σ S H k' Q q =>
  wE_of (pe_callTy call_list_of hg hm (by decide +kernel) (pa_cons pe_w pa_nil he) (by decide) (by decide) he hpl) (ha σ S H k' _ fun l vs S1 H1 g1 h1 r1 => ⟨l, vs, rfl, .inl (SqL.of h1), fun l2 hl => q _ _ _ _ (g1.raw hl) (g1.h.free hl) (g1.sh.free hl) upd_same r1⟩)⟩
end

/-! ### == at any depth -/
section
variable {K : Fg} {S : Hp}
mutual
theorem Rp.dp : ∀ (d : PyData) (v : V), d.canLay0 = true → Rp K S v d → Dp K S v d
  | .none, _, _, h => by
    cases h
    exact .non
  | .bool b, _, _, h => by
    cases h
    exact .bl b
  | .int i, _, _, h => by
    cases h
    exact .int i
  | .str x, _, _, h => by
    cases h
    exact .str x
  | .list ds, _, p, h => by
    cases h with
    | lst h r => exact .lst (SqL.of h) (RpA.dp ds _ p r)
  | .tuple ds, _, p, h => by
    cases h with
    | tup h r => exact .tup (SqT.of h) (RpA.dp ds _ p r)
  | .dict _, _, p, _ => nomatch p
theorem RpA.dp : ∀ (ds : List PyData) (vs : List V), PyData.canLayAll0 ds = true → RpA K S vs ds → DpAll K S vs ds
  | [], _, _, h => by
    cases h
    exact .nil
  | d :: ds, _, p, h => by
    have p' : d.canLay0 = true ∧ PyData.canLayAll0 ds = true := by simpa [PyData.canLayAll0] using p
    cases h with
    | cons h r => exact .cons (Rp.dp d _ p'.1 h) (RpA.dp ds _ p'.2 r)
end
end
/-- data that == can tell: no dict within, not deep -/
structure Pn (n : Nat) (d : PyData) : Prop where
  lay : d.canLay0 = true
  dep : d.depth ≤ n
structure PnA (n : Nat) (ds : List PyData) : Prop where
  lay : PyData.canLayAll0 ds = true
  dep : PyData.depthAll ds ≤ n
theorem Pn.shaped {n : Nat} {d : PyData} (h : Pn n d) (hn : n ≤ 64 := by decide) : SeqAt.shaped d = true := by
  unfold SeqAt.shaped
  rw [h.lay, decide_eq_true (Nat.le_trans h.dep hn)]
  rfl
theorem pn_int {n : Nat} {i : Int} : Pn n (.int i) := ⟨rfl, Nat.zero_le _⟩
theorem pn_bl {n : Nat} {i : Bool} : Pn n (.bool i) := ⟨rfl, Nat.zero_le _⟩
theorem pn_non {n : Nat} : Pn n .none := ⟨rfl, Nat.zero_le _⟩
theorem pna_nil {n : Nat} : PnA n [] := ⟨rfl, Nat.zero_le _⟩
theorem pna_cons {n : Nat} {d : PyData} {ds : List PyData} (h : Pn n d) (r : PnA n ds) : PnA n (d :: ds) := ⟨by simp [PyData.canLayAll0, h.lay, r.lay], by simp only [PyData.depthAll]; exact Nat.max_le.mpr ⟨h.dep, r.dep⟩⟩
theorem pna_map {α : Type} {f : α → PyData} {n : Nat} (h : ∀ x, Pn n (f x)) : ∀ xs : List α, PnA n (xs.map f)
  | [] => pna_nil
  | x :: xs => pna_cons (h x) (pna_map h xs)
theorem pn_lst {n : Nat} {ds : List PyData} (h : PnA n ds) : Pn (n + 1) (.list ds) := ⟨h.lay, by simp only [PyData.depth]; exact Nat.succ_le_succ h.dep⟩
theorem pn_tup {n : Nat} {ds : List PyData} (h : PnA n ds) : Pn (n + 1) (.tuple ds) := ⟨h.lay, by simp only [PyData.depth]; exact Nat.succ_le_succ h.dep⟩
theorem pn_P (p : P2) : Pn 1 (dP p) := pn_tup (pna_cons pn_int (pna_cons pn_int pna_nil))
theorem pn_T (p : Int × Int × Int) : Pn 1 (dT p) := pn_tup (pna_cons pn_int (pna_cons pn_int (pna_cons pn_int pna_nil)))
theorem pn_Ps (ps : List P2) : Pn 2 (dPs ps) := pn_lst (pna_map pn_P ps)
theorem eqv_P (p q : P2) : PyData.eqv (dP p) (dP q) = decide (p = q) := by
  obtain ⟨a, b⟩ := p
  obtain ⟨c, d⟩ := q
  show (a == c && (b == d && true)) = _
  rw [Bool.and_true, Bool.eq_iff_iff]
  simp
theorem eqv_T (p q : Int × Int × Int) : PyData.eqv (dT p) (dT q) = decide (p = q) := by
  obtain ⟨a, b, e⟩ := p
  obtain ⟨c, d, f⟩ := q
  show (a == c && (b == d && (e == f && true))) = _
  rw [Bool.and_true, Bool.eq_iff_iff]
  simp
theorem eqvAll_map {α : Type} [DecidableEq α] {f : α → PyData} (h : ∀ x y, PyData.eqv (f x) (f y) = decide (x = y)) : ∀ xs ys : List α, PyData.eqvAll (xs.map f) (ys.map f) = decide (xs = ys)
  | [], [] => rfl
  | [], _ :: _ => rfl
  | _ :: _, [] => rfl
  | x :: xs, y :: ys => by
    show (PyData.eqv (f x) (f y) && PyData.eqvAll (xs.map f) (ys.map f)) = _
    rw [h, eqvAll_map h xs ys, Bool.eq_iff_iff]
    simp
theorem eqv_Ps (ps qs : List P2) : PyData.eqv (dPs ps) (dPs qs) = decide (ps = qs) := eqvAll_map eqv_P ps qs
section
variable {X : Cx} {x y : PyData}
theorem cd_eqD {n m : Nat} (hu : X.A.units + 64 < cLine) (px : Pn n x) (py : Pn m y) (hn : n ≤ 64 := by decide) (hm : m ≤ 64 := by decide) : CD X .Eq x y (PyData.eqv x y) := ⟨_, op_eqD hu, fun v u S H sh r1 r2 Q q => ⟨x, y, Rp.dp _ _ px.lay (r1.mono sh), Rp.dp _ _ py.lay (r2.mono sh), px.shaped hn, py.shaped hm, q⟩⟩
theorem cd_neD {n m : Nat} (hu : X.A.units + 64 < cLine) (px : Pn n x) (py : Pn m y) (hn : n ≤ 64 := by decide) (hm : m ≤ 64 := by decide) : CD X .NotEq x y (!PyData.eqv x y) := ⟨_, op_neD hu, fun v u S H sh r1 r2 Q q => ⟨x, y, Rp.dp _ _ px.lay (r1.mono sh), Rp.dp _ _ py.lay (r2.mono sh), px.shaped hn, py.shaped hm, q⟩⟩
theorem rpa_flat {K : Fg} {S : Hp} : ∀ {vs : List V} {ns : List Int}, RpA K S vs (ns.map PyData.int) → vs.all flatV = true
  | _, [], .nil => rfl
  | _, n :: ns, .cons h r => by
    cases h
    rw [List.all_cons, rpa_flat r]
    rfl
theorem inV_ints {m : Int} : ∀ ns : List Int, inV (.int m) (ns.map V.int) = decide (m ∈ ns)
  | [] => rfl
  | n :: ns => by
    have e : inV (.int m) ((n :: ns).map V.int) = (eqV (.int n) (.int m) || inV (.int m) (ns.map V.int)) := rfl
    rw [e, inV_ints ns]
    have e2 : eqV (.int n) (.int m) = decide (n = m) := by first | rfl | simp [eqV]
    rw [e2, Bool.eq_iff_iff]
    simp only [Bool.or_eq_true, decide_eq_true_eq, List.mem_cons]
    exact ⟨fun h => h.elim (fun z => .inl z.symm) .inr, fun h => h.elim (fun z => .inl z.symm) .inr⟩
/-- an int in a list | tuple of ints -/
theorem cd_inL {m : Int} {ns : List Int} {ds : List PyData} (h : ds = ns.map PyData.int) : CD X .In (.int m) (.list ds) (decide (m ∈ ns)) := ⟨_, op_in_seq, fun v u S H sh r1 r2 Q q => by
  subst h
  cases r1
  cases r2 with
  | lst h1 h2 =>
    refine ⟨_, _, rfl, .inl (SqL.of (sh _ _ h1)), rfl, rpa_flat h2, ?_⟩
    rw [h2.ints]
    show Q (.bl (inV (.int m) (ns.map V.int))) H
    rw [inV_ints]
    exact q⟩
theorem cd_inT {m : Int} {ns : List Int} {ds : List PyData} (h : ds = ns.map PyData.int) : CD X .In (.int m) (.tuple ds) (decide (m ∈ ns)) := ⟨_, op_in_seq, fun v u S H sh r1 r2 Q q => by
  subst h
  cases r1
  cases r2 with
  | tup h1 h2 =>
    refine ⟨_, _, rfl, .inr (SqT.of (sh _ _ h1)), rfl, rpa_flat h2, ?_⟩
    rw [h2.ints]
    show Q (.bl (inV (.int m) (ns.map V.int))) H
    rw [inV_ints]
    exact q⟩
theorem cd_niL {m : Int} {ns : List Int} {ds : List PyData} (h : ds = ns.map PyData.int) : CD X .NotIn (.int m) (.list ds) (!decide (m ∈ ns)) := ⟨_, op_notIn_seq, fun v u S H sh r1 r2 Q q => by
  subst h
  cases r1
  cases r2 with
  | lst h1 h2 =>
    refine ⟨_, _, rfl, .inl (SqL.of (sh _ _ h1)), rfl, rpa_flat h2, ?_⟩
    rw [h2.ints]
    show Q (.bl (!inV (.int m) (ns.map V.int))) H
    rw [inV_ints]
    exact q⟩
theorem cd_niT {m : Int} {ns : List Int} {ds : List PyData} (h : ds = ns.map PyData.int) : CD X .NotIn (.int m) (.tuple ds) (!decide (m ∈ ns)) := ⟨_, op_notIn_seq, fun v u S H sh r1 r2 Q q => by
  subst h
  cases r1
  cases r2 with
  | tup h1 h2 =>
    refine ⟨_, _, rfl, .inr (SqT.of (sh _ _ h1)), rfl, rpa_flat h2, ?_⟩
    rw [h2.ints]
    show Q (.bl (!inV (.int m) (ns.map V.int))) H
    rw [inV_ints]
    exact q⟩
end
end DL

set_option Elab.async false
set_option linter.all false
set_option maxRecDepth 100000
set_option maxHeartbeats 4000000
namespace DL
open PySem PySem.Spec PyProof.Rows L2

/-! ### statements -/
structure DE where
  nx : Gs → Prop
  rt : Rs → Prop
  bk : Gs → Prop := fun _ => False
  ct : Gs → Prop := fun _ => False
  ex : Addr → Gs → Prop := fun _ _ => False
  rg : Rs → Gs → Prop := fun _ _ => True
/-- what is owned was not there at the entry -/
def Fo (H0 : Hp) (G : Gs) : Prop := ∀ p ∈ G.o, H0 p.1 = none
def At (K : Fg) (S0 H0 : Hp) (P : Gs → Prop) : L2.St → Hp → Prop := fun σ H => ∃ S G, Gr S0 H0 S H ∧ Ok K S H σ G ∧ Fo H0 G ∧ P G
def conc (K : Fg) (S0 H0 : Hp) (D : DE) : Ends where
  nx := At K S0 H0 D.nx
  rt := fun v H => ∃ S r, Gr S0 H0 S H ∧ RsOk K S0 H0 S H v r ∧ D.rt r ∧ ∃ σ G, Ok K S H σ G ∧ Fo H0 G ∧ D.rg r G
  bk := At K S0 H0 D.bk
  ct := At K S0 H0 D.ct
def ExOk (K : Fg) (S0 H0 : Hp) (E : L2.WX) (D : DE) : Prop := ∀ C G σ S H, D.ex C G → Gr S0 H0 S H → Ok K S H σ G → Fo H0 G → E (.ref C) none σ H
structure SD (X : Cx) (E : L2.WX) (G : Gs) (st : Stmt) (D : DE) : Prop where
  run : ∀ S0 H0, ExOk X.K S0 H0 E D → ∀ σ S H, Gr S0 H0 S H → Ok X.K S H σ G → Fo H0 G → wS X st (conc X.K S0 H0 D) σ H
instance {X : Cx} {E : L2.WX} {G : Gs} {st : Stmt} {D : DE} : CoeFun (SD X E G st D) (fun _ => ∀ S0 H0, ExOk X.K S0 H0 E D → ∀ σ S H, Gr S0 H0 S H → Ok X.K S H σ G → Fo H0 G → wS X st (conc X.K S0 H0 D) σ H) := ⟨SD.run⟩
structure SB (X : Cx) (E : L2.WX) (G : Gs) (st : List Stmt) (D : DE) : Prop where
  run : ∀ S0 H0, ExOk X.K S0 H0 E D → ∀ σ S H, Gr S0 H0 S H → Ok X.K S H σ G → Fo H0 G → wB X st (conc X.K S0 H0 D) σ H
instance {X : Cx} {E : L2.WX} {G : Gs} {st : List Stmt} {D : DE} : CoeFun (SB X E G st D) (fun _ => ∀ S0 H0, ExOk X.K S0 H0 E D → ∀ σ S H, Gr S0 H0 S H → Ok X.K S H σ G → Fo H0 G → wB X st (conc X.K S0 H0 D) σ H) := ⟨SB.run⟩

theorem SP.mono {X : Cx} {pins : List (Addr × Obj)} {D D' : Ends} (h1 : ∀ σ H, D.nx σ H → D'.nx σ H) (h2 : ∀ v H, D.rt v H → D'.rt v H) (h3 : ∀ σ H, D.bk σ H → D'.bk σ H) (h4 : ∀ σ H, D.ct σ H → D'.ct σ H) {f : Flow} {s : Shared} (h : SP X pins D f s) : SP X pins D' f s := by
  cases f with
  | next => obtain ⟨σ, H, I, q⟩ := h; exact ⟨σ, H, I, h1 _ _ q⟩
  | brk => obtain ⟨σ, H, I, q⟩ := h; exact ⟨σ, H, I, h3 _ _ q⟩
  | cont => obtain ⟨σ, H, I, q⟩ := h; exact ⟨σ, H, I, h4 _ _ q⟩
  | ret u => obtain ⟨v, σ, H, I, r, q⟩ := h; exact ⟨v, σ, H, I, r, h2 _ _ q⟩
theorem wS_mono {X : Cx} {st : Stmt} {D D' : Ends} {σ : L2.St} {H : Hp} (h1 : ∀ σ H, D.nx σ H → D'.nx σ H) (h2 : ∀ v H, D.rt v H → D'.rt v H) (h3 : ∀ σ H, D.bk σ H → D'.bk σ H) (h4 : ∀ σ H, D.ct σ H → D'.ct σ H) (h : wS X st D σ H) : wS X st D' σ H :=
  fun pins s I => thn (h pins s I) fun _ _ q => SP.mono h1 h2 h3 h4 q
theorem wB_mono {X : Cx} {st : List Stmt} {D D' : Ends} {σ : L2.St} {H : Hp} (h1 : ∀ σ H, D.nx σ H → D'.nx σ H) (h2 : ∀ v H, D.rt v H → D'.rt v H) (h3 : ∀ σ H, D.bk σ H → D'.bk σ H) (h4 : ∀ σ H, D.ct σ H → D'.ct σ H) (h : wB X st D σ H) : wB X st D' σ H :=
  fun pins s I => thn (h pins s I) fun _ _ q => SP.mono h1 h2 h3 h4 q

section
variable {X : Cx} {E : L2.WX} {G : Gs} {D : DE} {st : Stmt} {rest body els : List Stmt} {a b c e i tg iter : Expr} {es : List Expr} {pos : Pos} {x y : PyData} {ds xs : List PyData} {m n : Int} {p q : Bool}
theorem at_of {K : Fg} {S0 H0 S H : Hp} {σ : L2.St} {P : Gs → Prop} (g : Gr S0 H0 S H) (k : Ok K S H σ G) (f : Fo H0 G) (h : P G) : At K S0 H0 P σ H := ⟨S, G, g, k, f, h⟩

/-! ### blocks -/
theorem sb_nil (h : D.nx G) : SB X E G [] D := ⟨fun S0 H0 _ σ S H g k f => wB_of pss_nil (at_of g k f h)⟩
theorem sb_cons (h : SD X E G st { D with nx := fun G' => SB X E G' rest D }) : SB X E G (st :: rest) D := ⟨fun S0 H0 he σ S H g k f =>
  wB_of (pss_cons ps_w pss_w) (wS_mono (D := conc X.K S0 H0 { D with nx := fun G' => SB X E G' rest D }) (fun σ' H' ⟨S', G', g', k', f', q⟩ => q S0 H0 he σ' S' H' g' k' f') (fun _ _ q => q) (fun _ _ q => q) (fun _ _ q => q) (h S0 H0 he σ S H g k f))⟩
theorem sb_one (h : SD X E G st D) : SB X E G [st] D := ⟨fun S0 H0 he σ S H g k f => wB_of (pss_one ps_w) (h S0 H0 he σ S H g k f)⟩
theorem SB.nox (h : SB X.nox E G body D) : SB X E G body D := ⟨fun S0 H0 he σ S H g k f => wB_of (PSs.nox pss_w) (h S0 H0 he σ S H g k f)⟩
theorem sd_pass (h : D.nx G) : SD X E G (.Pass pos) D := ⟨fun S0 H0 _ σ S H g k f => wS_of ps_pass (at_of g k f h)⟩
theorem sd_break (h : D.bk G) : SD X E G (.Break pos) D := ⟨fun S0 H0 _ σ S H g k f => wS_of ps_break (at_of g k f h)⟩
theorem sd_continue (h : D.ct G) : SD X E G (.Continue pos) D := ⟨fun S0 H0 _ σ S H g k f => wS_of ps_continue (at_of g k f h)⟩

/-! ### assignments -/
theorem sd_set {z : Str} {q1 : Pos} (k : Nat) (h : ED X G e x) (hn : D.nx { G with c := G.c.set k (some (.d x)) }) (hi : X.N[k]? = some z := by rfl) (hN : X.N.Nodup := by assumption) (hx : Loc X.env.scope z := by first | exact Or.inl rfl | exact Or.inr rfl) (hs : swapsWith e (some (.Name z q1)) pos.line X.env = pure false := by rfl) (hf : X.fn z = true ∨ X.env.scope.names.lookup z = some .local := by first | exact .inl rfl | exact .inr rfl | assumption) : SD X E G (.Assign [.Name z q1] e pos) D := ⟨fun S0 H0 _ σ S H g k' f =>
  wS_of (ps_set hN hi hx pe_w hs hf) (h σ S H k' _ fun v S1 H1 g1 r1 => by
    have k1 := k'.mono g1
    exact at_of (G := { G with c := G.c.set k (some (.d x)) }) (g.trans g1) ⟨k1.sh, Sl.set (g := some (.d x)) ⟨v, rfl, r1⟩ k k1.sl, k1.ow, k1.nd⟩ f hn)⟩
/-- name = a new list, owned -/
theorem sd_setO {z : Str} {q1 : Pos} (k : Nat) (h : EF X G e ds) (hn : ∀ l, (∀ p ∈ G.o, p.1 ≠ l) → D.nx { c := G.c.set k (some (.v (.ref l))), o := (l, .lst ds) :: G.o }) (hi : X.N[k]? = some z := by rfl) (hN : X.N.Nodup := by assumption) (hx : Loc X.env.scope z := by first | exact Or.inl rfl | exact Or.inr rfl) (hs : swapsWith e (some (.Name z q1)) pos.line X.env = pure false := by rfl) (hf : X.fn z = true ∨ X.env.scope.names.lookup z = some .local := by first | exact .inl rfl | exact .inr rfl | assumption) : SD X E G (.Assign [.Name z q1] e pos) D := ⟨fun S0 H0 _ σ S H g k' f =>
  wS_of (ps_set hN hi hx pe_w hs hf) (h σ S H k' _ fun l vs S1 H1 g1 n1 n2 e1 r1 => by
    have k1 := k'.mono g1
    have ne : ∀ p ∈ G.o, p.1 ≠ l := fun p hp z => by
      obtain ⟨o, ho⟩ := (k'.ow p hp).2.there
      rw [z, n1] at ho
      cases ho
    refine at_of (g.trans g1) ⟨k1.sh, Sl.set (g := some (.v (.ref l))) rfl k k1.sl, fun p hp => ?_, ?_⟩ (fun p hp => ?_) (hn l ne)
    · rcases List.mem_cons.mp hp with rfl | hp
      · exact ⟨n2, vs, e1, r1⟩
      · exact k1.ow p hp
    · refine List.nodup_cons.mpr ⟨fun hm => ?_, k1.nd⟩
      obtain ⟨p, hp, z⟩ := List.mem_map.mp hm
      exact ne p hp z
    · rcases List.mem_cons.mp hp with rfl | hp
      · exact g.h.free n1
      · exact f p hp)⟩
/-- a, b = x, y -/
theorem sd_par {z w : Str} {px py pt : Pos} {kt k2 pt2} (j k : Nat) (h : EA X G [a, b] [x, y]) (hn : D.nx { G with c := (G.c.set j (some (.d x))).set k (some (.d y)) }) (hi : X.N[j]? = some z := by rfl) (hj : X.N[k]? = some w := by rfl) (hij : j ≠ k := by decide) (hN : X.N.Nodup := by assumption) (hc : X.calm = true := by rfl)
    (hx : X.env.scope.names.lookup z = some .local := by rfl) (hy : X.env.scope.names.lookup w = some .local := by rfl) (hw : swappedStores [.Tuple [.Name z px, .Name w py] kt pt] (.Tuple [a, b] k2 pt2) X.env = pure (some [z, w]) := by rfl)
    (hs : swapsWithSole [.Tuple [.Name z px, .Name w py] kt pt] (.Tuple [a, b] k2 pt2) pos.line X.env = pure false := by rfl) : SD X E G (.Assign [.Tuple [.Name z px, .Name w py] kt pt] (.Tuple [a, b] k2 pt2) pos) D := ⟨fun S0 H0 _ σ S H g k' f =>
  wS_of (ps_par hc hN hi hj hij hx hy pa_w hw hs) (h σ S H k' _ fun vs S1 H1 g1 r1 => by
    obtain ⟨v, u, rfl, r2, r3⟩ := rpa2 r1
    have k1 := k'.mono g1
    exact ⟨v, u, rfl, at_of (G := { G with c := (G.c.set j (some (.d x))).set k (some (.d y)) }) (g.trans g1) ⟨k1.sh, Sl.set (g := some (.d y)) ⟨u, rfl, r3⟩ k (Sl.set (g := some (.d x)) ⟨v, rfl, r2⟩ j k1.sl), k1.ow, k1.nd⟩ f hn⟩)⟩
/-- a, b = a tuple of two -/
theorem sd_unT {z w : Str} {px py pt : Pos} {kt} (j k : Nat) (h : ED X G e (.tuple [x, y])) (hn : D.nx { G with c := (G.c.set j (some (.d x))).set k (some (.d y)) }) (hi : X.N[j]? = some z := by rfl) (hj : X.N[k]? = some w := by rfl) (hN : X.N.Nodup := by assumption) (hc : X.calm = true := by rfl)
    (hx : Loc X.env.scope z := by first | exact Or.inl rfl | exact Or.inr rfl) (hy : Loc X.env.scope w := by first | exact Or.inl rfl | exact Or.inr rfl) (fx : X.fn z = true ∨ X.env.scope.names.lookup z = some .local := by first | exact .inl rfl | exact .inr rfl | assumption) (fy : X.fn w = true ∨ X.env.scope.names.lookup w = some .local := by first | exact .inl rfl | exact .inr rfl | assumption)
    (hs : swapsWithSole [.Tuple [.Name z px, .Name w py] kt pt] e pos.line X.env = pure false := by rfl) (hw : swappedStores [.Tuple [.Name z px, .Name w py] kt pt] e X.env = pure none := by rfl) (h1 : (assignEach [.Tuple [.Name z px, .Name w py] kt pt] X.env).map (·.2) = [assign (.Tuple [.Name z px, .Name w py] kt pt) X.env] := by rfl) (hl : (assignEach [.Name z px, .Name w py] X.env).length = 2 := by rfl) (hst : (assignEach [.Name z px, .Name w py] X.env).findIdx? (·.1) = none := by rfl)
    (hs1 : (assignEach (.Name z px :: [.Name w py]) X.env).map (·.2) = assign (.Name z px) X.env :: (assignEach [.Name w py] X.env).map (·.2) := by rfl) (hs2 : (assignEach (.Name w py :: []) X.env).map (·.2) = assign (.Name w py) X.env :: (assignEach [] X.env).map (·.2) := by rfl) : SD X E G (.Assign [.Tuple [.Name z px, .Name w py] kt pt] e pos) D := ⟨fun S0 H0 _ σ S H g k' f =>
  wS_of (ps_asg pe_w (pg_tup hc (pgs_cons (pg_name hN hi hx fx) (pgs_cons (pg_name hN hj hy fy) pgs_nil hs2) hs1) hl hst) hs hw h1) (h σ S H k' _ fun v S1 H1 g1 r1 => by
    cases r1 with
    | tup e1 r1 =>
      obtain ⟨v, u, rfl, r2, r3⟩ := rpa2 r1
      have k1 := k'.mono g1
      exact ⟨_, [v, u], rfl, SqT.of (g1.sh _ _ e1), rfl, v, [u], rfl, u, [], rfl, rfl, at_of (G := { G with c := (G.c.set j (some (.d x))).set k (some (.d y)) }) (g.trans g1) ⟨k1.sh, Sl.set (g := some (.d y)) ⟨u, rfl, r3⟩ k (Sl.set (g := some (.d x)) ⟨v, rfl, r2⟩ j k1.sl), k1.ow, k1.nd⟩ f hn⟩)⟩

/-! ### return, if, expressions -/
theorem sd_ret (h : ED X G e x) (hr : D.rt (.dat x)) (hg : D.rg (.dat x) G := by first | exact True.intro | assumption) : SD X E G (.Return (some e) pos) D := ⟨fun S0 H0 _ σ S H g k f =>
  wS_of (ps_ret pe_w) (h σ S H k _ fun v S1 H1 g1 r1 => ⟨S1, .dat x, g.trans g1, r1, hr, σ, G, k.mono g1, f, hg⟩)⟩
theorem sd_retF (h : EF X G e ds) (hr : D.rt (.new ds)) (hg : D.rg (.new ds) G := by first | exact True.intro | assumption) : SD X E G (.Return (some e) pos) D := ⟨fun S0 H0 _ σ S H g k f =>
  wS_of (ps_ret pe_w) (h σ S H k _ fun l vs S1 H1 g1 n1 n2 e1 r1 => ⟨S1, .new ds, g.trans g1, ⟨l, vs, rfl, g.h.free n1, n2, e1, r1⟩, hr, σ, G, k.mono g1, f, hg⟩)⟩
/-- return of an owned list -/
theorem sd_retO {z : Str} {q1 : Pos} {l : Addr} (k : Nat) (h : G.c[k]? = some (some (.v (.ref l)))) (ho : (l, Ow.lst ds) ∈ G.o) (hr : D.rt (.new ds)) (hN : X.N[k]? = some z := by rfl) (hv : Vis X.env.scope z := by first | exact Or.inl rfl | exact Or.inr (Or.inl rfl) | exact Or.inr (Or.inr rfl)) (hd : (z == ("__debug__" : Str)) = false := by decide)
    (hcd : (z == ("__classdict__" : Str)) = false := by decide) (hg : D.rg (.new ds) G := by first | exact True.intro | assumption) : SD X E G (.Return (some (.Name z q1)) pos) D := ⟨fun S0 H0 _ σ S H g k' f => by
  obtain ⟨s, h1, h2⟩ := k'.sl.get h
  obtain ⟨n1, vs, h3, h4⟩ := k'.ow _ ho
  refine wS_of (ps_ret (pv k hN hv hd hcd)) ⟨.ref l, ?_, S, .new ds, g, ⟨l, vs, rfl, f _ ho, n1, h3, h4⟩, hr, σ, G, k', f, hg⟩
  rw [h1, h2]⟩
theorem sd_retN (hr : D.rt (.dat .none)) (hg : D.rg (.dat .none) G := by first | exact True.intro | assumption) : SD X E G (.Return none pos) D := ⟨fun S0 H0 _ σ S H g k f => wS_of ps_retN ⟨S, .dat .none, g, .non, hr, σ, G, k, f, hg⟩⟩
theorem sd_if (hc : ET X G c p) (ha : p = true → SB X E G body D) (hb : p = false → SB X E G els D) : SD X E G (.If c body els pos) D := ⟨fun S0 H0 he σ S H g k f =>
  wS_of (ps_if pt_w pss_w pss_w) (hc σ S H k _ fun S1 H1 g1 => by
    cases p with
    | true => exact iteT (ha rfl S0 H0 he σ S1 H1 (g.trans g1) (k.mono g1) f)
    | false => exact iteF (hb rfl S0 H0 he σ S1 H1 (g.trans g1) (k.mono g1) f))⟩
theorem sd_expr (h : ED X G e x) (hn : D.nx G) (hs : swapsWith e none pos.line X.env = pure false := by rfl) : SD X E G (.Expr e pos) D := ⟨fun S0 H0 _ σ S H g k f =>
  wS_of (ps_expr pe_w hs) (h σ S H k _ fun v S1 H1 g1 r1 => at_of (g.trans g1) (k.mono g1) f hn)⟩
theorem SB.frz {ce : List (Option Sv)} {l : Addr} {pre post : List (Addr × Ow)} (k : Nat) (h : SB X E { c := ce.set k (some (.d (.list ds))), o := pre ++ post } body D) (hk : ce[k]? = some (some (.v (.ref l)))) : SB X E { c := ce, o := pre ++ (l, .lst ds) :: post } body D := ⟨fun S0 H0 he σ S H g k' f => by
  obtain ⟨n1, vs, e1, r1⟩ := k'.ow (l, .lst ds) (by simp)
  obtain ⟨s, h1, h2⟩ := k'.sl.get hk
  have hs : s = some (.ref l) := h2
  have nl : ∀ p ∈ pre ++ post, p.1 ≠ l := fun p hp z => by
    have q := k'.nd
    simp only [List.map_append, List.map_cons] at q
    have q2 := List.nodup_append.mp q
    rcases List.mem_append.mp hp with hp | hp
    · exact q2.2.2 p.1 (List.mem_map_of_mem hp) l (by simp) z
    · have q3 := List.nodup_cons.mp q2.2.1
      exact q3.1 (by rw [← z]; exact List.mem_map_of_mem hp)
  have g2 : Gr S0 H0 (upd S l (.lst vs)) H := ⟨g.s.trans (same_new n1 _), g.h, fun b u q => by
    by_cases hb : b = l
    · subst hb
      rw [upd_same] at q
      rw [e1]
      exact q
    · rw [upd_ne hb] at q
      exact g.sh b u q, fun b u e m n => by
    have hb : b ≠ l := fun z => by
      rw [z, f (l, .lst ds) (by simp)] at e
      cases e
    rw [upd_ne hb]
    exact g.new b u e m n⟩
  refine h S0 H0 he σ (upd S l (.lst vs)) H g2 ⟨g2.sh, ?_, fun p hp => ?_, ?_⟩ fun p hp => f p ?_
  · have q := Sl.set (K := X.K) (S := upd S l (.lst vs)) (s := s) (g := some (.d (.list ds))) ⟨.ref l, hs, .lst upd_same (r1.mono (same_new n1 _))⟩ k (k'.sl.mono (same_new n1 (.lst vs)))
    have e2 : σ.set k s = σ := by
      obtain ⟨hl, hk2⟩ := List.getElem?_eq_some_iff.mp h1
      subst hk2
      exact List.set_getElem_self hl
    rw [e2] at q
    exact q
  · have hp' : p ∈ pre ++ (l, Ow.lst ds) :: post := by
      rcases List.mem_append.mp hp with hp | hp
      · exact List.mem_append_left _ hp
      · exact List.mem_append_right _ (List.mem_cons_of_mem _ hp)
    obtain ⟨q1, q2⟩ := k'.ow p hp'
    exact ⟨by rw [upd_ne (nl p hp)]; exact q1, q2.mono (same_new n1 _) (Same.refl H)⟩
  · have q := k'.nd
    simp only [List.map_append, List.map_cons] at q ⊢
    exact (List.nodup_cons.mp (List.perm_middle.nodup_iff.mp q)).2
  · rcases List.mem_append.mp hp with hp | hp
    · exact List.mem_append_left _ hp
    · exact List.mem_append_right _ (List.mem_cons_of_mem _ hp)⟩
end
end DL

set_option Elab.async false
set_option linter.all false
set_option maxRecDepth 100000
set_option maxHeartbeats 4000000
namespace DL
open PySem PySem.Spec PyProof.Rows L2

/-! ### another entry: what is steady by now counts as there -/
def jn (H S : Hp) : Hp := fun a => match H a with | some o => some o | none => S a
section
variable {K : Fg} {S0 H0 S H S' H' : Hp} {G : Gs} {σ : L2.St}
theorem jn_l {a : Addr} {o : HO} (h : H a = some o) : jn H S a = some o := by unfold jn; rw [h]
theorem jn_r {a : Addr} (h : H a = none) : jn H S a = S a := by unfold jn; rw [h]
theorem Gr.rebase (g : Gr S0 H0 S H) : Gr S (jn H0 S) S H :=
  ⟨Same.refl S, fun a o e => by
    cases q : H0 a with
    | none =>
      rw [jn_r q] at e
      exact g.sh a o e
    | some u =>
      rw [jn_l q] at e
      cases e
      exact g.h a _ q, g.sh, fun _ _ _ _ n => n⟩
theorem Gr.unbase (g : Gr S0 H0 S H) (b : Gr S (jn H0 S) S' H') : Gr S0 H0 S' H' :=
  ⟨g.s.trans b.s, fun a o e => b.h a o (jn_l e), b.sh, fun a o e m n => b.new a o (jn_l e) m (g.new a o e m n)⟩
theorem Fo.rebase (f : Fo H0 G) (k : Ok K S H σ G) : Fo (jn H0 S) G := fun p hp => by
  rw [jn_r (f p hp)]
  exact (k.ow p hp).1
theorem Fo.unbase (f : Fo (jn H0 S) G) : Fo H0 G := fun p hp => by
  cases q : H0 p.1 with
  | none => rfl
  | some u =>
    have := f p hp
    rw [jn_l q] at this
    cases this
theorem At.unbase {P : Gs → Prop} (g : Gr S0 H0 S H) {σ' : L2.St} {H' : Hp} (h : At K S (jn H0 S) P σ' H') : At K S0 H0 P σ' H' := by
  obtain ⟨S', G', g', k', f', q⟩ := h
  exact ⟨S', G', g.unbase g', k', f'.unbase, q⟩
theorem ExOk.rebase {E : L2.WX} {D : DE} (g : Gr S0 H0 S H) (h : ExOk K S0 H0 E D) : ExOk K S (jn H0 S) E D := fun C G σ S' H' hc g' k f => h C G σ S' H' hc (g.unbase g') k f.unbase
theorem rsOk_unbase {v : V} {r : Rs} (h : RsOk K S (jn H0 S) S' H' v r) : RsOk K S0 H0 S' H' v r := by
  cases r with
  | dat x => exact h
  | new ds =>
    obtain ⟨l, vs, h1, h2, h3⟩ := h
    refine ⟨l, vs, h1, ?_, h3⟩
    cases q : H0 l with
    | none => rfl
    | some u =>
      rw [jn_l q] at h2
      cases h2
  | exc C => exact h
  | nw2 x ds =>
    obtain ⟨t, l, vs, w, h1, h2, h3⟩ := h
    refine ⟨t, l, vs, w, h1, ?_, h3⟩
    cases q : H0 l with
    | none => rfl
    | some u =>
      rw [jn_l q] at h2
      cases h2
  | nwR d ds =>
    obtain ⟨a, b, vs, ws, h1, h2, h3, h4, h5⟩ := h
    have hn : ∀ c, jn H0 S c = none → H0 c = none := fun c h => by
      cases q : H0 c with
      | none => rfl
      | some u =>
        rw [jn_l q] at h
        cases h
    exact ⟨a, b, vs, ws, h1, h2, hn a h3, hn b h4, h5⟩
end

section
variable {X : Cx} {E : L2.WX} {G : Gs} {D : DE} {st : Stmt} {rest body els : List Stmt} {a b c e i tg iter : Expr} {es : List Expr} {pos : Pos} {x y : PyData} {ds xs : List PyData} {m n : Int} {p q : Bool}

/-! ### for -/
theorem sd_for1 {z : Str} {q1 q2 q3 : Pos} (k : Nat) (P : Nat → Gs → Prop) (hm : X.mg "range" = none) (ha : ED X G a (.int n)) (hb : n < 2 ^ 62) (hb0 : -(2 ^ 62) ≤ n) (h0 : P 0 G)
    (hs : ∀ (i : Nat) (G' : Gs), (i : Int) < n → P i G' → SB X E { G' with c := G'.c.set k (some (.d (.int i))) } body { D with nx := P (i + 1), ct := P (i + 1), bk := D.nx }) (hd : ∀ G', P n.toNat G' → D.nx G')
    (hi : X.N[k]? = some z := by rfl) (hN : X.N.Nodup := by assumption) (hx : Loc X.env.scope z := by first | exact Or.inl rfl | exact Or.inr rfl) (hc : X.calm = true := by rfl) (hp : PassesOwn (model X.prog X.w) X.A X.env X.xe := by exact PassesOwn.never) (hg : Gl X "range" := by rfl) (hst : starEach [a] X.env = [(false, eval a X.env)] := by rfl) (hst2 : starEach [a] X.env = (false, eval a X.env) :: starEach [] X.env := by rfl)
    (hf : X.fn z = true ∨ X.env.scope.names.lookup z = some .local := by first | exact .inl rfl | exact .inr rfl | assumption) (hfo : ∀ x, foldedSetIterable (.Call (.Name "range" q1) [a] [] q2) X.env x = pure x := by intro _; rfl) : SD X E G (.For (.Name z q3) (.Call (.Name "range" q1) [a] [] q2) body [] pos) D := ⟨fun S0 H0 he σ S H g k' f =>
  wS_of (ps_for hp hc (pi_range1 hg hm (pa_cons pe_w pa_nil hst2) hst) (pg_name hN hi hx hf) pss_w hfo) (ha σ S H k' _ fun v S1 H1 g1 r1 => by
    cases r1
    refine ⟨n, rfl, hb0, hb, for_range (lo := 0) (n := n.toNat) (fun i => At X.K S0 H0 (P i)) (at_of (g.trans g1) (k'.mono g1) f h0) (fun i σ' H' hlt ⟨S', G', g', k1, f', pp⟩ => ?_) fun σ' H' ⟨S', G', g', k1, f', pp⟩ => ⟨S', G', g', k1, f', hd G' pp⟩⟩
    have hi' : (0 : Int) + (i : Int) = (i : Int) := Int.zero_add _
    rw [hi']
    exact hs i G' (by omega) pp S0 H0 he (σ'.set k (some (.int i))) S' H' g' ⟨k1.sh, Sl.set (g := some (.d (.int i))) ⟨_, rfl, .int _⟩ k k1.sl, k1.ow, k1.nd⟩ f')⟩
theorem sd_for2 {z : Str} {q1 q2 q3 : Pos} (k : Nat) (P : Nat → Gs → Prop) (hm : X.mg "range" = none) (ha : ED X G a (.int m)) (hb' : ED X G b (.int n)) (hb : -(2 ^ 62) ≤ m ∧ m < 2 ^ 62 ∧ -(2 ^ 62) ≤ n ∧ n < 2 ^ 62) (h0 : P 0 G)
    (hs : ∀ (i : Nat) (G' : Gs), m + (i : Int) < n → P i G' → SB X E { G' with c := G'.c.set k (some (.d (.int (m + i)))) } body { D with nx := P (i + 1), ct := P (i + 1), bk := D.nx }) (hd : ∀ G', P (n - m).toNat G' → D.nx G')
    (hi : X.N[k]? = some z := by rfl) (hN : X.N.Nodup := by assumption) (hx : Loc X.env.scope z := by first | exact Or.inl rfl | exact Or.inr rfl) (hc : X.calm = true := by rfl) (hp : PassesOwn (model X.prog X.w) X.A X.env X.xe := by exact PassesOwn.never) (hg : Gl X "range" := by rfl) (hst : starEach [a, b] X.env = [(false, eval a X.env), (false, eval b X.env)] := by rfl) (hst2 : starEach [b] X.env = [(false, eval b X.env)] := by rfl) (hst3 : starEach [a, b] X.env = (false, eval a X.env) :: starEach [b] X.env := by rfl) (hst4 : starEach [b] X.env = (false, eval b X.env) :: starEach [] X.env := by rfl)
    (hf : X.fn z = true ∨ X.env.scope.names.lookup z = some .local := by first | exact .inl rfl | exact .inr rfl | assumption) (hfo : ∀ x, foldedSetIterable (.Call (.Name "range" q1) [a, b] [] q2) X.env x = pure x := by intro _; rfl) : SD X E G (.For (.Name z q3) (.Call (.Name "range" q1) [a, b] [] q2) body [] pos) D := ⟨fun S0 H0 he σ S H g k' f =>
  wS_of (ps_for hp hc (pi_range2 hg hm (pa_cons pe_w (pa_cons pe_w pa_nil hst4) hst3) hst hst2) (pg_name hN hi hx hf) pss_w hfo) (ha σ S H k' _ fun v S1 H1 g1 r1 => hb' σ S1 H1 (k'.mono g1) _ fun u S2 H2 g2 r2 => by
    cases r1
    cases r2
    refine ⟨m, n, rfl, hb, for_range (lo := m) (n := (n - m).toNat) (fun i => At X.K S0 H0 (P i)) (at_of (g.trans (g1.trans g2)) (k'.mono (g1.trans g2)) f h0) (fun i σ' H' hlt ⟨S', G', g', k1, f', pp⟩ => ?_) fun σ' H' ⟨S', G', g', k1, f', pp⟩ => ⟨S', G', g', k1, f', hd G' pp⟩⟩
    exact hs i G' (by omega) pp S0 H0 he (σ'.set k (some (.int (m + i)))) S' H' g' ⟨k1.sh, Sl.set (g := some (.d (.int (m + i)))) ⟨_, rfl, .int _⟩ k k1.sl, k1.ow, k1.nd⟩ f')⟩
/-- over a steady list, any target: gc says what its store makes of the slots -/
theorem sd_forL {g0 : TG} (gc : PyData → Gs → Gs) (P : Nat → Gs → Prop) (hg : PG X tg g0) (hgd : ∀ x ∈ ds, ∀ (σ : L2.St) (S H : Hp) (v : V) (G' : Gs), Ok X.K S H σ G' → Rp X.K S v x → ∀ Q : L2.St → Hp → Prop, (∀ σ', Ok X.K S H σ' (gc x G') → Q σ' H) → g0 v σ H Q) (hgo : ∀ x G', (gc x G').o = G'.o)
    (ha : ED X G iter (.list ds)) (h0 : P 0 G)
    (hs : ∀ (i : Nat) (x : PyData) (G' : Gs), ds[i]? = some x → P i G' → SB X E (gc x G') body { D with nx := P (i + 1), ct := P (i + 1), bk := D.nx }) (hd : ∀ G', P ds.length G' → D.nx G')
    (hc : X.calm = true := by rfl) (hp : PassesOwn (model X.prog X.w) X.A X.env X.xe := by exact PassesOwn.never) (hfo : ∀ x, foldedSetIterable iter X.env x = pure x := by intro _; rfl) : SD X E G (.For tg iter body [] pos) D := ⟨fun S0 H0 he σ S H g k' f =>
  wS_of (ps_for hp hc (pi_list pe_w) hg pss_w hfo) (ha σ S H k' _ fun v S1 H1 g1 r1 => by
    cases r1 with
    | @lst l vs _ e1 r1 =>
      have gg := g.trans g1
      have k1 := k'.mono g1
      refine ⟨l, rfl, ⟨vs, SqL.of (g1.sh _ _ e1)⟩, for_list (K := X.K) (a := l) (xs := vs) (fun i => At X.K S1 (jn H0 S1) (P i)) (at_of gg.rebase k1 (f.rebase k1) h0) (fun i σ' H' _ ⟨S', G', g', k2, f', pp⟩ => SqL.of (g'.sh _ _ (g'.s _ _ e1))) (fun i v' σ' H' hv ⟨S', G', g', k2, f', pp⟩ => ?_) fun σ' H' hz => ?_⟩
      · have hlen := r1.length
        have hi : i < ds.length := by
          rw [← hlen]
          exact (List.getElem?_eq_some_iff.mp hv).1
        obtain ⟨w, e2, r2⟩ := r1.get (List.getElem?_eq_getElem hi)
        rw [hv] at e2
        cases e2
        refine hgd _ (List.getElem_mem hi) σ' S' H' v' G' k2 (r2.mono g'.s) _ fun σ2 k3 => ?_
        have q := hs i _ G' (List.getElem?_eq_getElem hi) pp S1 (jn H0 S1) (ExOk.rebase (D := { D with nx := P (i + 1), ct := P (i + 1), bk := D.nx }) gg he) σ2 S' H' g' k3 (fun p hp => f' p (by rw [← hgo]; exact hp))
        refine wB_mono (D := conc X.K S1 (jn H0 S1) { D with nx := P (i + 1), ct := P (i + 1), bk := D.nx }) (fun _ _ z => z) (fun v H z => ?_) (fun _ _ z => ?_) (fun _ _ z => z) q
        · obtain ⟨S2, r, g2, h1, h2, σ3, G3, k4, f4, h3⟩ := z
          exact ⟨S2, r, gg.unbase g2, rsOk_unbase h1, h2, σ3, G3, k4, f4.unbase, h3⟩
        · exact At.unbase gg z
      · rw [r1.length] at hz
        obtain ⟨S', G', g', k2, f', pp⟩ := At.unbase gg hz
        exact ⟨S', G', g', k2, f', hd G' pp⟩)⟩
theorem sd_forLn {z : Str} {q3 : Pos} (k : Nat) (P : Nat → Gs → Prop) (ha : ED X G iter (.list ds)) (h0 : P 0 G)
    (hs : ∀ (i : Nat) (x : PyData) (G' : Gs), ds[i]? = some x → P i G' → SB X E { G' with c := G'.c.set k (some (.d x)) } body { D with nx := P (i + 1), ct := P (i + 1), bk := D.nx }) (hd : ∀ G', P ds.length G' → D.nx G')
    (hi : X.N[k]? = some z := by rfl) (hN : X.N.Nodup := by assumption) (hx : Loc X.env.scope z := by first | exact Or.inl rfl | exact Or.inr rfl) (hc : X.calm = true := by rfl) (hp : PassesOwn (model X.prog X.w) X.A X.env X.xe := by exact PassesOwn.never)
    (hf : X.fn z = true ∨ X.env.scope.names.lookup z = some .local := by first | exact .inl rfl | exact .inr rfl | assumption) (hfo : ∀ x, foldedSetIterable iter X.env x = pure x := by intro _; rfl) : SD X E G (.For (.Name z q3) iter body [] pos) D :=
  sd_forL (fun x G' => { G' with c := G'.c.set k (some (.d x)) }) P (pg_name hN hi hx hf) (fun x _ σ S H v G' k1 r1 Q q => q _ ⟨k1.sh, Sl.set (g := some (.d x)) ⟨v, rfl, r1⟩ k k1.sl, k1.ow, k1.nd⟩) (fun _ _ => rfl) ha h0 hs hd hc hp hfo
/-- a, b in a list of pairs -/
theorem sd_forL2 {z w : Str} {pz pw pt : Pos} {kt} (j k : Nat) {α : Type} {u v : α → PyData} {zs : List α} (P : Nat → Gs → Prop) (ha : ED X G iter (.list (zs.map fun t => .tuple [u t, v t]))) (h0 : P 0 G)
    (hs : ∀ (i : Nat) (t : α) (G' : Gs), zs[i]? = some t → P i G' → SB X E { G' with c := (G'.c.set j (some (.d (u t)))).set k (some (.d (v t))) } body { D with nx := P (i + 1), ct := P (i + 1), bk := D.nx }) (hd : ∀ G', P zs.length G' → D.nx G')
    (hi : X.N[j]? = some z := by rfl) (hj : X.N[k]? = some w := by rfl) (hN : X.N.Nodup := by assumption) (hx : Loc X.env.scope z := by first | exact Or.inl rfl | exact Or.inr rfl) (hy : Loc X.env.scope w := by first | exact Or.inl rfl | exact Or.inr rfl) (hc : X.calm = true := by rfl) (hp : PassesOwn (model X.prog X.w) X.A X.env X.xe := by exact PassesOwn.never)
    (fx : X.fn z = true ∨ X.env.scope.names.lookup z = some .local := by first | exact .inl rfl | exact .inr rfl | assumption) (fy : X.fn w = true ∨ X.env.scope.names.lookup w = some .local := by first | exact .inl rfl | exact .inr rfl | assumption) (hl : (assignEach [.Name z pz, .Name w pw] X.env).length = 2 := by rfl) (hst : (assignEach [.Name z pz, .Name w pw] X.env).findIdx? (·.1) = none := by rfl)
    (hs1 : (assignEach (.Name z pz :: [.Name w pw]) X.env).map (·.2) = assign (.Name z pz) X.env :: (assignEach [.Name w pw] X.env).map (·.2) := by rfl) (hs2 : (assignEach (.Name w pw :: []) X.env).map (·.2) = assign (.Name w pw) X.env :: (assignEach [] X.env).map (·.2) := by rfl)
    (hfo : ∀ x, foldedSetIterable iter X.env x = pure x := by intro _; rfl) : SD X E G (.For (.Tuple [.Name z pz, .Name w pw] kt pt) iter body [] pos) D :=
  sd_forL (g0 := gTup X.K 2 (gCons (gName j) (gCons (gName k) gNil))) (fun x G' => { G' with c := match x with | .tuple [a, b] => (G'.c.set j (some (.d a))).set k (some (.d b)) | _ => G'.c }) P (pg_tup hc (pgs_cons (pg_name hN hi hx fx) (pgs_cons (pg_name hN hj hy fy) pgs_nil hs2) hs1) hl hst)
    (fun x hx' σ S H vv G' k1 r1 Q q => by
      obtain ⟨t, _, rfl⟩ := List.mem_map.mp hx'
      cases r1 with
      | tup e1 r1 =>
        obtain ⟨v1, v2, rfl, r2, r3⟩ := rpa2 r1
        exact ⟨_, [v1, v2], rfl, SqT.of (k1.sh _ _ e1), rfl, v1, [v2], rfl, v2, [], rfl, rfl, q _ ⟨k1.sh, Sl.set (g := some (.d (v t))) ⟨v2, rfl, r3⟩ k (Sl.set (g := some (.d (u t))) ⟨v1, rfl, r2⟩ j k1.sl), k1.ow, k1.nd⟩⟩)
    (fun _ _ => rfl) ha h0 (fun i x G' hx' pp => by
      rw [List.getElem?_map] at hx'
      cases e1 : zs[i]? with
      | none => rw [e1] at hx'; cases hx'
      | some t =>
        rw [e1] at hx'
        cases hx'
        exact hs i t G' e1 pp) (fun G' pp => hd G' (by rw [List.length_map] at pp; exact pp)) hc hp hfo
/-- a, b, c in a list of threes -/
theorem sd_forL3 {z w w3 : Str} {pz pw p3 pt : Pos} {kt} (j k l : Nat) {α : Type} {u v t3 : α → PyData} {zs : List α} (P : Nat → Gs → Prop) (ha : ED X G iter (.list (zs.map fun t => .tuple [u t, v t, t3 t]))) (h0 : P 0 G)
    (hs : ∀ (i : Nat) (t : α) (G' : Gs), zs[i]? = some t → P i G' → SB X E { G' with c := ((G'.c.set j (some (.d (u t)))).set k (some (.d (v t)))).set l (some (.d (t3 t))) } body { D with nx := P (i + 1), ct := P (i + 1), bk := D.nx }) (hd : ∀ G', P zs.length G' → D.nx G')
    (hi : X.N[j]? = some z := by rfl) (hj : X.N[k]? = some w := by rfl) (hl3 : X.N[l]? = some w3 := by rfl) (hN : X.N.Nodup := by assumption) (hx : Loc X.env.scope z := by first | exact Or.inl rfl | exact Or.inr rfl) (hy : Loc X.env.scope w := by first | exact Or.inl rfl | exact Or.inr rfl) (hx3 : Loc X.env.scope w3 := by first | exact Or.inl rfl | exact Or.inr rfl) (hc : X.calm = true := by rfl) (hp : PassesOwn (model X.prog X.w) X.A X.env X.xe := by exact PassesOwn.never)
    (fx : X.fn z = true ∨ X.env.scope.names.lookup z = some .local := by first | exact .inl rfl | exact .inr rfl | assumption) (fy : X.fn w = true ∨ X.env.scope.names.lookup w = some .local := by first | exact .inl rfl | exact .inr rfl | assumption) (f3 : X.fn w3 = true ∨ X.env.scope.names.lookup w3 = some .local := by first | exact .inl rfl | exact .inr rfl | assumption) (hl : (assignEach [.Name z pz, .Name w pw, .Name w3 p3] X.env).length = 3 := by rfl) (hst : (assignEach [.Name z pz, .Name w pw, .Name w3 p3] X.env).findIdx? (·.1) = none := by rfl)
    (hs1 : (assignEach (.Name z pz :: [.Name w pw, .Name w3 p3]) X.env).map (·.2) = assign (.Name z pz) X.env :: (assignEach [.Name w pw, .Name w3 p3] X.env).map (·.2) := by rfl) (hs2 : (assignEach (.Name w pw :: [.Name w3 p3]) X.env).map (·.2) = assign (.Name w pw) X.env :: (assignEach [.Name w3 p3] X.env).map (·.2) := by rfl) (hs3 : (assignEach (.Name w3 p3 :: []) X.env).map (·.2) = assign (.Name w3 p3) X.env :: (assignEach [] X.env).map (·.2) := by rfl)
    (hfo : ∀ x, foldedSetIterable iter X.env x = pure x := by intro _; rfl) : SD X E G (.For (.Tuple [.Name z pz, .Name w pw, .Name w3 p3] kt pt) iter body [] pos) D :=
  sd_forL (g0 := gTup X.K 3 (gCons (gName j) (gCons (gName k) (gCons (gName l) gNil)))) (fun x G' => { G' with c := match x with | .tuple [a, b, c] => ((G'.c.set j (some (.d a))).set k (some (.d b))).set l (some (.d c)) | _ => G'.c }) P (pg_tup hc (pgs_cons (pg_name hN hi hx fx) (pgs_cons (pg_name hN hj hy fy) (pgs_cons (pg_name hN hl3 hx3 f3) pgs_nil hs3) hs2) hs1) hl hst)
    (fun x hx' σ S H vv G' k1 r1 Q q => by
      obtain ⟨t, _, rfl⟩ := List.mem_map.mp hx'
      cases r1 with
      | tup e1 r1 =>
        cases r1 with
        | cons r1 r2 =>
          obtain ⟨v2, v3, rfl, r3, r4⟩ := rpa2 r2
          exact ⟨_, [_, v2, v3], rfl, SqT.of (k1.sh _ _ e1), rfl, _, [v2, v3], rfl, v2, [v3], rfl, v3, [], rfl, rfl, q _ ⟨k1.sh, Sl.set (g := some (.d (t3 t))) ⟨v3, rfl, r4⟩ l (Sl.set (g := some (.d (v t))) ⟨v2, rfl, r3⟩ k (Sl.set (g := some (.d (u t))) ⟨_, rfl, r1⟩ j k1.sl)), k1.ow, k1.nd⟩⟩)
    (fun _ _ => rfl) ha h0 (fun i x G' hx' pp => by
      rw [List.getElem?_map] at hx'
      cases e1 : zs[i]? with
      | none => rw [e1] at hx'; cases hx'
      | some t =>
        rw [e1] at hx'
        cases hx'
        exact hs i t G' e1 pp) (fun G' pp => hd G' (by rw [List.length_map] at pp; exact pp)) hc hp hfo
/-- while, by a word and a measure -/
theorem sd_while (P : Gs → Prop) (μ : Gs → Nat) (h0 : P G) (hs : ∀ G', P G' → ∃ p, ET X G' c p ∧ (p = true → SB X E G' body { D with nx := fun G2 => P G2 ∧ μ G2 < μ G', ct := fun G2 => P G2 ∧ μ G2 < μ G', bk := D.nx }) ∧ (p = false → D.nx G'))
    (hp : PassesOwn (model X.prog X.w) X.A X.env X.xe := by exact PassesOwn.never) : SD X E G (.While c body [] pos) D := ⟨fun S0 H0 he σ S H g k' f =>
  wS_of (ps_while hp pt_w pss_w) (by
    refine ⟨fun m σ' H' => At X.K S0 H0 (fun G' => P G' ∧ μ G' = m) σ' H', ⟨μ G, at_of g k' f ⟨h0, rfl⟩⟩, ?_⟩
    rintro m σ' H' ⟨S', G', g', k1, f', pp, rfl⟩
    obtain ⟨p, h1, h2, h3⟩ := hs G' pp
    refine h1 σ' S' H' k1 _ fun S2 H2 g2 => ?_
    cases p with
    | true =>
      refine iteT ⟨At X.K S0 H0 (fun G2 => P G2 ∧ μ G2 < μ G'), fun σ3 H3 ⟨S3, G3, g3, k3, f3, q1, q2⟩ => ⟨μ G3, q2, S3, G3, g3, k3, f3, q1, rfl⟩, ?_⟩
      exact h2 rfl S0 H0 he σ' S2 H2 (g'.trans g2) (k1.mono g2) f'
    | false => exact iteF (at_of (g'.trans g2) (k1.mono g2) f' (h3 rfl)))⟩

/-! ### owned lists change -/
theorem Ok.write {K : Fg} {S H : Hp} {σ : L2.St} {ce : List (Option Sv)} {pre post : List (Addr × Ow)} {l : Addr} {w w' : Ow} {o : HO} (k : Ok K S H σ { c := ce, o := pre ++ (l, w) :: post }) (h : OwOk K S (upd H l o) l w') : Ok K S (upd H l o) σ { c := ce, o := pre ++ (l, w') :: post } := by
  have n1 := (k.ow (l, w) (by simp)).1
  have nl : ∀ p ∈ pre ++ post, p.1 ≠ l := fun p hp z => by
    have q := k.nd
    simp only [List.map_append, List.map_cons] at q
    have q2 := List.nodup_append.mp q
    rcases List.mem_append.mp hp with hp | hp
    · exact q2.2.2 p.1 (List.mem_map_of_mem hp) l (by simp) z
    · have q3 := List.nodup_cons.mp q2.2.1
      exact q3.1 (by rw [← z]; exact List.mem_map_of_mem hp)
  refine ⟨fun b u e => ?_, k.sl, fun p hp => ?_, ?_⟩
  · rw [upd_ne (ne_of_none e n1)]
    exact k.sh b u e
  · by_cases hpl : p = (l, w')
    · subst hpl
      exact ⟨n1, h⟩
    · have hp2 : p ∈ pre ++ post := by
        rcases List.mem_append.mp hp with hp | hp
        · exact List.mem_append_left _ hp
        · rcases List.mem_cons.mp hp with z | hp
          · exact absurd z hpl
          · exact List.mem_append_right _ hp
      obtain ⟨q1, q2⟩ := k.ow p (by
        rcases List.mem_append.mp hp2 with hp | hp
        · exact List.mem_append_left _ hp
        · exact List.mem_append_right _ (List.mem_cons_of_mem _ hp))
      refine ⟨q1, ?_⟩
      have ne := nl p hp2
      cases w2 : p.2 with
      | lst ds =>
        rw [w2] at q2
        obtain ⟨vs, h1, h2⟩ := q2
        exact ⟨vs, by rw [upd_ne ne]; exact h1, h2⟩
      | dct ds =>
        rw [w2] at q2
        obtain ⟨vs, h1, h2⟩ := q2
        exact ⟨vs, by rw [upd_ne ne]; exact h1, h2⟩
  · have q := k.nd
    simp only [List.map_append, List.map_cons] at q ⊢
    exact q
theorem Gr.write {S0 H0 S H : Hp} {l : Addr} {o : HO} (g : Gr S0 H0 S H) (h0 : H0 l = none) (hs : S l = none) : Gr S0 H0 S (upd H l o) :=
  ⟨g.s, fun b u e => by rw [upd_ne (ne_of_none e h0)]; exact g.h b u e, fun b u e => by rw [upd_ne (ne_of_none e hs)]; exact g.sh b u e, g.new⟩
theorem Fo.write {H0 : Hp} {ce ce' : List (Option Sv)} {pre post : List (Addr × Ow)} {l : Addr} {w w' : Ow} (f : Fo H0 { c := ce, o := pre ++ (l, w) :: post }) : Fo H0 { c := ce', o := pre ++ (l, w') :: post } := fun p hp => by
  rcases List.mem_append.mp hp with hp | hp
  · exact f p (List.mem_append_left _ hp)
  · rcases List.mem_cons.mp hp with z | hp
    · subst z
      exact f (l, w) (by simp)
    · exact f p (List.mem_append_right _ (List.mem_cons_of_mem _ hp))
/-- a method that changes an owned list, its value dropped -/
theorem sd_mut {z nm : Str} {id : String} {q1 q2 q3 : Pos} {r : V → List V → Hp → VK → Prop} {ce : List (Option Sv)} {pre post : List (Addr × Ow)} {l : Addr} (k : Nat) (ds' : List PyData) (slot : Slot "list" nm id) (hty : typeOf (.builtin id) = pure (.type "method_descriptor")) (hm : MtR X id r)
    (hk : ce[k]? = some (some (.v (.ref l)))) (ha : EA X { c := ce, o := pre ++ (l, .lst ds) :: post } (e :: es) xs)
    (h : ∀ us S H vs, RpA X.K S us xs → RpA X.K S vs ds → H l = some (.lst vs) → ∀ Q : VK, (∀ v vs', RpA X.K S vs' ds' → Q v (upd H l (.lst vs'))) → r (.ref l) us H Q) (hn : D.nx { c := ce, o := pre ++ (l, .lst ds') :: post })
    (hN : X.N[k]? = some z := by rfl) (hv : Vis X.env.scope z := by first | exact Or.inl rfl | exact Or.inr (Or.inl rfl) | exact Or.inr (Or.inr rfl)) (hd : (z == ("__debug__" : Str)) = false := by decide) (hcd : (z == ("__classdict__" : Str)) = false := by decide)
    (hbase : attributeBase (.Name z q1) nm X.env (eval (.Name z q1) X.env) = eval (.Name z q1) X.env := by rfl)
    (hfew : ((backTo q3 (starEach (e :: es) X.env)).all (fun x => !x.1) && (backToKw q3 (keywordEach [] X.env)).all (fun x => x.1.isSome)
      && decide ((e :: es).length + ([] : List Keyword).length + (if ([] : List Keyword).isEmpty then 0 else 1) < 30)) = true := by rfl)
    (hline : (q2.endLine == q3.line) = true := by rfl) (hst : starEach (e :: es) X.env = (false, eval e X.env) :: starEach es X.env := by rfl) (hplain : (backTo q3 (starEach es X.env)).any (·.1) = false := by rfl)
    (hs : swapsWith (.Call (.Attribute (.Name z q1) nm q2) (e :: es) [] q3) none pos.line X.env = pure false := by rfl) :
    SD X E { c := ce, o := pre ++ (l, .lst ds) :: post } (.Expr (.Call (.Attribute (.Name z q1) nm q2) (e :: es) [] q3) pos) D := ⟨fun S0 H0 _ σ S H g k' f => by
  obtain ⟨s, h1, h2⟩ := k'.sl.get hk
  have hs' : s = some (.ref l) := h2
  obtain ⟨n1, vs0, e0, r0⟩ := k'.ow (l, .lst ds) (by simp)
  refine wS_of (ps_expr (pe_bm PySem.F.plainAttrs_list slot hty hm (pv k hN hv hd hcd) pa_w hbase hfew hline hst hplain) hs) ⟨.ref l, by rw [h1, hs'], .inl ⟨rfl, _, .inl (.inl e0)⟩, ha σ S H k' _ fun us S1 H1 g1 r1 => ?_⟩
  have k1 := k'.mono g1
  obtain ⟨n2, vs, e1, r2⟩ := k1.ow (l, .lst ds) (by simp)
  exact h us S1 H1 vs r1 r2 e1 _ fun v vs' r3 => at_of (G := { c := ce, o := pre ++ (l, .lst ds') :: post }) ((g.trans g1).write (f (l, .lst ds) (by simp)) n2) (k1.write (w' := .lst ds') ⟨vs', upd_same, r3⟩) f.write hn⟩
theorem sd_mut0 {z nm : Str} {id : String} {q1 q2 q3 : Pos} {r : V → List V → Hp → VK → Prop} {ce : List (Option Sv)} {pre post : List (Addr × Ow)} {l : Addr} (k : Nat) (ds' : List PyData) (slot : Slot "list" nm id) (hty : typeOf (.builtin id) = pure (.type "method_descriptor")) (hm : MtR X id r)
    (hk : ce[k]? = some (some (.v (.ref l))))
    (h : ∀ S H vs, RpA X.K S vs ds → H l = some (.lst vs) → ∀ Q : VK, (∀ v vs', RpA X.K S vs' ds' → Q v (upd H l (.lst vs'))) → r (.ref l) [] H Q) (hn : D.nx { c := ce, o := pre ++ (l, .lst ds') :: post })
    (hN : X.N[k]? = some z := by rfl) (hv : Vis X.env.scope z := by first | exact Or.inl rfl | exact Or.inr (Or.inl rfl) | exact Or.inr (Or.inr rfl)) (hd : (z == ("__debug__" : Str)) = false := by decide) (hcd : (z == ("__classdict__" : Str)) = false := by decide)
    (hbase : attributeBase (.Name z q1) nm X.env (eval (.Name z q1) X.env) = eval (.Name z q1) X.env := by rfl) (hline : (q2.endLine == q3.line) = true := by rfl)
    (hs : swapsWith (.Call (.Attribute (.Name z q1) nm q2) [] [] q3) none pos.line X.env = pure false := by rfl) :
    SD X E { c := ce, o := pre ++ (l, .lst ds) :: post } (.Expr (.Call (.Attribute (.Name z q1) nm q2) [] [] q3) pos) D := ⟨fun S0 H0 _ σ S H g k' f => by
  obtain ⟨s, h1, h2⟩ := k'.sl.get hk
  have hs' : s = some (.ref l) := h2
  obtain ⟨n1, vs0, e0, r0⟩ := k'.ow (l, .lst ds) (by simp)
  refine wS_of (ps_expr (pe_bm0 PySem.F.plainAttrs_list slot hty hm (pv k hN hv hd hcd) hbase hline) hs) ⟨.ref l, by rw [h1, hs'], .inl ⟨rfl, _, .inl (.inl e0)⟩, ?_⟩
  exact h S H vs0 r0 e0 _ fun v vs' r3 => at_of (G := { c := ce, o := pre ++ (l, .lst ds') :: post }) (g.write (f (l, .lst ds) (by simp)) n1) (k'.write (w' := .lst ds') ⟨vs', upd_same, r3⟩) f.write hn⟩
end
end DL

set_option Elab.async false
set_option linter.all false
set_option maxRecDepth 100000
set_option maxHeartbeats 4000000
namespace DL
open PySem PySem.Spec PyProof.Rows L2
section
variable {X : Cx} {E : L2.WX} {G : Gs} {D : DE} {st : Stmt} {rest body els : List Stmt} {a b c e i tg iter : Expr} {es : List Expr} {pos : Pos} {x y : PyData} {ds xs : List PyData} {m n : Int} {p q : Bool}
variable {z : Str} {q1 q2 q3 : Pos} {ce : List (Option Sv)} {pre post : List (Addr × Ow)} {l : Addr}
theorem sd_append (k : Nat) (pre : List (Addr × Ow)) (hk : ce[k]? = some (some (.v (.ref l)))) (ha : ED X { c := ce, o := pre ++ (l, .lst ds) :: post } e x) (hl : ds.length < 100000) (hn : D.nx { c := ce, o := pre ++ (l, .lst (ds ++ [x])) :: post })
    (hN : X.N[k]? = some z := by rfl) (hv : Vis X.env.scope z := by first | exact Or.inl rfl | exact Or.inr (Or.inl rfl) | exact Or.inr (Or.inr rfl)) (hd : (z == ("__debug__" : Str)) = false := by decide) (hcd : (z == ("__classdict__" : Str)) = false := by decide)
    (hbase : attributeBase (.Name z q1) "append" X.env (eval (.Name z q1) X.env) = eval (.Name z q1) X.env := by rfl)
    (hfew : ((backTo q3 (starEach [e] X.env)).all (fun x => !x.1) && (backToKw q3 (keywordEach [] X.env)).all (fun x => x.1.isSome)
      && decide ([e].length + ([] : List Keyword).length + (if ([] : List Keyword).isEmpty then 0 else 1) < 30)) = true := by rfl)
    (hline : (q2.endLine == q3.line) = true := by rfl) (hst : starEach [e] X.env = (false, eval e X.env) :: starEach [] X.env := by rfl) (hplain : (backTo q3 (starEach [] X.env)).any (·.1) = false := by rfl)
    (hs : swapsWith (.Call (.Attribute (.Name z q1) "append" q2) [e] [] q3) none pos.line X.env = pure false := by rfl) :
    SD X E { c := ce, o := pre ++ (l, .lst ds) :: post } (.Expr (.Call (.Attribute (.Name z q1) "append" q2) [e] [] q3) pos) D :=
  sd_mut k (ds ++ [x]) PySem.F.slot_list_append PySem.F.type_list_append mt_append hk (ea_cons ha ea_nil hst) (fun us S H vs r1 r2 e1 Q q => by
    obtain ⟨v, rfl, r3⟩ := rpa1 r1
    exact ⟨l, vs, v, rfl, rfl, e1, by rw [r2.length]; exact Nat.lt_of_lt_of_le hl (by decide), q _ _ (r2.append (.cons r3 .nil))⟩) hn hN hv hd hcd hbase hfew hline hst hplain hs
theorem sd_insert (k : Nat) (pre : List (Addr × Ow)) (hk : ce[k]? = some (some (.v (.ref l)))) (ha : ED X { c := ce, o := pre ++ (l, .lst ds) :: post } a (.int m)) (hb : ED X { c := ce, o := pre ++ (l, .lst ds) :: post } e x) (hl : ds.length < 100000) (h0 : 0 ≤ m ∧ m < 2 ^ 63) (hn : D.nx { c := ce, o := pre ++ (l, .lst (ds.take m.toNat ++ [x] ++ ds.drop m.toNat)) :: post })
    (hN : X.N[k]? = some z := by rfl) (hv : Vis X.env.scope z := by first | exact Or.inl rfl | exact Or.inr (Or.inl rfl) | exact Or.inr (Or.inr rfl)) (hd : (z == ("__debug__" : Str)) = false := by decide) (hcd : (z == ("__classdict__" : Str)) = false := by decide)
    (hbase : attributeBase (.Name z q1) "insert" X.env (eval (.Name z q1) X.env) = eval (.Name z q1) X.env := by rfl)
    (hfew : ((backTo q3 (starEach [a, e] X.env)).all (fun x => !x.1) && (backToKw q3 (keywordEach [] X.env)).all (fun x => x.1.isSome)
      && decide ([a, e].length + ([] : List Keyword).length + (if ([] : List Keyword).isEmpty then 0 else 1) < 30)) = true := by rfl)
    (hline : (q2.endLine == q3.line) = true := by rfl) (hst : starEach [a, e] X.env = (false, eval a X.env) :: starEach [e] X.env := by rfl) (hst2 : starEach [e] X.env = (false, eval e X.env) :: starEach [] X.env := by rfl) (hplain : (backTo q3 (starEach [e] X.env)).any (·.1) = false := by rfl)
    (hs : swapsWith (.Call (.Attribute (.Name z q1) "insert" q2) [a, e] [] q3) none pos.line X.env = pure false := by rfl) :
    SD X E { c := ce, o := pre ++ (l, .lst ds) :: post } (.Expr (.Call (.Attribute (.Name z q1) "insert" q2) [a, e] [] q3) pos) D :=
  sd_mut k _ PySem.F.slot_list_insert PySem.F.type_list_insert mt_insert hk (ea_cons ha (ea_cons hb ea_nil hst2) hst) (fun us S H vs r1 r2 e1 Q q => by
    obtain ⟨v, u, rfl, r3, r4⟩ := rpa2 r1
    cases r3
    exact ⟨l, vs, m, u, rfl, rfl, e1, by rw [r2.length]; exact Nat.lt_of_lt_of_le hl (by decide), h0.1, h0.2, q _ _ (((r2.take _).append (.cons r4 .nil)).append (r2.drop _))⟩) hn hN hv hd hcd hbase hfew hline hst hplain hs
theorem sd_popAt (k : Nat) (pre : List (Addr × Ow)) (hk : ce[k]? = some (some (.v (.ref l)))) (ha : ED X { c := ce, o := pre ++ (l, .lst ds) :: post } a (.int m)) (h0 : 0 ≤ m ∧ m < ds.length) (hl : ds.length < 100000) (hn : D.nx { c := ce, o := pre ++ (l, .lst (ds.eraseIdx m.toNat)) :: post })
    (hN : X.N[k]? = some z := by rfl) (hv : Vis X.env.scope z := by first | exact Or.inl rfl | exact Or.inr (Or.inl rfl) | exact Or.inr (Or.inr rfl)) (hd : (z == ("__debug__" : Str)) = false := by decide) (hcd : (z == ("__classdict__" : Str)) = false := by decide)
    (hbase : attributeBase (.Name z q1) "pop" X.env (eval (.Name z q1) X.env) = eval (.Name z q1) X.env := by rfl)
    (hfew : ((backTo q3 (starEach [a] X.env)).all (fun x => !x.1) && (backToKw q3 (keywordEach [] X.env)).all (fun x => x.1.isSome)
      && decide ([a].length + ([] : List Keyword).length + (if ([] : List Keyword).isEmpty then 0 else 1) < 30)) = true := by rfl)
    (hline : (q2.endLine == q3.line) = true := by rfl) (hst : starEach [a] X.env = (false, eval a X.env) :: starEach [] X.env := by rfl) (hplain : (backTo q3 (starEach [] X.env)).any (·.1) = false := by rfl)
    (hs : swapsWith (.Call (.Attribute (.Name z q1) "pop" q2) [a] [] q3) none pos.line X.env = pure false := by rfl) :
    SD X E { c := ce, o := pre ++ (l, .lst ds) :: post } (.Expr (.Call (.Attribute (.Name z q1) "pop" q2) [a] [] q3) pos) D :=
  sd_mut k _ PySem.F.slot_list_pop PySem.F.type_list_pop mt_popAt hk (ea_cons ha ea_nil hst) (fun us S H vs r1 r2 e1 Q q => by
    obtain ⟨v, rfl, r3⟩ := rpa1 r1
    cases r3
    have hlen := r2.length
    have hj : m.toNat < vs.length := by omega
    exact ⟨l, vs, m, m.toNat, vs[m.toNat], rfl, rfl, e1, by omega, by omega, PySem.StrLaws.seqIndex_nonneg h0.1 (by omega), List.getElem?_eq_getElem hj, q _ _ (r2.eraseIdx _)⟩) hn hN hv hd hcd hbase hfew hline hst hplain hs
theorem sd_reverse (k : Nat) (pre : List (Addr × Ow)) (hk : ce[k]? = some (some (.v (.ref l)))) (hn : D.nx { c := ce, o := pre ++ (l, .lst ds.reverse) :: post })
    (hN : X.N[k]? = some z := by rfl) (hv : Vis X.env.scope z := by first | exact Or.inl rfl | exact Or.inr (Or.inl rfl) | exact Or.inr (Or.inr rfl)) (hd : (z == ("__debug__" : Str)) = false := by decide) (hcd : (z == ("__classdict__" : Str)) = false := by decide)
    (hbase : attributeBase (.Name z q1) "reverse" X.env (eval (.Name z q1) X.env) = eval (.Name z q1) X.env := by rfl) (hline : (q2.endLine == q3.line) = true := by rfl)
    (hs : swapsWith (.Call (.Attribute (.Name z q1) "reverse" q2) [] [] q3) none pos.line X.env = pure false := by rfl) :
    SD X E { c := ce, o := pre ++ (l, .lst ds) :: post } (.Expr (.Call (.Attribute (.Name z q1) "reverse" q2) [] [] q3) pos) D :=
  sd_mut0 k _ PySem.F.slot_list_reverse PySem.F.type_list_reverse mt_reverse hk (fun S H vs r2 e1 Q q => ⟨l, vs, rfl, rfl, e1, q _ _ r2.reverse⟩) hn hN hv hd hcd hbase hline hs
theorem sd_clear (k : Nat) (pre : List (Addr × Ow)) (hk : ce[k]? = some (some (.v (.ref l)))) (hn : D.nx { c := ce, o := pre ++ (l, .lst []) :: post })
    (hN : X.N[k]? = some z := by rfl) (hv : Vis X.env.scope z := by first | exact Or.inl rfl | exact Or.inr (Or.inl rfl) | exact Or.inr (Or.inr rfl)) (hd : (z == ("__debug__" : Str)) = false := by decide) (hcd : (z == ("__classdict__" : Str)) = false := by decide)
    (hbase : attributeBase (.Name z q1) "clear" X.env (eval (.Name z q1) X.env) = eval (.Name z q1) X.env := by rfl) (hline : (q2.endLine == q3.line) = true := by rfl)
    (hs : swapsWith (.Call (.Attribute (.Name z q1) "clear" q2) [] [] q3) none pos.line X.env = pure false := by rfl) :
    SD X E { c := ce, o := pre ++ (l, .lst ds) :: post } (.Expr (.Call (.Attribute (.Name z q1) "clear" q2) [] [] q3) pos) D :=
  sd_mut0 k _ PySem.F.slot_list_clear PySem.F.type_list_clear mt_clear hk (fun S H vs r2 e1 Q q => ⟨l, vs, rfl, rfl, e1, q _ _ .nil⟩) hn hN hv hd hcd hbase hline hs
/-- xs[i] = e -/
theorem sd_setL {pi : Pos} (k : Nat) (pre : List (Addr × Ow)) (hk : ce[k]? = some (some (.v (.ref l)))) (ha : ED X { c := ce, o := pre ++ (l, .lst ds) :: post } e x) (hb : ED X { c := ce, o := pre ++ (l, .lst ds) :: post } i (.int m)) (h0 : 0 ≤ m ∧ m < ds.length) (hn : D.nx { c := ce, o := pre ++ (l, .lst (ds.set m.toNat x)) :: post })
    (hN : X.N[k]? = some z := by rfl) (hv : Vis X.env.scope z := by first | exact Or.inl rfl | exact Or.inr (Or.inl rfl) | exact Or.inr (Or.inr rfl)) (hd : (z == ("__debug__" : Str)) = false := by decide) (hcd : (z == ("__classdict__" : Str)) = false := by decide)
    (hs : swapsWithSole [.Subscript (.Name z q1) i pi] e pos.line X.env = pure false := by rfl) (hw : swappedStores [.Subscript (.Name z q1) i pi] e X.env = pure none := by rfl)
    (h1 : (assignEach [.Subscript (.Name z q1) i pi] X.env).map (·.2) = [assign (.Subscript (.Name z q1) i pi) X.env] := by rfl)
    (hass : ∀ v, assign (.Subscript (.Name z q1) i pi) X.env v = (do
      let ov ← holding [v] (eval (.Name z q1) X.env)
      let iv ← holding [v, ov] (eval i X.env)
      standAt pi
      holding [v, ov, iv] (setItem ov iv v)
      release [v, ov, iv] []) := by intro _; rfl) :
    SD X E { c := ce, o := pre ++ (l, .lst ds) :: post } (.Assign [.Subscript (.Name z q1) i pi] e pos) D := ⟨fun S0 H0 _ σ S H g k' f => by
  obtain ⟨s, h2, h3⟩ := k'.sl.get hk
  have hs' : s = some (.ref l) := h3
  refine wS_of (ps_asg pe_w (pg_sub (pv k hN hv hd hcd) pe_w set_list hass) hs hw h1) (ha σ S H k' _ fun v S1 H1 g1 r1 => ⟨.ref l, by rw [h2, hs'], hb σ S1 H1 (k'.mono g1) _ fun u S2 H2 g2 r2 => ?_⟩)
  cases r2
  have k2 := k'.mono (g1.trans g2)
  obtain ⟨n2, vs, e1, r3⟩ := k2.ow (l, .lst ds) (by simp)
  have hlen := r3.length
  refine ⟨l, vs, m, m.toNat, rfl, rfl, e1, ?_, at_of (G := { c := ce, o := pre ++ (l, .lst (ds.set m.toNat x)) :: post }) ((g.trans (g1.trans g2)).write (f (l, .lst ds) (by simp)) n2) (k2.write (w' := .lst (ds.set m.toNat x)) ⟨_, upd_same, r3.set (r1.mono g2.s) _⟩) f.write hn⟩
  unfold ixN
  rw [if_pos h0.1, if_pos (by omega)]⟩

/-! ### comprehensions -/
/-- a comprehension: as a value and as what a name is set to -/
def LC (X : Cx) (G : Gs) (e : Expr) (ds : List PyData) : Prop := ∃ (wi : TI) (g : TG) (tt : TT) (te : TE) (vs : List Nat), PE X e (tLc wi g tt te vs) ∧
  (∀ (i : Nat) (y : Str) (py spos : Pos), X.N[i]? = some y → X.env.scope.names.lookup y = some .local → swapsWith e (some (.Name y py)) spos.line X.env = pure true → PS X (.Assign [.Name y py] e spos) (tAsg (tLc wi g tt te vs) (gName i))) ∧
  ∀ (σ : L2.St) (S H : Hp), Ok X.K S H σ G → ∀ Q : VK, (∀ a vs S' H', Gr S H S' H' → H a = none → S' a = none → H' a = some (.lst vs) → RpA X.K S' vs ds → Q (.ref a) H') → tLc wi g tt te vs σ H Q
theorem lc_mk {elt tg iter : Expr} {ifs : List Expr} {scope : Scope} {own : List (Str × Nat)} {wi : TI} {g : TG} {tt : TT} {te : TE} (hc : X.calm = true) (hN : X.N.Nodup) (hi : PI X tg iter wi) (ok : BlkOk X.N X.env.scope scope own)
    (hg : ∀ (s : Shared) (H : Hp) (C : Addr) (cl : List (Str × Addr)) (fp : List Addr), PG (X.blk s H scope (compEnvC scope cl C X.env) fp) tg g) (ht : ∀ (s : Shared) (H : Hp) (C : Addr) (cl : List (Str × Addr)) (fp : List Addr), PTs (X.blk s H scope (compEnvC scope cl C X.env) fp) ifs tt)
    (he : ∀ (s : Shared) (H : Hp) (C : Addr) (cl : List (Str × Addr)) (fp : List Addr), PE (X.blk s H scope (compEnvC scope cl C X.env) fp) elt te) (hs : ∀ x, foldedSetIterable iter X.env x = pure x)
    (h : ∀ (σ : L2.St) (S H : Hp), Ok X.K S H σ G → ∀ Q : VK, (∀ a vs S' H', Gr S H S' H' → H a = none → S' a = none → H' a = some (.lst vs) → RpA X.K S' vs ds → Q (.ref a) H') → tLc wi g tt te (own.map (·.2)) σ H Q) : LC X G (.ListComp elt [⟨tg, iter, ifs, 0⟩] scope pos) ds :=
  ⟨wi, g, tt, te, own.map (·.2), pe_lc hc hN hi ok hg ht he hs, fun i y py spos hy hyl hsw => ps_setLc hc hN hy hyl hsw hi ok hg ht he hs, h⟩
theorem LC.ef (h : LC X G e ds) : EF X G e ds := by
  obtain ⟨wi, g, tt, te, vs, h1, _, h3⟩ := h
  exact ⟨fun σ S H k Q q => wE_of h1 (h3 σ S H k Q q)⟩
theorem LC.is {x y : List PyData} (h : LC X G e x) (E : x = y) : LC X G e y := E ▸ h
theorem sd_setC {elt : Expr} {gs : List Comprehension} {scope : Scope} {z : Str} {q1 q2 : Pos} (k : Nat) (h : LC X G (.ListComp elt gs scope q2) ds) (hn : D.nx { G with c := G.c.set k (some (.d (.list ds))) }) (hi : X.N[k]? = some z := by rfl) (hx : X.env.scope.names.lookup z = some .local := by rfl) (hk : X.env.scope.kind = .function := by rfl) (hl : (q1.line == q2.line) = true := by rfl)
    (ha : (scope.names.any fun (n, k) => n == z && (k == .local || k == .cell)) = false := by decide +kernel) : SD X E G (.Assign [.Name z q1] (.ListComp elt gs scope q2) pos) D := ⟨fun S0 H0 _ σ S H g k' f => by
  obtain ⟨wi, g', tt, te, vs, _, h2, h3⟩ := h
  refine wS_of (h2 k z q1 pos hi hx (sw_true hk hx hl ha)) (h3 σ S H k' _ fun l vs S1 H1 g1 n1 n2 e1 r1 => ?_)
  have g2 := g1.freeze n1 n2 e1
  have k1 := k'.mono g2
  exact at_of (G := { G with c := G.c.set k (some (.d (.list ds))) }) (g.trans g2) ⟨k1.sh, Sl.set (g := some (.d (.list ds))) ⟨.ref l, rfl, .lst upd_same (r1.mono (same_new n2 _))⟩ k k1.sl, k1.ow, k1.nd⟩ f hn⟩
def Blk (X X' : Cx) (scope : Scope) : Prop := ∃ (s : Shared) (H : Hp) (C : Addr) (cl : List (Str × Addr)) (fp : List Addr), X' = X.blk s H scope (compEnvC scope cl C X.env) fp
def teB (X : Cx) (scope : Scope) (e : Expr) : TE := fun σ H Q => ∀ X', Blk X X' scope → wE X' e σ H Q
def ttB (X : Cx) (scope : Scope) (e : Expr) : TT := fun σ H Q => ∀ X', Blk X X' scope → wT X' e σ H Q
theorem pe_blk {scope : Scope} {e : Expr} (s : Shared) (H : Hp) (C : Addr) (cl : List (Str × Addr)) (fp : List Addr) : PE (X.blk s H scope (compEnvC scope cl C X.env) fp) e (teB X scope e) := ⟨fun pins s' σ H' Q I h => h _ ⟨s, H, C, cl, fp, rfl⟩ pins s' I⟩
theorem pt_blk {scope : Scope} {e : Expr} (s : Shared) (H : Hp) (C : Addr) (cl : List (Str × Addr)) (fp : List Addr) : PT (X.blk s H scope (compEnvC scope cl C X.env) fp) e (ttB X scope e) := ⟨fun pins s' σ H' Q I h => h _ ⟨s, H, C, cl, fp, rfl⟩ pins s' I⟩
/-- one turn: base (S1, H1), the list made so far at A -/
def LcAt (K : Fg) (S1 H1 : Hp) (A : Addr) (acc : List PyData) (H : Hp) : Prop := ∃ S vs, Gr S1 H1 S H ∧ S A = none ∧ H A = some (.lst vs) ∧ RpA K S vs acc
theorem LcAt.more {K : Fg} {S1 H1 S H : Hp} {A : Addr} {acc : List PyData} {vs : List V} {v : V} (h1 : H1 A = none) (g : Gr S1 H1 S H) (hs : S A = none) (ha : H A = some (.lst vs)) (r : RpA K S vs acc) (rv : Rp K S v x) : LcAt K S1 H1 A (acc ++ [x]) (upd H A (.lst (vs ++ [v]))) :=
  ⟨S, vs ++ [v], g.write h1 hs, hs, upd_same, r.append (.cons rv .nil)⟩
theorem lc_turn {σ : L2.St} {G' : Gs} {S1 H1 H : Hp} {A : Addr} {scope : Scope} {acc : List PyData} {elt : Expr} {tt : TT} {t : Bool} {lim : Nat} (hl : acc.length < 100000) (h1 : H1 A = none) (hat : LcAt X.K S1 H1 A acc H) (hok : ∀ S H, Gr S1 H1 S H → Ok X.K S H σ G')
    (ht : ∀ S H, Ok X.K S H σ G' → ∀ Q : Bool → Hp → Prop, (∀ S' H', Gr S H S' H' → Q t H') → tt σ H Q) (he : t = true → ∀ X', Blk X X' scope → X'.K = X.K → ED X' G' elt x) (hK : ∀ X', Blk X X' scope → X'.K = X.K) :
    tt σ H fun b H3 => if b = true then teB X scope elt σ H3 fun y H4 => ∃ acc', H4 A = some (.lst acc') ∧ acc'.length < sizeLine ∧ LcAt X.K S1 H1 A (if t then acc ++ [x] else acc) (upd H4 A (.lst (acc' ++ [y]))) else LcAt X.K S1 H1 A (if t then acc ++ [x] else acc) H3 := by
  obtain ⟨S, vs, g, hs, ha, r⟩ := hat
  refine ht S H (hok S H g) _ fun S2 H2 g2 => ?_
  have hs2 : S2 A = none := g2.new A _ ha trivial hs
  cases t with
  | false => exact iteF ⟨S2, vs, g.trans g2, hs2, g2.h _ _ ha, r.mono g2.s⟩
  | true =>
    refine iteT fun X' hX' => ?_
    have k2 := hok S2 H2 (g.trans g2)
    rw [← hK X' hX'] at k2
    refine he rfl X' hX' (hK X' hX') σ S2 H2 k2 _ fun v S3 H3 g3 r3 => ?_
    rw [hK X' hX'] at r3
    have g4 := g.trans (g2.trans g3)
    refine ⟨vs, g3.h _ _ (g2.h _ _ ha), by rw [r.length]; exact Nat.lt_of_lt_of_le hl (by decide), ?_⟩
    exact LcAt.more h1 g4 (g3.new A _ (g2.h _ _ ha) trivial hs2) (g3.h _ _ (g2.h _ _ ha)) (r.mono (g2.s.trans g3.s)) r3
theorem blk_K {scope : Scope} {X' : Cx} (h : Blk X X' scope) : X'.K = X.K := by
  obtain ⟨s, H, C, cl, fp, rfl⟩ := h
  rfl
def accF {α : Type} (t : α → Bool) (f : α → PyData) (xs : List α) : List PyData := (xs.filter t).map f
theorem accF_more {α : Type} {t : α → Bool} {f : α → PyData} {xs : List α} {i : Nat} {v : α} (h : xs[i]? = some v) : accF t f (xs.take (i + 1)) = if t v then accF t f (xs.take i) ++ [f v] else accF t f (xs.take i) := by
  unfold accF
  rw [List.take_add_one, h]
  simp only [Option.toList_some, List.filter_append, List.filter_cons, List.filter_nil, List.map_append]
  cases t v <;> simp
theorem accF_le {α : Type} {t : α → Bool} {f : α → PyData} {xs : List α} {i : Nat} : (accF t f (xs.take i)).length ≤ xs.length := by
  unfold accF
  rw [List.length_map]
  exact Nat.le_trans (List.length_filter_le _ _) (by rw [List.length_take]; exact Nat.min_le_right _ _)
/-- over a list: any target -/
theorem lc_cG {α : Type} {scope : Scope} {elt : Expr} {ifs : List Expr} {own : List (Str × Nat)} {tt : TT} {g0 : TG} {f : α → PyData} {zs : List α} {u : α → PyData} {t : α → Bool} (gc : α → List (Option Sv)) (hN : X.N.Nodup) (hc : X.calm = true) (ok : BlkOk X.N X.env.scope scope own)
    (ha : EL X G iter (zs.map u)) (hlen : zs.length < 100000)
    (hg : ∀ (s : Shared) (H : Hp) (C : Addr) (cl : List (Str × Addr)) (fp : List Addr), PG (X.blk s H scope (compEnvC scope cl C X.env) fp) tg g0)
    (hgd : ∀ v ∈ zs, ∀ (σ : L2.St) (S H : Hp) (w : V), Same S H → Sl X.K S σ G.c → Rp X.K S w (u v) → ∀ Q : L2.St → Hp → Prop, (∀ σ', Sl X.K S σ' (gc v) → L2.wipe σ' (own.map (·.2)) = L2.wipe σ (own.map (·.2)) → Q σ' H) → g0 w (L2.wipe σ (own.map (·.2))) H Q)
    (ht : ∀ (s : Shared) (H : Hp) (C : Addr) (cl : List (Str × Addr)) (fp : List Addr), PTs (X.blk s H scope (compEnvC scope cl C X.env) fp) ifs tt)
    (htd : ∀ v ∈ zs, ∀ (σ : L2.St) (S H : Hp), Ok X.K S H σ { G with c := gc v } → ∀ Q : Bool → Hp → Prop, (∀ S' H', Gr S H S' H' → Q (t v) H') → tt σ H Q)
    (he : ∀ v ∈ zs, t v = true → ∀ X', Blk X X' scope → X'.K = X.K → ED X' { G with c := gc v } elt (f v)) (hs : ∀ x, foldedSetIterable iter X.env x = pure x) :
    LC X G (.ListComp elt [⟨tg, iter, ifs, 0⟩] scope pos) ((zs.filter t).map f) := lc_mk hc hN (pi_list pe_w) ok hg ht (fun s H C cl fp => pe_blk s H C cl fp) hs fun σ S H k Q q =>  (ha σ S H k _ fun l vs S1 H1 g1 e1 r1 => by
    have k1 := k.mono g1
    refine ⟨l, rfl, ⟨vs, SqL.of e1⟩, fun A hA => ?_⟩
    refine lc_list (K := X.K) (a := l) (xs := vs) (fun i => LcAt X.K S1 H1 A (accF t f (zs.take i))) ⟨S1, [], (Gr.refl g1.sh).raw hA, g1.sh.free hA, upd_same, .nil⟩ (fun i H' _ ⟨S', ws, g', _⟩ => SqL.of (g'.h _ _ e1)) (fun i w H' hw hat => ?_) fun H' hat => ?_
    · have hlen' := r1.length
      rw [List.length_map] at hlen'
      have hi : i < zs.length := by
        rw [← hlen']
        exact (List.getElem?_eq_some_iff.mp hw).1
      obtain ⟨w', e2, r2⟩ := r1.get (i := i) (d := u zs[i]) (by rw [List.getElem?_map, List.getElem?_eq_getElem hi]; rfl)
      rw [hw] at e2
      cases e2
      obtain ⟨S', ws, g', hs', ha', r'⟩ := id hat
      refine hgd zs[i] (List.getElem_mem hi) σ S1 H' w (g'.s.trans g'.sh) k1.sl r2 _ fun σ' hsl hw2 => ⟨hw2, ?_⟩
      have turn := lc_turn (X := X) (σ := σ') (G' := { G with c := gc zs[i] }) (scope := scope) (x := f zs[i]) (t := t zs[i]) (lim := 0) (Nat.lt_of_le_of_lt accF_le hlen) hA hat ?_ (htd _ (List.getElem_mem hi) σ') (he _ (List.getElem_mem hi)) fun X' hX' => blk_K hX'
      · rw [← accF_more (List.getElem?_eq_getElem hi)] at turn
        exact turn
      · intro S2 H2 g2
        have k2 := k1.mono g2
        exact ⟨k2.sh, hsl.mono g2.s, k2.ow, k2.nd⟩
    · obtain ⟨S', ws, g', hs', ha', r'⟩ := hat
      rw [show vs.length = zs.length by rw [r1.length, List.length_map], List.take_length] at r'
      exact q _ ws S' H' (g1.trans g') (g1.h.free hA) hs' ha' r')
theorem wipe_set1 (σ : L2.St) (j : Nat) (s : Option V) : L2.wipe ((L2.wipe σ [j]).set j s) [j] = L2.wipe σ [j] := by
  show ((σ.set j none).set j s).set j none = σ.set j none
  rw [List.set_set, List.set_set]
theorem wipe_set2 (σ : L2.St) (j k : Nat) (s s' : Option V) : L2.wipe (((L2.wipe σ [j, k]).set j s).set k s') [j, k] = L2.wipe σ [j, k] := by
  show (((((σ.set k none).set j none).set j s).set k s').set k none).set j none = (σ.set k none).set j none
  by_cases e : j = k
  · subst e
    simp only [List.set_set]
  · rw [List.set_set, List.set_set]
    rw [List.set_comm s none e, List.set_comm none none (Ne.symm e), List.set_set, List.set_set]
    rw [List.set_comm none none (Ne.symm e)]
/-- [elt for z in iter] -/
theorem lc_c {α : Type} {scope : Scope} {elt : Expr} {f : α → PyData} {zs : List α} {u : α → PyData} {pz : Pos} (k : Nat) (ha : EL X G iter (zs.map u)) (hlen : zs.length < 100000)
    (he : ∀ v ∈ zs, ∀ X', Blk X X' scope → X'.K = X.K → ED X' { G with c := (G.c.set k none).set k (some (.d (u v))) } elt (f v))
    (ok : BlkOk X.N X.env.scope scope [(z, k)] := by exact blkOk_by (by decide +kernel)) (hN : X.N.Nodup := by assumption) (hc : X.calm = true := by rfl)
    (hg : ∀ (s : Shared) (H : Hp) (C : Addr) (cl : List (Str × Addr)) (fp : List Addr), PG (X.blk s H scope (compEnvC scope cl C X.env) fp) (.Name z pz) (gName k) := by exact fun _ _ _ _ _ => pg_name (by assumption) rfl (by first | exact Or.inl rfl | exact Or.inr rfl))
    (hs : ∀ x, foldedSetIterable iter X.env x = pure x := by intro _; rfl) :
    LC X G (.ListComp elt [⟨.Name z pz, iter, [], 0⟩] scope pos) (zs.map f) := by
  have h := lc_cG (own := [(z, k)]) (t := fun _ => true) (tt := tYes) (f := f) (g0 := gName k) (elt := elt) (ifs := []) (pos := pos) (scope := scope) (fun v => (G.c.set k none).set k (some (.d (u v)))) hN hc ok ha hlen hg (fun v hv σ S H w sh sl r Q q => ?_) (fun _ _ _ _ _ => pts_nil) (fun v hv σ S H k1 Q q => q S H k1.gr) (fun v hv _ => he v hv) hs
  · rw [List.filter_eq_self.mpr (fun _ _ => rfl)] at h
    exact h
  · exact q _ (Sl.set (g := some (.d (u v))) ⟨w, rfl, r⟩ k (Sl.set (g := none) trivial k sl)) (wipe_set1 σ k _)
theorem lc_cIf {α : Type} {scope : Scope} {elt : Expr} {f : α → PyData} {zs : List α} {u : α → PyData} {pz : Pos} (k : Nat) (t : α → Bool) (ha : EL X G iter (zs.map u)) (hlen : zs.length < 100000)
    (ht : ∀ v ∈ zs, ∀ X', Blk X X' scope → X'.K = X.K → ET X' { G with c := (G.c.set k none).set k (some (.d (u v))) } c (t v))
    (he : ∀ v ∈ zs, t v = true → ∀ X', Blk X X' scope → X'.K = X.K → ED X' { G with c := (G.c.set k none).set k (some (.d (u v))) } elt (f v))
    (ok : BlkOk X.N X.env.scope scope [(z, k)] := by exact blkOk_by (by decide +kernel)) (hN : X.N.Nodup := by assumption) (hc : X.calm = true := by rfl)
    (hg : ∀ (s : Shared) (H : Hp) (C : Addr) (cl : List (Str × Addr)) (fp : List Addr), PG (X.blk s H scope (compEnvC scope cl C X.env) fp) (.Name z pz) (gName k) := by exact fun _ _ _ _ _ => pg_name (by assumption) rfl (by first | exact Or.inl rfl | exact Or.inr rfl))
    (hs : ∀ x, foldedSetIterable iter X.env x = pure x := by intro _; rfl) :
    LC X G (.ListComp elt [⟨.Name z pz, iter, [c], 0⟩] scope pos) ((zs.filter t).map f) :=
  lc_cG (own := [(z, k)]) (t := t) (tt := ttB X scope c) (f := f) (g0 := gName k) (elt := elt) (ifs := [c]) (pos := pos) (scope := scope) (fun v => (G.c.set k none).set k (some (.d (u v)))) hN hc ok ha hlen hg (fun v hv σ S H w sh sl r Q q => q _ (Sl.set (g := some (.d (u v))) ⟨w, rfl, r⟩ k (Sl.set (g := none) trivial k sl)) (wipe_set1 σ k _)) (fun s H C cl fp => pts_one (pt_blk s H C cl fp)) (fun v hv σ S H k1 Q q X' hX' => ht v hv X' hX' (blk_K hX') σ S H (by rw [blk_K hX']; exact k1) Q q) he hs
end
end DL

set_option Elab.async false
set_option linter.all false
set_option maxRecDepth 100000
set_option maxHeartbeats 4000000
namespace DL
open PySem PySem.Spec PyProof.Rows L2
section
variable {X : Cx} {E : L2.WX} {G : Gs} {D : DE} {a b c e i tg iter : Expr} {es : List Expr} {pos : Pos} {x y : PyData} {ds xs : List PyData} {m n : Int} {p q : Bool} {z w : Str}
theorem filter_tt {α : Type} (zs : List α) : zs.filter (fun _ => true) = zs := List.filter_eq_self.mpr (fun _ _ => rfl)
/-- [elt for z, w in iter if c], iter pairs -/
theorem lc_c2If {α : Type} {scope : Scope} {elt : Expr} {f : α → PyData} {zs : List α} {u v : α → PyData} {pz pw pt : Pos} {kt} (j k : Nat) (t : α → Bool) (ha : EL X G iter (zs.map fun r => .tuple [u r, v r])) (hlen : zs.length < 100000)
    (ht : ∀ r ∈ zs, ∀ X', Blk X X' scope → X'.K = X.K → ET X' { G with c := (((G.c.set k none).set j none).set j (some (.d (u r)))).set k (some (.d (v r))) } c (t r))
    (he : ∀ r ∈ zs, t r = true → ∀ X', Blk X X' scope → X'.K = X.K → ED X' { G with c := (((G.c.set k none).set j none).set j (some (.d (u r)))).set k (some (.d (v r))) } elt (f r))
    (ok : BlkOk X.N X.env.scope scope [(z, j), (w, k)] := by exact blkOk_by (by decide +kernel)) (hN : X.N.Nodup := by assumption) (hc : X.calm = true := by rfl)
    (hg : ∀ (s : Shared) (H : Hp) (C : Addr) (cl : List (Str × Addr)) (fp : List Addr), PG (X.blk s H scope (compEnvC scope cl C X.env) fp) (.Tuple [.Name z pz, .Name w pw] kt pt) (gTup X.K 2 (gCons (gName j) (gCons (gName k) gNil))) := by
      exact fun _ _ _ _ _ => pg_tup rfl (pgs_cons (pg_name (by assumption) rfl (by first | exact Or.inl rfl | exact Or.inr rfl)) (pgs_cons (pg_name (by assumption) rfl (by first | exact Or.inl rfl | exact Or.inr rfl)) pgs_nil)))
    (hs : ∀ x, foldedSetIterable iter X.env x = pure x := by intro _; rfl) :
    LC X G (.ListComp elt [⟨.Tuple [.Name z pz, .Name w pw] kt pt, iter, [c], 0⟩] scope pos) ((zs.filter t).map f) :=
  lc_cG (own := [(z, j), (w, k)]) (t := t) (tt := ttB X scope c) (f := f) (g0 := gTup X.K 2 (gCons (gName j) (gCons (gName k) gNil))) (elt := elt) (ifs := [c]) (pos := pos) (scope := scope) (fun r => (((G.c.set k none).set j none).set j (some (.d (u r)))).set k (some (.d (v r)))) hN hc ok ha hlen hg
    (fun r hr σ S H vv sh sl rr Q q => by
      cases rr with
      | tup e1 r1 =>
        obtain ⟨v1, v2, rfl, r2, r3⟩ := rpa2 r1
        exact ⟨_, [v1, v2], rfl, SqT.of (sh _ _ e1), rfl, v1, [v2], rfl, v2, [], rfl, rfl, q _ (Sl.set (g := some (.d (v r))) ⟨v2, rfl, r3⟩ k (Sl.set (g := some (.d (u r))) ⟨v1, rfl, r2⟩ j (Sl.set (g := none) trivial j (Sl.set (g := none) trivial k sl)))) (wipe_set2 σ j k _ _)⟩)
    (fun s H C cl fp => pts_one (pt_blk s H C cl fp)) (fun v hv σ S H k1 Q q X' hX' => ht v hv X' hX' (blk_K hX') σ S H (by rw [blk_K hX']; exact k1) Q q) he hs
theorem lc_c2 {α : Type} {scope : Scope} {elt : Expr} {f : α → PyData} {zs : List α} {u v : α → PyData} {pz pw pt : Pos} {kt} (j k : Nat) (ha : EL X G iter (zs.map fun r => .tuple [u r, v r])) (hlen : zs.length < 100000)
    (he : ∀ r ∈ zs, ∀ X', Blk X X' scope → X'.K = X.K → ED X' { G with c := (((G.c.set k none).set j none).set j (some (.d (u r)))).set k (some (.d (v r))) } elt (f r))
    (ok : BlkOk X.N X.env.scope scope [(z, j), (w, k)] := by exact blkOk_by (by decide +kernel)) (hN : X.N.Nodup := by assumption) (hc : X.calm = true := by rfl)
    (hg : ∀ (s : Shared) (H : Hp) (C : Addr) (cl : List (Str × Addr)) (fp : List Addr), PG (X.blk s H scope (compEnvC scope cl C X.env) fp) (.Tuple [.Name z pz, .Name w pw] kt pt) (gTup X.K 2 (gCons (gName j) (gCons (gName k) gNil))) := by
      exact fun _ _ _ _ _ => pg_tup rfl (pgs_cons (pg_name (by assumption) rfl (by first | exact Or.inl rfl | exact Or.inr rfl)) (pgs_cons (pg_name (by assumption) rfl (by first | exact Or.inl rfl | exact Or.inr rfl)) pgs_nil)))
    (hs : ∀ x, foldedSetIterable iter X.env x = pure x := by intro _; rfl) :
    LC X G (.ListComp elt [⟨.Tuple [.Name z pz, .Name w pw] kt pt, iter, [], 0⟩] scope pos) (zs.map f) := by
  have h := lc_cG (own := [(z, j), (w, k)]) (t := fun _ => true) (tt := tYes) (f := f) (g0 := gTup X.K 2 (gCons (gName j) (gCons (gName k) gNil))) (elt := elt) (ifs := []) (pos := pos) (scope := scope) (fun r => (((G.c.set k none).set j none).set j (some (.d (u r)))).set k (some (.d (v r)))) hN hc ok ha hlen hg
    (fun r hr σ S H vv sh sl rr Q q => by
      cases rr with
      | tup e1 r1 =>
        obtain ⟨v1, v2, rfl, r2, r3⟩ := rpa2 r1
        exact ⟨_, [v1, v2], rfl, SqT.of (sh _ _ e1), rfl, v1, [v2], rfl, v2, [], rfl, rfl, q _ (Sl.set (g := some (.d (v r))) ⟨v2, rfl, r3⟩ k (Sl.set (g := some (.d (u r))) ⟨v1, rfl, r2⟩ j (Sl.set (g := none) trivial j (Sl.set (g := none) trivial k sl)))) (wipe_set2 σ j k _ _)⟩)
    (fun _ _ _ _ _ => pts_nil) (fun v hv σ S H k1 Q q => q S H k1.gr) (fun v hv _ => he v hv) hs
  rw [filter_tt] at h
  exact h
/-- the ints lo, lo + 1, .., n of them -/
def rg (lo : Int) (n : Nat) : List Int := (List.range n).map fun (i : Nat) => lo + (i : Int)
theorem ints_len {lo : Int} {n : Nat} : (rg lo n).length = n := by simp [rg]
theorem ints_get {lo : Int} {n i : Nat} (h : i < n) : (rg lo n)[i]? = some (lo + i) := by simp [rg, h]
theorem mem_ints {lo k : Int} {n : Nat} : k ∈ rg lo n ↔ lo ≤ k ∧ k < lo + n := by
  unfold rg
  rw [List.mem_map]
  constructor
  · rintro ⟨i, hi, rfl⟩
    rw [List.mem_range] at hi
    omega
  · rintro ⟨h1, h2⟩
    exact ⟨(k - lo).toNat, by rw [List.mem_range]; omega, by omega⟩
theorem lcR_core {σ : L2.St} {S1 H1 : Hp} {A : Addr} {scope : Scope} {elt : Expr} {tt : TT} {lo : Int} {n k : Nat} {f : Int → PyData} {t : Int → Bool} {Q : VK} (hn : n < 100000) (k1 : Ok X.K S1 H1 σ G) (hA : H1 A = none)
    (htd : ∀ v ∈ rg lo n, ∀ (σ : L2.St) (S H : Hp), Ok X.K S H σ { G with c := (G.c.set k none).set k (some (.d (.int v))) } → ∀ Q : Bool → Hp → Prop, (∀ S' H', Gr S H S' H' → Q (t v) H') → tt σ H Q)
    (he : ∀ v ∈ rg lo n, t v = true → ∀ X', Blk X X' scope → X'.K = X.K → ED X' { G with c := (G.c.set k none).set k (some (.d (.int v))) } elt (f v))
    (q : ∀ H', LcAt X.K S1 H1 A (((rg lo n).filter t).map f) H' → Q (.ref A) H') :
    ∃ W : Nat → Nat → Hp → Prop, (∃ m, W 0 m (upd H1 A (.lst []))) ∧ ∀ i m H, W i m H →
      ((Itr lo n).stop i H ∧ Q (.ref A) H) ∨ ((Itr lo n).go i H ∧ ∃ Nx : Hp → Prop, (∀ H', Nx H' → ∃ m', m' < m ∧ W (i + 1) m' H') ∧ ∀ x H', (Itr lo n).yld i H x H' → gName k x (L2.wipe σ [k]) H' fun σ2 H2 => L2.wipe σ2 [k] = L2.wipe σ [k] ∧ tt σ2 H2 fun b H3 =>
        if b = true then teB X scope elt σ2 H3 fun y H4 => ∃ acc, H4 A = some (.lst acc) ∧ acc.length < sizeLine ∧ Nx (upd H4 A (.lst (acc ++ [y]))) else Nx H3) := by
  refine lc_range (fun i => LcAt X.K S1 H1 A (accF t f ((rg lo n).take i))) ⟨S1, [], (Gr.refl k1.sh).raw hA, k1.sh.free hA, upd_same, .nil⟩ (fun i H' hi hat => ?_) fun H' hat => ?_
  · have hm : lo + (i : Int) ∈ rg lo n := mem_ints.mpr (by omega)
    refine ⟨wipe_set1 σ k _, ?_⟩
    have turn := lc_turn (X := X) (σ := (L2.wipe σ [k]).set k (some (.int (lo + i)))) (G' := { G with c := (G.c.set k none).set k (some (.d (.int (lo + i)))) }) (scope := scope) (x := f (lo + i)) (t := t (lo + i)) (lim := 0) (Nat.lt_of_le_of_lt accF_le (by rw [ints_len]; exact hn)) hA hat (fun S2 H2 g2 => ?_) (htd _ hm _) (he _ hm) fun X' hX' => blk_K hX'
    · rw [← accF_more (ints_get hi)] at turn
      exact turn
    · have k2 := k1.mono g2
      exact ⟨k2.sh, Sl.set (g := some (.d (.int (lo + i)))) ⟨_, rfl, .int _⟩ k (Sl.set (g := none) trivial k k2.sl), k2.ow, k2.nd⟩
  · rw [show (rg lo n).take n = rg lo n from List.take_of_length_le (by rw [ints_len]; exact Nat.le_refl _)] at hat
    exact q H' hat
theorem lc_cR2If {q1 q2 pz : Pos} {scope : Scope} {elt : Expr} {f : Int → PyData} (k : Nat) (t : Int → Bool) (hm : X.mg "range" = none) (ha : ED X G a (.int m)) (hb' : ED X G b (.int n)) (hb : -(2 ^ 62) ≤ m ∧ m < 2 ^ 62 ∧ -(2 ^ 62) ≤ n ∧ n < 2 ^ 62) (hl : (n - m).toNat < 100000)
    (ht : ∀ v, m ≤ v ∧ v < n → ∀ X', Blk X X' scope → X'.K = X.K → ET X' { G with c := (G.c.set k none).set k (some (.d (.int v))) } c (t v))
    (he : ∀ v, m ≤ v ∧ v < n → t v = true → ∀ X', Blk X X' scope → X'.K = X.K → ED X' { G with c := (G.c.set k none).set k (some (.d (.int v))) } elt (f v))
    (ok : BlkOk X.N X.env.scope scope [(z, k)] := by exact blkOk_by (by decide +kernel)) (hN : X.N.Nodup := by assumption) (hc : X.calm = true := by rfl)
    (hg : ∀ (s : Shared) (H : Hp) (C : Addr) (cl : List (Str × Addr)) (fp : List Addr), PG (X.blk s H scope (compEnvC scope cl C X.env) fp) (.Name z pz) (gName k) := by exact fun _ _ _ _ _ => pg_name (by assumption) rfl (by first | exact Or.inl rfl | exact Or.inr rfl))
    (hgl : Gl X "range" := by rfl) (hst : starEach [a, b] X.env = [(false, eval a X.env), (false, eval b X.env)] := by rfl) (hst2 : starEach [b] X.env = [(false, eval b X.env)] := by rfl) (hst3 : starEach [a, b] X.env = (false, eval a X.env) :: starEach [b] X.env := by rfl) (hst4 : starEach [b] X.env = (false, eval b X.env) :: starEach [] X.env := by rfl)
    (hs : ∀ x, foldedSetIterable (.Call (.Name "range" q1) [a, b] [] q2) X.env x = pure x := by intro _; rfl) :
    LC X G (.ListComp elt [⟨.Name z pz, .Call (.Name "range" q1) [a, b] [] q2, [c], 0⟩] scope pos) (((rg m (n - m).toNat).filter t).map f) := lc_mk hc hN (pi_range2 hgl hm (pa_cons pe_w (pa_cons pe_w pa_nil hst4) hst3) hst hst2) ok hg (fun s H C cl fp => pts_one (pt_blk s H C cl fp)) (fun s H C cl fp => pe_blk s H C cl fp) hs fun σ S H k' Q q =>  (ha σ S H k' _ fun v S1 H1 g1 r1 => hb' σ S1 H1 (k'.mono g1) _ fun u S2 H2 g2 r2 => by
    cases r1
    cases r2
    have k2 := k'.mono (g1.trans g2)
    refine ⟨m, n, rfl, hb, fun A hA => lcR_core hl k2 hA (fun v hv σ S H k1 Q q X' hX' => ht v (by have := mem_ints.mp hv; omega) X' hX' (blk_K hX') σ S H (by rw [blk_K hX']; exact k1) Q q) (fun v hv h1 X' hX' hK => he v (by have := mem_ints.mp hv; omega) h1 X' hX' hK) fun H' ⟨S', ws, g', hs', ha', r'⟩ => ?_⟩
    exact q _ ws S' H' ((g1.trans g2).trans g') ((g1.trans g2).h.free hA) hs' ha' r')
theorem lc_cR1If {q1 q2 pz : Pos} {scope : Scope} {elt : Expr} {f : Int → PyData} (k : Nat) (t : Int → Bool) (hm : X.mg "range" = none) (hb' : ED X G b (.int n)) (hb : -(2 ^ 62) ≤ n ∧ n < 2 ^ 62) (hl : n.toNat < 100000)
    (ht : ∀ v, 0 ≤ v ∧ v < n → ∀ X', Blk X X' scope → X'.K = X.K → ET X' { G with c := (G.c.set k none).set k (some (.d (.int v))) } c (t v))
    (he : ∀ v, 0 ≤ v ∧ v < n → t v = true → ∀ X', Blk X X' scope → X'.K = X.K → ED X' { G with c := (G.c.set k none).set k (some (.d (.int v))) } elt (f v))
    (ok : BlkOk X.N X.env.scope scope [(z, k)] := by exact blkOk_by (by decide +kernel)) (hN : X.N.Nodup := by assumption) (hc : X.calm = true := by rfl)
    (hg : ∀ (s : Shared) (H : Hp) (C : Addr) (cl : List (Str × Addr)) (fp : List Addr), PG (X.blk s H scope (compEnvC scope cl C X.env) fp) (.Name z pz) (gName k) := by exact fun _ _ _ _ _ => pg_name (by assumption) rfl (by first | exact Or.inl rfl | exact Or.inr rfl))
    (hgl : Gl X "range" := by rfl) (hst2 : starEach [b] X.env = [(false, eval b X.env)] := by rfl) (hst4 : starEach [b] X.env = (false, eval b X.env) :: starEach [] X.env := by rfl)
    (hs : ∀ x, foldedSetIterable (.Call (.Name "range" q1) [b] [] q2) X.env x = pure x := by intro _; rfl) :
    LC X G (.ListComp elt [⟨.Name z pz, .Call (.Name "range" q1) [b] [] q2, [c], 0⟩] scope pos) (((rg 0 n.toNat).filter t).map f) := lc_mk hc hN (pi_range1 hgl hm (pa_cons pe_w pa_nil hst4) hst2) ok hg (fun s H C cl fp => pts_one (pt_blk s H C cl fp)) (fun s H C cl fp => pe_blk s H C cl fp) hs fun σ S H k' Q q =>  (hb' σ S H k' _ fun u S2 H2 g2 r2 => by
    cases r2
    have k2 := k'.mono g2
    refine ⟨n, rfl, hb.1, hb.2, fun A hA => lcR_core hl k2 hA (fun v hv σ S H k1 Q q X' hX' => ht v (by have := mem_ints.mp hv; omega) X' hX' (blk_K hX') σ S H (by rw [blk_K hX']; exact k1) Q q) (fun v hv h1 X' hX' hK => he v (by have := mem_ints.mp hv; omega) h1 X' hX' hK) fun H' ⟨S', ws, g', hs', ha', r'⟩ => ?_⟩
    exact q _ ws S' H' (g2.trans g') (g2.h.free hA) hs' ha' r')
theorem lc_cR1 {q1 q2 pz : Pos} {scope : Scope} {elt : Expr} {f : Int → PyData} (k : Nat) (hm : X.mg "range" = none) (hb' : ED X G b (.int n)) (hb : -(2 ^ 62) ≤ n ∧ n < 2 ^ 62) (hl : n.toNat < 100000)
    (he : ∀ v, 0 ≤ v ∧ v < n → ∀ X', Blk X X' scope → X'.K = X.K → ED X' { G with c := (G.c.set k none).set k (some (.d (.int v))) } elt (f v))
    (ok : BlkOk X.N X.env.scope scope [(z, k)] := by exact blkOk_by (by decide +kernel)) (hN : X.N.Nodup := by assumption) (hc : X.calm = true := by rfl)
    (hg : ∀ (s : Shared) (H : Hp) (C : Addr) (cl : List (Str × Addr)) (fp : List Addr), PG (X.blk s H scope (compEnvC scope cl C X.env) fp) (.Name z pz) (gName k) := by exact fun _ _ _ _ _ => pg_name (by assumption) rfl (by first | exact Or.inl rfl | exact Or.inr rfl))
    (hgl : Gl X "range" := by rfl) (hst2 : starEach [b] X.env = [(false, eval b X.env)] := by rfl) (hst4 : starEach [b] X.env = (false, eval b X.env) :: starEach [] X.env := by rfl)
    (hs : ∀ x, foldedSetIterable (.Call (.Name "range" q1) [b] [] q2) X.env x = pure x := by intro _; rfl) :
    LC X G (.ListComp elt [⟨.Name z pz, .Call (.Name "range" q1) [b] [] q2, [], 0⟩] scope pos) ((rg 0 n.toNat).map f) := lc_mk hc hN (pi_range1 hgl hm (pa_cons pe_w pa_nil hst4) hst2) ok hg (fun s H C cl fp => pts_nil) (fun s H C cl fp => pe_blk s H C cl fp) hs fun σ S H k' Q q =>  (hb' σ S H k' _ fun u S2 H2 g2 r2 => by
    cases r2
    have k2 := k'.mono g2
    refine ⟨n, rfl, hb.1, hb.2, fun A hA => lcR_core (t := fun _ => true) (tt := tYes) (f := f) hl k2 hA (fun v hv σ S H k1 Q q => q S H k1.gr) (fun v hv h1 X' hX' hK => he v (by have := mem_ints.mp hv; omega) X' hX' hK) fun H' ⟨S', ws, g', hs', ha', r'⟩ => ?_⟩
    rw [filter_tt] at r'
    exact q _ ws S' H' (g2.trans g') (g2.h.free hA) hs' ha' r')

/-! ### a def is closed -/
abbrev W0 : L2.WX := fun _ _ _ _ => False
def startC (N : List Str) (xs : List PyData) : List (Option Sv) := xs.map (fun x => some (.d x)) ++ List.replicate (N.length - xs.length) none
theorem sl_repl {K : Fg} {S : Hp} : ∀ n : Nat, Sl K S (List.replicate n none) (List.replicate n none)
  | 0 => trivial
  | n + 1 => ⟨trivial, sl_repl n⟩
theorem sl_start {K : Fg} {S : Hp} {k : Nat} : ∀ {vs : List V} {xs : List PyData}, RpA K S vs xs → Sl K S (vs.map some ++ List.replicate k none) (xs.map (fun x => some (.d x)) ++ List.replicate k none)
  | _, _, .nil => sl_repl k
  | _, _, .cons h r => ⟨⟨_, rfl, h⟩, sl_start r⟩
end
section
variable {P : Program} {w : World} {K : Fg} {mg : Str → Option Value} {base : Heap} {f : Addr} {fd : FuncData} {z : Str} {st : Stmt} {k : Nat} {N ps : List Str} {R : Rl}
theorem fn_D (F : Fun K z z st f fd) (S : FnScope N ps (defScope st)) (hl : ∀ xs r, R xs r → xs.length = ps.length)
    (body : ∀ (X : Cx) (xs : List PyData) (r : Rs), (∃ cdv A outer s H E, X = (cxOf CX0 P w K mg base N z (defScope st) f cdv A outer s H E).nox) → Room k X.A → R xs r →
      SB X W0 { c := startC N xs } (defBody st) { nx := fun _ => r = .dat .none, rt := fun r' => r' = r }) : FnOk P w K mg base CX0 (k + 1) f fd ps (spD K R) := by
  refine F.ok S (fun vs H Q E h => ?_) (fun cdv A outer s H vs Q E hr h => ⟨wB _ (defBody st), pss_w, ?_⟩)
  · obtain ⟨S, xs, r, h1, h2, h3, h4⟩ := h
    rw [h2.length]
    exact hl xs r h3
  · obtain ⟨S, xs, r, h1, h2, h3, h4, h5⟩ := h
    have q := body _ xs r ⟨cdv, A, outer, s, H, E, rfl⟩ hr h3 S H (fun C _ _ _ _ hC => hC.elim) (L2.start N vs) S H (Gr.refl h1) ⟨h1, ?_, (fun p hp => by cases hp), List.nodup_nil⟩ (fun p hp => by cases hp)
    · refine wB_mono (D := conc K S H { nx := fun _ => r = .dat .none, rt := fun r' => r' = r }) (fun σ H' q => ?_) (fun v H' q => ?_) (fun σ H' q => ?_) (fun σ H' q => ?_) q
      · obtain ⟨S', G', g', k', f', e⟩ := q
        subst e
        exact h4 .non S' H' g' .non
      · obtain ⟨S', r', g', k', e, _⟩ := q
        subst e
        exact h4 v S' H' g' k'
      · obtain ⟨S', G', g', k', f', e⟩ := q
        exact e.elim
      · obtain ⟨S', G', g', k', f', e⟩ := q
        exact e.elim
    · unfold L2.start startC
      rw [h2.length]
      exact sl_start h2
theorem fd_of {cx : CXT} (F : Fun K z z st f fd) (h : FnOk P w K mg base cx k f fd ps (spD K R)) (hm : mg z = some (.ref f)) (hb : Binds K fd ps []) : FD P w K mg base cx z k R := ⟨f, fd, ps, h, hm, F.kp, hb⟩
end
end DL

set_option Elab.async false
set_option linter.all false
set_option maxRecDepth 100000
set_option maxHeartbeats 4000000
namespace DL
open PySem PySem.Spec PyProof.Rows L2
theorem p0 {X : Cx} : Passes CX0 X EF0 := fun _ _ _ _ _ _ _ h => h.elim
section
variable {X : Cx} {E : L2.WX} {G : Gs} {D : DE} {st : Stmt} {rest body els : List Stmt} {a b c e i tg iter : Expr} {es : List Expr} {pos : Pos} {x y : PyData} {ds xs : List PyData} {m n : Int} {p q : Bool} {z w : Str}

/-! ### a word between two statements -/
theorem sb_consP (P : Gs → Prop) (h : SD X E G st { D with nx := P }) (hr : ∀ G', P G' → SB X E G' rest D) : SB X E G (st :: rest) D := sb_cons ⟨fun S0 H0 he σ S H g k f =>
  wS_mono (D := conc X.K S0 H0 { D with nx := P }) (D' := conc X.K S0 H0 { D with nx := fun G' => SB X E G' rest D }) (fun σ' H' ⟨S', G', g', k', f', q⟩ => ⟨S', G', g', k', f', hr G' q⟩) (fun _ _ q => q) (fun _ _ q => q) (fun _ _ q => q) (h S0 H0 he σ S H g k f)⟩

/-- an owned list, read, by its place -/
theorem el_ownP {z : Str} {l : Addr} {post : List (Addr × Ow)} (k : Nat) (pre : List (Addr × Ow)) (h : G.c[k]? = some (some (.v (.ref l)))) (ho : G.o = pre ++ (l, Ow.lst ds) :: post) (hN : X.N[k]? = some z := by rfl) (hv : Vis X.env.scope z := by first | exact Or.inl rfl | exact Or.inr (Or.inl rfl) | exact Or.inr (Or.inr rfl)) (hd : (z == ("__debug__" : Str)) = false := by decide)
    (hcd : (z == ("__classdict__" : Str)) = false := by decide) : EL X G (.Name z pos) ds := el_own k h (by rw [ho]; simp) hN hv hd hcd
theorem sd_retOP {z : Str} {q1 : Pos} {l : Addr} {post : List (Addr × Ow)} (k : Nat) (pre : List (Addr × Ow)) (h : G.c[k]? = some (some (.v (.ref l)))) (ho : G.o = pre ++ (l, Ow.lst ds) :: post) (hr : D.rt (.new ds)) (hN : X.N[k]? = some z := by rfl) (hv : Vis X.env.scope z := by first | exact Or.inl rfl | exact Or.inr (Or.inl rfl) | exact Or.inr (Or.inr rfl)) (hd : (z == ("__debug__" : Str)) = false := by decide)
    (hcd : (z == ("__classdict__" : Str)) = false := by decide) (hg : D.rg (.new ds) G := by first | exact True.intro | assumption) : SD X E G (.Return (some (.Name z q1)) pos) D := sd_retO k h (by rw [ho]; simp) hr hN hv hd hcd hg

/-! ### isinstance -/
def tyD : PyData → String
  | .none => "NoneType" | .bool _ => "bool" | .int _ => "int" | .str _ => "str" | .list _ => "list" | .tuple _ => "tuple" | _ => "dict"
def notScr : PyData → Bool
  | .none | .bool _ | .int _ | .str _ | .list _ | .tuple _ => true | _ => false
theorem ty_rp {K : Fg} {S H : Hp} {v : V} (h : Rp K S v x) (sh : Same S H) (hn : notScr x = true) : TyX K H v (.type (tyD x)) := by
  cases h with
  | non => exact .base .non
  | bl b => exact .base (.bl b)
  | int i => exact .base (.int i)
  | str x => exact .base (.str x)
  | lst h r => exact .base (.lst (sh _ _ h))
  | tup h r => exact .base (.tup (sh _ _ h))
  | scr h => cases hn
  | dic h r => cases hn
  | adr b => cases hn
theorem ed_isi {T d : String} {r : Bool} {q1 q2 : Pos} (hm : X.mg "isinstance" = none) (hm2 : X.mg z = none) (ha : ED X G e x) (hT : bootBuiltins z = some (.type T) := by decide +kernel) (hd : tyD x = d := by rfl) (hr : kitB d T = some r := by decide +kernel) (hn : notScr x = true := by rfl) (hg : Gl X "isinstance" := by rfl) (hg2 : Gl X z := by rfl) (hz : z ≠ "__name__" := by decide) (hz2 : (z == ("__debug__" : Str)) = false := by decide)
    (he : starEach [e, .Name z q2] X.env = (false, eval e X.env) :: starEach [.Name z q2] X.env := by rfl) (he2 : starEach [.Name z q2] X.env = (false, eval (.Name z q2) X.env) :: starEach [] X.env := by rfl) (hpl : (backTo pos (starEach [.Name z q2] X.env)).any (·.1) = false := by rfl) : ED X G (.Call (.Name "isinstance" q1) [e, .Name z q2] [] pos) (.bool r) := ⟨fun σ S H k Q q =>
  wE_of (pe_callB call_isi hg hm (by decide +kernel) (pa_cons pe_w (pa_cons (pe_bltn (v := .ty T) hg2 hm2 hT rfl hz hz2) pa_nil he2) he) (by decide) (by decide) he hpl) (ha σ S H k _ fun v S1 H1 g1 r1 =>
    ⟨v, .ty T, _, _, r, rfl, .ty T, ty_rp r1 g1.sh hn, kit_ty (by rw [hd]; exact hr), q _ S1 H1 g1 (.bl r)⟩)⟩

/-! ### len(set(xs)), xs a list of pairs -/
def rLenTO (K : PySem.W.Frag) (P : Program) (w : World) : List V → Hp → VK → Prop := fun xs H Q => ∃ (a : Addr) (L : List (Addr × List Int)), xs = [V.ref a] ∧ H a = some (SetTO P w a L) ∧ (∀ p ∈ L, SqT K H p.1 (p.2.map V.int)) ∧ ((L.map (·.2)).Nodup → Q (.int L.length) H)
theorem call_lenTO (hc : X.calm = true) : CallR X (.builtin "len") (rLenTO X.K X.prog X.w) := by
  intro pins s σ H xs us Q I r h
  obtain ⟨a, L, rfl, ha, hk, q⟩ := h
  have R0 : SetT0 X.prog X.w s.heap a L := (I.hok a _ ha).1
  obtain ⟨es, ep, t, R⟩ := R0.full fun p hp => I.isT (hk p hp)
  rw [Vals.ref1 r]
  obtain ⟨o, ho, hex, hd⟩ := R.ob
  have hn : es.size = L.length := by
    rw [← Array.length_toList, R.rows]
    unfold rowsOf
    rw [List.length_map]
  have hf := R.few
  exact call_len_set ho hex hd R.fits (by rw [hn] <;> omega) ⟨.int L.length, H, I.tok _, ⟨_, by rw [hn]⟩, q R.nd⟩
theorem rpa_pairs {K : Fg} {S : Hp} : ∀ {vs : List V} {ps : List P2}, RpA K S vs (ps.map dP) → ∃ ks : List (Addr × List Int), vs = ks.map (fun p => V.ref p.1) ∧ ks.map (·.2) = ps.map (fun p => [p.1, p.2]) ∧ ∀ p ∈ ks, ∃ xs, S p.1 = some (.tup xs) ∧ xs = p.2.map V.int
  | _, [], .nil => ⟨[], rfl, rfl, fun _ h => by cases h⟩
  | _, p :: ps, .cons h r => by
    obtain ⟨ks, h1, h2, h3⟩ := rpa_pairs r
    cases h with
    | @tup a xs ds e1 r1 =>
      have r2 : RpA K S xs ([p.1, p.2].map PyData.int) := r1
      refine ⟨(a, [p.1, p.2]) :: ks, by rw [h1]; rfl, by rw [List.map_cons, List.map_cons, h2], fun q hq => ?_⟩
      rcases List.mem_cons.mp hq with rfl | hq
      · exact ⟨xs, e1, r2.ints⟩
      · exact h3 q hq
end
/-- the unlike ones -/
def ddp {α : Type} [DecidableEq α] : List α → List α
  | [] => []
  | x :: xs => if x ∈ xs then ddp xs else x :: ddp xs
theorem mem_ddp {α : Type} [DecidableEq α] {x : α} : ∀ {xs : List α}, x ∈ ddp xs ↔ x ∈ xs
  | [] => Iff.rfl
  | y :: ys => by
    unfold ddp
    by_cases h : y ∈ ys
    · rw [if_pos h, mem_ddp, List.mem_cons]
      exact ⟨.inr, fun z => z.elim (fun z => z ▸ h) id⟩
    · rw [if_neg h, List.mem_cons, List.mem_cons, mem_ddp]
theorem nodup_ddp {α : Type} [DecidableEq α] : ∀ xs : List α, (ddp xs).Nodup
  | [] => List.nodup_nil
  | y :: ys => by
    unfold ddp
    by_cases h : y ∈ ys
    · rw [if_pos h]
      exact nodup_ddp ys
    · rw [if_neg h, List.nodup_cons, mem_ddp]
      exact ⟨h, nodup_ddp ys⟩
theorem ddp_le {α : Type} [DecidableEq α] : ∀ xs : List α, (ddp xs).length ≤ xs.length
  | [] => Nat.le_refl _
  | y :: ys => by
    unfold ddp
    have := ddp_le ys
    split <;> simp <;> omega
theorem ddp_len {α : Type} [DecidableEq α] : ∀ {xs : List α}, (ddp xs).length = xs.length ↔ xs.Nodup
  | [] => by simp [ddp]
  | y :: ys => by
    have ih := ddp_len (xs := ys)
    have le := ddp_le ys
    unfold ddp
    by_cases h : y ∈ ys
    · rw [if_pos h, List.nodup_cons, List.length_cons]
      exact ⟨fun z => by omega, fun z => absurd h z.1⟩
    · rw [if_neg h, List.nodup_cons, List.length_cons, List.length_cons, Nat.add_right_cancel_iff, ih]
      exact ⟨fun z => ⟨h, z⟩, fun z => z.2⟩
theorem nd_le {α : Type} [DecidableEq α] : ∀ {xs ys : List α}, xs.Nodup → (∀ x ∈ xs, x ∈ ys) → xs.length ≤ ys.length
  | [], _, _, _ => Nat.zero_le _
  | x :: xs, ys, hn, hs => by
    obtain ⟨h1, h2⟩ := List.nodup_cons.mp hn
    have hx : x ∈ ys := hs x List.mem_cons_self
    have ih := nd_le (xs := xs) (ys := ys.erase x) h2 fun y hy => by
      have hne : y ≠ x := fun e => h1 (e ▸ hy)
      exact (List.mem_erase_of_ne hne).2 (hs y (List.mem_cons_of_mem _ hy))
    have e := List.length_erase_of_mem hx
    have hp : 0 < ys.length := List.length_pos_of_mem hx
    rw [List.length_cons]
    omega
theorem inj_map_nd {α β : Type} {f : α → β} (hf : ∀ a b, f a = f b → a = b) : ∀ {xs : List α}, xs.Nodup → (xs.map f).Nodup
  | [], _ => List.nodup_nil
  | x :: xs, h => by
    obtain ⟨h1, h2⟩ := List.nodup_cons.mp h
    rw [List.map_cons, List.nodup_cons]
    refine ⟨fun z => ?_, inj_map_nd hf h2⟩
    obtain ⟨y, hy, e⟩ := List.mem_map.mp z
    exact h1 (hf _ _ e ▸ hy)
section
variable {X : Cx} {E : L2.WX} {G : Gs} {D : DE} {st : Stmt} {rest body els : List Stmt} {a b c e i tg iter : Expr} {es : List Expr} {pos : Pos} {x y : PyData} {ds xs : List PyData} {m n : Int} {p q : Bool} {z w : Str}
theorem ed_lenSet {q1 q2 q3 : Pos} {ps : List P2} (hu : X.A.units + 64 < cLine) (hm : X.mg "len" = none) (hm2 : X.mg "set" = none) (ha : EL X G e (ps.map dP)) (hl : ps.length < 64) (hc : X.calm = true := by rfl) (hg : Gl X "len" := by rfl) (hg2 : Gl X "set" := by rfl)
    (he : starEach [e] X.env = (false, eval e X.env) :: starEach [] X.env := by rfl) (hpl : (backTo q3 (starEach [] X.env)).any (·.1) = false := by rfl) (hpl2 : (backTo pos (starEach [] X.env)).any (·.1) = false := by rfl)
    (he2 : starEach [.Call (.Name "set" q2) [e] [] q3] X.env = (false, eval (.Call (.Name "set" q2) [e] [] q3) X.env) :: starEach [] X.env := by rfl) :
    ED X G (.Call (.Name "len" q1) [.Call (.Name "set" q2) [e] [] q3] [] pos) (.int ((ddp ps).length : Int)) := ⟨fun σ S H k Q q =>
  wE_of (pe_callB (call_lenTO hc) hg hm PySem.boot_len (pa_cons (pe_callTy (cr_setOfT hc hu) hg2 hm2 (by decide +kernel) (pa_cons pe_w pa_nil he) (by decide) (by decide) he hpl) pa_nil he2) (by decide) (by decide) he2 hpl2) (ha σ S H k _ fun l vs S1 H1 g1 h1 r1 => by
    obtain ⟨ks, rfl, e2, e3⟩ := rpa_pairs r1
    have hkl : ks.length = ps.length := by
      have := congrArg List.length e2
      rw [List.length_map, List.length_map] at this
      exact this
    refine ⟨l, ks, rfl, SqL.of h1, fun p hp => ?_, by omega, fun A L hA s1 s2 => ?_⟩
    · obtain ⟨xs, q1, q2⟩ := e3 p hp
      rw [← q2]
      exact SqT.of (g1.sh _ _ q1)
    · have g2 : Gr S H S1 (upd H1 A (SetTO X.prog X.w A L)) := g1.raw hA
      refine ⟨A, L, rfl, upd_same, fun p hp => ?_, fun nd => ?_⟩
      · obtain ⟨xs, q1, q2⟩ := e3 p (s1 p hp)
        rw [← q2]
        exact SqT.of (g2.sh _ _ q1)
      · have e4 : L.length = (ddp ps).length := by
          have f1 : ((ddp ps).map fun p => [p.1, p.2]).Nodup := inj_map_nd (fun a b h => by
            obtain ⟨a1, a2⟩ := a
            obtain ⟨b1, b2⟩ := b
            simp at h
            rw [h.1, h.2]) (nodup_ddp ps)
          have m1 : ∀ x ∈ L.map (·.2), x ∈ (ddp ps).map fun p => [p.1, p.2] := fun x hx => by
            obtain ⟨p, hp, rfl⟩ := List.mem_map.mp hx
            have h5 : p.2 ∈ ks.map (·.2) := List.mem_map_of_mem (s1 p hp)
            rw [e2] at h5
            obtain ⟨u, hu, e6⟩ := List.mem_map.mp h5
            exact List.mem_map.mpr ⟨u, mem_ddp.mpr hu, e6⟩
          have m2 : ∀ x ∈ (ddp ps).map (fun p => [p.1, p.2]), x ∈ L.map (·.2) := fun x hx => by
            obtain ⟨u, hu, e6⟩ := List.mem_map.mp hx
            have h5 : x ∈ ps.map fun p => [p.1, p.2] := List.mem_map.mpr ⟨u, mem_ddp.mp hu, e6⟩
            rw [← e2] at h5
            obtain ⟨p, hp, e7⟩ := List.mem_map.mp h5
            rw [← e7]
            exact s2 p hp
          have a1 := nd_le nd m1
          have a2 := nd_le f1 m2
          rw [List.length_map, List.length_map] at a1 a2
          omega
        rw [e4]
        exact q _ _ _ g2 (.int _))⟩

theorem ed_lenM {q1 : Pos} {α : Type} {u : α → PyData} {zs : List α} (hm : X.mg "len" = none) (ha : EL X G e (zs.map u)) (hg : Gl X "len" := by rfl) (he : starEach [e] X.env = (false, eval e X.env) :: starEach [] X.env := by rfl) (hpl : (backTo pos (starEach [] X.env)).any (·.1) = false := by rfl) : ED X G (.Call (.Name "len" q1) [e] [] pos) (.int (zs.length : Int)) :=
  (ed_len hm ha hg he hpl).is (by rw [List.length_map])
theorem map_erase {α β : Type} (f : α → β) : ∀ (xs : List α) (i : Nat), (xs.eraseIdx i).map f = (xs.map f).eraseIdx i
  | [], _ => rfl
  | _ :: _, 0 => rfl
  | x :: xs, i + 1 => congrArg (f x :: ·) (map_erase f xs i)
/-! ### for over a list of like things, comprehensions over a tuple -/
theorem sd_forLm {z : Str} {q3 : Pos} {α : Type} {u : α → PyData} {zs : List α} (k : Nat) (P : Nat → Gs → Prop) (ha : ED X G iter (.list (zs.map u))) (h0 : P 0 G)
    (hs : ∀ (i : Nat) (t : α) (G' : Gs), zs[i]? = some t → P i G' → SB X E { G' with c := G'.c.set k (some (.d (u t))) } body { D with nx := P (i + 1), ct := P (i + 1), bk := D.nx }) (hd : ∀ G', P zs.length G' → D.nx G')
    (hi : X.N[k]? = some z := by rfl) (hN : X.N.Nodup := by assumption) (hx : Loc X.env.scope z := by first | exact Or.inl rfl | exact Or.inr rfl) (hc : X.calm = true := by rfl) (hp : PassesOwn (model X.prog X.w) X.A X.env X.xe := by exact PassesOwn.never)
    (hf : X.fn z = true ∨ X.env.scope.names.lookup z = some .local := by first | exact .inl rfl | exact .inr rfl | assumption) (hfo : ∀ x, foldedSetIterable iter X.env x = pure x := by intro _; rfl) : SD X E G (.For (.Name z q3) iter body [] pos) D :=
  sd_forLn k P ha h0 (fun i x G' hx' pp => by
    rw [List.getElem?_map] at hx'
    cases e1 : zs[i]? with
    | none => rw [e1] at hx'; cases hx'
    | some t =>
      rw [e1] at hx'
      cases hx'
      exact hs i t G' e1 pp) (fun G' pp => hd G' (by rw [List.length_map] at pp; exact pp)) hi hN hx hc hp hf hfo
/-- the greatest, the least -/
def lmax : List Int → Int
  | [] => 0
  | [x] => x
  | x :: y :: xs => max x (lmax (y :: xs))
def lmin : List Int → Int
  | [] => 0
  | [x] => x
  | x :: y :: xs => min x (lmin (y :: xs))
theorem lmax_ok : ∀ {xs : List Int}, 0 < xs.length → lmax xs ∈ xs ∧ ∀ y ∈ xs, y ≤ lmax xs
  | [x], _ => by simp [lmax]
  | x :: y :: xs, _ => by
    obtain ⟨h1, h2⟩ := lmax_ok (xs := y :: xs) (by simp)
    rw [lmax]
    constructor
    · rcases Int.le_total x (lmax (y :: xs)) with h | h
      · rw [Int.max_eq_right h]
        exact List.mem_cons_of_mem _ h1
      · rw [Int.max_eq_left h]
        exact List.mem_cons_self
    · intro u hu
      rcases List.mem_cons.mp hu with rfl | hu
      · exact Int.le_max_left _ _
      · exact Int.le_trans (h2 u hu) (Int.le_max_right _ _)
theorem lmin_ok : ∀ {xs : List Int}, 0 < xs.length → lmin xs ∈ xs ∧ ∀ y ∈ xs, lmin xs ≤ y
  | [x], _ => by simp [lmin]
  | x :: y :: xs, _ => by
    obtain ⟨h1, h2⟩ := lmin_ok (xs := y :: xs) (by simp)
    rw [lmin]
    constructor
    · rcases Int.le_total x (lmin (y :: xs)) with h | h
      · rw [Int.min_eq_left h]
        exact List.mem_cons_self
      · rw [Int.min_eq_right h]
        exact List.mem_cons_of_mem _ h1
    · intro u hu
      rcases List.mem_cons.mp hu with rfl | hu
      · exact Int.min_le_left _ _
      · exact Int.le_trans (Int.min_le_right _ _) (h2 u hu)
theorem ed_maxM {q1 : Pos} {ns : List Int} (hm : X.mg "max" = none) (ha : EL X G e (ns.map PyData.int)) (hl : 0 < ns.length) (hc : X.calm = true := by rfl) (hg : Gl X "max" := by rfl) (he : starEach [e] X.env = (false, eval e X.env) :: starEach [] X.env := by rfl) (hpl : (backTo pos (starEach [] X.env)).any (·.1) = false := by rfl) : ED X G (.Call (.Name "max" q1) [e] [] pos) (.int (lmax ns)) := ed_maxL hm ha hl (lmax_ok hl) hc hg he hpl
theorem ed_minM {q1 : Pos} {ns : List Int} (hm : X.mg "min" = none) (ha : EL X G e (ns.map PyData.int)) (hl : 0 < ns.length) (hc : X.calm = true := by rfl) (hg : Gl X "min" := by rfl) (he : starEach [e] X.env = (false, eval e X.env) :: starEach [] X.env := by rfl) (hpl : (backTo pos (starEach [] X.env)).any (·.1) = false := by rfl) : ED X G (.Call (.Name "min" q1) [e] [] pos) (.int (lmin ns)) := ed_minL hm ha hl (lmin_ok hl) hc hg he hpl
end
end DL

set_option Elab.async false
set_option linter.all false
set_option maxRecDepth 100000
set_option maxHeartbeats 4000000
namespace DL
open PySem PySem.Spec PyProof.Rows L2
section
variable {X : Cx} {E : L2.WX} {G : Gs} {D : DE} {st : Stmt} {rest body els : List Stmt} {a b c d e i tg iter : Expr} {es : List Expr} {pos : Pos} {x y : PyData} {ds xs : List PyData} {m n : Int} {p q : Bool} {z w : Str} {ta tb tc td : TE}
/-! ### a chain of three -/
def tChain3 (r r' r'' : R2) (ta tb tc td : TE) : TE := fun σ H Q => ta σ H fun x H1 => tb σ H1 fun y H2 => r x y H2 fun z H3 => ∃ k, z = .bl k ∧
  (if k = true then tc σ H3 fun w H4 => r' y w H4 fun z2 H5 => ∃ k2, z2 = .bl k2 ∧ (if k2 = true then td σ H5 fun u H6 => r'' w u H6 Q else Q (.bl false) H5) else Q (.bl false) H3)
theorem pe_chain3 {o1 o2 o3 : CmpOp} {r r' r'' : R2} (h1 : OpR X (compareOp o1) r) (h2 : OpR X (compareOp o2) r') (h3 : OpR X (compareOp o3) r'') (ha : PE X a ta) (hb : PE X b tb) (hc : PE X c tc) (hd : PE X d td)
    (hm : lastMarks [o1, o2, o3] [b, c, d] = false := by with_unfolding_all rfl) : PE X (.Compare a [o1, o2, o3] [b, c, d] pos) (tChain3 r r' r'' ta tb tc td) := by
  refine ⟨fun pins s σ H Q I h => ?_⟩
  refine Compare_chain (thn (ha.run pins s σ H _ I h) fun v s1 ⟨x, H1, I1, r1, q1⟩ => chain_link (thn (hb.run pins s1 σ H1 _ I1 q1) fun u s2 ⟨y, H2, I2, r2, q2⟩ =>
    thn (h1 pins s2 σ H2 x y v u _ I2 r1 r2 q2) fun d' s3 ⟨z, H3, I3, r3, k, e, q3⟩ => ?_)) hm
  subst e
  cases r3
  refine wpAny_truthy_bool ?_
  cases k with
  | false => exact ite_ff ⟨.bl false, H3, I3, rfl, q3⟩
  | true =>
    refine ite_tt (chain_link (thn (hc.run pins s3 σ H3 _ I3 q3) fun w' s4 ⟨z', H4, I4, r4, q4⟩ => thn (h2 pins s4 σ H4 y z' u w' _ I4 r2 r4 q4) fun d2 s5 ⟨z2, H5, I5, r5, k2, e2, q5⟩ => ?_))
    subst e2
    cases r5
    refine wpAny_truthy_bool ?_
    cases k2 with
    | false => exact ite_ff ⟨.bl false, H5, I5, rfl, q5⟩
    | true => exact ite_tt (chain_last (thn (hd.run pins s5 σ H5 _ I5 q5) fun u2 s6 ⟨z3, H6, I6, r6, q6⟩ => h3 pins s6 σ H6 z' z3 w' u2 Q I6 r4 r6 q6))
theorem pt_chain3 {o1 o2 o3 : CmpOp} {r r' r'' : R2} (h1 : OpR X (compareOp o1) r) (h2 : OpR X (compareOp o2) r') (h3 : OpR X (compareOp o3) r'') (ha : PE X a ta) (hb : PE X b tb) (hc : PE X c tc) (hd : PE X d td)
    (hm : lastMarks [o1, o2, o3] [b, c, d] = false := by with_unfolding_all rfl) : PT X (.Compare a [o1, o2, o3] [b, c, d] pos) (tTest (tChain3 r r' r'' ta tb tc td)) := by
  refine ⟨fun pins s σ H Q I h => ?_⟩
  refine isTrue_chain (thn (ha.run pins s σ H _ I h) fun v s1 ⟨x, H1, I1, r1, q1⟩ => test_link (thn (hb.run pins s1 σ H1 _ I1 q1) fun u s2 ⟨y, H2, I2, r2, q2⟩ =>
    thn (h1 pins s2 σ H2 x y v u _ I2 r1 r2 q2) fun d' s3 ⟨z, H3, I3, r3, k, e, q3⟩ => ?_)) hm
  subst e
  cases r3
  refine wpAny_truthy_bool ?_
  cases k with
  | false =>
    obtain ⟨k', e', q'⟩ := q3
    cases e'
    exact ite_ff ⟨H3, I3, q'⟩
  | true =>
    refine ite_tt (test_link (thn (hc.run pins s3 σ H3 _ I3 q3) fun w' s4 ⟨z', H4, I4, r4, q4⟩ => thn (h2 pins s4 σ H4 y z' u w' _ I4 r2 r4 q4) fun d2 s5 ⟨z2, H5, I5, r5, k2, e2, q5⟩ => ?_))
    subst e2
    cases r5
    refine wpAny_truthy_bool ?_
    cases k2 with
    | false =>
      obtain ⟨k', e', q'⟩ := q5
      cases e'
      exact ite_ff ⟨H5, I5, q'⟩
    | true =>
      refine ite_tt (test_last (thn (hd.run pins s5 σ H5 _ I5 q5) fun u2 s6 ⟨z3, H6, I6, r6, q6⟩ => thn (h3 pins s6 σ H6 z' z3 w' u2 _ I6 r4 r6 q6) fun d3 s7 ⟨z4, H7, I7, r7, k3, e3, q7⟩ => ?_))
      subst e3
      cases r7
      exact wpAny_truthy_bool ⟨H7, I7, q7⟩
theorem ed_chain3 {o1 o2 o3 : CmpOp} {z u : PyData} {r : Bool} (ha : ED X G a x) (hb : ED X G b y) (hc : ED X G c z) (hd : ED X G d u) (h1 : CD X o1 x y p) (h2 : CD X o2 y z q) (h3 : CD X o3 z u r) (hm : lastMarks [o1, o2, o3] [b, c, d] = false := by with_unfolding_all rfl) : ED X G (.Compare a [o1, o2, o3] [b, c, d] pos) (.bool (p && (q && r))) := by
  obtain ⟨w1, ho1, hr1⟩ := h1
  obtain ⟨w2, ho2, hr2⟩ := h2
  obtain ⟨w3, ho3, hr3⟩ := h3
  refine ⟨fun σ S H k Q k' => wE_of (pe_chain3 ho1 ho2 ho3 pe_w pe_w pe_w pe_w hm) (ha σ S H k _ fun v S1 H1 g1 r1 => hb σ S1 H1 (k.mono g1) _ fun u S2 H2 g2 r2 => hr1 v u S2 H2 g2.sh (r1.mono g2.s) r2 _ ⟨p, rfl, ?_⟩)⟩
  cases p with
  | true =>
    refine iteT (hc σ S2 H2 (k.mono (g1.trans g2)) _ fun w S3 H3 g3 r3 => hr2 u w S3 H3 g3.sh (r2.mono g3.s) r3 _ ⟨q, rfl, ?_⟩)
    have gg := (g1.trans g2).trans g3
    cases q with
    | true => exact iteT (hd σ S3 H3 (k.mono gg) _ fun t S4 H4 g4 r4 => hr3 w t S4 H4 g4.sh (r3.mono g4.s) r4 _ (k' _ S4 H4 (gg.trans g4) (.bl r)))
    | false => exact iteF (k' _ S3 H3 gg (.bl false))
  | false => exact iteF (k' _ S2 H2 (g1.trans g2) (.bl false))
theorem et_chain3 {o1 o2 o3 : CmpOp} {z u : PyData} {r : Bool} (ha : ED X G a x) (hb : ED X G b y) (hc : ED X G c z) (hd : ED X G d u) (h1 : CD X o1 x y p) (h2 : CD X o2 y z q) (h3 : CD X o3 z u r) (hm : lastMarks [o1, o2, o3] [b, c, d] = false := by with_unfolding_all rfl) : ET X G (.Compare a [o1, o2, o3] [b, c, d] pos) (p && (q && r)) := by
  obtain ⟨w1, ho1, hr1⟩ := h1
  obtain ⟨w2, ho2, hr2⟩ := h2
  obtain ⟨w3, ho3, hr3⟩ := h3
  refine ⟨fun σ S H k Q k' => wT_of (pt_chain3 ho1 ho2 ho3 pe_w pe_w pe_w pe_w hm) (ha σ S H k _ fun v S1 H1 g1 r1 => hb σ S1 H1 (k.mono g1) _ fun u S2 H2 g2 r2 => hr1 v u S2 H2 g2.sh (r1.mono g2.s) r2 _ ⟨p, rfl, ?_⟩)⟩
  cases p with
  | true =>
    refine iteT (hc σ S2 H2 (k.mono (g1.trans g2)) _ fun w S3 H3 g3 r3 => hr2 u w S3 H3 g3.sh (r2.mono g3.s) r3 _ ⟨q, rfl, ?_⟩)
    have gg := (g1.trans g2).trans g3
    cases q with
    | true => exact iteT (hd σ S3 H3 (k.mono gg) _ fun t S4 H4 g4 r4 => hr3 w t S4 H4 g4.sh (r3.mono g4.s) r4 _ ⟨r, rfl, k' S4 H4 (gg.trans g4)⟩)
    | false => exact iteF ⟨false, rfl, k' S3 H3 gg⟩
  | false => exact iteF ⟨false, rfl, k' S2 H2 (g1.trans g2)⟩
end
end DL

set_option Elab.async false
set_option linter.all false
set_option maxRecDepth 100000
set_option maxHeartbeats 4000000
/-! The data layer: what is raised, caught, asked for its class. -/
namespace DL
open PySem PySem.Spec PyProof.Rows L2
abbrev veT : List Value := [.type "ValueError", .type "Exception", .type "BaseException", .type "object"]
/-- an own class of errors -/
structure ExK (K : Fg) (mg : Str → Option Value) (x : Str) (C : Addr) : Prop where
  g : mg x = some (.ref C)
  own : PySem.W.excIn K C veT "ValueError.__new__" = true
  k : PySem.W.keepIn K (.ref C) = true
  b : PySem.W.subIn K (.ref C) (.type "BaseException") = some true
  t : PySem.W.typeIn K (.ref C) = some (.type "type")
section
variable {X : Cx} {W : L2.WX} {G : Gs} {D : DE} {st : Stmt} {rest body els : List Stmt} {a b c d e i tg iter : Expr} {es : List Expr} {pos : Pos} {x y : PyData} {ds xs : List PyData} {m n : Int} {p q : Bool} {z w : Str}
/-! ### raise -/
theorem sd_raise {q1 q2 q3 : Pos} {t : Str} {j} {C : Addr} (k : ExK X.K X.mg z C) (tk : Takes X W) (hx : D.ex C G) (hc : X.calm = true := by rfl) (hg : Gl X z := by rfl) (hdb : (z == ("__debug__" : Str)) = false := by decide) :
    SD X W G (.Raise (some (.Call (.Name z q1) [.Constant (.str t) j q2] [] q3)) none pos) D := ⟨fun S0 H0 he σ S H g k' f =>
  wS_of (ps_raise hc tk (pmk_own PySem.F.excBase_ValueError k.own k.g k.k (raises_own k.b k.t) hg hdb)) (he C G σ S H hx g k' f)⟩
/-- a def is called, what it raises is wished for -/
theorem sd_callX {q1 q3 : Pos} {k : Nat} {R : Rl} {C : Addr} (F : FD X.prog X.w X.K X.mg X.base (L2.CX X.prog X.w) z k R) (hr : Room k X.A) (tk : Takes X W) (ha : EA X G (e :: es) xs) (h : R xs (.exc C)) (hx : D.ex C G) (hg : Gl X z := by rfl) (hdb : (z == ("__debug__" : Str)) = false := by decide)
    (he : starEach (e :: es) X.env = (false, eval e X.env) :: starEach es X.env := by rfl) (hpl : (backTo q3 (starEach es X.env)).any (·.1) = false := by rfl) (hs : swapsWith (.Call (.Name z q1) (e :: es) [] q3) none pos.line X.env = pure false := by rfl) :
    SD X W G (.Expr (.Call (.Name z q1) (e :: es) [] q3) pos) D := ⟨fun S0 H0 hE σ S H g k' f => by
  obtain ⟨f', fd, ps, h1, h2, h3, h4⟩ := F.ex
  refine wS_of (ps_expr (pe_callS h1 hr hg h2 h3 h4 (fun σ => passAt tk σ) pa_w hdb he hpl) hs) (ha σ S H k' _ fun vs S1 H1 g1 r1 => ?_)
  exact ⟨S1, xs, .exc C, g1.sh, r1, h, fun v S2 H2 g2 r2 => r2.elim, fun C' ec S2 H2 g2 => by
    cases ec
    exact hE C G σ S2 H2 hx (g.trans (g1.trans g2)) (k'.mono (g1.trans g2)) f⟩⟩
/-- .. as a value that a name is set to -/
theorem sd_setX {u : Str} {q1 q2 q3 : Pos} {k : Nat} {R : Rl} {C : Addr} (j : Nat) (F : FD X.prog X.w X.K X.mg X.base (L2.CX X.prog X.w) z k R) (hr : Room k X.A) (tk : Takes X W) (ha : EA X G (e :: es) xs) (h : R xs (.exc C)) (hx : D.ex C G) (hi : X.N[j]? = some u := by rfl) (hN : X.N.Nodup := by assumption) (hl : Loc X.env.scope u := by first | exact Or.inl rfl | exact Or.inr rfl) (hf : X.fn u = true ∨ X.env.scope.names.lookup u = some .local := by first | exact .inl rfl | exact .inr rfl | assumption)
    (hg : Gl X z := by rfl) (hdb : (z == ("__debug__" : Str)) = false := by decide) (he : starEach (e :: es) X.env = (false, eval e X.env) :: starEach es X.env := by rfl) (hpl : (backTo q3 (starEach es X.env)).any (·.1) = false := by rfl) (hs : swapsWith (.Call (.Name z q1) (e :: es) [] q3) (some (.Name u q2)) pos.line X.env = pure false := by rfl) :
    SD X W G (.Assign [.Name u q2] (.Call (.Name z q1) (e :: es) [] q3) pos) D := ⟨fun S0 H0 hE σ S H g k' f => by
  obtain ⟨f', fd, ps, h1, h2, h3, h4⟩ := F.ex
  refine wS_of (ps_set hN hi hl (pe_callS h1 hr hg h2 h3 h4 (fun σ => passAt tk σ) pa_w hdb he hpl) hs hf) (ha σ S H k' _ fun vs S1 H1 g1 r1 => ?_)
  exact ⟨S1, xs, .exc C, g1.sh, r1, h, fun v S2 H2 g2 r2 => r2.elim, fun C' ec S2 H2 g2 => by
    cases ec
    exact hE C G σ S2 H2 hx (g.trans (g1.trans g2)) (k'.mono (g1.trans g2)) f⟩⟩
end
/-! ### a def that may raise is closed -/
section
variable {P : Program} {w : World} {K : Fg} {mg : Str → Option Value} {base : Heap} {f : Addr} {fd : FuncData} {z : Str} {st : Stmt} {k : Nat} {N ps : List Str} {R : Rl}
theorem fn_DX (F : Fun K z z st f fd) (S : FnScope N ps (defScope st)) (hl : ∀ xs r, R xs r → xs.length = ps.length)
    (body : ∀ (X : Cx) (W : L2.WX) (xs : List PyData) (r : Rs), (∃ cdv A outer s H E, X = cxOf (L2.CX P w) P w K mg base N z (defScope st) f cdv A outer s H E) → Takes X W → Room k X.A → R xs r →
      SB X W { c := startC N xs } (defBody st) { nx := fun _ => r = .dat .none, rt := fun r' => r' = r, ex := fun C _ => r = .exc C }) : FnOk P w K mg base (L2.CX P w) (k + 1) f fd ps (spD K R) := by
  refine F.okX S (fun vs H Q E h => ?_) (fun cdv A outer s H vs Q E hr h => ⟨wB _ (defBody st), pss_w, ?_⟩)
  · obtain ⟨S, xs, r, h1, h2, h3, h4⟩ := h
    rw [h2.length]
    exact hl xs r h3
  · obtain ⟨S, xs, r, h1, h2, h3, h4, h5⟩ := h
    have q := body _ (fun cls d _ H => E cls d H) xs r ⟨cdv, A, outer, s, H, E, rfl⟩ (takes_of rfl rfl rfl rfl) hr h3 S H (fun C G σ S' H' hC g' _ _ => h5 C hC S' H' g') (L2.start N vs) S H (Gr.refl h1) ⟨h1, ?_, (fun p hp => by cases hp), List.nodup_nil⟩ (fun p hp => by cases hp)
    · refine wB_mono (D := conc K S H { nx := fun _ => r = .dat .none, rt := fun r' => r' = r, ex := fun C _ => r = .exc C }) (fun σ H' q => ?_) (fun v H' q => ?_) (fun σ H' q => ?_) (fun σ H' q => ?_) q
      · obtain ⟨S', G', g', k', f', e⟩ := q
        subst e
        exact h4 .non S' H' g' .non
      · obtain ⟨S', r', g', k', e, _⟩ := q
        subst e
        exact h4 v S' H' g' k'
      · obtain ⟨S', G', g', k', f', e⟩ := q
        exact e.elim
      · obtain ⟨S', G', g', k', f', e⟩ := q
        exact e.elim
    · unfold L2.start startC
      rw [h2.length]
      exact sl_start h2
end
theorem tk0 {X : Cx} : Takes X (fun _ _ _ _ => False) := fun u s' x => by
  rcases x with ⟨_, _, _, _, _, _, _, _, _, _, _, _, _, _, _, _, z⟩
  exact z.elim
/-! ### try -/
section
variable {X : Cx} {W : L2.WX} {G : Gs} {D : DE} {body suite : List Stmt} {b0 : Stmt} {pos : Pos} {z n : Str}
theorem At.drop {K : Fg} {S0 H0 : Hp} {P : Gs → Prop} {σ : L2.St} {H : Hp} (i : Nat) (h : At K S0 H0 (fun G => P { G with c := G.c.set i none }) σ H) : At K S0 H0 P (σ.set i none) H := by
  obtain ⟨S, G, g, k, f, p⟩ := h
  exact ⟨S, { G with c := G.c.set i none }, g, ⟨k.sh, Sl.set (g := none) trivial i k.sl, k.ow, k.nd⟩, f, p⟩
theorem sd_try {np pos' : Pos} {Cw : Addr} (i : Nat) (Hn : Addr → Gs → Prop) (hs : X.stack = X.env :: X.outer) (hf : X.env.frame = some X.env.locals) (hc : Names X z (.ref Cw)) (tk : Takes X (fun _ _ _ _ => False))
    (hb : ∀ (W' : L2.WX) (pn : List (Addr × Obj)) (xe : Value → Shared → Prop), Takes (X.tr pn xe) W' → PassesOwn (model X.prog X.w) X.A X.env xe → SB (X.tr pn xe) W' G body { D with ex := Hn })
    (hx : ∀ C G', Hn C G' → PySem.W.exmOne X.K (.ref C) (.ref Cw) = some true ∧ ∀ (l : Addr) (oe : Obj) (pn : List (Addr × Obj)), Zc (.ref C) none oe → (∃ vs, oe.data = .fields vs) →
      SB (X.suite l ((l, oe) :: pn)) W0 { G' with c := G'.c.set i (some (.v (.ref l))) } (b0 :: suite) { nx := fun G2 => D.nx { G2 with c := G2.c.set i none }, rt := D.rt, rg := D.rg, bk := fun G2 => D.bk { G2 with c := G2.c.set i none }, ct := fun G2 => D.ct { G2 with c := G2.c.set i none } })
    (hi : X.N[i]? = some n := by rfl) (hN : X.N.Nodup := by assumption) (hln : X.env.kindOf n = some .local := by rfl) :
    SD X W G (.Try body [.ExceptHandler (some (.Name z np)) (some n) (b0 :: suite) pos'] [] [] pos) D := ⟨fun S0 H0 _ σ S H g k f => by
  refine wS_of (ps_try_as (i := i) (c := .ref Cw) (Wout := fun _ _ _ _ => False) (tb := fun W' D' σ H => ∀ pn xe, Takes (X.tr pn xe) W' → PassesOwn (model X.prog X.w) X.A X.env xe → wB (X.tr pn xe) body D' σ H) (ts := fun l cls d D' σ H => ∀ oe pn, Zc cls d oe → (∃ vs, oe.data = .fields vs) → wB (X.suite l ((l, oe) :: pn)) (b0 :: suite) D' σ H) hs hf hN hi hln hc tk
    (fun W' pn xe t1 t2 => ⟨fun pins s σ H D' I h => h pn xe t1 t2 pins s I⟩) (fun l oe cls d pn hz hd => ⟨fun pins s σ H D' I h => h oe pn hz hd pins s I⟩)) ?_
  intro pn xe t1 t2
  refine wB_mono (D := conc X.K S0 H0 { D with ex := Hn }) (fun _ _ q => q) (fun _ _ q => q) (fun _ _ q => q) (fun _ _ q => q) (hb _ pn xe t1 t2 S0 H0 (fun C G' σ' S' H' hC g' k' f' => ?_) σ S H g k f)
  obtain ⟨e1, e2⟩ := hx C G' hC
  refine ⟨true, e1, fun _ l hl oe pn' hz hd => ?_, fun q => nomatch q⟩
  refine wB_mono (D := conc X.K S0 H0 { nx := fun G2 => D.nx { G2 with c := G2.c.set i none }, rt := D.rt, rg := D.rg, bk := fun G2 => D.bk { G2 with c := G2.c.set i none }, ct := fun G2 => D.ct { G2 with c := G2.c.set i none } }) (fun _ _ q => q.drop i) (fun _ _ q => q) (fun _ _ q => q.drop i) (fun _ _ q => q.drop i) ?_
  exact e2 l oe pn' hz hd S0 H0 (fun C G σ S H h => h.elim) _ S' H' g' ⟨k'.sh, Sl.set (g := some (.v (.ref l))) rfl i k'.sl, k'.ow, k'.nd⟩ f'⟩
end
end DL

set_option Elab.async false
set_option linter.all false
set_option maxRecDepth 100000
set_option maxHeartbeats 4000000
/-! The data layer: a def that is called with the error in hand. -/
namespace DL
open PySem PySem.Spec PyProof.Rows L2
/-- a def of one argument, an error of class C, gives m where R C m -/
def HotRun (P : Program) (w : World) (K : Fg) (mg : Str → Option Value) (base : Heap) (n : Str) (k : Nat) (f : Addr) (fd : FuncData) (R : Addr → Int → Prop) : Prop :=
  ∀ (A : Around) (outer : List Env) (s : Shared) (H : Hp) (us : List Value) (Q : VK) (p : Addr × Obj) (C : Addr) (m : Int) (S : Hp), L2H.RoomH k A → L2H.PinOk outer H s p → Zc (.ref C) none p.2 → (∃ vs, p.2.data = .fields vs) → Env0 P w K mg base A outer s H → BindsTo s fd ⟨us, []⟩ ([n].zip us) → Vals [V.ref p.1] us →
    R C m → Same S H → (∀ S' H', Gr S H S' H' → Q (.int m) H') → codeAny (model P w) A (.call (.ref f) ⟨us, []⟩) (CR CX0 outer P w H s Q EF0) s
structure FW (P : Program) (w : World) (K : Fg) (mg : Str → Option Value) (base : Heap) (z n : Str) (k : Nat) (R : Addr → Int → Prop) : Prop where
  ex : ∃ f fd, HotRun P w K mg base n k f fd R ∧ mg z = some (.ref f) ∧ PySem.W.keepIn K (.ref f) = true ∧ Binds K fd [n] []
section
variable {P : Program} {w : World} {K : Fg} {mg : Str → Option Value} {base : Heap} {f : Addr} {fd : FuncData} {z n : Str} {st : Stmt} {k : Nat} {N : List Str} {R : Addr → Int → Prop}
theorem hot_run (F : Fun K z z st f fd) (S : FnScope N [n] (defScope st))
    (body : ∀ (X : Cx) (p : Addr × Obj) (C : Addr) (m : Int), (∃ cdv A outer s H, X = L2H.cxH CX0 P w K mg base N z (defScope st) f cdv A outer s H EF0 p) → p ∈ X.pn → Zc (.ref C) none p.2 → (∃ vs, p.2.data = .fields vs) → L2H.RoomH k X.A → R C m →
      SB X W0 { c := some (.v (.ref p.1)) :: List.replicate (N.length - 1) none } (defBody st) { nx := fun _ => False, rt := fun r => r = .dat (.int m) }) : HotRun P w K mg base n (k + 1) f fd R := by
  intro A outer s H us Q p C m S0 room pin hz hd e0 bnd rv hR hsh hq
  obtain ⟨oc, od, kV, doc, pm, an, cdv, ct, osl, rfl, lk, hcd⟩ := F.ex
  have inK : K.In s.heap := e0.mod.kin.keeps fun b o e => (e0.bs b o e).1
  have nolim : s.heap.NoLimit := e0.mod.nolimit.keeps fun b o e => (e0.bs b o e).1
  have kinds : ∀ y ∈ [n].zip us, (defScope st).names.lookup y.1 = some .local ∨ ((defScope st).names.lookup y.1 = some .cell ∧ ((cellsFrom (s.heap.objs.size + 1) (defScope st).names []).lookup y.1).isSome = true) := fun y hy => by
    have hm := (List.of_mem_zip (a := y.1) (b := y.2) hy).1
    rcases S.par y.1 hm with q | q
    · exact .inl q
    · exact .inr ⟨q, PySem.W.cellsFrom_some _ _ _ (.inl q)⟩
  refine codeAny_call_function room.depth (inK _ _ lk) rfl S.co S.gen rfl (PySem.W.codeRec_of inK hcd) (bnd _ _ _ _ ?_)
  refine wpAny_newFunctionEnv_cells S.kind kinds fun env henv s1 start => ?_
  subst henv
  refine ⟨nolim.keeps start.toInCall.keep, codeAny_func ?_⟩
  have I := L2H.inv_startH (CX := CX0) (P := P) (w := w) (qual := z) (f := f) (cd := cdv) (E := EF0) S pin e0 (vs := [V.ref p.1]) rfl rv start
  have ok0 : Ok K S0 H (L2.start N [V.ref p.1]) { c := some (.v (.ref p.1)) :: List.replicate (N.length - 1) none } := by
    refine ⟨hsh, ?_, (fun q hq => by cases hq), List.nodup_nil⟩
    unfold L2.start
    exact ⟨rfl, sl_repl _⟩
  have run := body _ p C m ⟨cdv, A, outer, s, H, rfl⟩ (by exact List.mem_singleton.mpr rfl) hz hd (room.deeper _) hR S0 H (fun C G σ S H h => h.elim) _ S0 H (Gr.refl hsh) ok0 (fun q hq => by cases hq)
  refine wpAny_mono (run [] s1 I) (fun fl s' hs => ?_) fun e s' hs => hs
  cases fl with
  | ret u =>
    obtain ⟨v, σ', H', J, rvu, S', r, g', ro, er, _⟩ := hs
    subst er
    cases ro
    exact ⟨_, H', J.os, J.bare, J.base, J.hok, rvu, hq S' H' g'⟩
  | next =>
    obtain ⟨_, _, _, _, _, _, _, _, q⟩ := hs
    exact q.elim
  | brk =>
    obtain ⟨_, _, _, _, _, _, _, _, q⟩ := hs
    exact q.elim
  | cont =>
    obtain ⟨_, _, _, _, _, _, _, _, q⟩ := hs
    exact q.elim
theorem fw_of (F : Fun K z z st f fd) (h : HotRun P w K mg base n k f fd R) (hm : mg z = some (.ref f)) (hb : Binds K fd [n] []) : FW P w K mg base z n k R := ⟨f, fd, h, hm, F.kp, hb⟩
end
section
variable {X : Cx} {W : L2.WX} {G : Gs} {D : DE} {e i tg iter o : Expr} {es : List Expr} {pos : Pos} {x y : PyData} {ds xs : List PyData} {m : Int} {b : Bool} {z n w2 : Str} {p : Addr × Obj} {C : Addr}
/-- the call -/
theorem ed_hot {k : Nat} {R : Addr → Int → Prop} {q1 q2 : Pos} {nn : Str} (F : FW X.prog X.w X.K X.mg X.base z nn k R) (hr : L2H.RoomH k X.A) (j : Nat) (hj : G.c[j]? = some (some (.v (.ref p.1)))) (hp : p ∈ X.pn) (hz : Zc (.ref C) none p.2) (hf : ∃ vs, p.2.data = .fields vs) (hR : R C m)
    (hN : X.N[j]? = some n := by rfl) (hv : Vis X.env.scope n := by first | exact Or.inl rfl | exact Or.inr (Or.inl rfl) | exact Or.inr (Or.inr rfl)) (hd : (n == ("__debug__" : Str)) = false := by decide) (hcd : (n == ("__classdict__" : Str)) = false := by decide) (hg : Gl X z := by rfl) (hdb : (z == ("__debug__" : Str)) = false := by decide)
    (he : starEach [.Name n q2] X.env = (false, eval (.Name n q2) X.env) :: starEach [] X.env := by rfl) (hpl : (backTo pos (starEach [] X.env)).any (·.1) = false := by rfl) : ED X G (.Call (.Name z q1) [.Name n q2] [] pos) (.int m) := by
  obtain ⟨f, fd, h1, h2, h3, h4⟩ := F.ex
  refine ⟨fun σ S H k' Q q => ?_⟩
  obtain ⟨sv, e1, e2⟩ := k'.sl.get hj
  have e2 : sv = some (V.ref p.1) := e2
  intro pins s I
  refine wpAny_Call_Name_kw (ld_glob I hg h2 ?_ hdb)
  have arg : wA X [.Name n q2] σ H fun vs H1 => vs = [V.ref p.1] ∧ H1 = H := wA_of (pa_cons (pv j hN hv hd hcd) pa_nil he) ⟨.ref p.1, by rw [e1, e2], rfl, rfl⟩
  refine PySem.W.callWith_K (h₀ := X.base) I.ok.mod.kin h3 (thn (arg pos pins s I) fun us s1 got => ?_) he hpl
  obtain ⟨vs, H1, I1, rv, rfl, rfl⟩ := got
  refine ⟨I1.kIn, ?_⟩
  have len1 : us.length = [nn].length := by rw [← rv.length]; rfl
  have bnd := h4 s1 us I1.kIn (by rw [List.append_nil]; exact len1)
  rw [List.append_nil] at bnd
  have at1 := I1.pin p (List.mem_append_left _ hp)
  have pin1 : L2H.PinOk X.stack H1 s1 p := ⟨at1.1, at1.2.1, fun hm => (List.mem_cons.mp (I1.stkSub p.1 hm)).elim at1.2.2.1 at1.2.2.2.1, at1.2.2.2.2⟩
  refine wpAny_call (codeAny_mono (h1 X.A X.stack s1 H1 us Q p C m S hr pin1 hz hf I1.env0 bnd rv hR k'.sh fun S' H' g' => q _ S' H' g' (.int m)) fun r s' hq => ?_)
  cases r with
  | error e => exact hq.elim
  | ok fl => cases fl with
    | ret u => exact I1.after hq
    | next => exact hq.elim
    | brk => exact hq.elim
    | cont => exact hq.elim
/-- isinstance of the error -/
theorem call_isP (hp : p ∈ X.pn) (k : ExcC X.K C) (hz : Zc (.ref C) none p.2) (hf : ∃ vs, p.2.data = .fields vs) : CallR X (.builtin "isinstance") (rIsE X.K C p.1) := by
  intro pins s σ H xs us Q I r h
  obtain ⟨c, cv, b, rfl, hcv, e, q⟩ := h
  obtain ⟨u1, u2, rfl, r1, r2⟩ := vals2 r
  cases r1
  have ec := hcv _ r2
  subst ec
  have hget := (I.pin p (List.mem_append_left _ hp)).1
  obtain ⟨vs, hv⟩ := hf
  obtain ⟨pa, po⟩ := p
  have J : PySem.W.InstAt s.heap pa po C none := by
    obtain ⟨oc, od, oda, osl⟩ := po
    obtain ⟨z1, z2⟩ := hz
    dsimp only at z1 z2 hv
    subst z1 z2 hv
    exact ⟨hget, rfl, rfl, trivial⟩
  have kx := PySem.W.handS_kitx_exc (x := pa) (ox := po) k.hg k.hk k.hs k.hd k.ha k.hn k.ht k.hm
  exact PySem.W.kia_one kx I.kIn J e (fun z => nomatch z) fun tk => ⟨.bl b, H, I.kept (t' := tk) fun _ _ z => z, rfl, q⟩
/-- c is a class: an own one or a built-in one -/
def ClsAt (X : Cx) (z : Str) (cv : Value) : Prop := (∃ C2, cv = .ref C2 ∧ X.mg z = some (.ref C2)) ∨ ∃ T, cv = .type T ∧ X.mg z = none ∧ bootBuiltins z = some (.type T)
theorem ed_isE {q1 q2 q3 : Pos} {cv : Value} (hm : X.mg "isinstance" = none) (j : Nat) (hj : G.c[j]? = some (some (.v (.ref p.1)))) (hp : p ∈ X.pn) (k : ExcC X.K C) (hz : Zc (.ref C) none p.2) (hf : ∃ vs, p.2.data = .fields vs) (hc : ClsAt X w2 cv) (hb : PySem.W.kitOne X.K (.ref C) cv = some b)
    (hN : X.N[j]? = some n := by rfl) (hv : Vis X.env.scope n := by first | exact Or.inl rfl | exact Or.inr (Or.inl rfl) | exact Or.inr (Or.inr rfl)) (hd : (n == ("__debug__" : Str)) = false := by decide) (hcd : (n == ("__classdict__" : Str)) = false := by decide) (hg : Gl X "isinstance" := by rfl) (hg2 : Gl X w2 := by rfl) (hz2 : w2 ≠ "__name__" := by decide) (hz3 : (w2 == ("__debug__" : Str)) = false := by decide)
    (he : starEach [.Name n q3, .Name w2 q2] X.env = (false, eval (.Name n q3) X.env) :: starEach [.Name w2 q2] X.env := by rfl) (he2 : starEach [.Name w2 q2] X.env = (false, eval (.Name w2 q2) X.env) :: starEach [] X.env := by rfl) (hpl : (backTo pos (starEach [.Name w2 q2] X.env)).any (·.1) = false := by rfl) :
    ED X G (.Call (.Name "isinstance" q1) [.Name n q3, .Name w2 q2] [] pos) (.bool b) := ⟨fun σ S H k' Q q => by
  obtain ⟨sv, e1, e2⟩ := k'.sl.get hj
  have e2 : sv = some (V.ref p.1) := e2
  rcases hc with ⟨C2, rfl, hm2⟩ | ⟨T, rfl, hm2, hT⟩
  · refine wE_of (pe_callB (call_isP hp k hz hf) hg hm (by decide +kernel) (pa_cons (pv j hN hv hd hcd) (pa_cons (pe_glob (v := .ref C2) hg2 hm2 rfl hz3) pa_nil he2) he) (by decide) (by decide) he hpl) ⟨.ref p.1, by rw [e1, e2], ?_⟩
    exact ⟨.ref C2, .ref C2, b, rfl, fun u h => h, hb, q _ S H k'.gr (.bl b)⟩
  · refine wE_of (pe_callB (call_isP hp k hz hf) hg hm (by decide +kernel) (pa_cons (pv j hN hv hd hcd) (pa_cons (pe_bltn (v := .ty T) hg2 hm2 hT rfl hz2 hz3) pa_nil he2) he) (by decide) (by decide) he hpl) ⟨.ref p.1, by rw [e1, e2], ?_⟩
    exact ⟨.ty T, .type T, b, rfl, fun u h => h, hb, q _ S H k'.gr (.bl b)⟩⟩
theorem kit_ref {K : Fg} {D C : Addr} {b : Bool} (hd : PySem.W.hasDictIn K C = true) (ht : PySem.W.typeIn K (.ref C) = some (.type "type")) (hself : PySem.W.subIn K (.ref C) (.ref C) = some true) (h : PySem.W.subIn K (.ref D) (.ref C) = some b) : PySem.W.kitOne K (.ref D) (.ref C) = some b := by
  unfold PySem.W.kitOne
  by_cases e : (Value.ref D == Value.ref C) = true
  · rw [if_pos e]
    have e2 : D = C := by simpa using e
    subst e2
    rw [hself] at h
    exact h
  · rw [if_neg e]
    obtain ⟨cd, hc, _⟩ := PySem.W.any_some hd
    have e2 : ((PySem.W.clsIn K C).isSome && PySem.W.typeIn K (.ref C) == some (.type "type")) = true := by
      rw [hc, ht]
      rfl
    show (if ((PySem.W.clsIn K C).isSome && PySem.W.typeIn K (.ref C) == some (.type "type")) = true then PySem.W.subIn K (.ref D) (.ref C) else none) = some b
    rw [if_pos e2]
    exact h
theorem kit_ve {K : Fg} {D : Addr} {b : Bool} (h : PySem.W.subIn K (.ref D) (.type "ValueError") = some b) : PySem.W.kitOne K (.ref D) (.type "ValueError") = some b := by
  have e1 : PySem.W.kitMeta "ValueError" = true := by decide +kernel
  show (if PySem.W.kitMeta "ValueError" = true then PySem.W.subIn K (.ref D) (.type "ValueError") else none) = some b
  rw [if_pos e1]
  exact h
/-! ### xs.count(y), xs.index(y) -/
def rCountD (K : Fg) : V → List V → Hp → VK → Prop := fun x xs H Q => ∃ (a : Addr) (y : V) (d : PyData) (ds : List PyData), x = V.ref a ∧ xs = [y] ∧ Dp K H (V.ref a) (.list ds) ∧ Dp K H y d ∧ SeqAt.shaped (.list ds) = true ∧ SeqAt.shaped d = true ∧ Q (.int (ds.countP fun z => PyData.eqv z d : Nat)) H
theorem mt_countD (hu : X.A.units + 65 < cLine) : MtR X "list.count" (rCountD X.K) := by
  intro pins s σ H x xs v us Q I rx rxs h
  obtain ⟨a, y, d, ds, rfl, rfl, hl, hy, sl, sd, q⟩ := h
  cases rx
  obtain ⟨uy, rfl, ry⟩ := rxs.one
  obtain ⟨bs, rd⟩ := Dp.reads I d y uy hy ry
  have lay : PyData.canLayAll0 ds = true := SeqAt.canLay_of_shaped sl
  have room : X.A.units + 1 + min (PyData.depthAll ds) d.depth < cLine := room_in_shaped sd hu
  cases hl with
  | lst hs ha =>
    obtain ⟨its, rv, ⟨⟨cls, dd, data, sls⟩, nn, ho, hc, hdn, hdt⟩, hlen⟩ := I.list hs
    simp only at hc hdt
    subst hc hdt
    obtain ⟨as, rall⟩ := Dp.readsAll I ds _ its ha rv
    have hmap : its.map (SeqAt.readOf s.heap) = ds := SeqAt.readsAll_map ds its as lay rall
    refine call_meets PySem.F.slot_list_count ⟨_, ho, rfl⟩ PySem.F.entry_list_count (PySem.F.args_list_count_2 (Value.ref a) uy) (SeqAt.list_countAt a its.toArray nn dd sls uy fun u => PyData.eqv (SeqAt.readOf s.heap u) d) ⟨ho, ?_, ?_⟩
    · exact SeqAt.items_eqAt (vs := its.toArray) (show ReadsAll s.heap its.toArray.toList ds as from rall) rd lay (SeqAt.canLay_of_shaped sd) room
    · have ec : its.toArray.toList.countP (fun u => PyData.eqv (SeqAt.readOf s.heap u) d) = ds.countP fun z => PyData.eqv z d := by
        rw [← hmap, List.countP_map]
        rfl
      rw [ec]
      exact ⟨.int _, H, I.tok _, ⟨_, rfl⟩, q⟩
/-- a method of a list that is read, its value kept -/
theorem ed_mlist {nm : Str} {id : String} {q2 q3 : Pos} {r : V → List V → Hp → VK → Prop} (slot : Slot "list" nm id) (hty : typeOf (.builtin id) = pure (.type "method_descriptor")) (hm : MtR X id r) (ho : EL X G o ds) (ha : ED X G e x)
    (h : ∀ l vs u S H, Same S H → H l = some (.lst vs) → RpA X.K S vs ds → Rp X.K S u x → ∀ Q : VK, (∀ v S' H', Gr S H S' H' → Rp X.K S' v y → Q v H') → r (.ref l) [u] H Q)
    (hbase : attributeBase o nm X.env (eval o X.env) = eval o X.env := by rfl)
    (hfew : ((backTo q3 (starEach [e] X.env)).all (fun x => !x.1) && (backToKw q3 (keywordEach [] X.env)).all (fun x => x.1.isSome) && decide ([e].length + ([] : List Keyword).length + (if ([] : List Keyword).isEmpty then 0 else 1) < 30)) = true := by rfl)
    (hline : (q2.endLine == q3.line) = true := by rfl) (hst : starEach [e] X.env = (false, eval e X.env) :: starEach [] X.env := by rfl) (hplain : (backTo q3 (starEach [] X.env)).any (·.1) = false := by rfl) : ED X G (.Call (.Attribute o nm q2) [e] [] q3) y := ⟨fun σ S H k Q q =>
  wE_of (pe_bm PySem.F.plainAttrs_list slot hty hm pe_w (pa_cons pe_w pa_nil hst) hbase hfew hline hst hplain) (ho σ S H k _ fun l vs S1 H1 g1 e1 r1 => ⟨.inl ⟨rfl, _, .inl (.inl e1)⟩, ha σ S1 H1 (k.mono g1) _ fun u S2 H2 g2 r2 =>
    h l vs u S2 H2 g2.sh (g2.h _ _ e1) (r1.mono g2.s) r2 Q fun v S3 H3 g3 r3 => q v S3 H3 ((g1.trans g2).trans g3) r3⟩)⟩
theorem ed_count {q2 q3 : Pos} {nn : Nat} (hu : X.A.units + 65 < cLine) (ho : EL X G o ds) (ha : ED X G e x) (px : Pn nn x) (pd : PnA 63 ds) (hn : nn ≤ 64 := by decide) (hbase : attributeBase o "count" X.env (eval o X.env) = eval o X.env := by rfl)
    (hfew : ((backTo q3 (starEach [e] X.env)).all (fun x => !x.1) && (backToKw q3 (keywordEach [] X.env)).all (fun x => x.1.isSome) && decide ([e].length + ([] : List Keyword).length + (if ([] : List Keyword).isEmpty then 0 else 1) < 30)) = true := by rfl)
    (hline : (q2.endLine == q3.line) = true := by rfl) (hst : starEach [e] X.env = (false, eval e X.env) :: starEach [] X.env := by rfl) (hplain : (backTo q3 (starEach [] X.env)).any (·.1) = false := by rfl) : ED X G (.Call (.Attribute o "count" q2) [e] [] q3) (.int (ds.countP fun z => PyData.eqv z x : Nat)) :=
  ed_mlist PySem.F.slot_list_count PySem.F.type_list_count (mt_countD hu) ho ha (fun l vs u S H sh h1 r1 r2 Q q => ⟨l, u, x, ds, rfl, rfl, .lst (SqL.of h1) (RpA.dp ds vs pd.lay (r1.mono sh)), Rp.dp x u px.lay (r2.mono sh), (pn_lst pd).shaped (by decide), px.shaped hn, q _ S H (Gr.refl sh) (.int _)⟩) hbase hfew hline hst hplain
theorem ed_index {q2 q3 : Pos} {nn jj : Nat} {zz : PyData} (hu : X.A.units + 65 < cLine) (ho : EL X G o ds) (ha : ED X G e x) (px : Pn nn x) (pd : PnA 63 ds) (h1 : ds[jj]? = some zz) (h2 : PyData.eqv zz x = true) (h3 : ∀ (m : Nat) (z' : PyData), m < jj → ds[m]? = some z' → PyData.eqv z' x = false) (hn : nn ≤ 64 := by decide) (hbase : attributeBase o "index" X.env (eval o X.env) = eval o X.env := by rfl)
    (hfew : ((backTo q3 (starEach [e] X.env)).all (fun x => !x.1) && (backToKw q3 (keywordEach [] X.env)).all (fun x => x.1.isSome) && decide ([e].length + ([] : List Keyword).length + (if ([] : List Keyword).isEmpty then 0 else 1) < 30)) = true := by rfl)
    (hline : (q2.endLine == q3.line) = true := by rfl) (hst : starEach [e] X.env = (false, eval e X.env) :: starEach [] X.env := by rfl) (hplain : (backTo q3 (starEach [] X.env)).any (·.1) = false := by rfl) : ED X G (.Call (.Attribute o "index" q2) [e] [] q3) (.int (jj : Nat)) :=
  ed_mlist PySem.F.slot_list_index PySem.F.type_list_index (mt_indexD hu) ho ha (fun l vs u S H sh e1 r1 r2 Q q => ⟨l, u, x, ds, jj, zz, rfl, rfl, .lst (SqL.of e1) (RpA.dp ds vs pd.lay (r1.mono sh)), Rp.dp x u px.lay (r2.mono sh), (pn_lst pd).shaped (by decide), px.shaped hn, h1, h2, h3, q _ S H (Gr.refl sh) (.int _)⟩) hbase hfew hline hst hplain
end
end DL

set_option Elab.async false
set_option linter.all false
set_option maxRecDepth 100000
set_option maxHeartbeats 4000000
/-! Plain mathematics: sides, stretches, meetings. -/
namespace MT
open DL

/-! ### what the program reckons -/
def side (p q t : P2) : Int := (q.1 - p.1) * (t.2 - p.2) - (q.2 - p.2) * (t.1 - p.1)
def sgn (n : Int) : Int := b2n (decide (0 < n)) - b2n (decide (n < 0))
def within (p q t : P2) : Bool := if (decide (t.1 < min p.1 q.1) || decide (max p.1 q.1 < t.1)) = true then false else decide (min p.2 q.2 ≤ t.2) && decide (t.2 ≤ max p.2 q.2)
def liesOn (p q t : P2) : Bool := decide (side p q t = 0) && within p q t
def meet (a b c d : P2) : Bool :=
  if (liesOn a b c || liesOn a b d) = true then true else if (liesOn c d a || liesOn c d b) = true then true
  else if (!decide (sgn (side a b c) * sgn (side a b d) = -1)) = true then false else decide (sgn (side c d a) * sgn (side c d b) = -1)
/-! ### what the law reckons -/
def lOn (p q t : P2) : Bool := if (!decide (side p q t = 0)) = true then false else (decide (min p.1 q.1 ≤ t.1) && decide (t.1 ≤ max p.1 q.1)) && (decide (min p.2 q.2 ≤ t.2) && decide (t.2 ≤ max p.2 q.2))
def lMeet (a b c d : P2) : Bool :=
  if ([(a, b, c), (a, b, d), (c, d, a), (c, d, b)].any fun t => lOn t.1 t.2.1 t.2.2) = true then true
  else (decide (0 < side a b c) != decide (0 < side a b d)) && (decide (0 < side c d a) != decide (0 < side c d b))

/-! ### On -/
def On (p q t : P2) : Prop := side p q t = 0 ∧ (min p.1 q.1 ≤ t.1 ∧ t.1 ≤ max p.1 q.1) ∧ (min p.2 q.2 ≤ t.2 ∧ t.2 ≤ max p.2 q.2)
theorem liesOn_iff {p q t : P2} : liesOn p q t = true ↔ On p q t := by
  unfold liesOn within On
  by_cases h : (decide (t.1 < min p.1 q.1) || decide (max p.1 q.1 < t.1)) = true
  · rw [if_pos h]
    simp only [Bool.and_false, Bool.false_eq_true, false_iff]
    simp only [Bool.or_eq_true, decide_eq_true_eq] at h
    omega
  · rw [if_neg h]
    simp only [Bool.or_eq_true, decide_eq_true_eq] at h
    simp only [Bool.and_eq_true, decide_eq_true_eq]
    constructor
    · rintro ⟨h1, h2, h3⟩
      exact ⟨h1, by omega, h2, h3⟩
    · rintro ⟨h1, h2, h3⟩
      exact ⟨h1, h3⟩
theorem lOn_iff {p q t : P2} : lOn p q t = true ↔ On p q t := by
  unfold lOn On
  by_cases h : side p q t = 0
  · simp [h]
  · simp [h]
theorem lOn_eq (p q t : P2) : lOn p q t = liesOn p q t := by
  rw [Bool.eq_iff_iff, lOn_iff, liesOn_iff]
theorem b2n_cases (b : Bool) : (b = true ∧ b2n b = 1) ∨ (b = false ∧ b2n b = 0) := by cases b <;> simp [b2n]
theorem sgn_pos {n : Int} (h : 0 < n) : sgn n = 1 := by
  unfold sgn
  rw [decide_eq_true h, decide_eq_false (by omega)]
  rfl
theorem sgn_neg {n : Int} (h : n < 0) : sgn n = -1 := by
  unfold sgn
  rw [decide_eq_false (by omega), decide_eq_true h]
  rfl
theorem sgn_zero : sgn 0 = 0 := rfl
theorem sgn_mul {a b : Int} : sgn a * sgn b = -1 ↔ (0 < a ∧ b < 0) ∨ (a < 0 ∧ 0 < b) := by
  rcases Int.lt_trichotomy a 0 with h | h | h
  · rw [sgn_neg h]
    rcases Int.lt_trichotomy b 0 with h' | h' | h'
    · rw [sgn_neg h']; omega
    · subst h'; rw [sgn_zero]; omega
    · rw [sgn_pos h']; omega
  · subst h; rw [sgn_zero]; omega
  · rw [sgn_pos h]
    rcases Int.lt_trichotomy b 0 with h' | h' | h'
    · rw [sgn_neg h']; omega
    · subst h'; rw [sgn_zero]; omega
    · rw [sgn_pos h']; omega
/-- two factors' sign -/
theorem mul_le0 {a b : Int} : a * b ≤ 0 ↔ (a ≤ 0 ∧ 0 ≤ b) ∨ (0 ≤ a ∧ b ≤ 0) := by
  constructor
  · intro h
    rcases Int.lt_trichotomy a 0 with ha | ha | ha
    · rcases Int.lt_trichotomy b 0 with hb | hb | hb
      · have := Int.mul_pos_of_neg_of_neg ha hb
        omega
      · omega
      · omega
    · omega
    · rcases Int.lt_trichotomy b 0 with hb | hb | hb
      · omega
      · omega
      · have := Int.mul_pos ha hb
        omega
  · rintro (⟨h1, h2⟩ | ⟨h1, h2⟩)
    · exact Int.mul_nonpos_of_nonpos_of_nonneg h1 h2
    · exact Int.mul_nonpos_of_nonneg_of_nonpos h1 h2
theorem btw_iff {p q t : Int} : (min p q ≤ t ∧ t ≤ max p q) ↔ (p - t) * (q - t) ≤ 0 := by
  rw [mul_le0]
  omega
theorem On_iff {p q t : P2} : On p q t ↔ side p q t = 0 ∧ (p.1 - t.1) * (q.1 - t.1) ≤ 0 ∧ (p.2 - t.2) * (q.2 - t.2) ≤ 0 := by
  unfold On
  rw [btw_iff, btw_iff]
theorem sq_nn (a : Int) : 0 ≤ a * a := by
  rcases Int.le_total 0 a with h | h
  · exact Int.mul_nonneg h h
  · exact Int.mul_nonneg_of_nonpos_of_nonpos h h
/-- parallel and not against each other -/
theorem dot_pos {ux uy vx vy : Int} (hc : ux * vy = uy * vx) (hn : ¬ (ux * vx ≤ 0 ∧ uy * vy ≤ 0)) : 0 < ux * vx + uy * vy := by
  have e : (ux * vx) * (uy * vy) = (ux * vy) * (ux * vy) := by
    have : (ux * vx) * (uy * vy) = (ux * vy) * (uy * vx) := by grind
    rw [this, ← hc]
  have nn := sq_nn (ux * vy)
  rw [← e] at nn
  generalize ux * vx = A at *
  generalize uy * vy = B at *
  by_cases hA : 0 < A
  · by_cases hB : B < 0
    · have := Int.mul_neg_of_pos_of_neg hA hB
      omega
    · omega
  · by_cases hB : 0 < B
    · by_cases hA2 : A < 0
      · have := Int.mul_neg_of_neg_of_pos hA2 hB
        omega
      · omega
    · omega
theorem same_sign {A B d n : Int} (h : A * d = B * n) (hd : 0 < d) (hn : 0 < n) : (0 < A ↔ 0 < B) ∧ (A < 0 ↔ B < 0) := by
  rcases Int.lt_trichotomy A 0 with hA | hA | hA
  · have h1 := Int.mul_neg_of_neg_of_pos hA hd
    rcases Int.lt_trichotomy B 0 with hB | hB | hB
    · omega
    · subst hB; omega
    · have := Int.mul_pos hB hn; omega
  · subst hA
    rcases Int.lt_trichotomy B 0 with hB | hB | hB
    · have := Int.mul_neg_of_neg_of_pos hB hn; omega
    · omega
    · have := Int.mul_pos hB hn; omega
  · have h1 := Int.mul_pos hA hd
    rcases Int.lt_trichotomy B 0 with hB | hB | hB
    · have := Int.mul_neg_of_neg_of_pos hB hn; omega
    · subst hB; omega
    · omega
/-- a point on the line of a, b, not between: from it both lie at one side of any way d -/
theorem one_side {a b t d : P2} (h : side a b t = 0) (hn : ¬ On a b t) : (0 < side t d a ↔ 0 < side t d b) ∧ (side t d a < 0 ↔ side t d b < 0) := by
  rw [On_iff] at hn
  have hc : (a.1 - t.1) * (b.2 - t.2) = (a.2 - t.2) * (b.1 - t.1) := by unfold side at h; grind
  have dp := dot_pos hc (fun z => hn ⟨h, z⟩)
  refine same_sign (d := (a.1 - t.1) * (b.1 - t.1) + (a.2 - t.2) * (b.2 - t.2)) (n := (a.1 - t.1) * (a.1 - t.1) + (a.2 - t.2) * (a.2 - t.2)) ?_ dp ?_
  · unfold side
    grind
  · have h1 := sq_nn (a.1 - t.1)
    have h2 := sq_nn (a.2 - t.2)
    rcases Int.lt_or_le 0 ((a.1 - t.1) * (a.1 - t.1) + (a.2 - t.2) * (a.2 - t.2)) with z | z
    · exact z
    · have z1 : (a.1 - t.1) * (a.1 - t.1) = 0 := by omega
      have z2 : (a.2 - t.2) * (a.2 - t.2) = 0 := by omega
      have e1 : a.1 - t.1 = 0 := by rcases Int.mul_eq_zero.mp z1 with h | h <;> exact h
      have e2 : a.2 - t.2 = 0 := by rcases Int.mul_eq_zero.mp z2 with h | h <;> exact h
      rw [e1, e2] at dp
      simp at dp
theorem side_turn (a b t : P2) : side a b t = side b t a := by unfold side; grind
theorem side_swap (a b t : P2) : side b a t = -side a b t := by unfold side; grind
theorem side_four (a b c d : P2) : side c d a - side c d b = side a b d - side a b c := by unfold side; grind
theorem On_swap {a b t : P2} : On a b t ↔ On b a t := by
  unfold On
  rw [side_swap a b t]
  omega
/-- crossing proper -/
def Cross (a b c d : P2) : Prop := ((0 < side a b c ∧ side a b d < 0) ∨ (side a b c < 0 ∧ 0 < side a b d)) ∧ ((0 < side c d a ∧ side c d b < 0) ∨ (side c d a < 0 ∧ 0 < side c d b))
def Meet (a b c d : P2) : Prop := On a b c ∨ On a b d ∨ On c d a ∨ On c d b ∨ Cross a b c d
theorem meet_iff {a b c d : P2} : meet a b c d = true ↔ Meet a b c d := by
  unfold meet Meet Cross
  by_cases h1 : (liesOn a b c || liesOn a b d) = true
  · rw [if_pos h1]
    rw [Bool.or_eq_true, liesOn_iff, liesOn_iff] at h1
    simp only [true_iff]
    rcases h1 with h | h
    · exact .inl h
    · exact .inr (.inl h)
  · rw [if_neg h1]
    rw [Bool.or_eq_true, liesOn_iff, liesOn_iff, not_or] at h1
    by_cases h2 : (liesOn c d a || liesOn c d b) = true
    · rw [if_pos h2]
      rw [Bool.or_eq_true, liesOn_iff, liesOn_iff] at h2
      simp only [true_iff]
      rcases h2 with h | h
      · exact .inr (.inr (.inl h))
      · exact .inr (.inr (.inr (.inl h)))
    · rw [if_neg h2]
      rw [Bool.or_eq_true, liesOn_iff, liesOn_iff, not_or] at h2
      by_cases h3 : sgn (side a b c) * sgn (side a b d) = -1
      · rw [if_neg (by simp [h3]), decide_eq_true_eq]
        rw [sgn_mul] at h3 ⊢
        constructor
        · exact fun h => .inr (.inr (.inr (.inr ⟨h3, h⟩)))
        · rintro (h | h | h | h | h)
          · exact absurd h h1.1
          · exact absurd h h1.2
          · exact absurd h h2.1
          · exact absurd h h2.2
          · exact h.2
      · rw [if_pos (by simp [h3])]
        simp only [Bool.false_eq_true, false_iff]
        rintro (h | h | h | h | h)
        · exact h1.1 h
        · exact h1.2 h
        · exact h2.1 h
        · exact h2.2 h
        · exact h3 (sgn_mul.mpr h.1)
theorem lMeet_iff {a b c d : P2} : lMeet a b c d = true ↔ Meet a b c d := by
  unfold lMeet Meet
  have hc : ([(a, b, c), (a, b, d), (c, d, a), (c, d, b)].any fun t => lOn t.1 t.2.1 t.2.2) = true ↔ (On a b c ∨ On a b d ∨ On c d a ∨ On c d b) := by
    simp only [List.any_cons, List.any_nil, Bool.or_false, Bool.or_eq_true, lOn_iff]
  by_cases h1 : ([(a, b, c), (a, b, d), (c, d, a), (c, d, b)].any fun t => lOn t.1 t.2.1 t.2.2) = true
  · rw [if_pos h1]
    have h1 := hc.mp h1
    simp only [true_iff]
    rcases h1 with h | h | h | h
    · exact .inl h
    · exact .inr (.inl h)
    · exact .inr (.inr (.inl h))
    · exact .inr (.inr (.inr (.inl h)))
  · rw [if_neg h1]
    rw [hc] at h1
    simp only [not_or] at h1
    obtain ⟨n1, n2, n3, n4⟩ := h1
    have key : (((decide (0 < side a b c) != decide (0 < side a b d)) && (decide (0 < side c d a) != decide (0 < side c d b))) = true) ↔ Cross a b c d := by
      simp only [Bool.and_eq_true, bne_iff_ne, ne_eq, decide_eq_decide]
      unfold Cross
      have q1 := fun h : side a b c = 0 => one_side (d := d) h n1
      have q2 := fun h : side a b d = 0 => one_side (d := c) h n2
      have q3 := fun h : side c d a = 0 => one_side (d := b) h n3
      have q4 := fun h : side c d b = 0 => one_side (d := a) h n4
      have e3 := side_swap c d a
      have e4 := side_swap c d b
      have e5 := side_swap a b c
      have e6 := side_swap a b d
      rw [e3, e4] at q2
      rw [e5, e6] at q4
      constructor
      · rintro ⟨h1, h2⟩
        omega
      · omega
    rw [key]
    constructor
    · exact fun h => .inr (.inr (.inr (.inr h)))
    · rintro (h | h | h | h | h)
      · exact absurd h n1
      · exact absurd h n2
      · exact absurd h n3
      · exact absurd h n4
      · exact h
theorem lMeet_eq (a b c d : P2) : lMeet a b c d = meet a b c d := by rw [Bool.eq_iff_iff, lMeet_iff, meet_iff]
theorem Meet.symm {a b c d : P2} (h : Meet a b c d) : Meet c d a b := by
  rcases h with h | h | h | h | h
  · exact .inr (.inr (.inl h))
  · exact .inr (.inr (.inr (.inl h)))
  · exact .inl h
  · exact .inr (.inl h)
  · exact .inr (.inr (.inr (.inr ⟨h.2, h.1⟩)))
theorem meet_comm (a b c d : P2) : meet a b c d = meet c d a b := by
  rw [Bool.eq_iff_iff, meet_iff, meet_iff]
  exact ⟨Meet.symm, Meet.symm⟩
end MT

set_option Elab.async false
set_option linter.all false
set_option maxRecDepth 100000
set_option maxHeartbeats 4000000
/-! What a room is: the program's look and the law's are the same. -/
namespace MT
open DL

abbrev len (r : List P2) : Int := (r.length : Int)
def nx (n k : Int) : Int := (k + 1) % n
def farOut (p : P2) : Bool := decide ((100 : Int) < (p.1.natAbs : Int)) || decide ((100 : Int) < (p.2.natAbs : Int))
def flatAt (r : List P2) (k : Int) : Bool := decide (side (gz r (k - 2)) (gz r (k - 1)) (gz r k) = 0)
def cornersRight (r : List P2) : Bool := !r.any farOut && !(rg 0 r.length).any (flatAt r)
def wm (r : List P2) (k j : Int) : Bool := (!decide (nx (len r) k = j) && !decide (nx (len r) j = k)) && meet (gz r k) (gz r (nx (len r) k)) (gz r j) (gz r (nx (len r) j))
def wallsApart (r : List P2) : Bool := !(rg 0 r.length).any fun k => (rg 0 k.toNat).any fun j => wm r k j
def areaAt (r : List P2) (t k : Int) : Int := t + (gz r (k - 1)).1 * (gz r k).2 - (gz r (k - 1)).2 * (gz r k).1
def areaTo (r : List P2) : Nat → Int
  | 0 => 0
  | i + 1 => areaAt r (areaTo r i) i
def areaBy (r : List P2) : Int := areaTo r r.length
def isRoom (r : List P2) : Bool := if (decide (len r < 3) || decide ((12 : Int) < len r)) = true then false else cornersRight r && (wallsApart r && decide (0 < areaBy r))

def lFlat (r : List P2) : Bool := (rg 0 r.length).any (flatAt r)
def lFar (p : P2) : Bool := decide ((100 : Int) < max (p.1.natAbs : Int) (p.2.natAbs : Int))
def lwm (r : List P2) (k j : Int) : Bool := !decide ((k - j) % len r ∈ [1, len r - 1]) && lMeet (gz r (k - 1)) (gz r k) (gz r (j - 1)) (gz r j)
def lApart (r : List P2) : Bool := !(rg 0 r.length).any fun k => (rg 0 k.toNat).any fun j => lwm r k j
def lGood (r : List P2) : Bool :=
  if (!(decide (3 ≤ len r) && decide (len r ≤ 12)) || decide (0 < ((r.filter lFar).length : Int))) = true then false
  else if (!decide (((ddp r).length : Int) = len r) || (lFlat r || decide (areaBy r ≤ 0))) = true then false
  else lApart r

/-! ### round the corners -/
def pt (r : List P2) (k : Nat) : P2 := r.getD (k % r.length) default
theorem gz_nat {r : List P2} {k : Nat} (h : k < r.length) : gz r (k : Int) = pt r k := by
  obtain ⟨j, hj, e, e2⟩ := atI_in (xs := r) (k := (k : Int)) (by omega)
  rw [if_pos (by omega)] at e2
  have : j = k := by omega
  subst this
  unfold gz pt
  rw [e, Nat.mod_eq_of_lt h]
  simp [h]
theorem pt_add (r : List P2) (k : Nat) : pt r (k + r.length) = pt r k := by
  unfold pt
  rw [Nat.add_mod_right]
theorem gz_neg {r : List P2} {k : Nat} {m : Nat} (h : k < r.length) (hm : m ≤ r.length) : gz r ((k : Int) - m) = pt r (k + r.length - m) := by
  by_cases c : m ≤ k
  · have e : ((k : Int) - m) = ((k - m : Nat) : Int) := by omega
    rw [e, gz_nat (by omega), show k + r.length - m = (k - m) + r.length by omega, pt_add]
  · obtain ⟨j, hj, e, e2⟩ := atI_in (xs := r) (k := (k : Int) - m) (by omega)
    rw [if_neg (by omega)] at e2
    have : j = k + r.length - m := by omega
    subst this
    unfold gz pt
    rw [e, Nat.mod_eq_of_lt hj]
    simp [hj]
theorem gz_pred {r : List P2} {k : Nat} (h : k < r.length) : gz r ((k : Int) - 1) = pt r (k + r.length - 1) := gz_neg (m := 1) h (by omega)
theorem gz_pred2 {r : List P2} {k : Nat} (h : k < r.length) (h2 : 2 ≤ r.length) : gz r ((k : Int) - 2) = pt r (k + r.length - 2) := gz_neg (m := 2) h h2
theorem pt_mod (r : List P2) (k : Nat) : pt r (k % r.length) = pt r k := by
  unfold pt
  rw [Nat.mod_mod]
theorem cast_next (k n : Nat) : ((k : Int) + 1) % (n : Int) = (((k + 1) % n : Nat) : Int) := by
  rw [Int.natCast_emod]
  rfl
theorem gz_next {r : List P2} {k : Nat} (h : k < r.length) : gz r (nx (len r) k) = pt r (k + 1) := by
  have e : nx (len r) k = (((k + 1) % r.length : Nat) : Int) := by
    exact cast_next _ _
  rw [e, gz_nat (Nat.mod_lt _ (by omega)), pt_mod]
theorem any_rg {n : Nat} {f : Int → Bool} : (rg 0 n).any f = true ↔ ∃ k : Nat, k < n ∧ f k = true := by
  rw [List.any_eq_true]
  constructor
  · rintro ⟨x, hx, h⟩
    have := mem_ints.mp hx
    refine ⟨x.toNat, by omega, ?_⟩
    rw [show ((x.toNat : Nat) : Int) = x by omega]
    exact h
  · rintro ⟨k, hk, h⟩
    exact ⟨k, mem_ints.mpr (by omega), h⟩
theorem not_any_rg {n : Nat} {f : Int → Bool} : (!(rg 0 n).any f) = true ↔ ∀ k : Nat, k < n → f k = false := by
  rw [Bool.not_eq_true', ← Bool.not_eq_true, any_rg]
  constructor
  · intro h k hk
    rw [← Bool.not_eq_true]
    exact fun z => h ⟨k, hk, z⟩
  · rintro h ⟨k, hk, z⟩
    rw [h k hk] at z
    cases z
/-! ### the parts, as words -/
def InB (r : List P2) : Prop := ∀ p ∈ r, p.1.natAbs ≤ 100 ∧ p.2.natAbs ≤ 100
def NoFlat (r : List P2) : Prop := ∀ k, k < r.length → side (pt r k) (pt r (k + 1)) (pt r (k + 2)) ≠ 0
/-- two walls, no neighbours -/
def Two (n k j : Nat) : Prop := j < k ∧ k < n ∧ k ≠ j + 1 ∧ ¬ (k = n - 1 ∧ j = 0)
def Apart (r : List P2) : Prop := ∀ k j, Two r.length k j → ¬ Meet (pt r k) (pt r (k + 1)) (pt r j) (pt r (j + 1))
theorem noFlat_iff {r : List P2} (h3 : 3 ≤ r.length) : (!(rg 0 r.length).any (flatAt r)) = true ↔ NoFlat r := by
  rw [not_any_rg]
  unfold NoFlat flatAt
  have key : ∀ k, k < r.length → (decide (side (gz r ((k : Int) - 2)) (gz r ((k : Int) - 1)) (gz r (k : Int)) = 0) = false ↔ side (pt r (k + r.length - 2)) (pt r (k + r.length - 2 + 1)) (pt r (k + r.length - 2 + 2)) ≠ 0) := fun k hk => by
    rw [gz_pred hk, gz_pred2 hk (by omega), gz_nat hk, decide_eq_false_iff_not, show k + r.length - 2 + 1 = k + r.length - 1 by omega, show k + r.length - 2 + 2 = k + r.length by omega, pt_add]
  constructor
  · intro h k hk
    have q := (key ((k + 2) % r.length) (Nat.mod_lt _ (by omega))).mp (h _ (Nat.mod_lt _ (by omega)))
    have e : ∀ m, pt r ((k + 2) % r.length + r.length - 2 + m) = pt r (k + m) := fun m => by
      unfold pt
      congr 1
      have h1 := Nat.div_add_mod (k + 2) r.length
      have : k + 2 < 2 * r.length ∨ 2 * r.length ≤ k + 2 := by omega
      have hd : (k + 2) / r.length = 0 ∨ (k + 2) / r.length = 1 := by
        have : (k + 2) / r.length < 2 := Nat.div_lt_of_lt_mul (by omega)
        generalize (k + 2) / r.length = z at this
        omega
      rcases hd with hd | hd
      · rw [hd] at h1
        rw [show (k + 2) % r.length + r.length - 2 + m = (k + m) + r.length by omega, Nat.add_mod_right]
      · rw [hd] at h1
        rw [show (k + 2) % r.length + r.length - 2 + m = k + m by omega]
    have e0 := e 0
    rw [e 1, e 2] at q
    simp only [Nat.add_zero] at e0
    rw [e0] at q
    exact q
  · intro h k hk
    rw [key k hk]
    have q := h ((k + r.length - 2) % r.length) (Nat.mod_lt _ (by omega))
    have e : ∀ m, pt r ((k + r.length - 2) % r.length + m) = pt r (k + r.length - 2 + m) := fun m => by
      unfold pt
      rw [Nat.mod_add_mod]
    rw [e 1, e 2, pt_mod] at q
    exact q
theorem apart_iff {r : List P2} (h3 : 3 ≤ r.length) : wallsApart r = true ↔ Apart r := by
  unfold wallsApart
  rw [not_any_rg]
  have key : ∀ k j : Nat, j < k → k < r.length → (wm r k j = false ↔ (Two r.length k j → ¬ Meet (pt r k) (pt r (k + 1)) (pt r j) (pt r (j + 1)))) := fun k j hj hk => by
    unfold wm
    rw [gz_next hk, gz_next (show j < r.length by omega), gz_nat hk, gz_nat (show j < r.length by omega), ← meet_iff]
    have e1 : (!decide (nx (len r) k = j) && !decide (nx (len r) j = k)) = true ↔ Two r.length k j := by
      unfold nx len Two
      have a1 : (((k : Int) + 1) % (r.length : Int)) = (((k + 1) % r.length : Nat) : Int) := cast_next _ _
      have a2 : (((j : Int) + 1) % (r.length : Int)) = (((j + 1) % r.length : Nat) : Int) := cast_next _ _
      rw [a1, a2, Nat.mod_eq_of_lt (show j + 1 < r.length by omega)]
      by_cases c : k + 1 = r.length
      · rw [c, Nat.mod_self]
        simp
        omega
      · rw [Nat.mod_eq_of_lt (by omega)]
        simp
        omega
    generalize (!decide (nx (len r) k = j) && !decide (nx (len r) j = k)) = B at *
    generalize meet (pt r k) (pt r (k + 1)) (pt r j) (pt r (j + 1)) = C at *
    cases B <;> cases C <;> simp_all
  constructor
  · intro h k j hT
    have h1 := h k hT.2.1
    rw [← Bool.not_eq_true, any_rg] at h1
    refine (key k j hT.1 hT.2.1).mp ?_ hT
    rw [← Bool.not_eq_true]
    exact fun z => h1 ⟨j, by rw [Int.toNat_natCast]; exact hT.1, z⟩
  · intro h k hk
    rw [← Bool.not_eq_true, any_rg]
    rintro ⟨j, hj, z⟩
    rw [Int.toNat_natCast] at hj
    rw [(key k j hj hk).mpr (h k j)] at z
    cases z
theorem lApart_iff {r : List P2} (h3 : 3 ≤ r.length) : lApart r = true ↔ Apart r := by
  unfold lApart
  rw [not_any_rg]
  have key : ∀ k j : Nat, j < k → k < r.length → (lwm r k j = false ↔ (Two r.length k j → ¬ Meet (pt r (k + r.length - 1)) (pt r k) (pt r (j + r.length - 1)) (pt r j))) := fun k j hj hk => by
    unfold lwm
    rw [gz_pred hk, gz_pred (show j < r.length by omega), gz_nat hk, gz_nat (show j < r.length by omega), lMeet_eq, ← meet_iff]
    have e1 : (!decide (((k : Int) - j) % len r ∈ [1, len r - 1])) = true ↔ Two r.length k j := by
      unfold len Two
      have a1 : (((k : Int) - j) % (r.length : Int)) = (k : Int) - j := Int.emod_eq_of_lt (by omega) (by omega)
      rw [a1]
      simp
      omega
    generalize (!decide (((k : Int) - j) % len r ∈ [1, len r - 1])) = B at *
    generalize meet (pt r (k + r.length - 1)) (pt r k) (pt r (j + r.length - 1)) (pt r j) = C at *
    cases B <;> cases C <;> simp_all
  have hW : (∀ k : Nat, k < r.length → ((rg 0 (k : Int).toNat).any fun j => lwm r k j) = false) ↔ ∀ k j, Two r.length k j → ¬ Meet (pt r (k + r.length - 1)) (pt r k) (pt r (j + r.length - 1)) (pt r j) := by
    constructor
    · intro h k j hT
      have h1 := h k hT.2.1
      rw [← Bool.not_eq_true, any_rg] at h1
      refine (key k j hT.1 hT.2.1).mp ?_ hT
      rw [← Bool.not_eq_true]
      exact fun z => h1 ⟨j, by rw [Int.toNat_natCast]; exact hT.1, z⟩
    · intro h k hk
      rw [← Bool.not_eq_true, any_rg]
      rintro ⟨j, hj, z⟩
      rw [Int.toNat_natCast] at hj
      rw [(key k j hj hk).mpr (h k j)] at z
      cases z
  rw [hW]
  have sh : ∀ k, 1 ≤ k → pt r (k + r.length - 1) = pt r (k - 1) := fun k hk => by rw [show k + r.length - 1 = (k - 1) + r.length by omega, pt_add]
  have s0 : ∀ k, k = 0 → pt r (k + r.length - 1) = pt r (r.length - 1) := fun k hk => by rw [hk, Nat.zero_add]
  have sn : pt r (r.length - 1 + 1) = pt r 0 := by rw [show r.length - 1 + 1 = 0 + r.length by omega, pt_add]
  unfold Apart
  constructor
  · intro h k j hT hM
    unfold Two at hT
    by_cases c : k + 1 < r.length
    · refine h (k + 1) (j + 1) ⟨by omega, by omega, by omega, by omega⟩ ?_
      rw [sh _ (by omega), sh _ (by omega)]
      exact hM
    · have hk : k = r.length - 1 := by omega
      subst hk
      refine h (j + 1) 0 ⟨by omega, by omega, by omega, by omega⟩ ?_
      rw [sh _ (by omega), s0 0 rfl]
      rw [sn] at hM
      exact hM.symm
  · intro h k j hT hM
    unfold Two at hT
    by_cases c : j = 0
    · subst c
      rw [sh k (by omega), s0 0 rfl] at hM
      refine h (r.length - 1) (k - 1) ⟨by omega, by omega, by omega, by omega⟩ ?_
      rw [sn, show k - 1 + 1 = k by omega]
      exact hM.symm
    · rw [sh k (by omega), sh j (by omega)] at hM
      refine h (k - 1) (j - 1) ⟨by omega, by omega, by omega, by omega⟩ ?_
      rw [show k - 1 + 1 = k by omega, show j - 1 + 1 = j by omega]
      exact hM
theorem on_start (a b : P2) : On a b a := by
  rw [On_iff]
  refine ⟨by unfold side; grind, by simp, by simp⟩
theorem side_eq0 (a b : P2) : side a b b = 0 := by unfold side; grind
theorem side_eq1 (a b : P2) : side a b a = 0 := by unfold side; grind
theorem side_eq2 (a b : P2) : side a a b = 0 := by unfold side; grind
/-- no corner twice -/
theorem nodup_of {r : List P2} (h3 : 3 ≤ r.length) (hf : NoFlat r) (ha : Apart r) : r.Nodup := by
  rw [List.nodup_iff_pairwise_ne, List.pairwise_iff_getElem]
  have hp : ∀ i, i < r.length → ∀ h : i < r.length, r[i] = pt r i := fun i hi h => by
    unfold pt
    rw [Nat.mod_eq_of_lt hi]
    simp [hi]
  intro i j hi hj hij e
  rw [hp i hi, hp j hj] at e
  by_cases c1 : j = i + 1
  · subst c1
    refine hf i hi ?_
    rw [e, side_eq2]
  · by_cases c2 : j = r.length - 1 ∧ i = 0
    · obtain ⟨rfl, rfl⟩ := c2
      refine hf (r.length - 1) (by omega) ?_
      rw [show r.length - 1 + 1 = 0 + r.length by omega, pt_add, e, side_eq2]
    · refine ha j i ⟨hij, hj, c1, c2⟩ (.inr (.inr (.inl ?_)))
      rw [← e]
      exact on_start _ _
theorem far_iff {p : P2} : farOut p = lFar p := by
  unfold farOut lFar
  rw [Bool.eq_iff_iff]
  simp only [Bool.or_eq_true, decide_eq_true_eq]
  generalize (p.1.natAbs : Int) = u
  generalize (p.2.natAbs : Int) = v
  omega
structure Room (r : List P2) : Prop where
  lo : 3 ≤ r.length
  hi : r.length ≤ 12
  inb : InB r
  flat : NoFlat r
  apart : Apart r
  area : 0 < areaBy r
theorem inB_iff {r : List P2} : (!r.any farOut) = true ↔ InB r := by
  rw [Bool.not_eq_true', ← Bool.not_eq_true, List.any_eq_true]
  unfold InB farOut
  constructor
  · intro h p hp
    have h1 : ¬ (decide ((100 : Int) < (p.1.natAbs : Int)) || decide ((100 : Int) < (p.2.natAbs : Int))) = true := fun z => h ⟨p, hp, z⟩
    simp only [Bool.or_eq_true, decide_eq_true_eq] at h1
    omega
  · rintro h ⟨p, hp, z⟩
    have := h p hp
    simp only [Bool.or_eq_true, decide_eq_true_eq] at z
    omega
theorem isRoom_iff {r : List P2} : isRoom r = true ↔ Room r := by
  unfold isRoom
  by_cases c : (decide (len r < 3) || decide ((12 : Int) < len r)) = true
  · rw [if_pos c]
    simp only [Bool.or_eq_true, decide_eq_true_eq] at c
    simp only [Bool.false_eq_true, false_iff]
    intro h
    have := h.lo
    have := h.hi
    unfold len at c
    omega
  · rw [if_neg c]
    simp only [Bool.or_eq_true, decide_eq_true_eq] at c
    unfold len at c
    have h3 : 3 ≤ r.length := by omega
    unfold cornersRight
    rw [Bool.and_eq_true, Bool.and_eq_true, Bool.and_eq_true, inB_iff, noFlat_iff h3, apart_iff h3, decide_eq_true_eq]
    exact ⟨fun h => ⟨h3, by omega, h.1.1, h.1.2, h.2.1, h.2.2⟩, fun h => ⟨⟨h.inb, h.flat⟩, h.apart, h.area⟩⟩
theorem lGood_iff {r : List P2} : lGood r = true ↔ Room r := by
  unfold lGood
  have e1 : (r.filter lFar).length = 0 ↔ InB r := by
    rw [← inB_iff, Bool.not_eq_true', ← Bool.not_eq_true, List.any_eq_true, List.length_eq_zero_iff, List.filter_eq_nil_iff]
    constructor
    · rintro h ⟨p, hp, z⟩
      rw [far_iff] at z
      exact h p hp z
    · intro h p hp z
      rw [← far_iff] at z
      exact h ⟨p, hp, z⟩
  by_cases c : (!(decide (3 ≤ len r) && decide (len r ≤ 12)) || decide (0 < ((r.filter lFar).length : Int))) = true
  · rw [if_pos c]
    simp only [Bool.or_eq_true, decide_eq_true_eq, Bool.not_eq_true', Bool.and_eq_false_iff, decide_eq_false_iff_not] at c
    simp only [Bool.false_eq_true, false_iff]
    intro h
    have := h.lo
    have := h.hi
    have := e1.mpr h.inb
    unfold len at c
    omega
  · rw [if_neg c]
    simp only [Bool.or_eq_true, decide_eq_true_eq, Bool.not_eq_true', Bool.and_eq_false_iff, decide_eq_false_iff_not] at c
    unfold len at c
    have h3 : 3 ≤ r.length := by omega
    have hB : InB r := e1.mp (by omega)
    have e2 : (!decide (((ddp r).length : Int) = len r) || (lFlat r || decide (areaBy r ≤ 0))) = true ↔ ¬ (r.Nodup ∧ NoFlat r ∧ 0 < areaBy r) := by
      rw [← noFlat_iff h3, ← ddp_len]
      unfold lFlat len
      generalize (rg 0 r.length).any (flatAt r) = B
      cases B
      · simp
        omega
      · simp
    by_cases d : (!decide (((ddp r).length : Int) = len r) || (lFlat r || decide (areaBy r ≤ 0))) = true
    · rw [if_pos d]
      rw [e2] at d
      simp only [Bool.false_eq_true, false_iff]
      exact fun h => d ⟨nodup_of h3 h.flat h.apart, h.flat, h.area⟩
    · rw [if_neg d, lApart_iff h3]
      rw [e2, Classical.not_not] at d
      exact ⟨fun h => ⟨h3, by omega, hB, d.2.1, h, d.2.2⟩, fun h => h.apart⟩
theorem good_room (r : List P2) : lGood r = isRoom r := by rw [Bool.eq_iff_iff, lGood_iff, isRoom_iff]
/-! ### from a loop's turn -/
theorem lt_more {p : Nat → Prop} {i : Nat} (h : ∀ k, k < i → p k) (hi : p i) : ∀ k, k < i + 1 → p k := fun k hk => by
  by_cases c : k = i
  · subst c
    exact hi
  · exact h k (by omega)
theorem no_less {p : Nat → Prop} : ∀ k : Nat, k < 0 → p k := fun k h => absurd h (Nat.not_lt_zero k)
theorem any_f {n : Nat} {f : Int → Bool} (h : ∀ k : Nat, k < n → f k = false) : (rg 0 n).any f = false := by
  rw [← Bool.not_eq_true, any_rg]
  rintro ⟨k, hk, z⟩
  rw [h k hk] at z
  cases z
theorem any_t {n k : Nat} {f : Int → Bool} (hk : k < n) (h : f k = true) : (rg 0 n).any f = true := any_rg.mpr ⟨k, hk, h⟩
theorem wallsApart_f {r : List P2} {k j : Nat} (hk : k < r.length) (hj : j < k) (h : wm r k j = true) : wallsApart r = false := by
  unfold wallsApart
  rw [any_t (f := fun k => (rg 0 k.toNat).any fun j => wm r k j) hk (any_t (f := fun j => wm r k j) (by rw [Int.toNat_natCast]; exact hj) h)]
  rfl
theorem wallsApart_t {r : List P2} (h : ∀ k, k < r.length → ∀ j, j < k → wm r k j = false) : wallsApart r = true := by
  unfold wallsApart
  rw [any_f (f := fun k => (rg 0 k.toNat).any fun j => wm r k j) fun k hk => any_f (f := fun j => wm r k j) fun j hj => h k hk j (by rw [Int.toNat_natCast] at hj; exact hj)]
  rfl
theorem lApart_f {r : List P2} {k j : Nat} (hk : k < r.length) (hj : j < k) (h : lwm r k j = true) : lApart r = false := by
  unfold lApart
  rw [any_t (f := fun k => (rg 0 k.toNat).any fun j => lwm r k j) hk (any_t (f := fun j => lwm r k j) (by rw [Int.toNat_natCast]; exact hj) h)]
  rfl
theorem lApart_t {r : List P2} (h : ∀ k, k < r.length → ∀ j, j < k → lwm r k j = false) : lApart r = true := by
  unfold lApart
  rw [any_f (f := fun k => (rg 0 k.toNat).any fun j => lwm r k j) fun k hk => any_f (f := fun j => lwm r k j) fun j hj => h k hk j (by rw [Int.toNat_natCast] at hj; exact hj)]
  rfl
theorem any_get_t {α : Type} {xs : List α} {f : α → Bool} {i : Nat} {t : α} (h : xs[i]? = some t) (hf : f t = true) : xs.any f = true := List.any_eq_true.mpr ⟨t, List.mem_of_getElem? h, hf⟩
theorem any_get_f {α : Type} {xs : List α} {f : α → Bool} (h : ∀ i, i < xs.length → ∀ t, xs[i]? = some t → f t = false) : xs.any f = false := by
  rw [← Bool.not_eq_true, List.any_eq_true]
  rintro ⟨t, ht, z⟩
  obtain ⟨i, hi, e⟩ := List.getElem_of_mem ht
  rw [h i hi t (by rw [List.getElem?_eq_getElem hi, e])] at z
  cases z
theorem get_once {α : Type} {xs : List α} {f : α → Bool} {i : Nat} {t : α} (h : xs[i]? = some t) (hf : f t = false) : ∀ u, xs[i]? = some u → f u = false := fun u hu => by
  rw [h] at hu
  cases hu
  exact hf
theorem cright_flat {r : List P2} {k : Nat} (hk : k < r.length) (h : flatAt r k = true) : cornersRight r = false := by
  unfold cornersRight
  rw [any_t hk h]
  simp
theorem cright_far {r : List P2} {i : Nat} {t : P2} (hi : r[i]? = some t) (h : farOut t = true) : cornersRight r = false := by
  unfold cornersRight
  rw [any_get_t hi h]
  rfl
theorem cright_t {r : List P2} (h1 : ∀ i, i < r.length → ∀ t, r[i]? = some t → farOut t = false) (h2 : ∀ k, k < r.length → flatAt r k = false) : cornersRight r = true := by
  unfold cornersRight
  rw [any_get_f h1, any_f h2]
  rfl
theorem gz_mem {α : Type} [Inhabited α] {xs : List α} {k : Int} (h : -(xs.length : Int) ≤ k ∧ k < xs.length) : gz xs k ∈ xs := by
  obtain ⟨j, hj, e, _⟩ := atI_in h
  unfold gz
  rw [e]
  exact List.getElem_mem hj
end MT

set_option Elab.async false
set_option linter.all false
set_option maxRecDepth 100000
set_option maxHeartbeats 4000000
/-! What the laws build. -/
namespace MT
open DL
def base0 (ns : List Int) : Int := if decide ((0 : Int) < (ns.length : Int)) = true then gz ns 0 else 0
def cell (ns : List Int) (k : Int) : Int := if decide (k < (ns.length : Int)) = true then gz ns k else (base0 ns % 65521 * 48271 + k * 30103) % 65521
/-! ### the plain room -/
structure PlS where
  x : Int
  lo : List P2
  hi : List P2
def plC (ns : List Int) (k : Int) (i : Nat) : Int := cell ns (k + 4 + (1 + (i : Int)))
def plX (ns : List Int) (k mode : Int) (x : Int) (i : Nat) : Int := if decide (mode = 3) = true then 1 + (i : Int) else x + 1 + plC ns k i / 2 % 4
def plY (ns : List Int) (k count mode : Int) (i : Nat) : Int := if decide (mode = 3) = true then (1 + (i : Int)) * (count - 1 - (1 + (i : Int))) else 1 + plC ns k i / 8 % 9
def plStep (ns : List Int) (k count mode : Int) (s : PlS) (i : Nat) : PlS :=
  if decide (plC ns k i % 2 = 0) = true then ⟨plX ns k mode s.x i, s.lo ++ [(plX ns k mode s.x i, 0 - plY ns k count mode i)], s.hi⟩
  else ⟨plX ns k mode s.x i, s.lo, s.hi ++ [(plX ns k mode s.x i, plY ns k count mode i)]⟩
def plTo (ns : List Int) (k count mode : Int) : Nat → PlS
  | 0 => ⟨0, [], []⟩
  | i + 1 => plStep ns k count mode (plTo ns k count mode i) i
def plRaw (s : PlS) : List P2 := [(0, 0)] ++ s.lo ++ [(s.x + 1, 0)] ++ s.hi.reverse
def bow (count : Int) : List P2 := (rg 0 count.toNat).map fun j => (j, 0 - j * (count - 1 - j))
def plEnd (ns : List Int) (k count : Int) : PlS := plTo ns k count (cell ns (k + 1) % 4) (count - 1 - 1).toNat
def plRoom (ns : List Int) (k count : Int) : List P2 := if lFlat (plRaw (plEnd ns k count)) = true then bow count else plRaw (plEnd ns k count)
/-! ### the winding one -/
def wnTo (ns : List Int) (k : Int) : Nat → List Int × List Int
  | 0 => ([0], [0])
  | i + 1 => ((wnTo ns k i).1 ++ [gz (wnTo ns k i).1 (-1) + 1 + cell ns (k + 5 + (i : Int)) % 4], (wnTo ns k i).2 ++ [gz (wnTo ns k i).2 (-1) + 1 + cell ns (k + 5 + (i : Int)) / 4 % 4])
def plan : List P2 := [(0, 0), (5, 0), (5, 5), (1, 5), (1, 2), (3, 2), (3, 3), (2, 3), (2, 4), (4, 4), (4, 1), (0, 1)]
def wind (ns : List Int) (k : Int) : List P2 := plan.map fun p => (gz (wnTo ns k 5).1 p.1, gz (wnTo ns k 5).2 p.2)
/-! ### pushed -/
def psAt (ns : List Int) (k : Int) (r : List P2) (j : Int) : Int := cell ns (k + 15 + j) % (r.length : Int)
def psX (ns : List Int) (k : Int) (r : List P2) (j : Int) : Int := (gz r (psAt ns k r j)).1 + cell ns (k + 15 + j) / 16 % 33 - 16
def psY (ns : List Int) (k : Int) (r : List P2) (j : Int) : Int := (gz r (psAt ns k r j)).2 + cell ns (k + 15 + j) / 1024 % 33 - 16
def psTry (ns : List Int) (k : Int) (r : List P2) (j : Int) : List P2 := r.take (psAt ns k r j).toNat ++ [(psX ns k r j, psY ns k r j)] ++ r.drop (psAt ns k r j + 1).toNat
def psStep (ns : List Int) (k : Int) (r : List P2) (j : Int) : List P2 :=
  if (decide (max ((psX ns k r j).natAbs : Int) ((psY ns k r j).natAbs : Int) < 80) && lGood (psTry ns k r j)) = true then psTry ns k r j else r
def psTo (ns : List Int) (k : Int) (r : List P2) : Nat → List P2
  | 0 => r
  | i + 1 => psStep ns k (psTo ns k r i) (i : Int)
def pushed (ns : List Int) (k : Int) (r : List P2) : List P2 := psTo ns k r (cell ns (k + 1) / 4 % 5).toNat
/-! ### the room -/
def rmA (ns : List Int) (k most : Int) : List P2 := if (decide (most = 12) && decide (cell ns (k + 1) / 20 % 6 = 5)) = true then wind ns k else plRoom ns k (3 + cell ns k % (most - 2))
def slant (ns : List Int) (k : Int) : Int := cell ns (k + 2) / 8 % 3 - 1
def shear (s : Int) (r : List P2) : List P2 := r.map fun p => (p.1 + s * p.2, p.2)
def rmB (ns : List Int) (k most : Int) : List P2 := pushed ns k (shear (slant ns k) (rmA ns k most))
def mirX (r : List P2) : List P2 := (r.map fun p => (0 - p.1, p.2)).reverse
def mirY (r : List P2) : List P2 := (r.map fun p => (p.1, 0 - p.2)).reverse
def swp (r : List P2) : List P2 := (r.map fun p => (p.2, p.1)).reverse
def turn8 (ns : List Int) (k : Int) : Int := cell ns (k + 2) % 8
def rmC (ns : List Int) (k most : Int) : List P2 := if decide (turn8 ns k % 2 = 1) = true then mirX (rmB ns k most) else rmB ns k most
def rmD (ns : List Int) (k most : Int) : List P2 := if decide (turn8 ns k / 2 % 2 = 1) = true then mirY (rmC ns k most) else rmC ns k most
def rmE (ns : List Int) (k most : Int) : List P2 := if decide (turn8 ns k / 4 = 1) = true then swp (rmD ns k most) else rmD ns k most
def rotD (r : List P2) (f : Int) : List P2 := r.drop f.toNat ++ r.take f.toNat
def shift (x y : Int) (r : List P2) : List P2 := r.map fun p => (p.1 + x, p.2 + y)
def lawRoom (ns : List Int) (k most : Int) : List P2 :=
  shift (cell ns (k + 3) / 16 % 41 - 20) (cell ns (k + 4) % 41 - 20) (rotD (rmE ns k most) (cell ns (k + 3) % ((rmE ns k most).length : Int)))
/-! ### sizes -/
def Sm (B : Nat) (r : List P2) : Prop := ∀ p ∈ r, p.1.natAbs ≤ B ∧ p.2.natAbs ≤ B
theorem Sm.mono {A B : Nat} {r : List P2} (h : Sm A r) (hAB : A ≤ B) : Sm B r := fun p hp => ⟨Nat.le_trans (h p hp).1 hAB, Nat.le_trans (h p hp).2 hAB⟩
theorem Sm.app {B : Nat} {r s : List P2} (h : Sm B r) (h' : Sm B s) : Sm B (r ++ s) := fun p hp => (List.mem_append.mp hp).elim (h p) (h' p)
theorem Sm.one {B : Nat} {p : P2} (h : p.1.natAbs ≤ B ∧ p.2.natAbs ≤ B) : Sm B [p] := fun q hq => by
  rw [List.mem_singleton] at hq
  rw [hq]
  exact h
theorem Sm.rev {B : Nat} {r : List P2} (h : Sm B r) : Sm B r.reverse := fun p hp => h p (List.mem_reverse.mp hp)
theorem Sm.gz {B : Nat} {r : List P2} {k : Int} (h : Sm B r) (hk : -(r.length : Int) ≤ k ∧ k < r.length) : (gz r k).1.natAbs ≤ B ∧ (gz r k).2.natAbs ≤ B := h _ (gz_mem hk)
theorem Sm.take {B : Nat} {r : List P2} (h : Sm B r) (n : Nat) : Sm B (r.take n) := fun p hp => h p (List.mem_of_mem_take hp)
theorem Sm.drop {B : Nat} {r : List P2} (h : Sm B r) (n : Nat) : Sm B (r.drop n) := fun p hp => h p (List.mem_of_mem_drop hp)
theorem Sm.map {B C : Nat} {r : List P2} {f : P2 → P2} (h : Sm B r) (hf : ∀ p, p.1.natAbs ≤ B ∧ p.2.natAbs ≤ B → (f p).1.natAbs ≤ C ∧ (f p).2.natAbs ≤ C) : Sm C (r.map f) := fun p hp => by
  obtain ⟨q, hq, rfl⟩ := List.mem_map.mp hp
  exact hf q (h q hq)
theorem md {a m : Int} (h : 0 < m) : 0 ≤ a % m ∧ a % m < m := ⟨Int.emod_nonneg _ (by omega), Int.emod_lt_of_pos _ h⟩
/-- one turn of the plain room: x grows, the lists hold what is small -/
structure PlOk (i : Nat) (s : PlS) : Prop where
  x : (i : Int) ≤ s.x ∧ s.x ≤ 4 * i
  n : s.lo.length + s.hi.length = i
  lo : Sm 40 s.lo
  hi : Sm 40 s.hi
theorem mul_bd {a b : Int} {A B : Nat} (ha : a.natAbs ≤ A) (hb : b.natAbs ≤ B) : (a * b).natAbs ≤ A * B := by
  rw [Int.natAbs_mul]
  exact Nat.mul_le_mul ha hb
theorem bow_bd {j n : Int} (h : 0 ≤ j) (hj : j ≤ n) (hn : n ≤ 11) : 0 ≤ j * (n - j) ∧ j * (n - j) ≤ 30 := by
  have h1 : j = 0 ∨ j = 1 ∨ j = 2 ∨ j = 3 ∨ j = 4 ∨ j = 5 ∨ j = 6 ∨ j = 7 ∨ j = 8 ∨ j = 9 ∨ j = 10 ∨ j = 11 := by omega
  rcases h1 with rfl | rfl | rfl | rfl | rfl | rfl | rfl | rfl | rfl | rfl | rfl | rfl <;> omega
theorem plX_bd {ns : List Int} {k mode x : Int} {i : Nat} (hx : (i : Int) ≤ x ∧ x ≤ 4 * i) : ((i + 1 : Nat) : Int) ≤ plX ns k mode x i ∧ plX ns k mode x i ≤ 4 * ((i + 1 : Nat) : Int) := by
  unfold plX
  have := md (a := plC ns k i / 2) (m := 4) (by omega)
  split <;> omega
theorem plY_bd {ns : List Int} {k count mode : Int} {i : Nat} (hc : count ≤ 12) (hi : (i : Int) + 2 < count) : 1 ≤ plY ns k count mode i ∧ plY ns k count mode i ≤ 30 := by
  unfold plY
  have := md (a := plC ns k i / 8) (m := 9) (by omega)
  split
  · have h1 := bow_bd (j := 1 + (i : Int)) (n := count - 1) (by omega) (by omega) (by omega)
    have h2 : 0 < (1 + (i : Int)) * (count - 1 - (1 + (i : Int))) := Int.mul_pos (by omega) (by omega)
    omega
  · omega
theorem plTo_ok {ns : List Int} {k count mode : Int} (hc : count ≤ 12) : ∀ i : Nat, (i : Int) + 2 ≤ count → PlOk i (plTo ns k count mode i)
  | 0, _ => ⟨by simp [plTo], rfl, fun _ h => by simp [plTo] at h, fun _ h => by simp [plTo] at h⟩
  | i + 1, h => by
    have ih := plTo_ok (ns := ns) (k := k) (mode := mode) hc i (by omega)
    have hx := plX_bd (ns := ns) (k := k) (mode := mode) ih.x
    have hy := plY_bd (ns := ns) (k := k) (mode := mode) (i := i) hc (by omega)
    have hn := ih.n
    rw [plTo]
    unfold plStep
    split
    · exact ⟨hx, by simp; omega, ih.lo.app (.one ⟨by simp only; omega, by simp only; omega⟩), ih.hi⟩
    · exact ⟨hx, by simp; omega, ih.lo, ih.hi.app (.one ⟨by simp only; omega, by simp only; omega⟩)⟩
theorem plRaw_ok {i : Nat} {s : PlS} (h : PlOk i s) (hi : i ≤ 10) : Sm 45 (plRaw s) ∧ (plRaw s).length = i + 2 := by
  obtain ⟨h1, h2, h3, h4⟩ := h
  refine ⟨(((Sm.one (by simp)).app (h3.mono (by omega))).app (.one ⟨by simp only; omega, by simp only; omega⟩)).app ((h4.mono (by omega)).rev), ?_⟩
  unfold plRaw
  simp
  omega
theorem bow_ok {count : Int} (h3 : 3 ≤ count) (hc : count ≤ 12) : Sm 45 (bow count) ∧ ((bow count).length : Int) = count := by
  constructor
  · intro p hp
    obtain ⟨j, hj, rfl⟩ := List.mem_map.mp hp
    have := mem_ints.mp hj
    have := bow_bd (j := j) (n := count - 1) (by omega) (by omega) (by omega)
    simp only
    omega
  · unfold bow
    rw [List.length_map, ints_len]
    omega
theorem plRoom_ok {ns : List Int} {k count : Int} (h3 : 3 ≤ count) (hc : count ≤ 12) : Sm 45 (plRoom ns k count) ∧ ((plRoom ns k count).length : Int) = count := by
  unfold plRoom
  split
  · exact bow_ok h3 hc
  · have h1 := plTo_ok (ns := ns) (k := k) (mode := cell ns (k + 1) % 4) hc (count - 1 - 1).toNat (by omega)
    have h2 := plRaw_ok h1 (by omega)
    refine ⟨h2.1, ?_⟩
    rw [show plRaw (plEnd ns k count) = plRaw (plTo ns k count (cell ns (k + 1) % 4) (count - 1 - 1).toNat) from rfl, h2.2]
    omega
/-- what rises strictly from 0, at most 4 at a time -/
def Rise (xs : List Int) (i : Nat) : Prop := xs.length = i + 1 ∧ (∀ j, j < i → gz xs (j : Int) < gz xs ((j + 1 : Nat) : Int)) ∧ gz xs 0 = 0 ∧ ∀ j, j ≤ i → 0 ≤ gz xs (j : Int) ∧ gz xs (j : Int) ≤ 4 * j
theorem gz_natI {α : Type} [Inhabited α] {xs : List α} {j : Nat} (h : j < xs.length) : gz xs (j : Int) = xs[j] := by
  obtain ⟨j', hj, e, e2⟩ := atI_in (xs := xs) (k := (j : Int)) (by omega)
  rw [if_pos (by omega)] at e2
  have : j' = j := by omega
  subst this
  unfold gz
  rw [e]
  rfl
theorem gz_last {α : Type} [Inhabited α] {xs : List α} {n : Nat} (h : xs.length = n + 1) : gz xs (-1) = gz xs (n : Int) := by
  obtain ⟨j', hj, e, e2⟩ := atI_in (xs := xs) (k := -1) (by omega)
  rw [if_neg (by omega)] at e2
  have : j' = n := by omega
  subst this
  rw [gz_natI hj]
  unfold gz
  rw [e]
  rfl
theorem gz_app {α : Type} [Inhabited α] {xs : List α} {x : α} {j : Nat} : (j < xs.length → gz (xs ++ [x]) (j : Int) = gz xs (j : Int)) ∧ (j = xs.length → gz (xs ++ [x]) (j : Int) = x) := by
  constructor
  · intro h
    rw [gz_natI h, gz_natI (by simp; omega), List.getElem_append_left h]
  · intro h
    subst h
    rw [gz_natI (by simp)]
    simp
theorem Rise.more {xs : List Int} {i : Nat} {d : Int} (h : Rise xs i) (hd : 0 ≤ d ∧ d < 4) : Rise (xs ++ [gz xs (-1) + 1 + d]) (i + 1) := by
  obtain ⟨h1, h2, h3, h4⟩ := h
  rw [gz_last h1]
  have hi := h4 i (Nat.le_refl _)
  refine ⟨by simp [h1], fun j hj => ?_, ?_, fun j hj => ?_⟩
  · rw [gz_app.1 (by omega)]
    by_cases c : j = i
    · subst c
      rw [gz_app.2 (by omega)]
      omega
    · rw [gz_app.1 (by omega)]
      exact h2 j (by omega)
  · exact (gz_app (j := 0)).1 (by omega) |>.trans h3
  · by_cases c : j = i + 1
    · subst c
      rw [gz_app.2 (by omega)]
      omega
    · rw [gz_app.1 (by omega)]
      exact h4 j (by omega)
theorem wn_ok (ns : List Int) (k : Int) : ∀ i, Rise (wnTo ns k i).1 i ∧ Rise (wnTo ns k i).2 i
  | 0 => ⟨⟨rfl, fun _ h => absurd h (Nat.not_lt_zero _), rfl, fun j hj => by
      have : j = 0 := by omega
      subst this
      exact (by decide : 0 ≤ gz ([0] : List Int) ((0 : Nat) : Int) ∧ gz ([0] : List Int) ((0 : Nat) : Int) ≤ 4 * ((0 : Nat) : Int))⟩, ⟨rfl, fun _ h => absurd h (Nat.not_lt_zero _), rfl, fun j hj => by
      have : j = 0 := by omega
      subst this
      exact (by decide : 0 ≤ gz ([0] : List Int) ((0 : Nat) : Int) ∧ gz ([0] : List Int) ((0 : Nat) : Int) ≤ 4 * ((0 : Nat) : Int))⟩⟩
  | i + 1 => by
    obtain ⟨h1, h2⟩ := wn_ok ns k i
    exact ⟨h1.more (md (by omega)), h2.more (md (by omega))⟩
theorem plan_bd : ∀ p ∈ plan, (0 ≤ p.1 ∧ p.1 ≤ 5) ∧ (0 ≤ p.2 ∧ p.2 ≤ 5) := by decide
theorem wind_ok (ns : List Int) (k : Int) : Sm 45 (wind ns k) ∧ (wind ns k).length = 12 := by
  obtain ⟨h1, h2⟩ := wn_ok ns k 5
  constructor
  · intro p hp
    obtain ⟨q, hq, rfl⟩ := List.mem_map.mp hp
    obtain ⟨b1, b2⟩ := plan_bd q hq
    have q1 := h1.2.2.2 q.1.toNat (by omega)
    have q2 := h2.2.2.2 q.2.toNat (by omega)
    rw [show ((q.1.toNat : Nat) : Int) = q.1 by omega] at q1
    rw [show ((q.2.toNat : Nat) : Int) = q.2 by omega] at q2
    simp only
    omega
  · unfold wind
    rw [List.length_map]
    rfl
theorem psAt_bd {ns : List Int} {k : Int} {r : List P2} {j : Int} (h3 : 3 ≤ r.length) : 0 ≤ psAt ns k r j ∧ psAt ns k r j < r.length := md (by omega)
theorem psTry_len {ns : List Int} {k : Int} {r : List P2} {j : Int} (h3 : 3 ≤ r.length) : (psTry ns k r j).length = r.length := by
  have := psAt_bd (ns := ns) (k := k) (j := j) h3
  unfold psTry
  rw [List.length_append, List.length_append, List.length_take, List.length_drop, List.length_singleton]
  omega
theorem psStep_ok {ns : List Int} {k : Int} {r : List P2} {j : Int} {B : Nat} (h3 : 3 ≤ r.length) (h : Sm B r) (hB : 80 ≤ B) : Sm B (psStep ns k r j) ∧ (psStep ns k r j).length = r.length := by
  unfold psStep
  split
  · rename_i c
    rw [Bool.and_eq_true, decide_eq_true_eq] at c
    refine ⟨((h.take _).app (.one ⟨by simp only; omega, by simp only; omega⟩)).app (h.drop _), psTry_len h3⟩
  · exact ⟨h, rfl⟩
theorem psTo_ok {ns : List Int} {k : Int} {r : List P2} {B : Nat} (h3 : 3 ≤ r.length) (h : Sm B r) (hB : 80 ≤ B) : ∀ i, Sm B (psTo ns k r i) ∧ (psTo ns k r i).length = r.length
  | 0 => ⟨h, rfl⟩
  | i + 1 => by
    obtain ⟨h1, h2⟩ := psTo_ok (ns := ns) (k := k) h3 h hB i
    obtain ⟨h4, h5⟩ := psStep_ok (ns := ns) (k := k) (j := i) (by omega) h1 hB
    exact ⟨h4, h5.trans h2⟩
theorem psTry_sm {ns : List Int} {k : Int} {r : List P2} {j : Int} {B : Nat} (h3 : 3 ≤ r.length) (h : Sm B r) : Sm (B + 16) (psTry ns k r j) := by
  have hb := psAt_bd (ns := ns) (k := k) (j := j) h3
  have hg := h.gz (k := psAt ns k r j) (by omega)
  have m1 := md (a := cell ns (k + 15 + j) / 16) (m := 33) (by omega)
  have m2 := md (a := cell ns (k + 15 + j) / 1024) (m := 33) (by omega)
  unfold psTry
  refine (((h.take _).mono (by omega)).app (.one ⟨?_, ?_⟩)).app ((h.drop _).mono (by omega))
  · simp only [psX]
    omega
  · simp only [psY]
    omega
structure Rm (B : Nat) (r : List P2) : Prop where
  sm : Sm B r
  lo : 3 ≤ r.length
  hi : r.length ≤ 12
theorem rmA_ok {ns : List Int} {k most : Int} (h5 : 3 ≤ most) (h12 : most ≤ 12) : Rm 45 (rmA ns k most) := by
  unfold rmA
  split
  · obtain ⟨h1, h2⟩ := wind_ok ns k
    exact ⟨h1, by omega, by omega⟩
  · have hm := md (a := cell ns k) (m := most - 2) (by omega)
    obtain ⟨h1, h2⟩ := plRoom_ok (ns := ns) (k := k) (count := 3 + cell ns k % (most - 2)) (by omega) (by omega)
    exact ⟨h1, by omega, by omega⟩
theorem slant_bd (ns : List Int) (k : Int) : slant ns k = -1 ∨ slant ns k = 0 ∨ slant ns k = 1 := by
  unfold slant
  have := md (a := cell ns (k + 2) / 8) (m := 3) (by omega)
  omega
theorem shear_ok {B : Nat} {s : Int} {r : List P2} (h : Rm B r) (hs : s = -1 ∨ s = 0 ∨ s = 1) : Rm (2 * B) (shear s r) := by
  refine ⟨h.sm.map fun p hp => ?_, by unfold shear; rw [List.length_map]; exact h.lo, by unfold shear; rw [List.length_map]; exact h.hi⟩
  rcases hs with rfl | rfl | rfl <;> simp only <;> omega
theorem rmB_ok {ns : List Int} {k most : Int} (h5 : 3 ≤ most) (h12 : most ≤ 12) : Rm 90 (rmB ns k most) := by
  have h := shear_ok (rmA_ok (ns := ns) (k := k) h5 h12) (slant_bd ns k)
  obtain ⟨h1, h2⟩ := psTo_ok (ns := ns) (k := k) h.lo h.sm (by omega) (cell ns (k + 1) / 4 % 5).toNat
  have e : rmB ns k most = psTo ns k (shear (slant ns k) (rmA ns k most)) (cell ns (k + 1) / 4 % 5).toNat := rfl
  rw [e]
  exact ⟨h1, by have := h.lo; omega, by have := h.hi; omega⟩
theorem Rm.rm {B : Nat} {r : List P2} {f : P2 → P2} (h : Rm B r) (hf : ∀ p, p.1.natAbs ≤ B ∧ p.2.natAbs ≤ B → (f p).1.natAbs ≤ B ∧ (f p).2.natAbs ≤ B) : Rm B (r.map f).reverse :=
  ⟨(h.sm.map hf).rev, by rw [List.length_reverse, List.length_map]; exact h.lo, by rw [List.length_reverse, List.length_map]; exact h.hi⟩
theorem rmC_ok {ns : List Int} {k most : Int} (h5 : 3 ≤ most) (h12 : most ≤ 12) : Rm 90 (rmC ns k most) := by
  unfold rmC
  split
  · exact (rmB_ok h5 h12).rm fun p hp => by simp only; omega
  · exact rmB_ok h5 h12
theorem rmD_ok {ns : List Int} {k most : Int} (h5 : 3 ≤ most) (h12 : most ≤ 12) : Rm 90 (rmD ns k most) := by
  unfold rmD
  split
  · exact (rmC_ok h5 h12).rm fun p hp => by simp only; omega
  · exact rmC_ok h5 h12
theorem rmE_ok {ns : List Int} {k most : Int} (h5 : 3 ≤ most) (h12 : most ≤ 12) : Rm 90 (rmE ns k most) := by
  unfold rmE
  split
  · exact (rmD_ok h5 h12).rm fun p hp => by simp only; omega
  · exact rmD_ok h5 h12
theorem rotD_len {r : List P2} {f : Int} (h : 0 ≤ f ∧ f ≤ r.length) : (rotD r f).length = r.length := by
  unfold rotD
  rw [List.length_append, List.length_take, List.length_drop]
  omega
theorem lawRoom_ok {ns : List Int} {k most : Int} (h5 : 3 ≤ most) (h12 : most ≤ 12) : Rm 110 (lawRoom ns k most) := by
  have h := rmE_ok (ns := ns) (k := k) h5 h12
  have h1 := md (a := cell ns (k + 3) / 16) (m := 41) (by omega)
  have h2 := md (a := cell ns (k + 4)) (m := 41) (by omega)
  have hl := h.lo
  have hf := md (a := cell ns (k + 3)) (m := ((rmE ns k most).length : Int)) (by omega)
  have el := rotD_len (r := rmE ns k most) (f := cell ns (k + 3) % ((rmE ns k most).length : Int)) (by omega)
  unfold lawRoom shift
  refine ⟨((h.sm.drop _).app (h.sm.take _)).map fun p hp => ?_, ?_, ?_⟩
  · simp only
    omega
  · rw [List.length_map, el]
    exact h.lo
  · rw [List.length_map, el]
    exact h.hi
end MT

set_option Elab.async false
set_option linter.all false
set_option maxRecDepth 100000
set_option maxHeartbeats 4000000
/-! Moved rooms are rooms. -/
namespace MT
open DL
/-! ### weights -/
theorem on_w {p q t : P2} (h : On p q t) : ∃ a b : Int, 0 ≤ a ∧ 0 ≤ b ∧ 0 < a + b ∧ (a + b) * t.1 = a * p.1 + b * q.1 ∧ (a + b) * t.2 = a * p.2 + b * q.2 := by
  obtain ⟨h1, h2, h3⟩ := h
  unfold side at h1
  by_cases c1 : p.1 = q.1
  · by_cases c2 : p.2 = q.2
    · refine ⟨1, 0, by decide, by decide, by decide, ?_, ?_⟩
      · omega
      · omega
    · have e : t.1 = p.1 := by omega
      by_cases c3 : p.2 < q.2
      · refine ⟨q.2 - t.2, t.2 - p.2, by omega, by omega, by omega, ?_, by grind⟩
        rw [← c1, e]
        grind
      · refine ⟨t.2 - q.2, p.2 - t.2, by omega, by omega, by omega, ?_, by grind⟩
        rw [← c1, e]
        grind
  · by_cases c3 : p.1 < q.1
    · exact ⟨q.1 - t.1, t.1 - p.1, by omega, by omega, by omega, by grind, by grind⟩
    · exact ⟨t.1 - q.1, p.1 - t.1, by omega, by omega, by omega, by grind, by grind⟩
theorem mul_cancel {a b c : Int} (h : c * a = c * b) (hc : 0 < c) : a = b := by
  have h1 : c * (a - b) = 0 := by rw [Int.mul_sub]; omega
  rcases Int.mul_eq_zero.mp h1 with z | z <;> omega
theorem w_btw {a b p q t : Int} (ha : 0 ≤ a) (hb : 0 ≤ b) (hab : 0 < a + b) (e : (a + b) * t = a * p + b * q) : min p q ≤ t ∧ t ≤ max p q := by
  have e1 : a * (p - t) + b * (q - t) = 0 := by grind
  constructor
  · rcases Int.lt_or_le t (min p q) with z | z
    · have h1 : 0 ≤ a * (p - t) := Int.mul_nonneg ha (by omega)
      have h2 : 0 ≤ b * (q - t) := Int.mul_nonneg hb (by omega)
      rcases Int.lt_or_le 0 a with ca | ca
      · have := Int.mul_pos ca (show 0 < p - t by omega)
        omega
      · have := Int.mul_pos (show 0 < b by omega) (show 0 < q - t by omega)
        omega
    · exact z
  · rcases Int.lt_or_le (max p q) t with z | z
    · have h1 : a * (p - t) ≤ 0 := Int.mul_nonpos_of_nonneg_of_nonpos ha (by omega)
      have h2 : b * (q - t) ≤ 0 := Int.mul_nonpos_of_nonneg_of_nonpos hb (by omega)
      rcases Int.lt_or_le 0 a with ca | ca
      · have := Int.mul_neg_of_pos_of_neg ca (show p - t < 0 by omega)
        omega
      · have := Int.mul_neg_of_pos_of_neg (show 0 < b by omega) (show q - t < 0 by omega)
        omega
    · exact z
theorem w_on {p q t : P2} {a b : Int} (ha : 0 ≤ a) (hb : 0 ≤ b) (hab : 0 < a + b) (e1 : (a + b) * t.1 = a * p.1 + b * q.1) (e2 : (a + b) * t.2 = a * p.2 + b * q.2) : On p q t := by
  refine ⟨?_, w_btw ha hb hab e1, w_btw ha hb hab e2⟩
  have h : (a + b) * side p q t = (a + b) * 0 := by
    unfold side
    have e3 : (a + b) * (t.1 - p.1) = b * (q.1 - p.1) := by grind
    have e4 : (a + b) * (t.2 - p.2) = b * (q.2 - p.2) := by grind
    have : (a + b) * ((q.1 - p.1) * (t.2 - p.2) - (q.2 - p.2) * (t.1 - p.1)) = (q.1 - p.1) * ((a + b) * (t.2 - p.2)) - (q.2 - p.2) * ((a + b) * (t.1 - p.1)) := by grind
    rw [this, e3, e4]
    grind
  exact mul_cancel h hab
/-- a point of both, by weights -/
def Com (p q r s : P2) : Prop := ∃ a b c d : Int, 0 ≤ a ∧ 0 ≤ b ∧ 0 < a + b ∧ 0 ≤ c ∧ 0 ≤ d ∧ 0 < c + d ∧ (c + d) * (a * p.1 + b * q.1) = (a + b) * (c * r.1 + d * s.1) ∧ (c + d) * (a * p.2 + b * q.2) = (a + b) * (c * r.2 + d * s.2)
theorem Meet.com {p q r s : P2} (h : Meet p q r s) : Com p q r s := by
  rcases h with h | h | h | h | h
  · obtain ⟨a, b, h1, h2, h3, e1, e2⟩ := on_w h
    exact ⟨a, b, 1, 0, h1, h2, h3, by decide, by decide, by decide, by grind, by grind⟩
  · obtain ⟨a, b, h1, h2, h3, e1, e2⟩ := on_w h
    exact ⟨a, b, 0, 1, h1, h2, h3, by decide, by decide, by decide, by grind, by grind⟩
  · obtain ⟨a, b, h1, h2, h3, e1, e2⟩ := on_w h
    exact ⟨1, 0, a, b, by decide, by decide, by decide, h1, h2, h3, by grind, by grind⟩
  · obtain ⟨a, b, h1, h2, h3, e1, e2⟩ := on_w h
    exact ⟨0, 1, a, b, by decide, by decide, by decide, h1, h2, h3, by grind, by grind⟩
  · have e := side_four p q r s
    have k1 : side r s q * p.1 - side r s p * q.1 = side p q r * s.1 - side p q s * r.1 := by unfold side; grind
    have k2 : side r s q * p.2 - side r s p * q.2 = side p q r * s.2 - side p q s * r.2 := by unfold side; grind
    obtain ⟨h1, h2⟩ := h
    generalize side p q r = s3 at *
    generalize side p q s = s4 at *
    generalize side r s p = s1 at *
    generalize side r s q = s2 at *
    rcases h1 with h1 | h1
    · refine ⟨s2, -s1, -s4, s3, by omega, by omega, by omega, by omega, by omega, by omega, ?_, ?_⟩
      · rw [show -s4 + s3 = s2 + -s1 by omega]
        congr 1
        grind
      · rw [show -s4 + s3 = s2 + -s1 by omega]
        congr 1
        grind
    · refine ⟨-s2, s1, s4, -s3, by omega, by omega, by omega, by omega, by omega, by omega, ?_, ?_⟩
      · rw [show s4 + -s3 = -s2 + s1 by omega]
        congr 1
        grind
      · rw [show s4 + -s3 = -s2 + s1 by omega]
        congr 1
        grind
/-- parted by a line -/
theorem parted {p q r s : P2} (u v m : Int) (h1 : u * p.1 + v * p.2 ≤ m) (h2 : u * q.1 + v * q.2 ≤ m) (h3 : m < u * r.1 + v * r.2) (h4 : m < u * s.1 + v * s.2) : ¬ Meet p q r s := fun h => by
  obtain ⟨a, b, c, d, ha, hb, hab, hc, hd, hcd, e1, e2⟩ := h.com
  have e : (c + d) * (a * (u * p.1 + v * p.2) + b * (u * q.1 + v * q.2)) = (a + b) * (c * (u * r.1 + v * r.2) + d * (u * s.1 + v * s.2)) := by
    have : (c + d) * (a * (u * p.1 + v * p.2) + b * (u * q.1 + v * q.2)) = u * ((c + d) * (a * p.1 + b * q.1)) + v * ((c + d) * (a * p.2 + b * q.2)) := by grind
    rw [this, e1, e2]
    grind
  generalize u * p.1 + v * p.2 = P at *
  generalize u * q.1 + v * q.2 = Q at *
  generalize u * r.1 + v * r.2 = R at *
  generalize u * s.1 + v * s.2 = S at *
  have f1 : a * P + b * Q ≤ (a + b) * m := by
    have := Int.mul_le_mul_of_nonneg_left h1 ha
    have := Int.mul_le_mul_of_nonneg_left h2 hb
    rw [Int.add_mul]
    omega
  have f2 : (c + d) * m < c * R + d * S := by
    rw [Int.add_mul]
    rcases Int.lt_or_le 0 c with z | z
    · have := Int.mul_lt_mul_of_pos_left h3 z
      have := Int.mul_le_mul_of_nonneg_left (Int.le_of_lt h4) hd
      omega
    · have z : c = 0 := by omega
      subst z
      have := Int.mul_lt_mul_of_pos_left h4 (show 0 < d by omega)
      omega
  have g1 := Int.mul_le_mul_of_nonneg_left f1 (Int.le_of_lt hcd)
  have g2 := Int.mul_lt_mul_of_pos_left f2 hab
  have g3 : (c + d) * ((a + b) * m) = (a + b) * ((c + d) * m) := by grind
  omega
/-! ### maps that keep sides up to sign -/
structure Aff (f : P2 → P2) (d : Int) : Prop where
  one : d = 1 ∨ d = -1
  sides : ∀ p q t, side (f p) (f q) (f t) = d * side p q t
  ons : ∀ p q t, On (f p) (f q) (f t) ↔ On p q t
theorem Aff.meet {f : P2 → P2} {d : Int} (h : Aff f d) {p q r s : P2} : Meet (f p) (f q) (f r) (f s) ↔ Meet p q r s := by
  unfold Meet Cross
  rw [h.ons, h.ons, h.ons, h.ons, h.sides, h.sides, h.sides, h.sides]
  rcases h.one with e | e
  · subst e
    simp only [Int.one_mul]
  · subst e
    have k : (((0 < -1 * side p q r ∧ -1 * side p q s < 0) ∨ (-1 * side p q r < 0 ∧ 0 < -1 * side p q s)) ∧ ((0 < -1 * side r s p ∧ -1 * side r s q < 0) ∨ (-1 * side r s p < 0 ∧ 0 < -1 * side r s q))) ↔ (((0 < side p q r ∧ side p q s < 0) ∨ (side p q r < 0 ∧ 0 < side p q s)) ∧ ((0 < side r s p ∧ side r s q < 0) ∨ (side r s p < 0 ∧ 0 < side r s q))) := by omega
    rw [k]
/-- from weights: a linear map with a linear inverse -/
theorem aff_of {f g : P2 → P2} {d : Int} (one : d = 1 ∨ d = -1) (hs : ∀ p q t, side (f p) (f q) (f t) = d * side p q t)
    (hf : ∀ (p q t : P2) (a b : Int), 0 < a + b → (a + b) * t.1 = a * p.1 + b * q.1 → (a + b) * t.2 = a * p.2 + b * q.2 → (a + b) * (f t).1 = a * (f p).1 + b * (f q).1 ∧ (a + b) * (f t).2 = a * (f p).2 + b * (f q).2)
    (hg : ∀ (p q t : P2) (a b : Int), 0 < a + b → (a + b) * t.1 = a * p.1 + b * q.1 → (a + b) * t.2 = a * p.2 + b * q.2 → (a + b) * (g t).1 = a * (g p).1 + b * (g q).1 ∧ (a + b) * (g t).2 = a * (g p).2 + b * (g q).2)
    (hgf : ∀ p, g (f p) = p) : Aff f d := by
  refine ⟨one, hs, fun p q t => ⟨fun h => ?_, fun h => ?_⟩⟩
  · obtain ⟨a, b, h1, h2, h3, e1, e2⟩ := on_w h
    obtain ⟨k1, k2⟩ := hg _ _ _ a b h3 e1 e2
    rw [hgf, hgf, hgf] at k1 k2
    exact w_on h1 h2 h3 k1 k2
  · obtain ⟨a, b, h1, h2, h3, e1, e2⟩ := on_w h
    obtain ⟨k1, k2⟩ := hf _ _ _ a b h3 e1 e2
    exact w_on h1 h2 h3 k1 k2
theorem aff_shear (s : Int) : Aff (fun p => (p.1 + s * p.2, p.2)) 1 := by
  refine aff_of (g := fun p => (p.1 - s * p.2, p.2)) (.inl rfl) (fun p q t => by unfold side; grind) (fun p q t a b _ e1 e2 => ?_) (fun p q t a b _ e1 e2 => ?_) fun p => ?_
  · simp only
    constructor <;> grind
  · simp only
    constructor <;> grind
  · simp only
    rw [Int.add_sub_cancel]
theorem aff_x : Aff (fun p => (0 - p.1, p.2)) (-1) := by
  refine aff_of (g := fun p => (0 - p.1, p.2)) (.inr rfl) (fun p q t => by unfold side; grind) (fun p q t a b _ e1 e2 => ?_) (fun p q t a b _ e1 e2 => ?_) fun p => ?_
  · simp only
    constructor <;> grind
  · simp only
    constructor <;> grind
  · obtain ⟨p1, p2⟩ := p
    simp
theorem aff_y : Aff (fun p => (p.1, 0 - p.2)) (-1) := by
  refine aff_of (g := fun p => (p.1, 0 - p.2)) (.inr rfl) (fun p q t => by unfold side; grind) (fun p q t a b _ e1 e2 => ?_) (fun p q t a b _ e1 e2 => ?_) fun p => ?_
  · simp only
    constructor <;> grind
  · simp only
    constructor <;> grind
  · obtain ⟨p1, p2⟩ := p
    simp
theorem aff_swp : Aff (fun p => (p.2, p.1)) (-1) := by
  refine aff_of (g := fun p => (p.2, p.1)) (.inr rfl) (fun p q t => by unfold side; grind) (fun p q t a b _ e1 e2 => ?_) (fun p q t a b _ e1 e2 => ?_) fun p => ?_
  · simp only
    constructor <;> grind
  · simp only
    constructor <;> grind
  · rfl
theorem aff_shift (x y : Int) : Aff (fun p => (p.1 + x, p.2 + y)) 1 := by
  refine aff_of (g := fun p => (p.1 - x, p.2 - y)) (.inl rfl) (fun p q t => by unfold side; grind) (fun p q t a b _ e1 e2 => ?_) (fun p q t a b _ e1 e2 => ?_) fun p => ?_
  · simp only
    constructor <;> grind
  · simp only
    constructor <;> grind
  · simp only
    rw [Int.add_sub_cancel, Int.add_sub_cancel]
/-! ### sums -/
def sm (f : Nat → Int) : Nat → Int
  | 0 => 0
  | n + 1 => sm f n + f n
theorem sm_congr {f g : Nat → Int} : ∀ {n : Nat}, (∀ k, k < n → f k = g k) → sm f n = sm g n
  | 0, _ => rfl
  | n + 1, h => by
    rw [sm, sm, sm_congr fun k hk => h k (by omega), h n (by omega)]
theorem sm_add (f g : Nat → Int) : ∀ n, sm (fun k => f k + g k) n = sm f n + sm g n
  | 0 => rfl
  | n + 1 => by
    rw [sm, sm, sm, sm_add f g n]
    omega
theorem sm_mul (d : Int) (f : Nat → Int) : ∀ n, sm (fun k => d * f k) n = d * sm f n
  | 0 => by simp [sm]
  | n + 1 => by
    rw [sm, sm, sm_mul d f n, Int.mul_add]
theorem sm_tel (g : Nat → Int) : ∀ n, sm (fun k => g (k + 1) - g k) n = g n - g 0
  | 0 => by simp [sm]
  | n + 1 => by
    rw [sm, sm_tel g n]
    omega
theorem sm_nn {f : Nat → Int} : ∀ {n : Nat}, (∀ k, k < n → 0 ≤ f k) → 0 ≤ sm f n
  | 0, _ => Int.le_refl _
  | n + 1, h => by
    have := sm_nn (n := n) fun k hk => h k (by omega)
    have := h n (by omega)
    rw [sm]
    omega
theorem sm_pos {f : Nat → Int} {i : Nat} : ∀ {n : Nat}, (∀ k, k < n → 0 ≤ f k) → i < n → 0 < f i → 0 < sm f n
  | 0, _, h, _ => absurd h (Nat.not_lt_zero _)
  | n + 1, h, hi, hp => by
    have a1 := h n (by omega)
    rw [sm]
    by_cases c : i = n
    · subst c
      have := sm_nn (n := i) fun k hk => h k (by omega)
      omega
    · have := sm_pos (n := n) (fun k hk => h k (by omega)) (by omega) hp
      omega
theorem sm_next (f : Nat → Int) (n : Nat) : sm (fun k => f (k + 1)) n = sm f n + f n - f 0 := by
  induction n with
  | zero => simp [sm]
  | succ n ih =>
    rw [sm, sm, ih]
    omega
theorem sm_turn {f : Nat → Int} {n : Nat} (h : ∀ k, f (k + n) = f k) : ∀ j, sm (fun k => f (k + j)) n = sm f n
  | 0 => rfl
  | j + 1 => by
    have q := sm_next (fun k => f (k + j)) n
    have e : (fun k => f (k + (j + 1))) = fun k => f (k + 1 + j) := funext fun k => by rw [show k + (j + 1) = k + 1 + j by omega]
    rw [e, q, sm_turn h j]
    have := h j
    simp only [Nat.zero_add]
    rw [Nat.add_comm n j]
    omega
theorem sm_rev (f : Nat → Int) : ∀ n, sm (fun k => f (n - 1 - k)) n = sm f n
  | 0 => rfl
  | n + 1 => by
    have e : sm (fun k => f (n + 1 - 1 - k)) (n + 1) = f n + sm (fun k => f (n - 1 - k)) n := by
      have q := sm_next (fun k => f (n + 1 - 1 - k)) n
      have e1 : sm (fun k => f (n + 1 - 1 - (k + 1))) n = sm (fun k => f (n - 1 - k)) n := sm_congr fun k hk => by rw [show n + 1 - 1 - (k + 1) = n - 1 - k by omega]
      rw [e1] at q
      rw [sm]
      simp only [Nat.add_sub_cancel] at q ⊢
      simp only [Nat.sub_zero] at q
      omega
    rw [e, sm_rev f n, sm]
    omega
/-! ### area -/
def crs (p q : P2) : Int := p.1 * q.2 - p.2 * q.1
theorem pt_per (r : List P2) (k : Nat) : pt r (k + r.length) = pt r k := pt_add r k
theorem areaBy_sm (r : List P2) : areaBy r = sm (fun k => crs (pt r k) (pt r (k + 1))) r.length := by
  have e : ∀ i, i ≤ r.length → areaTo r i = sm (fun k => crs (pt r (k + r.length - 1)) (pt r k)) i := by
    intro i
    induction i with
    | zero => exact fun _ => rfl
    | succ i ih =>
      intro h
      rw [areaTo, sm, ih (by omega)]
      unfold areaAt crs
      rw [gz_pred (by omega), gz_nat (by omega)]
      omega
  have e2 : areaBy r = sm (fun k => crs (pt r (k + r.length - 1)) (pt r k)) r.length := e _ (Nat.le_refl _)
  rw [e2]
  by_cases h0 : r.length = 0
  · rw [h0]
    rfl
  · have q := sm_turn (f := fun k => crs (pt r k) (pt r (k + 1))) (n := r.length) (fun k => by
      rw [pt_per, show k + r.length + 1 = k + 1 + r.length by omega, pt_per]) (r.length - 1)
    rw [← q]
    refine sm_congr fun k hk => ?_
    rw [show k + r.length - 1 = k + (r.length - 1) by omega, show k + (r.length - 1) + 1 = k + r.length by omega, pt_per]
/-! ### the shape of a room, no bound -/
structure Shape (r : List P2) : Prop where
  lo : 3 ≤ r.length
  flat : NoFlat r
  apart : Apart r
  area : 0 < areaBy r
theorem Room.shape {r : List P2} (h : Room r) : Shape r := ⟨h.lo, h.flat, h.apart, h.area⟩
theorem pt_map (f : P2 → P2) {r : List P2} (h : 0 < r.length) (k : Nat) : pt (r.map f) k = f (pt r k) := by
  unfold pt
  have := Nat.mod_lt k h
  rw [List.length_map]
  simp [this]
theorem flat_map {f : P2 → P2} {d : Int} (a : Aff f d) {r : List P2} (h3 : 3 ≤ r.length) (h : NoFlat r) : NoFlat (r.map f) := fun k hk => by
  rw [pt_map f (by omega), pt_map f (by omega), pt_map f (by omega), a.sides]
  rw [List.length_map] at hk
  have := h k hk
  rcases a.one with e | e <;> subst e <;> omega
theorem apart_map {f : P2 → P2} {d : Int} (a : Aff f d) {r : List P2} (h3 : 3 ≤ r.length) (h : Apart r) : Apart (r.map f) := fun k j hT => by
  rw [List.length_map] at hT
  rw [pt_map f (by omega), pt_map f (by omega), pt_map f (by omega), pt_map f (by omega), a.meet]
  exact h k j hT
theorem area_lin {f : P2 → P2} {d : Int} (hf : ∀ p q, crs (f p) (f q) = d * crs p q) {r : List P2} (h3 : 3 ≤ r.length) : areaBy (r.map f) = d * areaBy r := by
  rw [areaBy_sm, areaBy_sm, List.length_map, ← sm_mul]
  refine sm_congr fun k _ => ?_
  rw [pt_map f (by omega), pt_map f (by omega), hf]
theorem area_shift (x y : Int) {r : List P2} (h3 : 3 ≤ r.length) : areaBy (shift x y r) = areaBy r := by
  unfold shift
  rw [areaBy_sm, areaBy_sm, List.length_map]
  have e : ∀ k, crs (pt (r.map fun p => (p.1 + x, p.2 + y)) k) (pt (r.map fun p => (p.1 + x, p.2 + y)) (k + 1)) = crs (pt r k) (pt r (k + 1)) + ((x * (pt r (k + 1)).2 - y * (pt r (k + 1)).1) - (x * (pt r k).2 - y * (pt r k).1)) := fun k => by
    rw [pt_map _ (by omega), pt_map _ (by omega)]
    unfold crs
    grind
  rw [sm_congr fun k _ => e k, sm_add, sm_tel fun k => x * (pt r k).2 - y * (pt r k).1]
  have e0 : pt r r.length = pt r 0 := by
    have := pt_per r 0
    rw [Nat.zero_add] at this
    exact this
  rw [e0]
  omega
theorem Shape.shear {r : List P2} (s : Int) (h : Shape r) : Shape (shear s r) := by
  unfold MT.shear
  refine ⟨by rw [List.length_map]; exact h.lo, flat_map (aff_shear s) h.lo h.flat, apart_map (aff_shear s) h.lo h.apart, ?_⟩
  rw [area_lin (d := 1) (fun p q => by unfold crs; grind) h.lo]
  have := h.area
  omega
theorem Shape.shift {r : List P2} (x y : Int) (h : Shape r) : Shape (shift x y r) := by
  refine ⟨by unfold MT.shift; rw [List.length_map]; exact h.lo, flat_map (aff_shift x y) h.lo h.flat, apart_map (aff_shift x y) h.lo h.apart, ?_⟩
  rw [area_shift x y h.lo]
  exact h.area
/-! ### rotation -/
/-- apart, either way round -/
theorem Apart.any {r : List P2} (h : Apart r) {k j : Nat} (hk : k < r.length) (hj : j < r.length) (n1 : k ≠ j) (n2 : k ≠ j + 1) (n3 : j ≠ k + 1) (n4 : ¬ (k = 0 ∧ j = r.length - 1)) (n5 : ¬ (j = 0 ∧ k = r.length - 1)) : ¬ Meet (pt r k) (pt r (k + 1)) (pt r j) (pt r (j + 1)) := by
  by_cases c : j < k
  · exact h k j ⟨c, hk, n2, by omega⟩
  · exact fun z => h j k ⟨by omega, hj, n3, by omega⟩ z.symm
theorem pt_lt {r : List P2} {k : Nat} (h : k < r.length) : pt r k = r[k] := by
  unfold pt
  rw [Nat.mod_eq_of_lt h]
  simp [h]
theorem pt_rot {r : List P2} {f : Int} (hf : 0 ≤ f ∧ f < r.length) (k : Nat) : pt (rotD r f) k = pt r (k + f.toNat) := by
  have hl := rotD_len (r := r) (f := f) (by omega)
  have base : ∀ k, k < r.length → pt (rotD r f) k = pt r (k + f.toNat) := fun k hk => by
    rw [pt_lt (by omega)]
    unfold rotD
    by_cases c : k < r.length - f.toNat
    · rw [List.getElem_append_left (by rw [List.length_drop]; exact c), List.getElem_drop, pt_lt (by omega)]
      congr 1
      omega
    · rw [List.getElem_append_right (by rw [List.length_drop]; omega), List.getElem_take]
      have e : k + f.toNat = (k - (r.length - f.toNat)) + r.length := by omega
      rw [e, pt_add, pt_lt (by omega)]
      congr 1
      rw [List.length_drop]
  have e1 : pt (rotD r f) k = pt (rotD r f) (k % r.length) := by rw [← pt_mod (rotD r f) k, hl]
  rw [e1, base _ (Nat.mod_lt _ (by omega))]
  unfold pt
  rw [Nat.mod_add_mod]
theorem pt_wrap {r : List P2} {k f : Nat} : pt r (k + f) = pt r (if k + f < r.length then k + f else k + f - r.length) := by
  split
  · rfl
  · rename_i c
    rw [← pt_add r (k + f - r.length), show k + f - r.length + r.length = k + f by omega]
theorem Shape.rot {r : List P2} {f : Int} (h : Shape r) (hf : 0 ≤ f ∧ f < r.length) : Shape (rotD r f) := by
  have hl := rotD_len (r := r) (f := f) (by omega)
  have h3 := h.lo
  refine ⟨by omega, fun k hk => ?_, fun k j hT => ?_, ?_⟩
  · rw [pt_rot hf, pt_rot hf, pt_rot hf, show k + 1 + f.toNat = (k + f.toNat) + 1 by omega, show k + 2 + f.toNat = (k + f.toNat) + 2 by omega]
    have q := h.flat ((k + f.toNat) % r.length) (Nat.mod_lt _ (by omega))
    have e : ∀ m, pt r ((k + f.toNat) % r.length + m) = pt r (k + f.toNat + m) := fun m => by
      unfold pt
      rw [Nat.mod_add_mod]
    rw [e 1, e 2, pt_mod] at q
    exact q
  · rw [hl] at hT
    obtain ⟨t1, t2, t3, t4⟩ := hT
    rw [pt_rot hf, pt_rot hf, pt_rot hf, pt_rot hf]
    have e : ∀ k, k < r.length → ∃ k', k' < r.length ∧ (k' = k + f.toNat ∨ k' + r.length = k + f.toNat) ∧ pt r (k + f.toNat) = pt r k' ∧ pt r (k + 1 + f.toNat) = pt r (k' + 1) := fun k hk => by
      by_cases c : k + f.toNat < r.length
      · exact ⟨k + f.toNat, c, .inl rfl, rfl, by rw [show k + 1 + f.toNat = k + f.toNat + 1 by omega]⟩
      · refine ⟨k + f.toNat - r.length, by omega, .inr (by omega), ?_, ?_⟩
        · rw [← pt_add r (k + f.toNat - r.length), show k + f.toNat - r.length + r.length = k + f.toNat by omega]
        · rw [← pt_add r (k + f.toNat - r.length + 1), show k + f.toNat - r.length + 1 + r.length = k + 1 + f.toNat by omega]
    obtain ⟨k', a1, a2, a3, a4⟩ := e k t2
    obtain ⟨j', b1, b2, b3, b4⟩ := e j (by omega)
    rw [a3, a4, b3, b4]
    exact h.apart.any a1 b1 (by omega) (by omega) (by omega) (by omega) (by omega)
  · rw [areaBy_sm, hl]
    have q := sm_turn (f := fun k => crs (pt r k) (pt r (k + 1))) (n := r.length) (fun k => by
      rw [pt_per, show k + r.length + 1 = k + 1 + r.length by omega, pt_per]) f.toNat
    rw [sm_congr (g := fun k => crs (pt r (k + f.toNat)) (pt r (k + f.toNat + 1))) fun k _ => by rw [pt_rot hf, pt_rot hf, show k + 1 + f.toNat = k + f.toNat + 1 by omega], q, ← areaBy_sm]
    exact h.area
/-! ### turned round and mirrored -/
theorem Meet.swapL {a b c d : P2} (h : Meet a b c d) : Meet b a c d := by
  unfold Meet Cross at *
  rw [← On_swap (a := a), ← On_swap (a := a), side_swap a b c, side_swap a b d]
  rcases h with h | h | h | h | h
  · exact .inl h
  · exact .inr (.inl h)
  · exact .inr (.inr (.inr (.inl h)))
  · exact .inr (.inr (.inl h))
  · refine .inr (.inr (.inr (.inr ?_)))
    omega
theorem Meet.swapR {a b c d : P2} (h : Meet a b c d) : Meet a b d c := h.symm.swapL.symm
theorem pt_rev {r : List P2} {k : Nat} (h : k < 2 * r.length) : pt r.reverse k = pt r (2 * r.length - 1 - k) := by
  have base : ∀ k, k < r.length → pt r.reverse k = pt r (r.length - 1 - k) := fun k hk => by
    rw [pt_lt (by rw [List.length_reverse]; exact hk), pt_lt (by omega), List.getElem_reverse]
  by_cases c : k < r.length
  · rw [base k c, ← pt_add r (r.length - 1 - k), show r.length - 1 - k + r.length = 2 * r.length - 1 - k by omega]
  · have e : pt r.reverse k = pt r.reverse (k - r.length) := by
      have := pt_add r.reverse (k - r.length)
      rw [List.length_reverse, show k - r.length + r.length = k by omega] at this
      exact this
    rw [e, base _ (by omega), show r.length - 1 - (k - r.length) = 2 * r.length - 1 - k by omega]
theorem side_rev (p q t : P2) : side t q p = -side p q t := by unfold side; grind
theorem NoFlat.any {r : List P2} (h : NoFlat r) (h0 : 0 < r.length) (k : Nat) : side (pt r k) (pt r (k + 1)) (pt r (k + 2)) ≠ 0 := by
  have q := h (k % r.length) (Nat.mod_lt _ h0)
  have e : ∀ m, pt r (k % r.length + m) = pt r (k + m) := fun m => by
    unfold pt
    rw [Nat.mod_add_mod]
  rw [e 1, e 2, pt_mod] at q
  exact q
theorem Shape.mir {f : P2 → P2} (a : Aff f (-1)) (hf : ∀ p q, crs (f p) (f q) = -1 * crs p q) {r : List P2} (h : Shape r) : Shape (r.map f).reverse := by
  have h3 := h.lo
  have F := flat_map a h.lo h.flat
  have A := apart_map a h.lo h.apart
  have R := area_lin hf h.lo
  have hp := h.area
  have hl : (r.map f).length = r.length := List.length_map _
  generalize r.map f = s at F A R hl
  have hs : s.reverse.length = s.length := List.length_reverse
  refine ⟨by omega, fun k hk => ?_, fun k j hT => ?_, ?_⟩
  · rw [hs] at hk
    have q := F.any (by omega) (2 * s.length - 3 - k)
    rw [pt_rev (by omega), pt_rev (by omega), pt_rev (by omega), show 2 * s.length - 1 - k = 2 * s.length - 3 - k + 2 by omega, show 2 * s.length - 1 - (k + 1) = 2 * s.length - 3 - k + 1 by omega, show 2 * s.length - 1 - (k + 2) = 2 * s.length - 3 - k by omega, side_rev]
    omega
  · rw [hs] at hT
    obtain ⟨t1, t2, t3, t4⟩ := hT
    have e : ∀ k, k < s.length → ∃ k', k' < s.length ∧ ((k + 2 ≤ s.length ∧ k' + k + 2 = s.length) ∨ (k + 1 = s.length ∧ k' + 1 = s.length)) ∧ pt s.reverse k = pt s (k' + 1) ∧ pt s.reverse (k + 1) = pt s k' := fun k hk => by
      by_cases c : k + 2 ≤ s.length
      · refine ⟨s.length - 2 - k, by omega, .inl ⟨c, by omega⟩, ?_, ?_⟩
        · rw [pt_rev (by omega), ← pt_add s (s.length - 2 - k + 1), show s.length - 2 - k + 1 + s.length = 2 * s.length - 1 - k by omega]
        · rw [pt_rev (by omega), ← pt_add s (s.length - 2 - k), show s.length - 2 - k + s.length = 2 * s.length - 1 - (k + 1) by omega]
      · refine ⟨s.length - 1, by omega, .inr ⟨by omega, by omega⟩, ?_, ?_⟩
        · rw [pt_rev (by omega), show s.length - 1 + 1 = 2 * s.length - 1 - k by omega]
        · rw [pt_rev (by omega), show s.length - 1 = 2 * s.length - 1 - (k + 1) by omega]
    obtain ⟨k', a1, a2, a3, a4⟩ := e k t2
    obtain ⟨j', b1, b2, b3, b4⟩ := e j (by omega)
    rw [a3, a4, b3, b4]
    exact fun z => A.any a1 b1 (by omega) (by omega) (by omega) (by omega) (by omega) z.swapL.swapR
  · rw [areaBy_sm, hs]
    have q := sm_turn (f := fun k => crs (pt s k) (pt s (k + 1))) (n := s.length) (fun k => by
      rw [pt_per, show k + s.length + 1 = k + 1 + s.length by omega, pt_per]) (s.length - 1)
    have q2 := sm_rev (fun k => crs (pt s (k + (s.length - 1))) (pt s (k + (s.length - 1) + 1))) s.length
    have q3 : sm (fun k => crs (pt s.reverse k) (pt s.reverse (k + 1))) s.length = sm (fun k => -1 * crs (pt s (s.length - 1 - k + (s.length - 1))) (pt s (s.length - 1 - k + (s.length - 1) + 1))) s.length := sm_congr fun k hk => by
      rw [pt_rev (by omega), pt_rev (by omega), show 2 * s.length - 1 - k = s.length - 1 - k + (s.length - 1) + 1 by omega, show 2 * s.length - 1 - (k + 1) = s.length - 1 - k + (s.length - 1) by omega]
      unfold crs
      grind
    rw [q3, sm_mul, q2, q, ← areaBy_sm]
    omega
end MT

set_option Elab.async false
set_option linter.all false
set_option maxRecDepth 100000
set_option maxHeartbeats 4000000
/-! The built rooms are rooms. -/
namespace MT
open DL
/-! ### a lower row and an upper row -/
section
variable {r : List P2} {m : Nat}
structure Rows (r : List P2) (m : Nat) : Prop where
  n3 : 3 ≤ r.length
  hm : m + 1 < r.length
  L : ∀ k, k ≤ m → (pt r k).1 < (pt r (k + 1)).1
  U : ∀ k, m + 1 ≤ k → k < r.length → (pt r (k + 1)).1 < (pt r k).1
  y0 : (pt r 0).2 = 0
  yX : (pt r (m + 1)).2 = 0
  lo : ∀ k, 1 ≤ k → k ≤ m → (pt r k).2 < 0
  hi : ∀ k, m + 2 ≤ k → k < r.length → 0 < (pt r k).2
theorem pt_n (r : List P2) : pt r r.length = pt r 0 := by
  have := pt_add r 0
  rw [Nat.zero_add] at this
  exact this
theorem Rows.right (h : Rows r m) : ∀ j i, i < j → j ≤ m + 1 → (pt r i).1 < (pt r j).1
  | 0, i, hij, _ => absurd hij (Nat.not_lt_zero _)
  | j + 1, i, hij, hj => by
    have a := h.L j (by omega)
    by_cases c : i = j
    · subst c
      exact a
    · have := h.right j i (by omega) (by omega)
      omega
theorem Rows.left (h : Rows r m) : ∀ j i, m + 1 ≤ i → i < j → j ≤ r.length → (pt r j).1 < (pt r i).1
  | 0, i, _, hij, _ => absurd hij (Nat.not_lt_zero _)
  | j + 1, i, hi, hij, hj => by
    by_cases c : i = j
    · subst c
      exact h.U i hi (by omega)
    · have a := h.U j (by omega) (by omega)
      have := h.left j i hi (by omega) (by omega)
      omega
theorem Rows.low (h : Rows r m) {k : Nat} (hk : k ≤ m + 1) : (pt r k).2 ≤ 0 := by
  have a0 := h.y0
  have aX := h.yX
  by_cases c : k = 0
  · subst c; omega
  · by_cases d : k = m + 1
    · subst d; omega
    · have := h.lo k (by omega) (by omega)
      omega
theorem Rows.high (h : Rows r m) {k : Nat} (h1 : m + 1 ≤ k) (hk : k ≤ r.length) : 0 ≤ (pt r k).2 := by
  have a0 := h.y0
  have aX := h.yX
  by_cases c : k = r.length
  · subst c
    rw [pt_n]
    omega
  · by_cases d : k = m + 1
    · subst d; omega
    · have := h.hi k (by omega) (by omega)
      omega
theorem Rows.apart (h : Rows r m) : Apart r := fun k j hT => by
  obtain ⟨t1, t2, t3, t4⟩ := hT
  have hm := h.hm
  intro z
  have z := z.symm
  by_cases c1 : k ≤ m
  · have a1 := h.right (j + 1) j (by omega) (by omega)
    have a2 := h.right k (j + 1) (by omega) (by omega)
    have a3 := h.right (k + 1) k (by omega) (by omega)
    exact parted 1 0 (pt r (j + 1)).1 (by omega) (by omega) (by omega) (by omega) z
  · by_cases c2 : m + 1 ≤ j
    · have a1 := h.left (j + 1) j (by omega) (by omega) (by omega)
      have a2 := h.left k (j + 1) (by omega) (by omega) (by omega)
      have a3 := h.left (k + 1) k (by omega) (by omega) (by omega)
      exact parted (-1) 0 (-(pt r (j + 1)).1) (by omega) (by omega) (by omega) (by omega) z
    · have l1 := h.low (k := j) (by omega)
      have l2 := h.low (k := j + 1) (by omega)
      have u1 := h.high (k := k) (by omega) (by omega)
      have u2 := h.high (k := k + 1) (by omega) (by omega)
      by_cases c3 : 1 ≤ j ∧ j + 1 ≤ m
      · have b1 := h.lo j (by omega) (by omega)
        have b2 := h.lo (j + 1) (by omega) (by omega)
        exact parted 0 1 (-1) (by omega) (by omega) (by omega) (by omega) z
      · by_cases c4 : m + 2 ≤ k ∧ k + 1 < r.length
        · have b1 := h.hi k (by omega) (by omega)
          have b2 := h.hi (k + 1) (by omega) (by omega)
          exact parted 0 1 0 (by omega) (by omega) (by omega) (by omega) z
        · by_cases c5 : j = 0 ∧ k = m + 1
          · obtain ⟨rfl, rfl⟩ := c5
            have d1 := h.right 1 0 (by omega) (by omega)
            have d2 := h.lo 1 (by omega) (by omega)
            have d3 := h.right (m + 1) 0 (by omega) (by omega)
            have d4 := h.left r.length (m + 1 + 1) (by omega) (by omega) (by omega)
            rw [pt_n] at d4
            have d5 := h.y0
            have d6 := h.yX
            have e1 : ((pt r 1).1 - (pt r 0).1) * (1 + (pt r (0 + 1)).2) ≤ 0 := Int.mul_nonpos_of_nonneg_of_nonpos (by omega) (by rw [Nat.zero_add]; omega)
            rw [Int.mul_add, Int.mul_one] at e1
            have e2 : 0 ≤ ((pt r 1).1 - (pt r 0).1) * (pt r (m + 1 + 1)).2 := Int.mul_nonneg (by omega) (by omega)
            refine parted 1 ((pt r 1).1 - (pt r 0).1) (pt r 0).1 ?_ ?_ ?_ ?_ z
            · rw [d5, Int.mul_zero]; omega
            · rw [Nat.zero_add] at e1 ⊢
              omega
            · rw [d6, Int.mul_zero]; omega
            · omega
          · have c6 : j = m ∧ k = r.length - 1 := by omega
            obtain ⟨rfl, rfl⟩ := c6
            have en : r.length - 1 + 1 = r.length := by omega
            rw [en, pt_n] at z
            have d1 := h.right (j + 1) j (by omega) (by omega)
            have d2 := h.lo j (by omega) (by omega)
            have d3 := h.right (j + 1) 0 (by omega) (by omega)
            have d4 := h.left (r.length - 1) (j + 1) (by omega) (by omega) (by omega)
            have d5 := h.y0
            have d6 := h.yX
            have d7 := h.hi (r.length - 1) (by omega) (by omega)
            have e1 : ((pt r (j + 1)).1 - (pt r j).1) * (1 + (pt r j).2) ≤ 0 := Int.mul_nonpos_of_nonneg_of_nonpos (by omega) (by omega)
            rw [Int.mul_add, Int.mul_one] at e1
            have e2 : 0 ≤ ((pt r (j + 1)).1 - (pt r j).1) * (pt r (r.length - 1)).2 := Int.mul_nonneg (by omega) (by omega)
            refine parted (-1) ((pt r (j + 1)).1 - (pt r j).1) (-(pt r (j + 1)).1) ?_ ?_ ?_ ?_ z
            · omega
            · rw [d6, Int.mul_zero]; omega
            · omega
            · rw [d5, Int.mul_zero]; omega
theorem crs_t (p q : P2) : crs p q = (q.1 - p.1) * (-(p.2 + q.2)) + (q.1 * q.2 - p.1 * p.2) := by unfold crs; grind
theorem Rows.area (h : Rows r m) : 0 < areaBy r := by
  have hm := h.hm
  have n3 := h.n3
  rw [areaBy_sm, sm_congr fun k _ => crs_t _ _, sm_add, sm_tel fun k => (pt r k).1 * (pt r k).2, pt_n]
  have nn : ∀ k, k < r.length → 0 ≤ ((pt r (k + 1)).1 - (pt r k).1) * (-((pt r k).2 + (pt r (k + 1)).2)) := fun k hk => by
    by_cases c : k ≤ m
    · have := h.L k c
      have := h.low (k := k) (by omega)
      have := h.low (k := k + 1) (by omega)
      exact Int.mul_nonneg (by omega) (by omega)
    · have := h.U k (by omega) hk
      have := h.high (k := k) (by omega) (by omega)
      have := h.high (k := k + 1) (by omega) (by omega)
      exact Int.mul_nonneg_of_nonpos_of_nonpos (by omega) (by omega)
  by_cases c : 1 ≤ m
  · have p := sm_pos (i := 0) nn (by omega) (by
      have := h.L 0 (by omega)
      have := h.lo 1 (by omega) c
      have := h.y0
      exact Int.mul_pos (by omega) (by rw [Nat.zero_add]; omega))
    omega
  · have c : m = 0 := by omega
    subst c
    have p := sm_pos (i := 1) nn (by omega) (by
      have := h.U 1 (by omega) (by omega)
      have := h.hi 2 (by omega) (by omega)
      have := h.yX
      exact Int.mul_pos_of_neg_of_neg (by omega) (by rw [show (1 : Nat) + 1 = 2 from rfl]; rw [show 0 + 1 = 1 from rfl] at this; omega))
    omega
end
/-! ### the plain room -/
structure PlUp (mode : Int) (i : Nat) (s : PlS) : Prop where
  m3 : mode = 3 → s.x = i
  x : (i : Int) ≤ s.x ∧ s.x ≤ 4 * i
  n : s.lo.length + s.hi.length = i
  lp : s.lo.Pairwise fun p q => p.1 < q.1
  hp : s.hi.Pairwise fun p q => p.1 < q.1
  lo : ∀ p ∈ s.lo, (0 < p.1 ∧ p.1 ≤ s.x) ∧ p.2 < 0 ∧ -30 ≤ p.2
  hi : ∀ p ∈ s.hi, (0 < p.1 ∧ p.1 ≤ s.x) ∧ 0 < p.2 ∧ p.2 ≤ 30
theorem pw_add {l : List P2} {p : P2} (h : l.Pairwise fun p q => p.1 < q.1) (hp : ∀ q ∈ l, q.1 < p.1) : (l ++ [p]).Pairwise fun p q => p.1 < q.1 := by
  rw [List.pairwise_append]
  exact ⟨h, List.pairwise_singleton _ _, fun a ha b hb => by
    rw [List.mem_singleton] at hb
    rw [hb]
    exact hp a ha⟩
theorem plTo_up {ns : List Int} {k count mode : Int} (hc : count ≤ 12) : ∀ i : Nat, (i : Int) + 2 ≤ count → PlUp mode i (plTo ns k count mode i)
  | 0, _ => ⟨fun _ => rfl, by simp [plTo], rfl, List.Pairwise.nil, List.Pairwise.nil, fun _ h => by simp [plTo] at h, fun _ h => by simp [plTo] at h⟩
  | i + 1, h => by
    have ih := plTo_up (ns := ns) (k := k) (mode := mode) hc i (by omega)
    have hx := plX_bd (ns := ns) (k := k) (mode := mode) ih.x
    have hy := plY_bd (ns := ns) (k := k) (mode := mode) (i := i) hc (by omega)
    have hn := ih.n
    have lt : (plTo ns k count mode i).x < plX ns k mode (plTo ns k count mode i).x i := by
      unfold plX
      have := md (a := plC ns k i / 2) (m := 4) (by omega)
      split
      · rename_i c
        have := ih.m3 (of_decide_eq_true c)
        omega
      · omega
    have m3 : mode = 3 → plX ns k mode (plTo ns k count mode i).x i = ((i + 1 : Nat) : Int) := fun e => by
      unfold plX
      rw [if_pos (decide_eq_true e)]
      omega
    have i0 := ih.x
    have L' : ∀ p ∈ (plTo ns k count mode i).lo, (0 < p.1 ∧ p.1 ≤ plX ns k mode (plTo ns k count mode i).x i) ∧ p.2 < 0 ∧ -30 ≤ p.2 := fun p hp => by
      have := ih.lo p hp
      omega
    have H' : ∀ p ∈ (plTo ns k count mode i).hi, (0 < p.1 ∧ p.1 ≤ plX ns k mode (plTo ns k count mode i).x i) ∧ 0 < p.2 ∧ p.2 ≤ 30 := fun p hp => by
      have := ih.hi p hp
      omega
    rw [plTo]
    unfold plStep
    split
    · refine ⟨m3, hx, by simp; omega, pw_add ih.lp fun q hq => ?_, ih.hp, fun p hp => ?_, H'⟩
      · have := ih.lo q hq
        simp only
        omega
      · rcases List.mem_append.mp hp with hp | hp
        · exact L' p hp
        · rw [List.mem_singleton] at hp
          subst hp
          simp only
          omega
    · refine ⟨m3, hx, by simp; omega, ih.lp, pw_add ih.hp fun q hq => ?_, L', fun p hp => ?_⟩
      · have := ih.hi q hq
        simp only
        omega
      · rcases List.mem_append.mp hp with hp | hp
        · exact H' p hp
        · rw [List.mem_singleton] at hp
          subst hp
          simp only
          omega
theorem plRaw_pt {s : PlS} : pt (plRaw s) 0 = (0, 0) ∧ (∀ k (h : k < s.lo.length), pt (plRaw s) (k + 1) = s.lo[k]) ∧ pt (plRaw s) (s.lo.length + 1) = (s.x + 1, 0) ∧ ∀ k (h : k < s.hi.length), pt (plRaw s) (s.lo.length + 2 + k) = s.hi[s.hi.length - 1 - k] := by
  have hl : (plRaw s).length = s.lo.length + s.hi.length + 2 := by
    unfold plRaw
    simp
    omega
  refine ⟨?_, fun k h => ?_, ?_, fun k h => ?_⟩
  · rw [pt_lt (by omega)]
    rfl
  · rw [pt_lt (by omega)]
    unfold plRaw
    rw [List.getElem_append_left (by simp <;> omega), List.getElem_append_left (by simp <;> omega), List.getElem_append_right (by simp)]
    congr 1
  · rw [pt_lt (by omega)]
    unfold plRaw
    rw [List.getElem_append_left (by simp <;> omega), List.getElem_append_right (by simp <;> omega)]
    simp
  · rw [pt_lt (by omega)]
    unfold plRaw
    rw [List.getElem_append_right (by simp <;> omega), List.getElem_reverse]
    congr 1
    simp <;> omega
theorem plRaw_rows {mode : Int} {i : Nat} {s : PlS} (h : PlUp mode i s) (hi : 1 ≤ i) : Rows (plRaw s) s.lo.length := by
  obtain ⟨p0, pl, pX, ph⟩ := plRaw_pt (s := s)
  have hl : (plRaw s).length = s.lo.length + s.hi.length + 2 := by
    unfold plRaw
    simp
    omega
  have hn := h.n
  have hx := h.x
  have lp := List.pairwise_iff_getElem.mp h.lp
  have hp := List.pairwise_iff_getElem.mp h.hp
  have pn : pt (plRaw s) (plRaw s).length = (0, 0) := by rw [pt_n, p0]
  refine ⟨by omega, by omega, fun k hk => ?_, fun k hk hk2 => ?_, by rw [p0], by rw [pX], fun k h1 hk => ?_, fun k hk hk2 => ?_⟩
  · by_cases c : k = s.lo.length
    · subst c
      rw [pX]
      by_cases d : s.lo.length = 0
      · rw [d, p0]
        simp only
        omega
      · have e := pl (s.lo.length - 1) (by omega)
        rw [show s.lo.length - 1 + 1 = s.lo.length by omega] at e
        rw [e]
        have := h.lo _ (List.getElem_mem (show s.lo.length - 1 < s.lo.length by omega))
        simp only
        omega
    · rw [pl k (by omega)]
      by_cases d : k = 0
      · subst d
        rw [p0]
        have := h.lo _ (List.getElem_mem (show 0 < s.lo.length by omega))
        simp only
        omega
      · have e := pl (k - 1) (by omega)
        rw [show k - 1 + 1 = k by omega] at e
        rw [e]
        exact lp (k - 1) k (by omega) (by omega) (by omega)
  · by_cases c : k + 1 = (plRaw s).length
    · rw [c, pn]
      by_cases d : k = s.lo.length + 1
      · rw [d, pX]
        simp only
        omega
      · have e := ph (k - s.lo.length - 2) (by omega)
        rw [show s.lo.length + 2 + (k - s.lo.length - 2) = k by omega] at e
        rw [e]
        have := h.hi _ (List.getElem_mem (show s.hi.length - 1 - (k - s.lo.length - 2) < s.hi.length by omega))
        simp only
        omega
    · have e := ph (k + 1 - s.lo.length - 2) (by omega)
      rw [show s.lo.length + 2 + (k + 1 - s.lo.length - 2) = k + 1 by omega] at e
      rw [e]
      by_cases d : k = s.lo.length + 1
      · subst d
        rw [pX]
        have := h.hi _ (List.getElem_mem (show s.hi.length - 1 - (s.lo.length + 1 + 1 - s.lo.length - 2) < s.hi.length by omega))
        simp only
        omega
      · have e2 := ph (k - s.lo.length - 2) (by omega)
        rw [show s.lo.length + 2 + (k - s.lo.length - 2) = k by omega] at e2
        rw [e2]
        exact hp _ _ (by omega) (by omega) (by omega)
  · have e := pl (k - 1) (by omega)
    rw [show k - 1 + 1 = k by omega] at e
    rw [e]
    exact (h.lo _ (List.getElem_mem (show k - 1 < s.lo.length by omega))).2.1
  · have e := ph (k - s.lo.length - 2) (by omega)
    rw [show s.lo.length + 2 + (k - s.lo.length - 2) = k by omega] at e
    rw [e]
    exact (h.hi _ (List.getElem_mem (show s.hi.length - 1 - (k - s.lo.length - 2) < s.hi.length by omega))).2.1
/-- small: across and up -/
def Sx (r : List P2) : Prop := ∀ p ∈ r, p.1.natAbs ≤ 45 ∧ p.2.natAbs ≤ 30
theorem bow_room : ∀ c : Nat, 3 ≤ c → c ≤ 12 → lGood (bow (c : Int)) = true := by
  intro c h3 h12
  have : c = 3 ∨ c = 4 ∨ c = 5 ∨ c = 6 ∨ c = 7 ∨ c = 8 ∨ c = 9 ∨ c = 10 ∨ c = 11 ∨ c = 12 := by omega
  rcases this with rfl | rfl | rfl | rfl | rfl | rfl | rfl | rfl | rfl | rfl <;> decide +kernel
theorem plRoom_shape {ns : List Int} {k count : Int} (h3 : 3 ≤ count) (hc : count ≤ 12) : Shape (plRoom ns k count) ∧ Sx (plRoom ns k count) := by
  unfold plRoom
  split
  · constructor
    · have := bow_room count.toNat (by omega) (by omega)
      rw [show ((count.toNat : Nat) : Int) = count by omega] at this
      exact (lGood_iff.mp this).shape
    · intro p hp
      obtain ⟨j, hj, rfl⟩ := List.mem_map.mp hp
      have := mem_ints.mp hj
      have := bow_bd (j := j) (n := count - 1) (by omega) (by omega) (by omega)
      simp only
      omega
  · rename_i c
    have up : PlUp (cell ns (k + 1) % 4) (count - 1 - 1).toNat (plEnd ns k count) := plTo_up hc (count - 1 - 1).toNat (by omega)
    have R := plRaw_rows up (by omega)
    refine ⟨⟨R.n3, ?_, R.apart, R.area⟩, fun p hp => ?_⟩
    · rw [← noFlat_iff R.n3]
      unfold lFlat at c
      simpa using c
    · have hx := up.x
      unfold plRaw at hp
      simp only [List.mem_append, List.mem_singleton, List.mem_reverse] at hp
      rcases hp with ((rfl | hp) | rfl) | hp
      · decide
      · have := up.lo p hp
        omega
      · simp only
        omega
      · have := up.hi p hp
        omega
/-! ### the winding one -/
def sepB (p q r s : P2) : Bool := decide (max p.1 q.1 < min r.1 s.1) || (decide (max r.1 s.1 < min p.1 q.1) || (decide (max p.2 q.2 < min r.2 s.2) || decide (max r.2 s.2 < min p.2 q.2)))
def turnB (p q t : P2) : Bool := (decide (p.1 = q.1) && (!decide (p.2 = q.2) && (decide (q.2 = t.2) && !decide (q.1 = t.1)))) || (decide (p.2 = q.2) && (!decide (p.1 = q.1) && (decide (q.1 = t.1) && !decide (q.2 = t.2))))
theorem plan_sep : ((List.range 12).all fun k => (List.range k).all fun j => decide (k = j + 1) || (decide (k = 11 ∧ j = 0) || sepB (pt plan k) (pt plan (k + 1)) (pt plan j) (pt plan (j + 1)))) = true := by decide +kernel
theorem plan_turn : ((List.range 12).all fun k => turnB (pt plan k) (pt plan (k + 1)) (pt plan (k + 2))) = true := by decide +kernel
theorem Rise.lt {xs : List Int} {n : Nat} (h : Rise xs n) : ∀ b a : Nat, a < b → b ≤ n → gz xs (a : Int) < gz xs (b : Int)
  | 0, a, hab, _ => absurd hab (Nat.not_lt_zero _)
  | b + 1, a, hab, hb => by
    have s := h.2.1 b (by omega)
    by_cases c : a = b
    · subst c
      exact s
    · have := h.lt b a (by omega) (by omega)
      omega
theorem Rise.ltI {xs : List Int} (h : Rise xs 5) {a b : Int} (ha : 0 ≤ a ∧ a ≤ 5) (hb : 0 ≤ b ∧ b ≤ 5) (hab : a < b) : gz xs a < gz xs b := by
  have := h.lt b.toNat a.toNat (by omega) (by omega)
  rw [show ((a.toNat : Nat) : Int) = a by omega, show ((b.toNat : Nat) : Int) = b by omega] at this
  exact this
theorem pt_mem {r : List P2} (h : 0 < r.length) (k : Nat) : pt r k ∈ r := by
  rw [← pt_mod, pt_lt (Nat.mod_lt _ h)]
  exact List.getElem_mem _
theorem wind_area (x0 x1 x2 x3 x4 x5 y0 y1 y2 y3 y4 y5 : Int) : areaBy [(x0, y0), (x5, y0), (x5, y5), (x1, y5), (x1, y2), (x3, y2), (x3, y3), (x2, y3), (x2, y4), (x4, y4), (x4, y1), (x0, y1)] = 2 * ((x1 - x0) * (y1 - y0) + (x2 - x1) * ((y5 - y2) + (y1 - y0)) + (x3 - x2) * ((y5 - y4) + (y3 - y2) + (y1 - y0)) + (x4 - x3) * ((y5 - y4) + (y1 - y0)) + (x5 - x4) * (y5 - y0)) := by
  have e : areaBy [(x0, y0), (x5, y0), (x5, y5), (x1, y5), (x1, y2), (x3, y2), (x3, y3), (x2, y3), (x2, y4), (x4, y4), (x4, y1), (x0, y1)] = ((((((((((((0 + x0 * y0 - y1 * x0) + x0 * y0 - y0 * x5) + x5 * y5 - y0 * x5) + x5 * y5 - y5 * x1) + x1 * y2 - y5 * x1) + x1 * y2 - y2 * x3) + x3 * y3 - y2 * x3) + x3 * y3 - y3 * x2) + x2 * y4 - y3 * x2) + x2 * y4 - y4 * x4) + x4 * y1 - y4 * x4) + x4 * y1 - y1 * x0) := rfl
  rw [e]
  grind
theorem wind_shape (ns : List Int) (k : Int) : Shape (wind ns k) ∧ Sx (wind ns k) := by
  obtain ⟨hX, hY⟩ := wn_ok ns k 5
  have hp : ∀ i, ((0 ≤ (pt plan i).1 ∧ (pt plan i).1 ≤ 5) ∧ (0 ≤ (pt plan i).2 ∧ (pt plan i).2 ≤ 5)) := fun i => plan_bd _ (pt_mem (by decide) i)
  have hl : (wind ns k).length = 12 := (wind_ok ns k).2
  have e : ∀ i, pt (wind ns k) i = (gz (wnTo ns k 5).1 (pt plan i).1, gz (wnTo ns k 5).2 (pt plan i).2) := fun i => pt_map _ (by decide) i
  have lx : ∀ i j, (pt plan i).1 < (pt plan j).1 → (pt (wind ns k) i).1 < (pt (wind ns k) j).1 := fun i j h => by
    rw [e, e]
    exact hX.ltI (hp i).1 (hp j).1 h
  have ly : ∀ i j, (pt plan i).2 < (pt plan j).2 → (pt (wind ns k) i).2 < (pt (wind ns k) j).2 := fun i j h => by
    rw [e, e]
    exact hY.ltI (hp i).2 (hp j).2 h
  have ex : ∀ i j, (pt plan i).1 = (pt plan j).1 → (pt (wind ns k) i).1 = (pt (wind ns k) j).1 := fun i j h => by rw [e, e, h]
  have ey : ∀ i j, (pt plan i).2 = (pt plan j).2 → (pt (wind ns k) i).2 = (pt (wind ns k) j).2 := fun i j h => by rw [e, e, h]
  refine ⟨⟨by omega, fun i hi => ?_, fun a b hT => ?_, ?_⟩, fun p hp' => ?_⟩
  · rw [hl] at hi
    have q := List.all_eq_true.mp plan_turn i (List.mem_range.mpr hi)
    unfold turnB at q
    simp only [Bool.or_eq_true, Bool.and_eq_true, Bool.not_eq_true', decide_eq_true_eq, decide_eq_false_iff_not] at q
    unfold side
    rcases q with ⟨q1, q2, q3, q4⟩ | ⟨q1, q2, q3, q4⟩
    · have a1 := ex i (i + 1) q1
      have a3 := ey (i + 1) (i + 2) q3
      rw [show (pt (wind ns k) (i + 1)).1 - (pt (wind ns k) i).1 = 0 by omega, Int.zero_mul, Int.zero_sub]
      have n1 : (pt (wind ns k) (i + 1)).2 - (pt (wind ns k) i).2 ≠ 0 := by
        rcases Int.lt_or_gt_of_ne q2 with z | z
        · have := ly _ _ z; omega
        · have := ly _ _ z; omega
      have n2 : (pt (wind ns k) (i + 2)).1 - (pt (wind ns k) i).1 ≠ 0 := by
        rcases Int.lt_or_gt_of_ne q4 with z | z
        · have := lx _ _ z; omega
        · have := lx _ _ z; omega
      have := Int.mul_ne_zero n1 n2
      omega
    · have a1 := ey i (i + 1) q1
      have a3 := ex (i + 1) (i + 2) q3
      rw [show (pt (wind ns k) (i + 1)).2 - (pt (wind ns k) i).2 = 0 by omega, Int.zero_mul, Int.sub_zero]
      have n1 : (pt (wind ns k) (i + 1)).1 - (pt (wind ns k) i).1 ≠ 0 := by
        rcases Int.lt_or_gt_of_ne q2 with z | z
        · have := lx _ _ z; omega
        · have := lx _ _ z; omega
      have n2 : (pt (wind ns k) (i + 2)).2 - (pt (wind ns k) i).2 ≠ 0 := by
        rcases Int.lt_or_gt_of_ne q4 with z | z
        · have := ly _ _ z; omega
        · have := ly _ _ z; omega
      exact Int.mul_ne_zero n1 n2
  · rw [hl] at hT
    obtain ⟨t1, t2, t3, t4⟩ := hT
    have q := List.all_eq_true.mp (List.all_eq_true.mp plan_sep a (List.mem_range.mpr t2)) b (List.mem_range.mpr t1)
    simp only [Bool.or_eq_true, decide_eq_true_eq, sepB] at q
    have m4 : ∀ i1 i2 j1 j2 : Nat, max (pt plan i1).1 (pt plan i2).1 < min (pt plan j1).1 (pt plan j2).1 → ¬ Meet (pt (wind ns k) i1) (pt (wind ns k) i2) (pt (wind ns k) j1) (pt (wind ns k) j2) := fun i1 i2 j1 j2 h => by
      have b1 := lx i1 j1 (by omega)
      have b2 := lx i1 j2 (by omega)
      have b3 := lx i2 j1 (by omega)
      have b4 := lx i2 j2 (by omega)
      exact parted 1 0 (max (pt (wind ns k) i1).1 (pt (wind ns k) i2).1) (by omega) (by omega) (by omega) (by omega)
    have n4 : ∀ i1 i2 j1 j2 : Nat, max (pt plan i1).2 (pt plan i2).2 < min (pt plan j1).2 (pt plan j2).2 → ¬ Meet (pt (wind ns k) i1) (pt (wind ns k) i2) (pt (wind ns k) j1) (pt (wind ns k) j2) := fun i1 i2 j1 j2 h => by
      have b1 := ly i1 j1 (by omega)
      have b2 := ly i1 j2 (by omega)
      have b3 := ly i2 j1 (by omega)
      have b4 := ly i2 j2 (by omega)
      exact parted 0 1 (max (pt (wind ns k) i1).2 (pt (wind ns k) i2).2) (by omega) (by omega) (by omega) (by omega)
    rcases q with q | q | q | q | q | q
    · omega
    · omega
    · exact m4 _ _ _ _ q
    · exact fun z => m4 _ _ _ _ q z.symm
    · exact n4 _ _ _ _ q
    · exact fun z => n4 _ _ _ _ q z.symm
  · have w : wind ns k = [(gz (wnTo ns k 5).1 0, gz (wnTo ns k 5).2 0), (gz (wnTo ns k 5).1 5, gz (wnTo ns k 5).2 0), (gz (wnTo ns k 5).1 5, gz (wnTo ns k 5).2 5), (gz (wnTo ns k 5).1 1, gz (wnTo ns k 5).2 5), (gz (wnTo ns k 5).1 1, gz (wnTo ns k 5).2 2), (gz (wnTo ns k 5).1 3, gz (wnTo ns k 5).2 2), (gz (wnTo ns k 5).1 3, gz (wnTo ns k 5).2 3), (gz (wnTo ns k 5).1 2, gz (wnTo ns k 5).2 3), (gz (wnTo ns k 5).1 2, gz (wnTo ns k 5).2 4), (gz (wnTo ns k 5).1 4, gz (wnTo ns k 5).2 4), (gz (wnTo ns k 5).1 4, gz (wnTo ns k 5).2 1), (gz (wnTo ns k 5).1 0, gz (wnTo ns k 5).2 1)] := rfl
    rw [w, wind_area]
    have x01 := hX.ltI (a := 0) (b := 1) (by decide) (by decide) (by decide)
    have x12 := hX.ltI (a := 1) (b := 2) (by decide) (by decide) (by decide)
    have x23 := hX.ltI (a := 2) (b := 3) (by decide) (by decide) (by decide)
    have x34 := hX.ltI (a := 3) (b := 4) (by decide) (by decide) (by decide)
    have x45 := hX.ltI (a := 4) (b := 5) (by decide) (by decide) (by decide)
    have y01 := hY.ltI (a := 0) (b := 1) (by decide) (by decide) (by decide)
    have y12 := hY.ltI (a := 1) (b := 2) (by decide) (by decide) (by decide)
    have y23 := hY.ltI (a := 2) (b := 3) (by decide) (by decide) (by decide)
    have y34 := hY.ltI (a := 3) (b := 4) (by decide) (by decide) (by decide)
    have y45 := hY.ltI (a := 4) (b := 5) (by decide) (by decide) (by decide)
    generalize (wnTo ns k 5).1 = X at *
    generalize (wnTo ns k 5).2 = Y at *
    have p1 := Int.mul_pos (show 0 < gz X 1 - gz X 0 by omega) (show 0 < gz Y 1 - gz Y 0 by omega)
    have p2 := Int.mul_pos (show 0 < gz X 2 - gz X 1 by omega) (show 0 < (gz Y 5 - gz Y 2) + (gz Y 1 - gz Y 0) by omega)
    have p3 := Int.mul_pos (show 0 < gz X 3 - gz X 2 by omega) (show 0 < (gz Y 5 - gz Y 4) + (gz Y 3 - gz Y 2) + (gz Y 1 - gz Y 0) by omega)
    have p4 := Int.mul_pos (show 0 < gz X 4 - gz X 3 by omega) (show 0 < (gz Y 5 - gz Y 4) + (gz Y 1 - gz Y 0) by omega)
    have p5 := Int.mul_pos (show 0 < gz X 5 - gz X 4 by omega) (show 0 < gz Y 5 - gz Y 0 by omega)
    omega
  · have h45 := (wind_ok ns k).1 p hp'
    obtain ⟨q, hq, rfl⟩ := List.mem_map.mp hp'
    obtain ⟨b1, b2⟩ := plan_bd q hq
    have q2 := hY.2.2.2 q.2.toNat (by omega)
    rw [show ((q.2.toNat : Nat) : Int) = q.2 by omega] at q2
    simp only at h45 ⊢
    omega
end MT

set_option Elab.async false
set_option linter.all false
set_option maxRecDepth 100000
set_option maxHeartbeats 4000000
/-! The laws' rooms are rooms. -/
namespace MT
open DL
/-- a shape within a bound -/
structure Sh (B : Nat) (r : List P2) : Prop where
  s : Shape r
  b : Sm B r
  hi : r.length ≤ 12
theorem Sh.step {ns : List Int} {k : Int} {r : List P2} {j : Int} (h : Sh 80 r) : Sh 80 (psStep ns k r j) := by
  have q := psStep_ok (ns := ns) (k := k) (j := j) h.s.lo h.b (Nat.le_refl _)
  refine ⟨?_, q.1, by rw [q.2]; exact h.hi⟩
  unfold psStep
  split
  · rename_i c
    rw [Bool.and_eq_true] at c
    exact (lGood_iff.mp c.2).shape
  · exact h.s
theorem Sh.to {ns : List Int} {k : Int} {r : List P2} (h : Sh 80 r) : ∀ i, Sh 80 (psTo ns k r i)
  | 0 => h
  | i + 1 => (h.to i).step
theorem Sh.mirs {B : Nat} {f : P2 → P2} (a : Aff f (-1)) (hf : ∀ p q, crs (f p) (f q) = -1 * crs p q) (hb : ∀ p, p.1.natAbs ≤ B ∧ p.2.natAbs ≤ B → (f p).1.natAbs ≤ B ∧ (f p).2.natAbs ≤ B) {r : List P2} (h : Sh B r) : Sh B (r.map f).reverse :=
  ⟨h.s.mir a hf, (h.b.map hb).rev, by rw [List.length_reverse, List.length_map]; exact h.hi⟩
section
variable {ns : List Int} {k most : Int}
theorem rmA_sh (h5 : 3 ≤ most) (h12 : most ≤ 12) : Shape (rmA ns k most) ∧ Sx (rmA ns k most) := by
  unfold rmA
  split
  · exact wind_shape ns k
  · have hm := md (a := cell ns k) (m := most - 2) (by omega)
    exact plRoom_shape (by omega) (by omega)
theorem rmB_sh (h5 : 3 ≤ most) (h12 : most ≤ 12) : Sh 80 (rmB ns k most) := by
  obtain ⟨h1, h2⟩ := rmA_sh (ns := ns) (k := k) h5 h12
  have hl := (rmA_ok (ns := ns) (k := k) h5 h12).hi
  have h : Sh 80 (shear (slant ns k) (rmA ns k most)) := by
    refine ⟨h1.shear _, fun p hp => ?_, by unfold shear; rw [List.length_map]; exact hl⟩
    obtain ⟨q, hq, rfl⟩ := List.mem_map.mp hp
    have := h2 q hq
    rcases slant_bd ns k with e | e | e <;> rw [e] <;> simp only <;> omega
  exact h.to _
theorem rmC_sh (h5 : 3 ≤ most) (h12 : most ≤ 12) : Sh 80 (rmC ns k most) := by
  unfold rmC
  split
  · exact (rmB_sh h5 h12).mirs aff_x (fun p q => by unfold crs; grind) fun p hp => by simp only; omega
  · exact rmB_sh h5 h12
theorem rmD_sh (h5 : 3 ≤ most) (h12 : most ≤ 12) : Sh 80 (rmD ns k most) := by
  unfold rmD
  split
  · exact (rmC_sh h5 h12).mirs aff_y (fun p q => by unfold crs; grind) fun p hp => by simp only; omega
  · exact rmC_sh h5 h12
theorem rmE_sh (h5 : 3 ≤ most) (h12 : most ≤ 12) : Sh 80 (rmE ns k most) := by
  unfold rmE
  split
  · exact (rmD_sh h5 h12).mirs aff_swp (fun p q => by unfold crs; grind) fun p hp => by simp only; omega
  · exact rmD_sh h5 h12
theorem lawRoom_room (h5 : 3 ≤ most) (h12 : most ≤ 12) : Room (lawRoom ns k most) := by
  have h := rmE_sh (ns := ns) (k := k) h5 h12
  have hl := h.s.lo
  have h1 := md (a := cell ns (k + 3) / 16) (m := 41) (by omega)
  have h2 := md (a := cell ns (k + 4)) (m := 41) (by omega)
  have hf := md (a := cell ns (k + 3)) (m := ((rmE ns k most).length : Int)) (by omega)
  have S := (h.s.rot hf).shift (cell ns (k + 3) / 16 % 41 - 20) (cell ns (k + 4) % 41 - 20)
  have el := rotD_len (r := rmE ns k most) (f := cell ns (k + 3) % ((rmE ns k most).length : Int)) (by omega)
  refine ⟨S.lo, ?_, ?_, S.flat, S.apart, S.area⟩
  · unfold lawRoom shift
    rw [List.length_map, el]
    exact h.hi
  · unfold lawRoom shift
    exact ((h.b.drop _).app (h.b.take _)).map fun p hp => by simp only; omega
/-- how many corners -/
theorem rmA_len (h5 : 3 ≤ most) (h12 : most < 12) : ((rmA ns k most).length : Int) ≤ most := by
  unfold rmA
  rw [if_neg (by simp; omega)]
  have hm := md (a := cell ns k) (m := most - 2) (by omega)
  have := (plRoom_ok (ns := ns) (k := k) (count := 3 + cell ns k % (most - 2)) (by omega) (by omega)).2
  omega
theorem rmE_len (h5 : 3 ≤ most) (h12 : most ≤ 12) : (rmE ns k most).length = (rmA ns k most).length := by
  have e1 : (rmB ns k most).length = (rmA ns k most).length := by
    have h := shear_ok (rmA_ok (ns := ns) (k := k) h5 h12) (slant_bd ns k)
    have := (psTo_ok (ns := ns) (k := k) h.lo h.sm (by omega) (cell ns (k + 1) / 4 % 5).toNat).2
    have e : rmB ns k most = psTo ns k (shear (slant ns k) (rmA ns k most)) (cell ns (k + 1) / 4 % 5).toNat := rfl
    rw [e, this]
    unfold shear
    rw [List.length_map]
  have e2 : (rmC ns k most).length = (rmB ns k most).length := by unfold rmC mirX; split <;> simp
  have e3 : (rmD ns k most).length = (rmC ns k most).length := by unfold rmD mirY; split <;> simp
  have e4 : (rmE ns k most).length = (rmD ns k most).length := by unfold rmE swp; split <;> simp
  omega
theorem lawRoom_len (h5 : 3 ≤ most) (h12 : most ≤ 12) : (lawRoom ns k most).length = (rmA ns k most).length := by
  have h := rmE_sh (ns := ns) (k := k) h5 h12
  have hl := h.s.lo
  have hf := md (a := cell ns (k + 3)) (m := ((rmE ns k most).length : Int)) (by omega)
  have el := rotD_len (r := rmE ns k most) (f := cell ns (k + 3) % ((rmE ns k most).length : Int)) (by omega)
  unfold lawRoom shift
  rw [List.length_map, el, rmE_len h5 h12]
end
theorem area_rot {r : List P2} {f : Int} (hf : 0 ≤ f ∧ f < r.length) : areaBy (rotD r f) = areaBy r := by
  have hl := rotD_len (r := r) (f := f) (by omega)
  rw [areaBy_sm, hl]
  have q := sm_turn (f := fun k => crs (pt r k) (pt r (k + 1))) (n := r.length) (fun k => by
    rw [pt_per, show k + r.length + 1 = k + 1 + r.length by omega, pt_per]) f.toNat
  rw [sm_congr (g := fun k => crs (pt r (k + f.toNat)) (pt r (k + f.toNat + 1))) fun k _ => by rw [pt_rot hf, pt_rot hf, show k + 1 + f.toNat = k + f.toNat + 1 by omega], q, ← areaBy_sm]
theorem Room.rot {r : List P2} {f : Int} (h : Room r) (hf : 0 ≤ f ∧ f < r.length) : Room (rotD r f) := by
  have S := h.shape.rot hf
  have hl := rotD_len (r := r) (f := f) (by omega)
  have hh := h.hi
  refine ⟨S.lo, by omega, fun p hp => ?_, S.flat, S.apart, S.area⟩
  unfold rotD at hp
  rcases List.mem_append.mp hp with z | z
  · exact h.inb p (List.mem_of_mem_drop z)
  · exact h.inb p (List.mem_of_mem_take z)
end MT

set_option Elab.async false
set_option linter.all false
set_option maxRecDepth 100000
set_option maxHeartbeats 4000000
/-! The data layer: dicts whose keys are pairs. -/
namespace DL
open PySem PySem.Spec PyProof.Rows L2
def encK (kd : List (P2 × PyData)) : List (PyData × PyData) := kd.map fun e => (dP e.1, e.2)
abbrev dD (kd : List (P2 × PyData)) : PyData := .dict (encK kd)
def valD (kd : List (P2 × PyData)) (p : P2) : Option PyData := (kd.find? fun e => decide (e.1 = p)).map (·.2)
def putD (kd : List (P2 × PyData)) (p : P2) (d : PyData) : List (P2 × PyData) :=
  if (kd.any fun e => decide (e.1 = p)) = true then kd.map (fun e => if e.1 = p then (e.1, d) else e) else kd ++ [(p, d)]
def ky (p : P2) : List Key := [.inl p.1, .inl p.2]
theorem ky_inj {p q : P2} : ky p = ky q ↔ p = q := by
  obtain ⟨a, b⟩ := p
  obtain ⟨c, d⟩ := q
  simp [ky]
theorem valD_any (p : P2) : ∀ kd, (kd.any fun e => decide (e.1 = p)) = (valD kd p).isSome
  | [] => rfl
  | e :: kd => by
    have ih := valD_any p kd
    unfold valD at ih ⊢
    by_cases h : e.1 = p
    · simp [h]
    · simp [h, ih]
theorem valD_put (kd : List (P2 × PyData)) (p q : P2) (d : PyData) : valD (putD kd p d) q = if q = p then some d else valD kd q := by
  unfold putD
  split
  · rename_i h
    rw [valD_any] at h
    have key : ∀ kd : List (P2 × PyData), valD (kd.map fun e => if e.1 = p then (e.1, d) else e) q = (valD kd q).map fun x => if q = p then d else x := by
      intro kd
      induction kd with
      | nil => rfl
      | cons e kd ih =>
        unfold valD at ih ⊢
        by_cases h1 : e.1 = p
        · by_cases h2 : e.1 = q
          · have h3 : q = p := by rw [← h2, h1]
            subst h3
            simp [h1]
          · simp only [List.map_cons, h1, if_true, List.find?_cons]
            rw [show decide (p = q) = false from decide_eq_false (by rw [← h1]; exact h2)]
            exact ih
        · by_cases h2 : e.1 = q
          · have h3 : ¬ q = p := fun z => h1 (by rw [h2, z])
            simp [h1, h2, h3]
          · simp only [List.map_cons, if_neg h1, List.find?_cons]
            rw [show decide (e.1 = q) = false from decide_eq_false h2]
            exact ih
    rw [key]
    by_cases c : q = p
    · subst c
      rw [if_pos rfl]
      cases e : valD kd q with
      | none => rw [e] at h; cases h
      | some x => simp
    · simp [c]
  · rename_i h
    rw [valD_any, Bool.not_eq_true, Option.isSome_eq_false_iff, Option.isNone_iff_eq_none] at h
    unfold valD at h ⊢
    rw [List.find?_append]
    by_cases c : q = p
    · subst c
      rw [if_pos rfl]
      have e : (kd.find? fun e => decide (e.1 = q)) = none := by
        cases e : (kd.find? fun e => decide (e.1 = q)) with
        | none => rfl
        | some x => rw [e] at h; cases h
      rw [e]
      simp
    · rw [if_neg c]
      have e : ([(p, d)].find? fun e => decide (e.1 = q)) = none := by simp [show ¬ p = q from fun z => c z.symm]
      rw [e, Option.or_none]
theorem putD_len (kd : List (P2 × PyData)) (p : P2) (d : PyData) : (putD kd p d).length ≤ kd.length + 1 := by
  unfold putD
  split
  · rw [List.length_map]
    omega
  · rw [List.length_append, List.length_singleton]
    omega
section
variable {K : Fg} {S : Hp}
theorem RpK.len : ∀ {kvs : List (List Key × V)} {ds : List (PyData × PyData)}, RpK K S kvs ds → kvs.length = ds.length
  | _, _, .nil => rfl
  | _, _, .cons _ r => congrArg (· + 1) (RpK.len r)
theorem RpK.app : ∀ {k1 k2 : List (List Key × V)} {d1 d2 : List (PyData × PyData)}, RpK K S k1 d1 → RpK K S k2 d2 → RpK K S (k1 ++ k2) (d1 ++ d2)
  | _, _, _, _, .nil, r => r
  | _, _, _, _, .cons h t, r => .cons h (RpK.app t r)
theorem rpk_cons {kvs : List (List Key × V)} {e : P2 × PyData} {kd : List (P2 × PyData)} (r : RpK K S kvs (encK (e :: kd))) : ∃ v kvs', kvs = (ky e.1, v) :: kvs' ∧ Rp K S v e.2 ∧ RpK K S kvs' (encK kd) := by
  cases r with
  | cons h t => exact ⟨_, _, rfl, h, t⟩
theorem RpK.val : ∀ {kvs : List (List Key × V)} {kd : List (P2 × PyData)}, RpK K S kvs (encK kd) → ∀ p : P2, (valD kd p = none → valV kvs (ky p) = none) ∧ ∀ d, valD kd p = some d → ∃ v, valV kvs (ky p) = some v ∧ Rp K S v d
  | kvs, [], r, p => by
    cases r
    exact ⟨fun _ => rfl, fun d h => by cases h⟩
  | kvs, e :: kd, r, p => by
    obtain ⟨v, kvs', rfl, h, t⟩ := rpk_cons r
    have ih := RpK.val t p
    by_cases c : e.1 = p
    · have c2 : ky e.1 = ky p := by rw [c]
      have e1 : valD (e :: kd) p = some e.2 := by simp [valD, c]
      rw [e1, valV_pos (p := (ky e.1, v)) c2]
      exact ⟨fun z => (by cases z), fun d z => ⟨v, rfl, by cases z; exact h⟩⟩
    · have c2 : ¬ ky e.1 = ky p := fun z => c (ky_inj.mp z)
      have e1 : valD (e :: kd) p = valD kd p := by simp [valD, c]
      rw [e1, valV_neg (p := (ky e.1, v)) c2]
      exact ih
theorem RpK.any {kvs : List (List Key × V)} {kd : List (P2 × PyData)} (r : RpK K S kvs (encK kd)) (p : P2) : (kvs.any fun kv => decide (kv.1 = ky p)) = kd.any fun e => decide (e.1 = p) := by
  rw [valV_any, valD_any]
  have h := r.val p
  cases e : valD kd p with
  | none => rw [h.1 e]; rfl
  | some d =>
    obtain ⟨v, e1, _⟩ := h.2 d e
    rw [e1]
    rfl
theorem RpK.repl {v : V} {d : PyData} (hv : Rp K S v d) (p : P2) : ∀ {kvs : List (List Key × V)} {kd : List (P2 × PyData)}, RpK K S kvs (encK kd) → RpK K S (kvs.map fun kv => if kv.1 = ky p then (kv.1, v) else kv) (encK (kd.map fun e => if e.1 = p then (e.1, d) else e))
  | kvs, [], r => by
    cases r
    exact .nil
  | kvs, e :: kd, r => by
    obtain ⟨v0, kvs', rfl, h, t⟩ := rpk_cons r
    have ih := RpK.repl hv p t
    by_cases c : e.1 = p
    · have c2 : ky e.1 = ky p := by rw [c]
      simp only [List.map_cons, if_pos c2, if_pos c]
      exact .cons hv ih
    · have c2 : ¬ ky e.1 = ky p := fun z => c (ky_inj.mp z)
      simp only [List.map_cons, if_neg c2, if_neg c]
      exact .cons h ih
theorem RpK.put {v : V} {d : PyData} {kvs : List (List Key × V)} {kd : List (P2 × PyData)} (r : RpK K S kvs (encK kd)) (hv : Rp K S v d) (p : P2) : RpK K S (putK kvs (ky p) v) (encK (putD kd p d)) := by
  unfold putK putD
  rw [r.any p]
  split
  · exact r.repl hv p
  · unfold encK
    rw [List.map_append]
    exact r.app (.cons hv .nil)
/-- a pair as a key -/
theorem rp_key {v : V} {p : P2} (r : Rp K S v (dP p)) : ∃ b, v = .ref b ∧ S b = some (.tup ((ky p).map kV)) := by
  cases r with
  | tup h r =>
    have r2 : RpA K S _ ([p.1, p.2].map PyData.int) := r
    have e := r2.ints
    subst e
    exact ⟨_, rfl, h⟩
end
section
variable {X : Cx} {W : L2.WX} {G : Gs} {D : DE} {e i o : Expr} {body : List Stmt} {pos : Pos} {x y : PyData} {p : P2} {z : Str} {kd : List (P2 × PyData)} {ce : List (Option Sv)} {pre post : List (Addr × Ow)} {l : Addr}
/-- name = {} -/
theorem sd_newD {q1 q2 : Pos} (k : Nat) (hn : ∀ l, (∀ p ∈ G.o, p.1 ≠ l) → D.nx { c := G.c.set k (some (.v (.ref l))), o := (l, .dct (encK [])) :: G.o }) (hi : X.N[k]? = some z := by rfl) (hN : X.N.Nodup := by assumption) (hx : Loc X.env.scope z := by first | exact Or.inl rfl | exact Or.inr rfl) (hs : swapsWith (.Dict [] [] q2) (some (.Name z q1)) pos.line X.env = pure false := by rfl) (hf : X.fn z = true ∨ X.env.scope.names.lookup z = some .local := by first | exact .inl rfl | exact .inr rfl | assumption) : SD X W G (.Assign [.Name z q1] (.Dict [] [] q2) pos) D := ⟨fun S0 H0 _ σ S H g k' f =>
  wS_of (ps_set hN hi hx pe_dnewT hs hf) fun l hl => by
    have ne : ∀ p ∈ G.o, p.1 ≠ l := fun p hp e => by
      obtain ⟨o, ho⟩ := (k'.ow p hp).2.there
      rw [e, hl] at ho
      cases ho
    have g1 : Gr S H S (upd H l (.dT [])) := (Gr.refl k'.sh).raw hl
    have k1 := k'.mono g1
    refine at_of (g.trans g1) ⟨k1.sh, Sl.set (g := some (.v (.ref l))) rfl k k1.sl, fun p hp => ?_, ?_⟩ (fun p hp => ?_) (hn l ne)
    · rcases List.mem_cons.mp hp with rfl | hp
      · exact ⟨k'.sh.free hl, [], upd_same, .nil⟩
      · exact k1.ow p hp
    · refine List.nodup_cons.mpr ⟨fun hm => ?_, k1.nd⟩
      obtain ⟨p, hp, e⟩ := List.mem_map.mp hm
      exact ne p hp e
    · rcases List.mem_cons.mp hp with rfl | hp
      · exact g.h.free hl
      · exact f p hp⟩
/-- name[p] = e, the dict owned -/
theorem sd_putD {q1 q2 : Pos} (k : Nat) (pre : List (Addr × Ow)) (hu : X.A.units + 1 < cLine) (hk : ce[k]? = some (some (.v (.ref l)))) (ha : ED X { c := ce, o := pre ++ (l, .dct (encK kd)) :: post } e x) (hb : ED X { c := ce, o := pre ++ (l, .dct (encK kd)) :: post } i (dP p)) (hl : kd.length < 100000) (hn : D.nx { c := ce, o := pre ++ (l, .dct (encK (putD kd p x))) :: post })
    (hN : X.N[k]? = some z := by rfl) (hv : Vis X.env.scope z := by first | exact Or.inl rfl | exact Or.inr (Or.inl rfl) | exact Or.inr (Or.inr rfl)) (hd : (z == ("__debug__" : Str)) = false := by decide) (hcd : (z == ("__classdict__" : Str)) = false := by decide) (hs : swapsWith e (some (.Subscript (.Name z q1) i q2)) pos.line X.env = pure false := by rfl) :
    SD X W { c := ce, o := pre ++ (l, .dct (encK kd)) :: post } (.Assign [.Subscript (.Name z q1) i q2] e pos) D := ⟨fun S0 H0 _ σ S H g k' f => by
  obtain ⟨s, h2, h3⟩ := k'.sl.get hk
  have hs' : s = some (.ref l) := h3
  refine wS_of (ps_dput hu (pv k hN hv hd hcd) pe_w pe_w hs) (ha σ S H k' _ fun v S1 H1 g1 r1 => ⟨.ref l, by rw [h2, hs'], hb σ S1 H1 (k'.mono g1) _ fun u S2 H2 g2 r2 => ?_⟩)
  obtain ⟨b, rfl, eb⟩ := rp_key r2
  have k2 := k'.mono (g1.trans g2)
  obtain ⟨n2, kvs, e1, r3⟩ := k2.ow (l, .dct (encK kd)) (by simp)
  have hlen : kvs.length = kd.length := by rw [r3.len]; unfold encK; rw [List.length_map]
  refine ⟨l, _, rfl, DPut.t e1 (g2.sh _ _ eb) (by rw [hlen]; exact Nat.lt_of_lt_of_le hl (by decide)), ?_⟩
  exact at_of (G := { c := ce, o := pre ++ (l, .dct (encK (putD kd p x))) :: post }) ((g.trans (g1.trans g2)).write (f (l, .dct (encK kd)) (by simp)) n2) (k2.write (w' := .dct (encK (putD kd p x))) ⟨_, upd_same, r3.put (r1.mono g2.s) p⟩) f.write hn⟩
/-- a dict that can be read -/
def EDc (X : Cx) (G : Gs) (e : Expr) (kd : List (P2 × PyData)) : Prop := ∀ (σ : L2.St) (S H : Hp), Ok X.K S H σ G → ∀ Q : VK, (∀ a kvs S' H', Gr S H S' H' → Rd H' a (.dT kvs) → RpK X.K S' kvs (encK kd) → Q (.ref a) H') → wE X e σ H Q
theorem dc_own (k : Nat) (pre : List (Addr × Ow)) (h : G.c[k]? = some (some (.v (.ref l)))) (ho : G.o = pre ++ (l, Ow.dct (encK kd)) :: post) (hN : X.N[k]? = some z := by rfl) (hv : Vis X.env.scope z := by first | exact Or.inl rfl | exact Or.inr (Or.inl rfl) | exact Or.inr (Or.inr rfl)) (hd : (z == ("__debug__" : Str)) = false := by decide)
    (hcd : (z == ("__classdict__" : Str)) = false := by decide) : EDc X G (.Name z pos) kd := fun σ S H k' Q q => by
  obtain ⟨s, h1, h2⟩ := k'.sl.get h
  obtain ⟨kvs, h3, h4⟩ := (k'.ow (l, .dct (encK kd)) (by rw [ho]; simp)).2
  refine wE_of (pv k hN hv hd hcd) ⟨.ref l, ?_, q l kvs S H k'.gr (.inl h3) h4⟩
  rw [h1, h2]
theorem encK_int {kd : List (P2 × PyData)} {ns : List Int} : dD kd ≠ dScr ns := by
  intro h
  cases kd with
  | nil => cases h
  | cons a r => cases h
theorem encK_adr {kd : List (P2 × PyData)} {b : Addr} : dD kd ≠ .dict [(.bool true, .int (b : Int))] := by
  intro h
  cases kd with
  | nil => cases h
  | cons a r => cases h
theorem DGet.rd {H : Hp} {a b : Addr} {kvs : List (List Key × V)} {k : List Key} (e : Rd H a (.dT kvs)) (eb : H b = some (.tup (k.map kV))) : DGet H a (.ref b) (valV kvs k) := .inr ⟨kvs, k, b, e, rfl, eb, rfl⟩
theorem ED.dc (h : ED X G e (dD kd)) : EDc X G e kd := fun σ S H k Q q => h σ S H k Q fun v S' H' g r => by
  generalize hz : dD kd = d at r
  cases r with
  | scr h1 => exact absurd hz encK_int
  | @dic a kvs ds h1 h2 =>
    have e1 : encK kd = ds := PyData.dict.inj hz
    subst e1
    exact q _ _ _ _ g (Rd.mono g.sh h1) h2
  | adr b => exact absurd hz encK_adr
  | _ => cases hz
theorem ed_dget {q2 : Pos} (hu : X.A.units + 1 < cLine) (ho : EDc X G o kd) (hi : ED X G i (dP p)) (h : valD kd p = some x) (hs : NoSl i := by exact fun _ _ => rfl) : ED X G (.Subscript o i q2) x := ⟨fun σ S H k Q q =>
  wE_of (pe_dget hu pe_w pe_w hs) (ho σ S H k _ fun a kvs S1 H1 g1 e1 r1 => hi σ S1 H1 (k.mono g1) _ fun u S2 H2 g2 r2 => by
    obtain ⟨b, rfl, eb⟩ := rp_key r2
    obtain ⟨v, e2, r3⟩ := (r1.val p).2 x h
    refine ⟨a, v, rfl, ?_, q v S2 H2 (g1.trans g2) (r3.mono g2.s)⟩
    rw [← e2]
    exact DGet.rd (Rd.mono g2.h e1) (g2.sh _ _ eb))⟩
theorem et_inDc {q2 : Pos} {t : Bool} (hu : X.A.units + 1 < cLine) (hi : ED X G i (dP p)) (ho : EDc X G o kd) (h : (valD kd p).isSome = t) (hb : behindInMarks .In o = false := by rfl) : ET X G (.Compare i [.In] [o] q2) t := ⟨fun σ S H k Q q =>
  wT_of (pt_cmp (pc_din hu pe_w pe_w) hb) (hi σ S H k _ fun u S1 H1 g1 r1 => ho σ S1 H1 (k.mono g1) _ fun a kvs S2 H2 g2 e1 r2 => by
    obtain ⟨b, rfl, eb⟩ := rp_key r1
    refine ⟨a, valV kvs (ky p), rfl, DGet.rd e1 (g2.sh _ _ (g2.s _ _ eb)), t, ?_, q S2 H2 (g1.trans g2)⟩
    have hv := r2.val p
    cases e : valD kd p with
    | none => rw [hv.1 e, ← h, e]; rfl
    | some d =>
      obtain ⟨v, e2, _⟩ := hv.2 d e
      rw [e2, ← h, e]
      rfl)⟩
theorem et_niDc {q2 : Pos} {t : Bool} (hu : X.A.units + 1 < cLine) (hi : ED X G i (dP p)) (ho : EDc X G o kd) (h : (!(valD kd p).isSome) = t) (hb : behindInMarks .NotIn o = false := by rfl) : ET X G (.Compare i [.NotIn] [o] q2) t := ⟨fun σ S H k Q q =>
  wT_of (pt_cmp (pc_dnotin hu pe_w pe_w) hb) (hi σ S H k _ fun u S1 H1 g1 r1 => ho σ S1 H1 (k.mono g1) _ fun a kvs S2 H2 g2 e1 r2 => by
    obtain ⟨b, rfl, eb⟩ := rp_key r1
    refine ⟨a, valV kvs (ky p), rfl, DGet.rd e1 (g2.sh _ _ (g2.s _ _ eb)), t, ?_, q S2 H2 (g1.trans g2)⟩
    have hv := r2.val p
    cases e : valD kd p with
    | none => rw [hv.1 e, ← h, e]; rfl
    | some d =>
      obtain ⟨v, e2, _⟩ := hv.2 d e
      rw [e2, ← h, e]
      rfl)⟩
/-- an owned dict becomes steady -/
theorem SB.frzD {l : Addr} (k : Nat) (h : SB X W { c := ce.set k (some (.d (dD kd))), o := pre ++ post } body D) (hk : ce[k]? = some (some (.v (.ref l)))) : SB X W { c := ce, o := pre ++ (l, .dct (encK kd)) :: post } body D := ⟨fun S0 H0 he σ S H g k' f => by
  obtain ⟨n1, kvs, e1, r1⟩ := k'.ow (l, .dct (encK kd)) (by simp)
  obtain ⟨s, h1, h2⟩ := k'.sl.get hk
  have hs : s = some (.ref l) := h2
  have nl : ∀ p ∈ pre ++ post, p.1 ≠ l := fun p hp e => by
    have q := k'.nd
    simp only [List.map_append, List.map_cons] at q
    have q2 := (List.nodup_cons.mp (List.perm_middle.nodup_iff.mp q)).1
    refine q2 ?_
    rw [← e, ← List.map_append]
    exact List.mem_map_of_mem hp
  have g2 : Gr S0 H0 (upd S l (.dT kvs)) H := by
    refine ⟨g.s.trans (same_new n1 _), g.h, fun b u q => ?_, fun b u e m n => ?_⟩
    · by_cases hb : b = l
      · rw [hb, upd_same] at q
        rw [hb, e1, q]
      · rw [upd_ne hb] at q
        exact g.sh b u q
    · by_cases hb : b = l
      · rw [hb, f (l, .dct (encK kd)) (by simp)] at e
        cases e
      · rw [upd_ne hb]
        exact g.new b u e m n
  have e2 : σ.set k s = σ := by
    obtain ⟨hl, hk2⟩ := List.getElem?_eq_some_iff.mp h1
    rw [← hk2]
    exact List.set_getElem_self hl
  have sl2 := Sl.set (K := X.K) (S := upd S l (.dT kvs)) (s := s) (g := some (.d (dD kd))) ⟨.ref l, hs, .dic (.inl upd_same) (r1.mono (same_new n1 _))⟩ k (k'.sl.mono (same_new n1 (.dT kvs)))
  rw [e2] at sl2
  have sub : ∀ p ∈ pre ++ post, p ∈ pre ++ (l, Ow.dct (encK kd)) :: post := fun p hp => (List.mem_append.mp hp).elim (fun z => List.mem_append_left _ z) fun z => List.mem_append_right _ (List.mem_cons_of_mem _ z)
  refine h S0 H0 he σ (upd S l (.dT kvs)) H g2 ⟨g2.sh, sl2, fun p hp => ?_, ?_⟩ fun p hp => f p (sub p hp)
  · obtain ⟨q1, q2⟩ := k'.ow p (sub p hp)
    exact ⟨by rw [upd_ne (nl p hp)]; exact q1, q2.mono (same_new n1 _) (Same.refl H)⟩
  · have q := k'.nd
    simp only [List.map_append, List.map_cons] at q ⊢
    exact (List.nodup_cons.mp (List.perm_middle.nodup_iff.mp q)).2⟩
end
end DL

set_option Elab.async false
set_option linter.all false
set_option maxRecDepth 100000
set_option maxHeartbeats 4000000
/-! The data layer: expressions that change an owned dict; a def that writes into its last argument, a dict. -/
namespace DL
open PySem PySem.Spec PyProof.Rows L2
structure EM (X : Cx) (G : Gs) (e : Expr) (x : PyData) (Post : Gs → Prop) : Prop where
  run : ∀ (S0 H0 : Hp) (σ : L2.St) (S H : Hp), Gr S0 H0 S H → Ok X.K S H σ G → Fo H0 G → ∀ Q : VK, (∀ v S' H' G', Gr S0 H0 S' H' → Same S S' → Ok X.K S' H' σ G' → Fo H0 G' → Post G' → Rp X.K S' v x → Q v H') → wE X e σ H Q
def hide (H : Hp) (a : Addr) : Hp := fun b => if b = a then none else H b
theorem hide_ne {H : Hp} {a b : Addr} (h : b ≠ a) : hide H a b = H b := if_neg h
theorem hide_at {H : Hp} {a : Addr} : hide H a a = none := if_pos rfl
abbrev KD := List (P2 × PyData)
def spM (K : Fg) (Pre : List PyData → KD → PyData → Prop) (Pst : List PyData → KD → Prop) : Sp := fun vs H Q E => ∃ (S : Hp) (us : List V) (xs : List PyData) (a : Addr) (kvs : List (List Key × V)) (kd : KD) (x : PyData),
  vs = us ++ [V.ref a] ∧ Same S H ∧ RpA K S us xs ∧ S a = none ∧ H a = some (.dT kvs) ∧ RpK K S kvs (encK kd) ∧ Pre xs kd x ∧
  ∀ v S' H' kvs' kd', Gr S (hide H a) S' H' → S' a = none → H' a = some (.dT kvs') → RpK K S' kvs' (encK kd') → Pst xs kd' → Rp K S' v x → Q v H'
structure FM (P : Program) (w : World) (K : Fg) (mg : Str → Option Value) (base : Heap) (z : Str) (k : Nat) (Pre : List PyData → KD → PyData → Prop) (Pst : List PyData → KD → Prop) : Prop where
  ex : ∃ f fd ps, FnOk P w K mg base CX0 k f fd ps (spM K Pre Pst) ∧ mg z = some (.ref f) ∧ PySem.W.keepIn K (.ref f) = true ∧ Binds K fd ps []
theorem FM.mono {P : Program} {w : World} {K : Fg} {mg : Str → Option Value} {base : Heap} {z : Str} {j k : Nat} {Pre : List PyData → KD → PyData → Prop} {Pst : List PyData → KD → Prop} (F : FM P w K mg base z j Pre Pst) (h : j ≤ k) : FM P w K mg base z k Pre Pst := by
  obtain ⟨f, fd, ps, h1, h2⟩ := F.ex
  exact ⟨f, fd, ps, h1.mono h, h2⟩
section
variable {X : Cx} {W : L2.WX} {G : Gs} {D : DE} {a b c d e : Expr} {pos : Pos} {x y : PyData} {m n : Int} {z : Str} {P1 P2' Post : Gs → Prop}
theorem em_ed (h : ED X G e x) (hp : Post G) : EM X G e x Post := ⟨fun S0 H0 σ S H g k f Q q => h σ S H k Q fun v S1 H1 g1 r1 => q v S1 H1 G (g.trans g1) g1.s (k.mono g1) f hp r1⟩
theorem em_bin {f : Expr} {r : R2} {zz : PyData} (he : PE X f (tOp r (wE X a) (wE X b))) (ha : EM X G a x P1) (hb : ∀ G1, P1 G1 → EM X G1 b y Post)
    (hr : ∀ v u S H, Same S H → Rp X.K S v x → Rp X.K S u y → ∀ Q : VK, (∀ w S' H', Gr S H S' H' → Rp X.K S' w zz → Q w H') → r v u H Q) : EM X G f zz Post := ⟨fun S0 H0 σ S H g k fo Q q =>
  wE_of he (ha.run S0 H0 σ S H g k fo _ fun v S1 H1 G1 g1 s1 k1 f1 p1 r1 => (hb G1 p1).run S0 H0 σ S1 H1 g1 k1 f1 _ fun u S2 H2 G2 g2 s2 k2 f2 p2 r2 =>
    hr v u S2 H2 g2.sh (r1.mono s2) r2 Q fun w S3 H3 g3 r3 => q w S3 H3 G2 (g2.trans g3) (s1.trans (s2.trans g3.s)) (k2.mono g3) f2 p2 r3)⟩
theorem em_add (ha : EM X G a (.int m) P1) (hb : ∀ G1, P1 G1 → EM X G1 b (.int n) Post) : EM X G (.BinOp a .Add b pos) (.int (m + n)) Post := em_bin (pe_op op_add pe_w pe_w) ha hb fun _ _ _ _ sh r1 r2 _ q => rI0_ok sh r1 r2 q
theorem em_mul (ha : EM X G a (.int m) P1) (hb : ∀ G1, P1 G1 → EM X G1 b (.int n) Post) (h : CMulW m n) : EM X G (.BinOp a .Mult b pos) (.int (m * n)) Post := em_bin (pe_op op_mulW pe_w pe_w) ha hb fun _ _ _ _ sh r1 r2 _ q => rI_ok h sh r1 r2 q
theorem sd_setM {q1 : Pos} (k : Nat) (h : EM X G e x Post) (hn : ∀ G', Post G' → D.nx { G' with c := G'.c.set k (some (.d x)) }) (hi : X.N[k]? = some z := by rfl) (hN : X.N.Nodup := by assumption) (hx : Loc X.env.scope z := by first | exact Or.inl rfl | exact Or.inr rfl) (hs : swapsWith e (some (.Name z q1)) pos.line X.env = pure false := by rfl) (hf : X.fn z = true ∨ X.env.scope.names.lookup z = some .local := by first | exact .inl rfl | exact .inr rfl | assumption) : SD X W G (.Assign [.Name z q1] e pos) D := ⟨fun S0 H0 _ σ S H g k' f =>
  wS_of (ps_set hN hi hx pe_w hs hf) (h.run S0 H0 σ S H g k' f _ fun v S1 H1 G1 g1 s1 k1 f1 p1 r1 =>
    at_of (G := { G1 with c := G1.c.set k (some (.d x)) }) g1 ⟨k1.sh, Sl.set (g := some (.d x)) ⟨v, rfl, r1⟩ k k1.sl, k1.ow, k1.nd⟩ f1 (hn G1 p1))⟩
/-- the caller's owned dict is handed on -/
theorem Gr.back {S0 H0 S H S' H' : Hp} {l : Addr} (g : Gr S0 H0 S H) (h0 : H0 l = none) (r : Gr S (hide H l) S' H') : Gr S0 H0 S' H' :=
  ⟨g.s.trans r.s, fun b o e => by
    have nb : b ≠ l := fun z => by
      rw [z, h0] at e
      cases e
    exact r.h b o (by rw [hide_ne nb]; exact g.h b o e), r.sh, fun b o e m n => by
    have nb : b ≠ l := fun z => by
      rw [z, h0] at e
      cases e
    exact r.new b o (by rw [hide_ne nb]; exact g.h b o e) m (g.new b o e m n)⟩
theorem em_call4 {q1 q4 : Pos} {k : Nat} {Pre : List PyData → KD → PyData → Prop} {Pst : List PyData → KD → Prop} {x1 x2 x3 : PyData} {nn : Str} {l : Addr} {pre post : List (Addr × Ow)} {ce : List (Option Sv)} {kd : KD} (F : FM X.prog X.w X.K X.mg X.base z k Pre Pst) (hr : Room k X.A) (j : Nat)
    (ha : ED X { c := ce, o := pre ++ (l, .dct (encK kd)) :: post } a x1) (hb : ED X { c := ce, o := pre ++ (l, .dct (encK kd)) :: post } b x2) (hc : ED X { c := ce, o := pre ++ (l, .dct (encK kd)) :: post } c x3) (hj : ce[j]? = some (some (.v (.ref l)))) (hp : Pre [x1, x2, x3] kd x)
    (hPost : ∀ kd', Pst [x1, x2, x3] kd' → Post { c := ce, o := pre ++ (l, .dct (encK kd')) :: post })
    (hN : X.N[j]? = some nn := by rfl) (hv : Vis X.env.scope nn := by first | exact Or.inl rfl | exact Or.inr (Or.inl rfl) | exact Or.inr (Or.inr rfl)) (hd : (nn == ("__debug__" : Str)) = false := by decide) (hcd : (nn == ("__classdict__" : Str)) = false := by decide) (hg : Gl X z := by rfl) (hdb : (z == ("__debug__" : Str)) = false := by decide)
    (e1 : starEach [a, b, c, .Name nn q4] X.env = (false, eval a X.env) :: starEach [b, c, .Name nn q4] X.env := by rfl) (e2 : starEach [b, c, .Name nn q4] X.env = (false, eval b X.env) :: starEach [c, .Name nn q4] X.env := by rfl) (e3 : starEach [c, .Name nn q4] X.env = (false, eval c X.env) :: starEach [.Name nn q4] X.env := by rfl) (e4 : starEach [.Name nn q4] X.env = (false, eval (.Name nn q4) X.env) :: starEach [] X.env := by rfl)
    (hpl : (backTo pos (starEach [b, c, .Name nn q4] X.env)).any (·.1) = false := by rfl) : EM X { c := ce, o := pre ++ (l, .dct (encK kd)) :: post } (.Call (.Name z q1) [a, b, c, .Name nn q4] [] pos) x Post := ⟨fun S0 H0 σ S H g k' f Q q => by
  obtain ⟨f', fd, ps, h1, h2, h3, h4⟩ := F.ex
  obtain ⟨sv, s1, s2⟩ := k'.sl.get hj
  have s2 : sv = some (V.ref l) := s2
  refine wE_of (pe_call (E := EF0) h1 hr hg h2 h3 h4 .nil p0 (pa_cons pe_w (pa_cons pe_w (pa_cons pe_w (pa_cons (pv j hN hv hd hcd) pa_nil e4) e3) e2) e1) hdb e1 hpl) (ha σ S H k' _ fun v1 S1 H1 g1 r1 => hb σ S1 H1 (k'.mono g1) _ fun v2 S2 H2 g2 r2 => hc σ S2 H2 (k'.mono (g1.trans g2)) _ fun v3 S3 H3 g3 r3 => ⟨.ref l, by rw [s1, s2], ?_⟩)
  have gg := g1.trans (g2.trans g3)
  have k3 := k'.mono gg
  obtain ⟨n3, kvs, o1, o2⟩ := k3.ow (l, .dct (encK kd)) (by simp)
  refine ⟨S3, [v1, v2, v3], [x1, x2, x3], l, kvs, kd, x, rfl, gg.sh, .cons (r1.mono (g2.s.trans g3.s)) (.cons (r2.mono g3.s) (.cons r3 .nil)), n3, o1, o2, hp, fun v S' H' kvs' kd' g' n' a' b' c' d' => ?_⟩
  have h0 : H0 l = none := f (l, .dct (encK kd)) (by simp)
  have gB := (g.trans gg).back h0 g'
  refine q v S' H' { c := ce, o := pre ++ (l, .dct (encK kd')) :: post } gB (gg.s.trans g'.s) ⟨g'.sh, k3.sl.mono g'.s, fun p hp' => ?_, ?_⟩ f.write (hPost kd' c') d'
  · have nl : ∀ p ∈ pre ++ post, p.1 ≠ l := fun p hp e => by
      have qn := k'.nd
      simp only [List.map_append, List.map_cons] at qn
      have q2 := (List.nodup_cons.mp (List.perm_middle.nodup_iff.mp qn)).1
      refine q2 ?_
      rw [← e, ← List.map_append]
      exact List.mem_map_of_mem hp
    have split : p = (l, .dct (encK kd')) ∨ p ∈ pre ++ post := by
      rcases List.mem_append.mp hp' with w | w
      · exact .inr (List.mem_append_left _ w)
      · rcases List.mem_cons.mp w with w | w
        · exact .inl w
        · exact .inr (List.mem_append_right _ w)
    rcases split with rfl | hm
    · exact ⟨n', kvs', a', b'⟩
    · have hm2 : p ∈ pre ++ (l, Ow.dct (encK kd)) :: post := (List.mem_append.mp hm).elim (fun w => List.mem_append_left _ w) fun w => List.mem_append_right _ (List.mem_cons_of_mem _ w)
      obtain ⟨w1, w2⟩ := k3.ow p hm2
      obtain ⟨ob, hob, hmu⟩ := w2.mut
      have np := nl p hm
      refine ⟨g'.new p.1 ob (by rw [hide_ne np]; exact hob) hmu w1, ?_⟩
      cases w3 : p.2 with
      | lst ds =>
        rw [w3] at w2
        obtain ⟨vs, t1, t2⟩ := w2
        exact ⟨vs, g'.h _ _ (by rw [hide_ne np]; exact t1), t2.mono g'.s⟩
      | dct ds =>
        rw [w3] at w2
        obtain ⟨vs, t1, t2⟩ := w2
        exact ⟨vs, g'.h _ _ (by rw [hide_ne np]; exact t1), t2.mono g'.s⟩
  · have qn := k'.nd
    simp only [List.map_append, List.map_cons] at qn ⊢
    exact qn⟩
end
section
variable {P : Program} {w : World} {K : Fg} {mg : Str → Option Value} {base : Heap} {f : Addr} {fd : FuncData} {z : Str} {st : Stmt} {k : Nat} {N ps : List Str} {Pre : List PyData → KD → PyData → Prop} {Pst : List PyData → KD → Prop}
def startM (N : List Str) (xs : List PyData) (l : Addr) : List (Option Sv) := xs.map (fun x => some (.d x)) ++ some (.v (.ref l)) :: List.replicate (N.length - (xs.length + 1)) none
theorem sl_app {K : Fg} {S : Hp} {σ2 : L2.St} {g2 : List (Option Sv)} (h2 : Sl K S σ2 g2) : ∀ {vs : List V} {xs : List PyData}, RpA K S vs xs → Sl K S (vs.map some ++ σ2) (xs.map (fun x => some (.d x)) ++ g2)
  | _, _, .nil => h2
  | _, _, .cons h r => ⟨⟨_, rfl, h⟩, sl_app h2 r⟩
theorem fn_M (F : Fun K z z st f fd) (S : FnScope N ps (defScope st)) (hl : ∀ xs kd x, Pre xs kd x → xs.length + 1 = ps.length)
    (body : ∀ (X : Cx) (xs : List PyData) (kd : KD) (x : PyData) (l : Addr), (∃ cdv A outer s H E, X = (cxOf CX0 P w K mg base N z (defScope st) f cdv A outer s H E).nox) → Room k X.A → Pre xs kd x →
      SB X W0 { c := startM N xs l, o := [(l, .dct (encK kd))] } (defBody st) { nx := fun _ => False, rt := fun r => r = .dat x, rg := fun _ G => ∃ kd', Pst xs kd' ∧ G.o = [(l, .dct (encK kd'))] }) : FnOk P w K mg base CX0 (k + 1) f fd ps (spM K Pre Pst) := by
  refine F.ok S (fun vs H Q E h => ?_) (fun cdv A outer s H vs Q E hr h => ⟨wB _ (defBody st), pss_w, ?_⟩)
  · obtain ⟨S, us, xs, a, kvs, kd, x, rfl, h1, h2, h3, h4, h5, h6, h7⟩ := h
    rw [List.length_append, h2.length]
    exact hl xs kd x h6
  · obtain ⟨S, us, xs, a, kvs, kd, x, rfl, h1, h2, h3, h4, h5, h6, h7⟩ := h
    have gr : Gr S (hide H a) S H := ⟨Same.refl S, fun b o e => by
      by_cases c : b = a
      · rw [c, hide_at] at e
        cases e
      · rw [hide_ne c] at e
        exact e, h1, fun _ _ _ _ n => n⟩
    have q := body _ xs kd x a ⟨cdv, A, outer, s, H, E, rfl⟩ hr h6 S (hide H a) (fun C G σ S' H' hC => hC.elim) (L2.start N (us ++ [V.ref a])) S H gr ⟨h1, ?_, (fun p hp => by
      rw [List.mem_singleton] at hp
      subst hp
      exact ⟨h3, kvs, h4, h5⟩), by simp⟩ (fun p hp => by
      rw [List.mem_singleton] at hp
      subst hp
      exact hide_at)
    · refine wB_mono (D := conc K S (hide H a) { nx := fun _ => False, rt := fun r => r = .dat x, rg := fun _ G => ∃ kd', Pst xs kd' ∧ G.o = [(a, .dct (encK kd'))] }) (fun σ H' q => ?_) (fun v H' q => ?_) (fun σ H' q => ?_) (fun σ H' q => ?_) q
      · obtain ⟨_, _, _, _, _, e⟩ := q
        exact e.elim
      · obtain ⟨S', r, g', k', e, σ', G', k2, f2, kd', hp, ho⟩ := q
        subst e
        obtain ⟨w1, kvs', w2, w3⟩ := k2.ow (a, .dct (encK kd')) (by rw [ho]; simp)
        exact h7 v S' H' kvs' kd' g' w1 w2 w3 hp k'
      · obtain ⟨_, _, _, _, _, e⟩ := q
        exact e.elim
      · obtain ⟨_, _, _, _, _, e⟩ := q
        exact e.elim
    · unfold L2.start startM
      rw [List.length_append, List.length_singleton, h2.length, List.map_append, List.append_assoc]
      refine sl_app (σ2 := some (V.ref a) :: List.replicate (N.length - (xs.length + 1)) none) (g2 := some (.v (.ref a)) :: List.replicate (N.length - (xs.length + 1)) none) ?_ h2
      exact ⟨rfl, sl_repl _⟩
theorem fm_of (F : Fun K z z st f fd) (h : FnOk P w K mg base CX0 k f fd ps (spM K Pre Pst)) (hm : mg z = some (.ref f)) (hb : Binds K fd ps []) : FM P w K mg base z k Pre Pst := ⟨f, fd, ps, h, hm, F.kp, hb⟩
/-- what is never asked -/
theorem fn_M0 (no : ∀ xs kd x, ¬ Pre xs kd x) : FnOk P w K mg base CX0 k f fd ps (spM K Pre Pst) := by
  have nx : ∀ vs H Q E, ¬ spM K Pre Pst vs H Q E := fun vs H Q E h => by
    obtain ⟨S, us, xs, a, kvs, kd, x, _, _, _, _, _, _, h6, _⟩ := h
    exact no _ _ _ h6
  exact ⟨fun vs H Q E h => absurd h (nx vs H Q E), fun A outer s H args us vs Q E _ _ _ _ h => absurd h (nx vs H Q E)⟩
end
section
variable {X : Cx} {W : L2.WX} {G : Gs} {D : DE} {e i o : Expr} {pos : Pos} {x : PyData} {a b : Int} {z : Str} {kd : List (P2 × PyData)} {ce : List (Option Sv)} {post : List (Addr × Ow)} {l : Addr}
theorem ed_dgetP {q2 : Pos} (hu : X.A.units + 1 < cLine) (ho : EDc X G o kd) (hi : ED X G i (.tuple [.int a, .int b])) (h : valD kd (a, b) = some x) (hs : NoSl i := by exact fun _ _ => rfl) : ED X G (.Subscript o i q2) x := ed_dget (p := (a, b)) hu ho hi h hs
theorem sd_putP {q1 q2 : Pos} (k : Nat) (pre : List (Addr × Ow)) (hu : X.A.units + 1 < cLine) (hk : ce[k]? = some (some (.v (.ref l)))) (ha : ED X { c := ce, o := pre ++ (l, .dct (encK kd)) :: post } e x) (hb : ED X { c := ce, o := pre ++ (l, .dct (encK kd)) :: post } i (.tuple [.int a, .int b])) (hl : kd.length < 100000) (hn : D.nx { c := ce, o := pre ++ (l, .dct (encK (putD kd (a, b) x))) :: post })
    (hN : X.N[k]? = some z := by rfl) (hv : Vis X.env.scope z := by first | exact Or.inl rfl | exact Or.inr (Or.inl rfl) | exact Or.inr (Or.inr rfl)) (hd : (z == ("__debug__" : Str)) = false := by decide) (hcd : (z == ("__classdict__" : Str)) = false := by decide) (hs : swapsWith e (some (.Subscript (.Name z q1) i q2)) pos.line X.env = pure false := by rfl) :
    SD X W { c := ce, o := pre ++ (l, .dct (encK kd)) :: post } (.Assign [.Subscript (.Name z q1) i q2] e pos) D := sd_putD (p := (a, b)) k pre hu hk ha hb hl hn hN hv hd hcd hs
theorem et_inP {q2 : Pos} {t : Bool} (hu : X.A.units + 1 < cLine) (hi : ED X G i (.tuple [.int a, .int b])) (ho : EDc X G o kd) (h : (valD kd (a, b)).isSome = t) (hb : behindInMarks .In o = false := by rfl) : ET X G (.Compare i [.In] [o] q2) t := et_inDc (p := (a, b)) hu hi ho h hb
theorem et_niP {q2 : Pos} {t : Bool} (hu : X.A.units + 1 < cLine) (hi : ED X G i (.tuple [.int a, .int b])) (ho : EDc X G o kd) (h : (!(valD kd (a, b)).isSome) = t) (hb : behindInMarks .NotIn o = false := by rfl) : ET X G (.Compare i [.NotIn] [o] q2) t := et_niDc (p := (a, b)) hu hi ho h hb
end
section
variable {X : Cx} {W : L2.WX} {G : Gs} {D : DE} {a b c e elt : Expr} {pos : Pos} {x x1 x2 x3 : PyData} {m n : Int} {z : Str}
/-- the dict handed on is new and is let go -/
theorem ed_call4n {q1 q4 : Pos} {k : Nat} {Pre : List PyData → KD → PyData → Prop} {Pst : List PyData → KD → Prop} (F : FM X.prog X.w X.K X.mg X.base z k Pre Pst) (hr : Room k X.A) (ha : ED X G a x1) (hb : ED X G b x2) (hc : ED X G c x3) (hp : Pre [x1, x2, x3] [] x) (hg : Gl X z := by rfl) (hdb : (z == ("__debug__" : Str)) = false := by decide)
    (e1 : starEach [a, b, c, .Dict [] [] q4] X.env = (false, eval a X.env) :: starEach [b, c, .Dict [] [] q4] X.env := by rfl) (e2 : starEach [b, c, .Dict [] [] q4] X.env = (false, eval b X.env) :: starEach [c, .Dict [] [] q4] X.env := by rfl) (e3 : starEach [c, .Dict [] [] q4] X.env = (false, eval c X.env) :: starEach [.Dict [] [] q4] X.env := by rfl) (e4 : starEach [.Dict [] [] q4] X.env = (false, eval (.Dict [] [] q4) X.env) :: starEach [] X.env := by rfl)
    (hpl : (backTo pos (starEach [b, c, .Dict [] [] q4] X.env)).any (·.1) = false := by rfl) : ED X G (.Call (.Name z q1) [a, b, c, .Dict [] [] q4] [] pos) x := ⟨fun σ S H k' Q q => by
  obtain ⟨f', fd, ps, h1, h2, h3, h4⟩ := F.ex
  refine wE_of (pe_call (E := EF0) h1 hr hg h2 h3 h4 .nil p0 (pa_cons pe_w (pa_cons pe_w (pa_cons pe_w (pa_cons pe_dnewT pa_nil e4) e3) e2) e1) hdb e1 hpl) (ha σ S H k' _ fun v1 S1 H1 g1 r1 => hb σ S1 H1 (k'.mono g1) _ fun v2 S2 H2 g2 r2 => hc σ S2 H2 (k'.mono (g1.trans g2)) _ fun v3 S3 H3 g3 r3 => fun l hl => ?_)
  have gg := g1.trans (g2.trans g3)
  have hid : hide (upd H3 l (.dT [])) l = H3 := funext fun u => by
    by_cases cu : u = l
    · rw [cu, hide_at, hl]
    · rw [hide_ne cu, upd_ne cu]
  refine ⟨S3, [v1, v2, v3], [x1, x2, x3], l, [], [], x, rfl, gg.sh.trans (same_new hl _), .cons (r1.mono (g2.s.trans g3.s)) (.cons (r2.mono g3.s) (.cons r3 .nil)), gg.sh.free hl, upd_same, .nil, hp, fun v S' H' kvs' kd' g' n' a' b' c' d' => ?_⟩
  rw [hid] at g'
  exact q v S' H' (gg.trans g') d'⟩
/-- [elt for z in range(a, b)] -/
theorem lc_cR2 {q1 q2 pz : Pos} {scope : Scope} {f : Int → PyData} (k : Nat) (hm : X.mg "range" = none) (ha : ED X G a (.int m)) (hb' : ED X G b (.int n)) (hb : -(2 ^ 62) ≤ m ∧ m < 2 ^ 62 ∧ -(2 ^ 62) ≤ n ∧ n < 2 ^ 62) (hl : (n - m).toNat < 100000)
    (he : ∀ v, m ≤ v ∧ v < n → ∀ X', Blk X X' scope → X'.K = X.K → ED X' { G with c := (G.c.set k none).set k (some (.d (.int v))) } elt (f v))
    (ok : BlkOk X.N X.env.scope scope [(z, k)] := by exact blkOk_by (by decide +kernel)) (hN : X.N.Nodup := by assumption) (hc : X.calm = true := by rfl)
    (hg : ∀ (s : Shared) (H : Hp) (C : Addr) (cl : List (Str × Addr)) (fp : List Addr), PG (X.blk s H scope (compEnvC scope cl C X.env) fp) (.Name z pz) (gName k) := by exact fun _ _ _ _ _ => pg_name (by assumption) rfl (by first | exact Or.inl rfl | exact Or.inr rfl))
    (hgl : Gl X "range" := by rfl) (hst : starEach [a, b] X.env = [(false, eval a X.env), (false, eval b X.env)] := by rfl) (hst2 : starEach [b] X.env = [(false, eval b X.env)] := by rfl) (hst3 : starEach [a, b] X.env = (false, eval a X.env) :: starEach [b] X.env := by rfl) (hst4 : starEach [b] X.env = (false, eval b X.env) :: starEach [] X.env := by rfl)
    (hs : ∀ x, foldedSetIterable (.Call (.Name "range" q1) [a, b] [] q2) X.env x = pure x := by intro _; rfl) :
    LC X G (.ListComp elt [⟨.Name z pz, .Call (.Name "range" q1) [a, b] [] q2, [], 0⟩] scope pos) ((rg m (n - m).toNat).map f) :=
  lc_mk hc hN (pi_range2 hgl hm (pa_cons pe_w (pa_cons pe_w pa_nil hst4) hst3) hst hst2) ok hg (fun s H C cl fp => pts_nil) (fun s H C cl fp => pe_blk s H C cl fp) hs fun σ S H k' Q q => ha σ S H k' _ fun v S1 H1 g1 r1 => hb' σ S1 H1 (k'.mono g1) _ fun u S2 H2 g2 r2 => by
    cases r1
    cases r2
    have k2 := k'.mono (g1.trans g2)
    refine ⟨m, n, rfl, hb, fun A hA => lcR_core (t := fun _ => true) (tt := tYes) (f := f) hl k2 hA (fun v hv σ S H k1 Q q => q S H k1.gr) (fun v hv h1 X' hX' hK => he v (by have := mem_ints.mp hv; omega) X' hX' hK) fun H' ⟨S', ws, g', hs', ha', r'⟩ => ?_⟩
    rw [filter_tt] at r'
    exact q _ ws S' H' ((g1.trans g2).trans g') ((g1.trans g2).h.free hA) hs' ha' r'
end
end DL

set_option Elab.async false
set_option linter.all false
set_option maxRecDepth 100000
set_option maxHeartbeats 4000000
/-! Lines. -/
namespace MT
open DL
def opens (r : List P2) (one other : Int) : Bool :=
  if decide (0 < side (gz r (one - 1)) (gz r one) (gz r (nx (len r) one))) = true then
    decide (0 < side (gz r one) (gz r (nx (len r) one)) (gz r other)) && decide (0 < side (gz r (one - 1)) (gz r one) (gz r other))
  else decide (0 < side (gz r one) (gz r (nx (len r) one)) (gz r other)) || decide (0 < side (gz r (one - 1)) (gz r one) (gz r other))
def blk1 (r : List P2) (one other k : Int) : Bool := !decide (k ∈ [one, other]) && liesOn (gz r one) (gz r other) (gz r k)
def blk2 (r : List P2) (one other k : Int) : Bool := (!decide (k ∈ [one, other]) && !decide (nx (len r) k ∈ [one, other])) && meet (gz r one) (gz r other) (gz r k) (gz r (nx (len r) k))
def lineBy (r : List P2) (one other : Int) : Bool :=
  if (decide (other ≤ one) || (decide (nx (len r) one = other) || decide (nx (len r) other = one))) = true then false
  else if (rg 0 r.length).any (fun k => blk1 r one other k || blk2 r one other k) = true then false else opens r one other
def isLine (r : List P2) (one other : Int) : Bool := if (decide (one < 0) || (decide (other < 0) || (decide (len r ≤ one) || decide (len r ≤ other)))) = true then false else lineBy r one other
def lblk1 (r : List P2) (one other k : Int) : Bool := !decide (k ∈ [one, other]) && lOn (gz r one) (gz r other) (gz r k)
def lblk2 (r : List P2) (one other k : Int) : Bool := (!decide (k ∈ [one, other]) && !decide ((k + 1) % len r ∈ [one, other])) && lMeet (gz r one) (gz r other) (gz r k) (gz r ((k + 1) % len r))
def lLine (r : List P2) (one other : Int) : Bool :=
  if (!(decide (0 ≤ one) && (decide (one < other) && decide (other < len r))) || decide (other - one ∈ [1, len r - 1])) = true then false
  else if (rg 0 r.length).any (fun k => lblk1 r one other k || lblk2 r one other k) = true then false
  else if decide (0 < side (gz r (one - 1)) (gz r one) (gz r ((one + 1) % len r))) = true then
    decide (0 < side (gz r one) (gz r ((one + 1) % len r)) (gz r other)) && decide (0 < side (gz r (one - 1)) (gz r one) (gz r other))
  else decide (0 < side (gz r one) (gz r ((one + 1) % len r)) (gz r other)) || decide (0 < side (gz r (one - 1)) (gz r one) (gz r other))
theorem lblk1_eq (r : List P2) (one other k : Int) : lblk1 r one other k = blk1 r one other k := by unfold lblk1 blk1; rw [lOn_eq]
theorem lblk2_eq (r : List P2) (one other k : Int) : lblk2 r one other k = blk2 r one other k := by unfold lblk2 blk2 nx; rw [lMeet_eq]
theorem nx_of {n k : Int} (h : 0 ≤ k ∧ k < n) : nx n k = if k + 1 = n then 0 else k + 1 := by
  unfold nx
  split
  · rename_i c
    rw [c]
    exact Int.emod_self
  · exact Int.emod_eq_of_lt (by omega) (by omega)
theorem lLine_eq {r : List P2} (h3 : 3 ≤ r.length) (one other : Int) : lLine r one other = isLine r one other := by
  unfold isLine
  have e : (fun k => lblk1 r one other k || lblk2 r one other k) = fun k => blk1 r one other k || blk2 r one other k := funext fun k => by rw [lblk1_eq, lblk2_eq]
  by_cases c : 0 ≤ one ∧ one < len r ∧ 0 ≤ other ∧ other < len r
  · obtain ⟨c1, c2, c3, c4⟩ := c
    rw [if_neg (by simp only [Bool.or_eq_true, decide_eq_true_eq]; omega)]
    unfold lLine lineBy
    have hg : (!(decide (0 ≤ one) && (decide (one < other) && decide (other < len r))) || decide (other - one ∈ [1, len r - 1])) = (decide (other ≤ one) || (decide (nx (len r) one = other) || decide (nx (len r) other = one))) := by
      rw [nx_of ⟨c1, c2⟩, nx_of ⟨c3, c4⟩, Bool.eq_iff_iff]
      simp only [Bool.or_eq_true, Bool.not_eq_true', Bool.and_eq_false_iff, decide_eq_false_iff_not, decide_eq_true_eq, List.mem_cons, List.not_mem_nil, or_false]
      unfold len at *
      split <;> split <;> omega
    rw [hg, e]
    rfl
  · rw [if_pos (by simp only [Bool.or_eq_true, decide_eq_true_eq]; omega)]
    unfold lLine
    rw [if_pos]
    simp only [Bool.or_eq_true, Bool.not_eq_true', Bool.and_eq_false_iff, decide_eq_false_iff_not]
    omega
theorem line_t {r : List P2} {one other : Int} (h1 : ¬ (decide (other ≤ one) || (decide (nx (len r) one = other) || decide (nx (len r) other = one))) = true) (h : ∀ k : Nat, k < r.length → (blk1 r one other k || blk2 r one other k) = false) : lineBy r one other = opens r one other := by
  unfold lineBy
  rw [if_neg h1, any_f h]
  rfl
theorem line_f {r : List P2} {one other : Int} {k : Nat} (h1 : ¬ (decide (other ≤ one) || (decide (nx (len r) one = other) || decide (nx (len r) other = one))) = true) (hk : k < r.length) (h : (blk1 r one other k || blk2 r one other k) = true) : lineBy r one other = false := by
  unfold lineBy
  rw [if_neg h1, any_t hk h]
  rfl
end MT

set_option Elab.async false
set_option linter.all false
set_option maxRecDepth 100000
set_option maxHeartbeats 4000000
/-! How many cuts. -/
namespace MT
open DL
/-- joined: neighbours or a line -/
def jnB (r : List P2) (i j : Int) : Bool := decide (j = i + 1) || ((decide (i = 0) && decide (j = len r - 1)) || lineBy r i j)
def lJn (r : List P2) (i j : Int) : Bool := decide (j - i ∈ [1, len r - 1]) || lLine r i j
theorem lJn_eq {r : List P2} (h3 : 3 ≤ r.length) {i j : Int} (hi : 0 ≤ i) (hij : i < j) (hj : j < r.length) : lJn r i j = jnB r i j := by
  unfold lJn jnB
  rw [lLine_eq h3]
  have e : isLine r i j = lineBy r i j := by
    unfold isLine
    rw [if_neg]
    simp only [Bool.or_eq_true, decide_eq_true_eq]
    unfold len
    omega
  rw [e, ← Bool.or_assoc]
  congr 1
  rw [Bool.eq_iff_iff]
  simp only [Bool.or_eq_true, Bool.and_eq_true, decide_eq_true_eq, List.mem_cons, List.not_mem_nil, or_false]
  unfold len
  omega
/-- the dict tells it -/
def JdOk (J : Int → Int → Bool) (n : Int) (kd : KD) : Prop := ∀ i j : Int, 0 ≤ i → i < j → j < n → valD kd (i, j) = some (.bool (J i j))
def btw (J : Int → Int → Bool) (i j : Int) : List Int := (rg (i + 1) (j - (i + 1)).toNat).filter fun k => J i k && J k j
section
variable (J : Int → Int → Bool)
/-- how many ways, f calls deep -/
def cntF : Nat → Int → Int → Int
  | 0, _, _ => 0
  | f + 1, i, j => if j - i = 1 then 1 else ((btw J i j).map fun k => cntF f i k * cntF f k j).sum
def cnt (i j : Int) : Int := cntF J (j - i).toNat i j
end
theorem mem_btw {J : Int → Int → Bool} {i j k : Int} (h : k ∈ btw J i j) : i < k ∧ k < j ∧ J i k = true ∧ J k j = true := by
  unfold btw at h
  rw [List.mem_filter, Bool.and_eq_true] at h
  have := mem_ints.mp h.1
  exact ⟨by omega, by omega, h.2.1, h.2.2⟩
theorem cntF_more {J : Int → Int → Bool} : ∀ (f g : Nat) (i j : Int), j - i ≤ f → j - i ≤ g → 0 < j - i → cntF J f i j = cntF J g i j
  | 0, g, i, j, h, _, h0 => by omega
  | f + 1, 0, i, j, _, h, h0 => by omega
  | f + 1, g + 1, i, j, h1, h2, h0 => by
    unfold cntF
    by_cases c : j - i = 1
    · rw [if_pos c, if_pos c]
    · rw [if_neg c, if_neg c]
      congr 1
      refine List.map_congr_left fun k hk => ?_
      obtain ⟨a1, a2, _, _⟩ := mem_btw hk
      rw [cntF_more f g i k (by omega) (by omega) (by omega), cntF_more f g k j (by omega) (by omega) (by omega)]
theorem cnt_eq {J : Int → Int → Bool} {i j : Int} (h : i < j) : cnt J i j = if j - i = 1 then 1 else ((btw J i j).map fun k => cnt J i k * cnt J k j).sum := by
  have e : cnt J i j = cntF J ((j - i).toNat - 1 + 1) i j := by
    unfold cnt
    congr 1
    omega
  rw [e, cntF]
  by_cases c : j - i = 1
  · rw [if_pos c, if_pos c]
  · rw [if_neg c, if_neg c]
    congr 1
    refine List.map_congr_left fun k hk => ?_
    obtain ⟨a1, a2, _, _⟩ := mem_btw hk
    unfold cnt
    rw [cntF_more _ (k - i).toNat i k (by omega) (by omega) (by omega), cntF_more _ (j - k).toNat k j (by omega) (by omega) (by omega)]
/-- as told by the joined ones alone -/
def wy (J : Int → Int → Bool) (i j : Int) : Int := if (decide (j - i = 1) || J i j) = true then cnt J i j else 0
theorem wy_sum {J : Int → Int → Bool} {i j : Int} (h : 1 < j - i) (hj : J i j = true) : wy J i j = ((btw J i j).map fun k => wy J i k * wy J k j).sum := by
  unfold wy
  rw [if_pos (by rw [hj]; simp), cnt_eq (by omega), if_neg (by omega)]
  congr 1
  refine List.map_congr_left fun k hk => ?_
  obtain ⟨a1, a2, a3, a4⟩ := mem_btw hk
  rw [if_pos (by rw [a3]; simp), if_pos (by rw [a4]; simp)]
theorem wy_none {J : Int → Int → Bool} {i j : Int} (h : 1 < j - i) (hj : J i j = false) : wy J i j = 0 := by
  unfold wy
  rw [if_neg]
  rw [hj]
  simp
  omega
theorem wy_one {J : Int → Int → Bool} {i j : Int} (h : j - i = 1) : wy J i j = 1 := by
  unfold wy
  rw [if_pos (by simp [h]), cnt_eq (by omega), if_pos h]
/-- no number is great -/
theorem sum_bd {f : Int → Int} {B : Int} (hB : 0 ≤ B) : ∀ l : List Int, (∀ k ∈ l, 0 ≤ f k ∧ f k ≤ B) → 0 ≤ (l.map f).sum ∧ (l.map f).sum ≤ (l.length : Int) * B
  | [], _ => by simp
  | k :: l, h => by
    have ih := sum_bd hB l fun q hq => h q (List.mem_cons_of_mem _ hq)
    have h1 := h k List.mem_cons_self
    rw [List.map_cons, List.sum_cons, List.length_cons]
    have e : (((l.length + 1 : Nat) : Int)) * B = (l.length : Int) * B + B := by
      rw [Int.natCast_add, Int.add_mul]
      simp
    rw [e]
    omega
theorem btw_len {J : Int → Int → Bool} {i j : Int} (h : i < j) : ((btw J i j).length : Int) + 1 ≤ j - i := by
  unfold btw
  have := List.length_filter_le (fun k => J i k && J k j) (rg (i + 1) (j - (i + 1)).toNat)
  rw [ints_len] at this
  omega
theorem cnt_bd {J : Int → Int → Bool} : ∀ (d : Nat) (i j : Int), j - i = (d : Int) + 1 → d ≤ 11 → 0 ≤ cnt J i j ∧ cnt J i j ≤ 12 ^ d := by
  intro d
  induction d using Nat.strongRecOn with
  | ind d ih =>
    intro i j hd h11
    rw [cnt_eq (by omega)]
    by_cases c : j - i = 1
    · rw [if_pos c]
      have : d = 0 := by omega
      subst this
      decide
    · rw [if_neg c]
      have hl := btw_len (J := J) (i := i) (j := j) (by omega)
      have q := sum_bd (f := fun k => cnt J i k * cnt J k j) (B := 12 ^ (d - 1)) (Int.pow_nonneg (by decide)) (btw J i j) fun k hk => by
        obtain ⟨a1, a2, _, _⟩ := mem_btw hk
        have h1 := ih ((k - i).toNat - 1) (by omega) i k (by omega) (by omega)
        have h2 := ih ((j - k).toNat - 1) (by omega) k j (by omega) (by omega)
        refine ⟨Int.mul_nonneg h1.1 h2.1, ?_⟩
        have e : (12 : Int) ^ (d - 1) = 12 ^ ((k - i).toNat - 1) * 12 ^ ((j - k).toNat - 1) := by
          rw [← Int.pow_add]
          congr 1
          omega
        rw [e]
        exact Int.mul_le_mul h1.2 h2.2 h2.1 (Int.pow_nonneg (by decide))
      refine ⟨q.1, Int.le_trans q.2 ?_⟩
      have e : (12 : Int) ^ d = 12 * 12 ^ (d - 1) := by
        have : d = d - 1 + 1 := by omega
        rw [this, Int.pow_succ, Int.mul_comm]
        simp
      rw [e]
      exact Int.mul_le_mul_of_nonneg_right (by omega) (Int.pow_nonneg (by decide))
theorem cnt_sz {J : Int → Int → Bool} {i j : Int} (h : i < j) (h2 : j - i ≤ 12) : 0 ≤ cnt J i j ∧ cnt J i j ≤ 12 ^ 11 := by
  have q := cnt_bd (J := J) ((j - i).toNat - 1) i j (by omega) (by omega)
  refine ⟨q.1, Int.le_trans q.2 ?_⟩
  have h : (j - i).toNat - 1 ≤ 11 := by omega
  generalize (j - i).toNat - 1 = d at h
  have : d = 0 ∨ d = 1 ∨ d = 2 ∨ d = 3 ∨ d = 4 ∨ d = 5 ∨ d = 6 ∨ d = 7 ∨ d = 8 ∨ d = 9 ∨ d = 10 ∨ d = 11 := by omega
  rcases this with rfl | rfl | rfl | rfl | rfl | rfl | rfl | rfl | rfl | rfl | rfl | rfl <;> decide
theorem wy_sz {J : Int → Int → Bool} {i j : Int} (h : i < j) (h2 : j - i ≤ 12) : 0 ≤ wy J i j ∧ wy J i j ≤ 12 ^ 11 := by
  unfold wy
  split
  · exact cnt_sz h h2
  · decide
/-! ### the dict of the joined -/
def jdI (J : Int → Int → Bool) (o : Nat) (kd : KD) : Nat → KD
  | 0 => kd
  | i + 1 => putD (jdI J o kd i) ((i : Int), (o : Int)) (.bool (J i o))
def jdO (J : Int → Int → Bool) : Nat → KD
  | 0 => []
  | o + 1 => jdI J o (jdO J o) o
theorem jdI_val {J : Int → Int → Bool} {o : Nat} {kd : KD} (h : ∀ a b : Int, 0 ≤ a → a < b → b < o → valD kd (a, b) = some (.bool (J a b))) : ∀ i : Nat, ∀ a b : Int, 0 ≤ a → a < b → (b < o ∨ (b = o ∧ a < i)) → valD (jdI J o kd i) (a, b) = some (.bool (J a b))
  | 0, a, b, h1, h2, h3 => h a b h1 h2 (by omega)
  | i + 1, a, b, h1, h2, h3 => by
    rw [jdI, valD_put]
    by_cases c : (a, b) = ((i : Int), (o : Int))
    · rw [if_pos c]
      obtain ⟨rfl, rfl⟩ := Prod.mk.inj c
      rfl
    · rw [if_neg c]
      refine jdI_val h i a b h1 h2 ?_
      by_cases d : b = o
      · subst d
        have : a ≠ i := fun z => c (by rw [z])
        omega
      · omega
theorem jdO_val {J : Int → Int → Bool} : ∀ (o : Nat) (a b : Int), 0 ≤ a → a < b → b < o → valD (jdO J o) (a, b) = some (.bool (J a b))
  | 0, a, b, h1, h2, h3 => by omega
  | o + 1, a, b, h1, h2, h3 => jdI_val (fun a b q1 q2 q3 => jdO_val o a b q1 q2 q3) o a b h1 h2 (by omega)
theorem jdI_len {J : Int → Int → Bool} {o : Nat} {kd : KD} : ∀ i, (jdI J o kd i).length ≤ kd.length + i
  | 0 => Nat.le_refl _
  | i + 1 => by
    have := putD_len (jdI J o kd i) ((i : Int), (o : Int)) (.bool (J i o))
    have := jdI_len (J := J) (o := o) (kd := kd) i
    rw [jdI]
    omega
theorem jdO_len {J : Int → Int → Bool} : ∀ o, o ≤ 12 → (jdO J o).length ≤ 12 * o
  | 0, _ => Nat.le_refl _
  | o + 1, h => by
    have h1 := jdI_len (J := J) (o := o) (kd := jdO J o) o
    have h2 := jdO_len (J := J) o (by omega)
    rw [jdO]
    omega
theorem jdO_ok {J : Int → Int → Bool} {n : Nat} : JdOk J n (jdO J n) := fun a b h1 h2 h3 => jdO_val n a b h1 h2 h3
/-! ### what is known -/
structure KdOk (J : Int → Int → Bool) (n : Int) (kd : KD) : Prop where
  nd : (kd.map (·.1)).Nodup
  ok : ∀ e ∈ kd, e.2 = .int (cnt J e.1.1 e.1.2) ∧ 0 ≤ e.1.1 ∧ e.1.1 < e.1.2 ∧ e.1.2 < n
theorem KdOk.val {J : Int → Int → Bool} {n : Int} {kd : KD} (h : KdOk J n kd) {p : P2} {x : PySem.PyData} (e : valD kd p = some x) : x = .int (cnt J p.1 p.2) := by
  unfold valD at e
  rw [Option.map_eq_some_iff] at e
  obtain ⟨y, h1, h2⟩ := e
  have m := List.mem_of_find?_eq_some h1
  have q := List.find?_some h1
  have q : y.1 = p := of_decide_eq_true q
  rw [← h2, (h.ok y m).1, q]
theorem KdOk.few {J : Int → Int → Bool} {n : Int} {kd : KD} (h : KdOk J n kd) (hn : n ≤ 12) : kd.length ≤ 144 := by
  have e := nd_le (xs := kd.map (·.1)) (ys := (rg 0 12).flatMap fun a => (rg 0 12).map fun b => (a, b)) h.nd fun p hp => by
    obtain ⟨y, hy, rfl⟩ := List.mem_map.mp hp
    have q := h.ok y hy
    rw [List.mem_flatMap]
    exact ⟨y.1.1, mem_ints.mpr (by omega), List.mem_map.mpr ⟨y.1.2, mem_ints.mpr (by omega), rfl⟩⟩
  rw [List.length_map] at e
  have e2 : ((rg 0 12).flatMap fun a => (rg 0 12).map fun b => (a, b)).length = 144 := by decide +kernel
  omega
theorem KdOk.put {J : Int → Int → Bool} {n : Int} {kd : KD} (h : KdOk J n kd) {i j : Int} (hi : 0 ≤ i) (hij : i < j) (hj : j < n) : KdOk J n (putD kd (i, j) (.int (cnt J i j))) := by
  unfold putD
  by_cases hno : (kd.any fun e => decide (e.1 = (i, j))) = true
  · rw [if_pos hno]
    constructor
    · have e : (kd.map fun e => if e.1 = (i, j) then (e.1, PySem.PyData.int (cnt J i j)) else e).map (·.1) = kd.map (·.1) := by
        rw [List.map_map]
        refine List.map_congr_left fun e _ => ?_
        show (if e.1 = (i, j) then (e.1, PySem.PyData.int (cnt J i j)) else e).1 = e.1
        split <;> rfl
      rw [e]
      exact h.nd
    · intro e he
      obtain ⟨y, hy, rfl⟩ := List.mem_map.mp he
      by_cases c : y.1 = (i, j)
      · rw [if_pos c]
        show (PySem.PyData.int (cnt J i j) = .int (cnt J y.1.1 y.1.2) ∧ 0 ≤ y.1.1 ∧ y.1.1 < y.1.2 ∧ y.1.2 < n)
        rw [c]
        exact ⟨rfl, hi, hij, hj⟩
      · rw [if_neg c]
        exact h.ok y hy
  · rw [if_neg hno]
    have hno : (kd.any fun e => decide (e.1 = (i, j))) = false := Bool.eq_false_iff.mpr hno
    constructor
    · rw [List.map_append, List.nodup_append]
      refine ⟨h.nd, by simp, fun a ha b hb => ?_⟩
      obtain ⟨y, hy, rfl⟩ := List.mem_map.mp ha
      simp only [List.map_cons, List.map_nil, List.mem_singleton] at hb
      subst hb
      intro z
      have := List.any_eq_false.mp hno y hy
      exact this (decide_eq_true z)
    · intro e he
      rcases List.mem_append.mp he with he | he
      · exact h.ok e he
      · rw [List.mem_singleton] at he
        subst he
        exact ⟨rfl, hi, hij, hj⟩
theorem kdOk_nil {J : Int → Int → Bool} {n : Int} : KdOk J n [] := ⟨List.nodup_nil, fun _ h => by cases h⟩
theorem rg_more (lo : Int) (n : Nat) : rg lo (n + 1) = rg lo n ++ [lo + n] := by
  unfold rg
  rw [List.range_succ, List.map_append]
  rfl
/-- the sum so far -/
def totT (J : Int → Int → Bool) (i j : Int) (t : Nat) : Int := (((rg (i + 1) t).filter fun k => J i k && J k j).map fun k => cnt J i k * cnt J k j).sum
theorem totT_t {J : Int → Int → Bool} {i j : Int} {t : Nat} (h : (J i (i + 1 + t) && J (i + 1 + t) j) = true) : totT J i j t + cnt J i (i + 1 + t) * cnt J (i + 1 + t) j = totT J i j (t + 1) := by
  unfold totT
  rw [rg_more, List.filter_append, List.map_append]
  simp [h]
theorem totT_f {J : Int → Int → Bool} {i j : Int} {t : Nat} (h : (J i (i + 1 + t) && J (i + 1 + t) j) = false) : totT J i j t = totT J i j (t + 1) := by
  unfold totT
  rw [rg_more, List.filter_append, List.map_append]
  simp [h]
theorem totT_all {J : Int → Int → Bool} {i j : Int} (h : i < j) (h1 : ¬ j - i = 1) : totT J i j (j - (i + 1)).toNat = cnt J i j := by
  rw [cnt_eq h, if_neg h1]
  rfl
end MT

set_option Elab.async false
set_option linter.all false
set_option maxRecDepth 100000
set_option maxHeartbeats 4000000
/-! Bulging rooms and their cuts. -/
namespace MT
open DL
theorem cntF_congr {J J' : Int → Int → Bool} {n : Int} (h : ∀ i j : Int, 0 ≤ i → i < j → j < n → J i j = J' i j) : ∀ (f : Nat) (i j : Int), 0 ≤ i → i < j → j < n → cntF J f i j = cntF J' f i j
  | 0, _, _, _, _, _ => rfl
  | f + 1, i, j, h1, h2, h3 => by
    unfold cntF
    by_cases c : j - i = 1
    · rw [if_pos c, if_pos c]
    · rw [if_neg c, if_neg c]
      have e : btw J i j = btw J' i j := by
        unfold btw
        refine List.filter_congr fun k hk => ?_
        have := mem_ints.mp hk
        rw [h i k h1 (by omega) (by omega), h k j (by omega) (by omega) h3]
      rw [e]
      congr 1
      refine List.map_congr_left fun k hk => ?_
      obtain ⟨a1, a2, _, _⟩ := mem_btw hk
      rw [cntF_congr h f i k h1 a1 (by omega), cntF_congr h f k j (by omega) a2 h3]
theorem cnt_congr {J J' : Int → Int → Bool} {n i j : Int} (h : ∀ i j : Int, 0 ≤ i → i < j → j < n → J i j = J' i j) (h1 : 0 ≤ i) (h2 : i < j) (h3 : j < n) : cnt J i j = cnt J' i j := cntF_congr h _ i j h1 h2 h3
theorem many_law {r : List P2} (h3 : 3 ≤ r.length) : wy (jnB r) 0 ((r.length : Int) - 1) = cnt (lJn r) 0 ((r.length : Int) - 1) := by
  unfold wy
  rw [if_pos]
  · exact cnt_congr (n := r.length) (fun i j a b c => (lJn_eq h3 a b c).symm) (by omega) (by omega) (by omega)
  · have : jnB r 0 ((r.length : Int) - 1) = true := by
      unfold jnB len
      simp
    rw [this]
    simp
def bul (n : Nat) : List P2 := (rg (5 - (n : Int)) n).map fun k => (k, k * k - 50)
theorem bul_len (n : Nat) : (bul n).length = n := by
  unfold bul
  rw [List.length_map, ints_len]
theorem bul_good : ∀ n : Nat, 3 ≤ n → n ≤ 12 → lGood (bul n) = true := by
  intro n h3 h12
  have : n = 3 ∨ n = 4 ∨ n = 5 ∨ n = 6 ∨ n = 7 ∨ n = 8 ∨ n = 9 ∨ n = 10 ∨ n = 11 ∨ n = 12 := by omega
  rcases this with rfl | rfl | rfl | rfl | rfl | rfl | rfl | rfl | rfl | rfl <;> decide +kernel
theorem bul_room {n : Nat} (h3 : 3 ≤ n) (h12 : n ≤ 12) : Room (bul n) := lGood_iff.mp (bul_good n h3 h12)
theorem bul_all : ∀ n : Nat, 3 ≤ n → n ≤ 12 → ((List.range n).all fun j => (List.range j).all fun i => jnB (bul n) (i : Int) (j : Int)) = true := by
  intro n h3 h12
  have : n = 3 ∨ n = 4 ∨ n = 5 ∨ n = 6 ∨ n = 7 ∨ n = 8 ∨ n = 9 ∨ n = 10 ∨ n = 11 ∨ n = 12 := by omega
  rcases this with rfl | rfl | rfl | rfl | rfl | rfl | rfl | rfl | rfl | rfl <;> decide +kernel
def row : List Int := [1, 2, 5, 14, 42, 132, 429, 1430, 4862, 16796]
theorem row_cnt : ∀ n : Nat, 3 ≤ n → n ≤ 12 → cnt (fun _ _ => true) 0 ((n : Int) - 1) = gz row ((n : Int) - 3) := by
  intro n h3 h12
  have : n = 3 ∨ n = 4 ∨ n = 5 ∨ n = 6 ∨ n = 7 ∨ n = 8 ∨ n = 9 ∨ n = 10 ∨ n = 11 ∨ n = 12 := by omega
  rcases this with rfl | rfl | rfl | rfl | rfl | rfl | rfl | rfl | rfl | rfl <;> decide +kernel
theorem bul_many {n : Nat} (h3 : 3 ≤ n) (h12 : n ≤ 12) : wy (jnB (bul n)) 0 (((bul n).length : Int) - 1) = gz row ((n : Int) - 3) := by
  rw [bul_len, ← row_cnt n h3 h12]
  have all : ∀ i j : Int, 0 ≤ i → i < j → j < n → jnB (bul n) i j = true := fun i j a b c => by
    have q := List.all_eq_true.mp (List.all_eq_true.mp (bul_all n h3 h12) j.toNat (List.mem_range.mpr (by omega))) i.toNat (List.mem_range.mpr (by omega))
    rw [show ((i.toNat : Nat) : Int) = i by omega, show ((j.toNat : Nat) : Int) = j by omega] at q
    exact q
  unfold wy
  rw [if_pos (by rw [all 0 _ (by omega) (by omega) (by omega)]; simp)]
  exact cnt_congr (n := n) all (by omega) (by omega) (by omega)
end MT

set_option Elab.async false
set_option linter.all false
set_option maxRecDepth 100000
set_option maxHeartbeats 4000000
/-! Crossings of a ray: what the turns round a point are made of. -/
namespace MT
open DL

/-! ### signs and products -/
theorem mul_pp {a b : Int} (h1 : 0 < a) (h2 : 0 < b) : 0 < a * b := Int.mul_pos h1 h2
theorem mul_nn {a b : Int} (h1 : 0 ≤ a) (h2 : 0 ≤ b) : 0 ≤ a * b := Int.mul_nonneg h1 h2
theorem mul_pn {a b : Int} (h1 : 0 < a) (h2 : b < 0) : a * b < 0 := Int.mul_neg_of_pos_of_neg h1 h2
theorem mul_np {a b : Int} (h1 : a < 0) (h2 : 0 < b) : a * b < 0 := Int.mul_neg_of_neg_of_pos h1 h2
theorem mul_neg2 {a b : Int} (h1 : a < 0) (h2 : b < 0) : 0 < a * b := Int.mul_pos_of_neg_of_neg h1 h2
theorem pos_l {a b : Int} (h : 0 < a * b) (hb : 0 < b) : 0 < a := by
  rcases Int.lt_trichotomy a 0 with h1 | h1 | h1
  · have := mul_np h1 hb; omega
  · subst h1; omega
  · exact h1
theorem neg_l {a b : Int} (h : a * b < 0) (hb : 0 < b) : a < 0 := by
  rcases Int.lt_trichotomy a 0 with h1 | h1 | h1
  · exact h1
  · subst h1; omega
  · have := mul_pp h1 hb; omega
theorem zero_l {a b : Int} (h : a * b = 0) (hb : 0 < b) : a = 0 := by
  rcases Int.mul_eq_zero.mp h with h | h
  · exact h
  · omega

/-! ### a point of a stretch, told by its share -/
structure Par (a b r : P2) (m n : Int) : Prop where
  n0 : 0 < n
  m0 : 0 ≤ m
  mn : m ≤ n
  x : n * r.1 = (n - m) * a.1 + m * b.1
  y : n * r.2 = (n - m) * a.2 + m * b.2
theorem Par.side {a b r : P2} {m n : Int} (h : Par a b r m n) (s t : P2) : n * side s t r = (n - m) * side s t a + m * side s t b := by
  have hx := h.x
  have hy := h.y
  unfold MT.side
  grind
theorem Par.side1 {a b r : P2} {m n : Int} (h : Par a b r m n) (t : P2) : n * MT.side a r t = m * MT.side a b t := by
  have hx := h.x
  have hy := h.y
  unfold MT.side
  grind
theorem Par.on {a b r : P2} {m n : Int} (h : Par a b r m n) : On a b r := by
  rw [On_iff]
  have h0 := h.n0
  have e0 : n * MT.side a b r = 0 := by
    rw [h.side a b, side_eq1, side_eq0]
    simp
  have nn : 0 < n * n := mul_pp h0 h0
  have ml : 0 ≤ m * (n - m) := mul_nn h.m0 (by have := h.mn; omega)
  have key : ∀ A B R : Int, n * R = (n - m) * A + m * B → (A - R) * (B - R) ≤ 0 := fun A B R e => by
    have e1 : (A - R) * (B - R) * (n * n) = -((m * (n - m)) * ((A - B) * (A - B))) := by grind
    have := mul_nn ml (sq_nn (A - B))
    rcases Int.lt_or_le 0 ((A - R) * (B - R)) with z | z
    · have := mul_pp z nn
      omega
    · exact z
  refine ⟨?_, key _ _ _ h.x, key _ _ _ h.y⟩
  rw [Int.mul_comm] at e0
  exact zero_l e0 h0
theorem On.par {a b r : P2} (h : On a b r) (hab : a ≠ b) : ∃ m n, Par a b r m n := by
  obtain ⟨h0, h1, h2⟩ := h
  unfold MT.side at h0
  by_cases hx : a.1 = b.1
  · have hy : a.2 ≠ b.2 := fun hy => hab (Prod.ext hx hy)
    have rx : r.1 = a.1 := by omega
    rcases Int.lt_or_gt_of_ne hy with hl | hl
    · exact ⟨r.2 - a.2, b.2 - a.2, by omega, by omega, by omega, by rw [rx, ← hx]; grind, by grind⟩
    · exact ⟨a.2 - r.2, a.2 - b.2, by omega, by omega, by omega, by rw [rx, ← hx]; grind, by grind⟩
  · rcases Int.lt_or_gt_of_ne hx with hl | hl
    · exact ⟨r.1 - a.1, b.1 - a.1, by omega, by omega, by omega, by grind, by grind⟩
    · exact ⟨a.1 - r.1, a.1 - b.1, by omega, by omega, by omega, by grind, by grind⟩
/-- inside, no end -/
theorem Par.m_pos {a b r : P2} {m n : Int} (h : Par a b r m n) (hr : r ≠ a) : 0 < m := by
  rcases Int.lt_or_le 0 m with z | z
  · exact z
  · have e : m = 0 := by have := h.m0; omega
    have hx := h.x
    have hy := h.y
    have h0 := h.n0
    rw [e] at hx hy
    simp only [Int.sub_zero, Int.zero_mul, Int.add_zero] at hx hy
    exact absurd (Prod.ext (Int.eq_of_mul_eq_mul_left (by omega) hx) (Int.eq_of_mul_eq_mul_left (by omega) hy)) hr
theorem Par.m_lt {a b r : P2} {m n : Int} (h : Par a b r m n) (hr : r ≠ b) : m < n := by
  rcases Int.lt_or_le m n with z | z
  · exact z
  · have e : m = n := by have := h.mn; omega
    have hx := h.x
    have hy := h.y
    have h0 := h.n0
    rw [e] at hx hy
    simp only [Int.sub_self, Int.zero_mul, Int.zero_add] at hx hy
    exact absurd (Prod.ext (Int.eq_of_mul_eq_mul_left (by omega) hx) (Int.eq_of_mul_eq_mul_left (by omega) hy)) hr
/-- on the line of a, b, at a height between: on the stretch -/
theorem on_height {a b r : P2} (h : side a b r = 0) (hy : (a.2 < b.2 ∧ a.2 ≤ r.2 ∧ r.2 ≤ b.2) ∨ (b.2 < a.2 ∧ b.2 ≤ r.2 ∧ r.2 ≤ a.2)) : On a b r := by
  unfold side at h
  rcases hy with hy | hy
  · exact Par.on (m := r.2 - a.2) (n := b.2 - a.2) ⟨by omega, by omega, by omega, by grind, by grind⟩
  · exact Par.on (m := a.2 - r.2) (n := a.2 - b.2) ⟨by omega, by omega, by omega, by grind, by grind⟩
/-- a level stretch -/
theorem on_level {a b r : P2} (h : a.2 = r.2) (h' : b.2 = r.2) (hx : (a.1 ≤ r.1 ∧ r.1 ≤ b.1) ∨ (b.1 ≤ r.1 ∧ r.1 ≤ a.1)) : On a b r := by
  unfold On side
  rw [h, h']
  refine ⟨by simp, by omega, by omega⟩

/-! ### one wall and a ray to the right -/
/-- 1 where the wall leads up to the right of q, -1 where it leads down there -/
def cw (a b q : P2) : Int := b2n (decide (a.2 ≤ q.2 ∧ q.2 < b.2 ∧ 0 < side a b q)) - b2n (decide (b.2 ≤ q.2 ∧ q.2 < a.2 ∧ side a b q < 0))
theorem b2n_t {p : Prop} [Decidable p] (h : p) : b2n (decide p) = 1 := by rw [decide_eq_true h]; rfl
theorem b2n_f {p : Prop} [Decidable p] (h : ¬ p) : b2n (decide p) = 0 := by rw [decide_eq_false h]; rfl
theorem b2n_c {p q : Prop} [Decidable p] [Decidable q] (h : p ↔ q) : b2n (decide p) = b2n (decide q) := by
  by_cases c : p
  · rw [b2n_t c, b2n_t (h.mp c)]
  · rw [b2n_f c, b2n_f (fun z => c (h.mpr z))]
theorem b2n_01 {p : Prop} [Decidable p] : b2n (decide p) = 0 ∨ b2n (decide p) = 1 := by
  by_cases c : p
  · exact .inr (b2n_t c)
  · exact .inl (b2n_f c)
theorem cw_swap (a b q : P2) : cw b a q = - cw a b q := by
  unfold cw
  rw [side_swap a b q]
  have e1 : b2n (decide (b.2 ≤ q.2 ∧ q.2 < a.2 ∧ 0 < -side a b q)) = b2n (decide (b.2 ≤ q.2 ∧ q.2 < a.2 ∧ side a b q < 0)) := b2n_c (by omega)
  have e2 : b2n (decide (a.2 ≤ q.2 ∧ q.2 < b.2 ∧ -side a b q < 0)) = b2n (decide (a.2 ≤ q.2 ∧ q.2 < b.2 ∧ 0 < side a b q)) := b2n_c (by omega)
  rw [e1, e2]
  omega
/-- within the strip to the right of the way from u up to v -/
def gw (u v x : P2) : Int := b2n (decide (u.2 < x.2 ∧ x.2 ≤ v.2 ∧ side u v x < 0)) - b2n (decide (v.2 < x.2 ∧ x.2 ≤ u.2 ∧ 0 < side u v x))
theorem gw_swap (u v x : P2) : gw v u x = - gw u v x := by
  unfold gw
  rw [side_swap u v x]
  have e1 : b2n (decide (v.2 < x.2 ∧ x.2 ≤ u.2 ∧ -side u v x < 0)) = b2n (decide (v.2 < x.2 ∧ x.2 ≤ u.2 ∧ 0 < side u v x)) := b2n_c (by omega)
  have e2 : b2n (decide (u.2 < x.2 ∧ x.2 ≤ v.2 ∧ 0 < -side u v x)) = b2n (decide (u.2 < x.2 ∧ x.2 ≤ v.2 ∧ side u v x < 0)) := b2n_c (by omega)
  rw [e1, e2]
  omega
/-- the four sides of four points -/
theorem four1 (s t u v : P2) : side s t u + side u v s = side s t v + side u v t := by unfold side; grind
theorem four2 (s t u v : P2) : side s t u * v.2 - side s t v * u.2 + side u v s * t.2 - side u v t * s.2 = 0 := by unfold side; grind
/-- in numbers alone: s below, u, then t, then v: A and D of one sign bring a crossing -/
theorem cross_num {A B C D s t u v : Int} (i1 : A + C = B + D) (i2 : A * v - B * u + C * t - D * s = 0) (h1 : s ≤ u) (h2 : u < t) (h3 : t ≤ v) :
    (0 < A → 0 ≤ D → B < 0 ∧ C < 0 ∨ D = 0) ∧ (A < 0 → D ≤ 0 → 0 < B ∧ 0 < C ∨ D = 0) := by
  have e : D = A + C - B := by omega
  constructor
  · intro hA hD
    by_cases d0 : D = 0
    · exact .inr d0
    refine .inl ⟨?_, ?_⟩
    · rcases Int.lt_or_le B 0 with z | z
      · exact z
      · have z1 : A * (v - t) + B * (t - u) + D * (t - s) = 0 := by grind
        have a1 := mul_nn (show 0 ≤ A by omega) (show 0 ≤ v - t by omega)
        have a2 := mul_nn z (show 0 ≤ t - u by omega)
        have a3 := mul_pp (show 0 < D by omega) (show 0 < t - s by omega)
        omega
    · rcases Int.lt_or_le C 0 with z | z
      · exact z
      · have z1 : A * (v - u) + C * (t - u) + D * (u - s) = 0 := by grind
        have a1 := mul_pp hA (show 0 < v - u by omega)
        have a2 := mul_nn z (show 0 ≤ t - u by omega)
        have a3 := mul_nn hD (show 0 ≤ u - s by omega)
        omega
  · intro hA hD
    by_cases d0 : D = 0
    · exact .inr d0
    refine .inl ⟨?_, ?_⟩
    · rcases Int.lt_or_le 0 B with z | z
      · exact z
      · have z1 : (-A) * (v - t) + (-B) * (t - u) + (-D) * (t - s) = 0 := by grind
        have a1 := mul_nn (show 0 ≤ -A by omega) (show 0 ≤ v - t by omega)
        have a2 := mul_nn (show 0 ≤ -B by omega) (show 0 ≤ t - u by omega)
        have a3 := mul_pp (show 0 < -D by omega) (show 0 < t - s by omega)
        omega
    · rcases Int.lt_or_le 0 C with z | z
      · exact z
      · have z1 : (-A) * (v - u) + (-C) * (t - u) + (-D) * (u - s) = 0 := by grind
        have a1 := mul_pp (show 0 < -A by omega) (show 0 < v - u by omega)
        have a2 := mul_nn (show 0 ≤ -C by omega) (show 0 ≤ t - u by omega)
        have a3 := mul_nn (show 0 ≤ -D by omega) (show 0 ≤ u - s by omega)
        omega
/-- no point in common, told of a wall and a way -/
structure Off (s t u v : P2) : Prop where
  os : ¬ On u v s
  ot : ¬ On u v t
  ou : ¬ On s t u
  ov : ¬ On s t v
  oc : ¬ Cross s t u v
theorem off_iff {s t u v : P2} : Off s t u v ↔ ¬ Meet s t u v := by
  unfold Meet
  constructor
  · rintro ⟨h1, h2, h3, h4, h5⟩ (h | h | h | h | h)
    · exact h3 h
    · exact h4 h
    · exact h1 h
    · exact h2 h
    · exact h5 h
  · intro h
    exact ⟨fun z => h (.inr (.inr (.inl z))), fun z => h (.inr (.inr (.inr (.inl z)))), fun z => h (.inl z), fun z => h (.inr (.inl z)), fun z => h (.inr (.inr (.inr (.inr z))))⟩
theorem cross_swap1 {s t u v : P2} : Cross s t u v ↔ Cross t s u v := by
  unfold Cross
  rw [side_swap s t u, side_swap s t v]
  omega
theorem cross_swap2 {s t u v : P2} : Cross s t u v ↔ Cross s t v u := by
  unfold Cross
  rw [side_swap u v s, side_swap u v t]
  omega
theorem Off.sw1 {s t u v : P2} (h : Off s t u v) : Off t s u v := ⟨h.ot, h.os, fun z => h.ou (On_swap.mp z), fun z => h.ov (On_swap.mp z), fun z => h.oc (cross_swap1.mp z)⟩
theorem Off.sw2 {s t u v : P2} (h : Off s t u v) : Off s t v u := ⟨fun z => h.os (On_swap.mp z), fun z => h.ot (On_swap.mp z), h.ov, h.ou, fun z => h.oc (cross_swap2.mp z)⟩
/-- the core: u below or level with v, s below or level with t -/
theorem jump0 {s t u v : P2} (h : Off s t u v) (huv : u.2 ≤ v.2) (hst : s.2 ≤ t.2) : cw s t v - cw s t u = gw u v s - gw u v t := by
  have i1 := four1 s t u v
  have i2 := four2 s t u v
  have hA : s.2 ≤ u.2 → u.2 < t.2 → side s t u ≠ 0 := fun a b z => h.ou (on_height z (.inl (by omega)))
  have hB : s.2 ≤ v.2 → v.2 < t.2 → side s t v ≠ 0 := fun a b z => h.ov (on_height z (.inl (by omega)))
  have hC : u.2 < s.2 → s.2 ≤ v.2 → side u v s ≠ 0 := fun a b z => h.os (on_height z (.inl (by omega)))
  have hD : u.2 < t.2 → t.2 ≤ v.2 → side u v t ≠ 0 := fun a b z => h.ot (on_height z (.inl (by omega)))
  have hX := h.oc
  unfold Cross at hX
  have hL : s.2 = u.2 → u.2 = v.2 → s.2 < t.2 → (0 < side s t u ↔ 0 < side s t v) := fun a b c => by
    have e1 : side s t u = (t.2 - s.2) * (s.1 - u.1) := by unfold side; rw [← a]; grind
    have e2 : side s t v = (t.2 - s.2) * (s.1 - v.1) := by unfold side; rw [← b, ← a]; grind
    have hd : 0 < t.2 - s.2 := by omega
    have n := h.os
    have p1 : 0 < side s t u ↔ u.1 < s.1 := by
      rw [e1, Int.mul_comm]
      constructor
      · intro z
        have := pos_l z hd
        omega
      · intro z
        exact mul_pp (by omega) hd
    have p2 : 0 < side s t v ↔ v.1 < s.1 := by
      rw [e2, Int.mul_comm]
      constructor
      · intro z
        have := pos_l z hd
        omega
      · intro z
        exact mul_pp (by omega) hd
    rw [p1, p2]
    by_cases c1 : u.1 < s.1 <;> by_cases c2 : v.1 < s.1
    · simp [c1, c2]
    · exact absurd (on_level (by omega) (by omega) (.inl (by omega))) n
    · exact absurd (on_level (by omega) (by omega) (.inr (by omega))) n
    · simp [c1, c2]
  generalize eA : side s t u = A at *
  generalize eB : side s t v = B at *
  generalize eC : side u v s = C at *
  generalize eD : side u v t = D at *
  -- no way down
  have d1 : ∀ q : P2, b2n (decide (t.2 ≤ q.2 ∧ q.2 < s.2 ∧ side s t q < 0)) = 0 := fun q => b2n_f (by omega)
  have d2 : ∀ q : P2, b2n (decide (v.2 < q.2 ∧ q.2 ≤ u.2 ∧ 0 < side u v q)) = 0 := fun q => b2n_f (by omega)
  unfold cw gw
  rw [d1, d1, d2, d2, eA, eB, eC, eD]
  by_cases s1 : s.2 ≤ u.2
  · by_cases t1 : t.2 ≤ u.2
    · rw [b2n_f (show ¬ (s.2 ≤ v.2 ∧ v.2 < t.2 ∧ 0 < B) by omega), b2n_f (show ¬ (s.2 ≤ u.2 ∧ u.2 < t.2 ∧ 0 < A) by omega), b2n_f (show ¬ (u.2 < s.2 ∧ s.2 ≤ v.2 ∧ C < 0) by omega), b2n_f (show ¬ (u.2 < t.2 ∧ t.2 ≤ v.2 ∧ D < 0) by omega)]
    · by_cases t2 : t.2 ≤ v.2
      · have k := cross_num i1 i2 s1 (by omega) t2
        have a0 := hA s1 (by omega)
        have d0 := hD (by omega) t2
        have e : (0 < A) ↔ (D < 0) := by
          constructor
          · intro z
            rcases Int.lt_or_le D 0 with y | y
            · exact y
            · rcases k.1 z y with w | w
              · exact absurd ⟨.inl ⟨z, w.1⟩, .inr ⟨w.2, by omega⟩⟩ hX
              · omega
          · intro z
            rcases Int.lt_or_le 0 A with y | y
            · exact y
            · rcases k.2 (by omega) (by omega) with w | w
              · exact absurd ⟨.inr ⟨by omega, w.1⟩, .inl ⟨w.2, z⟩⟩ hX
              · omega
        rw [b2n_f (show ¬ (s.2 ≤ v.2 ∧ v.2 < t.2 ∧ 0 < B) by omega), b2n_f (show ¬ (u.2 < s.2 ∧ s.2 ≤ v.2 ∧ C < 0) by omega), b2n_c (show (s.2 ≤ u.2 ∧ u.2 < t.2 ∧ 0 < A) ↔ (u.2 < t.2 ∧ t.2 ≤ v.2 ∧ D < 0) by omega)]
      · have a0 := hA s1 (by omega)
        have b0 := hB (by omega) (by omega)
        have e : (0 < A) ↔ (0 < B) := by
          by_cases y : s.2 = u.2 ∧ u.2 = v.2
          · exact hL y.1 y.2 (by omega)
          constructor
          · intro z
            rcases Int.lt_or_le 0 B with w | w
            · exact w
            · refine absurd ⟨.inl ⟨z, by omega⟩, .inr ⟨?_, ?_⟩⟩ hX
              · rcases Int.lt_or_le C 0 with g | g
                · exact g
                · have z1 : A * (v.2 - s.2) + (-B) * (u.2 - s.2) + C * (t.2 - s.2) = 0 := by grind
                  have a1 := mul_pp z (show 0 < v.2 - s.2 by omega)
                  have a2 := mul_nn (show 0 ≤ -B by omega) (show 0 ≤ u.2 - s.2 by omega)
                  have a3 := mul_nn g (show 0 ≤ t.2 - s.2 by omega)
                  omega
              · rcases Int.lt_or_le 0 D with g | g
                · exact g
                · have z1 : A * (t.2 - v.2) + (-B) * (t.2 - u.2) + (-D) * (t.2 - s.2) = 0 := by grind
                  have a1 := mul_pp z (show 0 < t.2 - v.2 by omega)
                  have a2 := mul_nn (show 0 ≤ -B by omega) (show 0 ≤ t.2 - u.2 by omega)
                  have a3 := mul_nn (show 0 ≤ -D by omega) (show 0 ≤ t.2 - s.2 by omega)
                  omega
          · intro z
            rcases Int.lt_or_le 0 A with w | w
            · exact w
            · refine absurd ⟨.inr ⟨by omega, z⟩, .inl ⟨?_, ?_⟩⟩ hX
              · rcases Int.lt_or_le 0 C with g | g
                · exact g
                · have z1 : (-A) * (v.2 - s.2) + B * (u.2 - s.2) + (-C) * (t.2 - s.2) = 0 := by grind
                  have a1 := mul_pp (show 0 < -A by omega) (show 0 < v.2 - s.2 by omega)
                  have a2 := mul_nn (show 0 ≤ B by omega) (show 0 ≤ u.2 - s.2 by omega)
                  have a3 := mul_nn (show 0 ≤ -C by omega) (show 0 ≤ t.2 - s.2 by omega)
                  omega
              · rcases Int.lt_or_le D 0 with g | g
                · exact g
                · have z1 : (-A) * (t.2 - v.2) + B * (t.2 - u.2) + D * (t.2 - s.2) = 0 := by grind
                  have a1 := mul_pp (show 0 < -A by omega) (show 0 < t.2 - v.2 by omega)
                  have a2 := mul_nn (show 0 ≤ B by omega) (show 0 ≤ t.2 - u.2 by omega)
                  have a3 := mul_nn g (show 0 ≤ t.2 - s.2 by omega)
                  omega
        rw [b2n_f (show ¬ (u.2 < s.2 ∧ s.2 ≤ v.2 ∧ C < 0) by omega), b2n_f (show ¬ (u.2 < t.2 ∧ t.2 ≤ v.2 ∧ D < 0) by omega), b2n_c (show (s.2 ≤ u.2 ∧ u.2 < t.2 ∧ 0 < A) ↔ (s.2 ≤ v.2 ∧ v.2 < t.2 ∧ 0 < B) by omega)]
        omega
  · by_cases s2 : s.2 ≤ v.2
    · have c0 := hC (by omega) s2
      by_cases t2 : t.2 ≤ v.2
      · have d0 := hD (by omega) t2
        have e : (C < 0) ↔ (D < 0) := by
          by_cases y : s.2 = t.2
          · have e1 : C = (v.2 - u.2) * (u.1 - s.1) + (v.1 - u.1) * (s.2 - u.2) := by rw [← eC]; unfold side; grind
            have e2 : D = (v.2 - u.2) * (u.1 - t.1) + (v.1 - u.1) * (s.2 - u.2) := by rw [← eD, y]; unfold side; grind
            -- both level: A and B tell the signs
            have f1 : A = (t.1 - s.1) * (u.2 - s.2) := by rw [← eA]; unfold side; rw [← y]; grind
            have f2 : B = (t.1 - s.1) * (v.2 - s.2) := by rw [← eB]; unfold side; rw [← y]; grind
            have nv := h.ov
            have key : ∀ C D : Int, C ≠ 0 → D ≠ 0 → (¬ ((C < 0 ∧ 0 < D) ∨ (0 < C ∧ D < 0))) → (C < 0 ↔ D < 0) := by omega
            refine key C D c0 d0 fun z => ?_
            have hAB : (A < 0 ∧ 0 < B) ∨ (0 < A ∧ B < 0) ∨ t.1 = s.1 ∨ s.2 = v.2 := by
              by_cases g : s.2 = v.2
              · exact .inr (.inr (.inr g))
              rcases Int.lt_trichotomy (t.1 - s.1) 0 with w | w | w
              · have := mul_neg2 w (show u.2 - s.2 < 0 by omega)
                have := mul_np w (show 0 < v.2 - s.2 by omega)
                omega
              · omega
              · have := mul_pn w (show u.2 - s.2 < 0 by omega)
                have := mul_pp w (show 0 < v.2 - s.2 by omega)
                omega
            rcases hAB with w | w | w | w
            · exact hX ⟨.inr w, by omega⟩
            · exact hX ⟨.inl ⟨w.1, w.2⟩, by omega⟩
            · have : C = D := by rw [e1, e2, w]
              omega
            · refine nv (on_level w (by omega) ?_)
              have e3 : C = (v.2 - u.2) * (v.1 - s.1) := by rw [e1, w]; grind
              have e4 : D = (v.2 - u.2) * (v.1 - t.1) := by rw [e2, w]; grind
              have hp : 0 < v.2 - u.2 := by omega
              rcases z with ⟨z1, z2⟩ | ⟨z1, z2⟩
              · rw [e3, Int.mul_comm] at z1
                rw [e4, Int.mul_comm] at z2
                have := neg_l z1 hp
                have := pos_l z2 hp
                omega
              · rw [e3, Int.mul_comm] at z1
                rw [e4, Int.mul_comm] at z2
                have := neg_l z2 hp
                have := pos_l z1 hp
                omega
          constructor
          · intro z
            rcases Int.lt_or_le D 0 with w | w
            · exact w
            · refine absurd ⟨.inl ⟨?_, ?_⟩, .inr ⟨z, by omega⟩⟩ hX
              · rcases Int.lt_or_le 0 A with g | g
                · exact g
                · have z1 : (-A) * (v.2 - u.2) + (-C) * (t.2 - u.2) + D * (s.2 - u.2) = 0 := by grind
                  have a1 := mul_nn (show 0 ≤ -A by omega) (show 0 ≤ v.2 - u.2 by omega)
                  have a2 := mul_pp (show 0 < -C by omega) (show 0 < t.2 - u.2 by omega)
                  have a3 := mul_nn w (show 0 ≤ s.2 - u.2 by omega)
                  omega
              · rcases Int.lt_or_le B 0 with g | g
                · exact g
                · have z1 : B * (v.2 - u.2) + (-C) * (v.2 - t.2) + D * (v.2 - s.2) = 0 := by grind
                  have a1 := mul_nn g (show 0 ≤ v.2 - u.2 by omega)
                  have a2 := mul_nn (show 0 ≤ -C by omega) (show 0 ≤ v.2 - t.2 by omega)
                  have a3 := mul_pp (show 0 < D by omega) (show 0 < v.2 - s.2 by omega)
                  omega
          · intro z
            rcases Int.lt_or_le C 0 with w | w
            · exact w
            · refine absurd ⟨.inr ⟨?_, ?_⟩, .inl ⟨by omega, z⟩⟩ hX
              · rcases Int.lt_or_le A 0 with g | g
                · exact g
                · have z1 : A * (v.2 - u.2) + C * (t.2 - u.2) + (-D) * (s.2 - u.2) = 0 := by grind
                  have a1 := mul_nn (show 0 ≤ A by omega) (show 0 ≤ v.2 - u.2 by omega)
                  have a2 := mul_pp (show 0 < C by omega) (show 0 < t.2 - u.2 by omega)
                  have a3 := mul_nn (show 0 ≤ -D by omega) (show 0 ≤ s.2 - u.2 by omega)
                  omega
              · rcases Int.lt_or_le 0 B with g | g
                · exact g
                · have z1 : (-B) * (v.2 - u.2) + C * (v.2 - t.2) + (-D) * (v.2 - s.2) = 0 := by grind
                  have a1 := mul_nn (show 0 ≤ -B by omega) (show 0 ≤ v.2 - u.2 by omega)
                  have a2 := mul_nn (show 0 ≤ C by omega) (show 0 ≤ v.2 - t.2 by omega)
                  have a3 := mul_pp (show 0 < -D by omega) (show 0 < v.2 - s.2 by omega)
                  omega
        rw [b2n_f (show ¬ (s.2 ≤ v.2 ∧ v.2 < t.2 ∧ 0 < B) by omega), b2n_f (show ¬ (s.2 ≤ u.2 ∧ u.2 < t.2 ∧ 0 < A) by omega), b2n_c (show (u.2 < s.2 ∧ s.2 ≤ v.2 ∧ C < 0) ↔ (u.2 < t.2 ∧ t.2 ≤ v.2 ∧ D < 0) by omega)]
        omega
      · have b0 := hB s2 (by omega)
        have e : (0 < B) ↔ (C < 0) := by
          constructor
          · intro z
            rcases Int.lt_or_le C 0 with w | w
            · exact w
            · refine absurd ⟨.inr ⟨?_, z⟩, .inl ⟨by omega, ?_⟩⟩ hX
              · rcases Int.lt_or_le A 0 with g | g
                · exact g
                · have z2 : A * (v.2 - s.2) + B * (s.2 - u.2) + C * (t.2 - s.2) = 0 := by grind
                  have a1 := mul_nn g (show 0 ≤ v.2 - s.2 by omega)
                  have a2 := mul_pp z (show 0 < s.2 - u.2 by omega)
                  have a3 := mul_nn w (show 0 ≤ t.2 - s.2 by omega)
                  omega
              · rcases Int.lt_or_le D 0 with g | g
                · exact g
                · have z2 : B * (v.2 - u.2) + C * (t.2 - v.2) + D * (v.2 - s.2) = 0 := by grind
                  have a1 := mul_pp z (show 0 < v.2 - u.2 by omega)
                  have a2 := mul_nn w (show 0 ≤ t.2 - v.2 by omega)
                  have a3 := mul_nn g (show 0 ≤ v.2 - s.2 by omega)
                  omega
          · intro z
            rcases Int.lt_or_le 0 B with w | w
            · exact w
            · refine absurd ⟨.inl ⟨?_, by omega⟩, .inr ⟨z, ?_⟩⟩ hX
              · rcases Int.lt_or_le 0 A with g | g
                · exact g
                · have z2 : (-A) * (v.2 - s.2) + (-B) * (s.2 - u.2) + (-C) * (t.2 - s.2) = 0 := by grind
                  have a1 := mul_nn (show 0 ≤ -A by omega) (show 0 ≤ v.2 - s.2 by omega)
                  have a2 := mul_pp (show 0 < -B by omega) (show 0 < s.2 - u.2 by omega)
                  have a3 := mul_nn (show 0 ≤ -C by omega) (show 0 ≤ t.2 - s.2 by omega)
                  omega
              · rcases Int.lt_or_le 0 D with g | g
                · exact g
                · have z2 : (-B) * (v.2 - u.2) + (-C) * (t.2 - v.2) + (-D) * (v.2 - s.2) = 0 := by grind
                  have a1 := mul_pp (show 0 < -B by omega) (show 0 < v.2 - u.2 by omega)
                  have a2 := mul_nn (show 0 ≤ -C by omega) (show 0 ≤ t.2 - v.2 by omega)
                  have a3 := mul_nn (show 0 ≤ -D by omega) (show 0 ≤ v.2 - s.2 by omega)
                  omega
        rw [b2n_f (show ¬ (s.2 ≤ u.2 ∧ u.2 < t.2 ∧ 0 < A) by omega), b2n_f (show ¬ (u.2 < t.2 ∧ t.2 ≤ v.2 ∧ D < 0) by omega), b2n_c (show (s.2 ≤ v.2 ∧ v.2 < t.2 ∧ 0 < B) ↔ (u.2 < s.2 ∧ s.2 ≤ v.2 ∧ C < 0) by omega)]
    · rw [b2n_f (show ¬ (s.2 ≤ v.2 ∧ v.2 < t.2 ∧ 0 < B) by omega), b2n_f (show ¬ (s.2 ≤ u.2 ∧ u.2 < t.2 ∧ 0 < A) by omega), b2n_f (show ¬ (u.2 < s.2 ∧ s.2 ≤ v.2 ∧ C < 0) by omega), b2n_f (show ¬ (u.2 < t.2 ∧ t.2 ≤ v.2 ∧ D < 0) by omega)]
/-- a wall that has no point of the way from u to v: what its crossings change by -/
theorem jump {s t u v : P2} (h : Off s t u v) : cw s t v - cw s t u = gw u v s - gw u v t := by
  rcases Int.le_total u.2 v.2 with a | a <;> rcases Int.le_total s.2 t.2 with b | b
  · exact jump0 h a b
  · have := jump0 h.sw1 a b
    rw [cw_swap s t, cw_swap s t] at this
    omega
  · have := jump0 h.sw2 a b
    rw [gw_swap u v, gw_swap u v] at this
    omega
  · have := jump0 h.sw1.sw2 a b
    rw [cw_swap s t, cw_swap s t, gw_swap u v, gw_swap u v] at this
    omega
end MT

set_option Elab.async false
set_option linter.all false
set_option maxRecDepth 100000
set_option maxHeartbeats 4000000
/-! Directions at a corner, in turn from a way that leads to the right and a hair up. -/
namespace MT
open DL
/-- a lies above v, or level and to the left -/
def Up (v a : P2) : Prop := v.2 < a.2 ∨ (a.2 = v.2 ∧ a.1 < v.1)
instance (v a : P2) : Decidable (Up v a) := by unfold Up; infer_instance
/-- seen from v, x comes ahead of y -/
def Be (v x y : P2) : Prop := (Up v x ∧ ¬ Up v y) ∨ ((Up v x ↔ Up v y) ∧ 0 < side v x y)
instance (v x y : P2) : Decidable (Be v x y) := by unfold Be; infer_instance
/-- on the way u, v, z: whether the hair lies at the left -/
def dw (u v z : P2) : Int := b2n (decide (Be v u z))
theorem side_rot (v x y : P2) : side v x y = side x y v := by unfold side; grind
theorem side_flip (v x y : P2) : side v y x = - side v x y := by unfold side; grind
/-- the same way from v -/
def Fold (v x y : P2) : Prop := side v x y = 0 ∧ (Up v x ↔ Up v y)
theorem up_ne {v x : P2} (h : x ≠ v) : ¬ Up v x ↔ (x.2 < v.2 ∨ (x.2 = v.2 ∧ v.1 < x.1)) := by
  unfold Up
  constructor
  · intro h1
    by_cases c : x.2 = v.2
    · by_cases d : x.1 = v.1
      · exact absurd (Prod.ext d c) h
      · omega
    · omega
  · omega
/-- a sharp fold lies on one stretch or the other -/
theorem fold_on {v x y : P2} (h : Fold v x y) (hx : x ≠ v) (hy : y ≠ v) : On v x y ∨ On y v x := by
  obtain ⟨h1, h2⟩ := h
  have hc : (v.1 - x.1) * (y.2 - x.2) = (v.2 - x.2) * (y.1 - x.1) := by unfold side at h1; grind
  by_cases u : Up v x
  · have u2 := h2.mp u
    unfold Up at u u2
    by_cases l : x.2 = v.2
    · have l2 : y.2 = v.2 := by
        have e : (y.2 - v.2) * (v.1 - x.1) = 0 := by unfold side at h1; grind
        have := zero_l e (by omega)
        omega
      by_cases c : x.1 ≤ y.1
      · exact .inl (on_level (by omega) (by omega) (.inr (by omega)))
      · exact .inr (on_level (by omega) (by omega) (.inl (by omega)))
    · have g : v.2 < y.2 := by
        rcases u2 with g | g
        · exact g
        · have e : (v.1 - y.1) * (x.2 - v.2) = 0 := by unfold side at h1; grind
          have := zero_l e (by omega)
          omega
      by_cases c : y.2 ≤ x.2
      · exact .inl (on_height h1 (.inl (by omega)))
      · refine .inr (On_swap.mp (on_height (a := v) (b := y) (by rw [side_flip]; omega) (.inl (by omega))))
  · have u2 : ¬ Up v y := fun z => u (h2.mpr z)
    rw [up_ne hx] at u
    rw [up_ne hy] at u2
    by_cases l : x.2 = v.2
    · have l2 : y.2 = v.2 := by
        have e : (y.2 - v.2) * (x.1 - v.1) = 0 := by unfold side at h1; grind
        have := zero_l e (by omega)
        omega
      by_cases c : y.1 ≤ x.1
      · exact .inl (on_level (by omega) (by omega) (.inl (by omega)))
      · exact .inr (on_level (by omega) (by omega) (.inr (by omega)))
    · have g : y.2 < v.2 := by
        rcases u2 with g | g
        · exact g
        · have e : (y.1 - v.1) * (v.2 - x.2) = 0 := by unfold side at h1; grind
          have := zero_l e (by omega)
          omega
      by_cases c : x.2 ≤ y.2
      · exact .inl (on_height h1 (.inr (by omega)))
      · refine .inr (On_swap.mp (on_height (a := v) (b := y) (by rw [side_flip]; omega) (.inr (by omega))))
theorem Fold.symm {v x y : P2} (h : Fold v x y) : Fold v y x := ⟨by rw [side_flip, h.1]; rfl, h.2.symm⟩

/-! ### the turn begins: from x by a on to b -/
theorem start_w {x a b : P2} (hab : b ≠ a) (hxa : x ≠ a) (hf : ¬ Fold a x b) : gw a b x - cw x a b = dw x a b - b2n (decide (¬ Up a b)) := by
  have e0 : side x a b = side a b x := side_turn x a b
  have e1 : side a x b = - side a b x := side_flip a b x
  unfold Fold at hf
  rw [e1] at hf
  have hf : ¬ (side a b x = 0 ∧ (Up a x ↔ Up a b)) := fun z => hf ⟨by rw [z.1]; rfl, z.2⟩
  have hB : Be a x b ↔ ((Up a x ∧ ¬ Up a b) ∨ ((Up a x ↔ Up a b) ∧ 0 < -side a b x)) := by unfold Be; rw [e1]
  unfold gw cw dw
  rw [e0, b2n_c hB]
  clear hB e0 e1
  have ua := up_ne hab
  have ux := up_ne hxa
  rcases Int.lt_trichotomy a.2 b.2 with h | h | h
  · have U : Up a b := .inl h
    have key : x.2 = a.2 → x.1 < a.1 → 0 < side a b x := fun p q => by
      have : side a b x = (b.2 - a.2) * (a.1 - x.1) := by unfold side; rw [p]; grind
      rw [this]
      exact mul_pp (by omega) (by omega)
    rw [b2n_f (show ¬ (b.2 < x.2 ∧ x.2 ≤ a.2 ∧ 0 < side a b x) by omega), b2n_f (show ¬ (x.2 ≤ b.2 ∧ b.2 < a.2 ∧ 0 < side a b x) by omega), b2n_f (show ¬¬ Up a b from fun z => z U)]
    by_cases c : a.2 < x.2 ∧ side a b x < 0
    · have ux1 : Up a x := .inl c.1
      rw [b2n_t (show ((Up a x ∧ ¬ Up a b) ∨ ((Up a x ↔ Up a b) ∧ 0 < -side a b x)) from .inr ⟨⟨fun _ => U, fun _ => ux1⟩, by omega⟩)]
      by_cases d : x.2 ≤ b.2
      · rw [b2n_t ⟨c.1, d, c.2⟩, b2n_f (show ¬ (a.2 ≤ b.2 ∧ b.2 < x.2 ∧ side a b x < 0) by omega)]; rfl
      · rw [b2n_f (show ¬ (a.2 < x.2 ∧ x.2 ≤ b.2 ∧ side a b x < 0) by omega), b2n_t (show (a.2 ≤ b.2 ∧ b.2 < x.2 ∧ side a b x < 0) by omega)]; rfl
    · rw [b2n_f (show ¬ (a.2 < x.2 ∧ x.2 ≤ b.2 ∧ side a b x < 0) by omega), b2n_f (show ¬ (a.2 ≤ b.2 ∧ b.2 < x.2 ∧ side a b x < 0) by omega), b2n_f]; · rfl
      rintro (⟨_, z⟩ | ⟨z, z2⟩)
      · exact z U
      · have ux1 := z.mpr U
        unfold Up at ux1
        rcases ux1 with w | w
        · omega
        · have := key w.1 w.2
          omega
  · have e : side a b x = (b.1 - a.1) * (x.2 - a.2) := by unfold side; rw [h]; grind
    rw [b2n_f (show ¬ (a.2 < x.2 ∧ x.2 ≤ b.2 ∧ side a b x < 0) by omega), b2n_f (show ¬ (b.2 < x.2 ∧ x.2 ≤ a.2 ∧ 0 < side a b x) by omega), b2n_f (show ¬ (x.2 ≤ b.2 ∧ b.2 < a.2 ∧ 0 < side a b x) by omega)]
    by_cases d : b.1 < a.1
    · have U : Up a b := .inr ⟨by omega, d⟩
      rw [b2n_f (show ¬¬ Up a b from fun z => z U)]
      have s1 : a.2 < x.2 ↔ side a b x < 0 := by
        rw [e]
        constructor
        · intro z; exact mul_np (by omega) (by omega)
        · intro z
          rcases Int.lt_or_le a.2 x.2 with w | w
          · exact w
          · have := mul_nn (show 0 ≤ a.1 - b.1 by omega) (show 0 ≤ a.2 - x.2 by omega)
            have e2 : (a.1 - b.1) * (a.2 - x.2) = (b.1 - a.1) * (x.2 - a.2) := by grind
            omega
      have : ((Up a x ∧ ¬ Up a b) ∨ ((Up a x ↔ Up a b) ∧ 0 < -side a b x)) ↔ (a.2 ≤ b.2 ∧ b.2 < x.2 ∧ side a b x < 0) := by
        constructor
        · rintro (⟨_, z⟩ | ⟨z, z2⟩)
          · exact absurd U z
          · omega
        · intro z
          exact .inr ⟨⟨fun _ => U, fun _ => .inl (by omega)⟩, by omega⟩
      rw [b2n_c this]
      omega
    · have dd : a.1 < b.1 := by
        have : a.1 ≠ b.1 := fun z => hab (Prod.ext z.symm h.symm)
        omega
      have nU : ¬ Up a b := by unfold Up; omega
      rw [b2n_t nU]
      have s1 : x.2 < a.2 → side a b x < 0 := fun z => by
        rw [e]; exact mul_pn (by omega) (by omega)
      have s2 : a.2 < x.2 → 0 < side a b x := fun z => by
        rw [e]; exact mul_pp (by omega) (by omega)
      have s3 : a.2 = x.2 → side a b x = 0 := fun z => by rw [e, z]; simp
      have t : ((Up a x ∧ ¬ Up a b) ∨ ((Up a x ↔ Up a b) ∧ 0 < -side a b x)) := by
        by_cases g : Up a x
        · exact .inl ⟨g, nU⟩
        · refine .inr ⟨⟨fun z => absurd z g, fun z => absurd z nU⟩, ?_⟩
          rw [ux] at g
          rcases g with g | g
          · have := s1 g; omega
          · refine absurd ⟨s3 g.1.symm, ⟨fun z => absurd z (ux.mpr (.inr g)), fun z => absurd z nU⟩⟩ hf
      rw [b2n_t t, b2n_f]
      · rfl
      · rintro ⟨_, z, z2⟩
        have := s2 (by omega)
        omega
  · have nU : ¬ Up a b := by unfold Up; omega
    rw [b2n_t nU, b2n_f (show ¬ (a.2 < x.2 ∧ x.2 ≤ b.2 ∧ side a b x < 0) by omega), b2n_f (show ¬ (a.2 ≤ b.2 ∧ b.2 < x.2 ∧ side a b x < 0) by omega)]
    have k1 : ((Up a x ∧ ¬ Up a b) ∨ ((Up a x ↔ Up a b) ∧ 0 < -side a b x)) ↔ ¬ (x.2 ≤ a.2 ∧ 0 < side a b x) := by
      have q : x.2 = a.2 → a.1 ≠ x.1 := fun p z => hxa (Prod.ext z.symm p)
      have e3 : x.2 = a.2 → side a b x = (a.2 - b.2) * (x.1 - a.1) := fun p => by unfold side; rw [p]; grind
      constructor
      · rintro (⟨z, _⟩ | ⟨z, z2⟩)
        · rintro ⟨w1, w2⟩
          unfold Up at z
          rcases z with z | z
          · omega
          · rw [e3 z.1] at w2
            have := mul_pn (show 0 < a.2 - b.2 by omega) (show x.1 - a.1 < 0 by omega)
            omega
        · omega
      · intro z
        by_cases g : Up a x
        · exact .inl ⟨g, nU⟩
        · refine .inr ⟨⟨fun z => absurd z g, fun z => absurd z nU⟩, ?_⟩
          have g2 := ux.mp g
          have : side a b x ≠ 0 := fun w => hf ⟨w, ⟨fun z => absurd z g, fun z => absurd z nU⟩⟩
          omega
    by_cases c : x.2 ≤ a.2 ∧ 0 < side a b x
    · rw [b2n_f (fun z => k1.mp z c)]
      by_cases d : b.2 < x.2
      · rw [b2n_t ⟨d, c⟩, b2n_f (show ¬ (x.2 ≤ b.2 ∧ b.2 < a.2 ∧ 0 < side a b x) by omega)]; rfl
      · rw [b2n_f (show ¬ (b.2 < x.2 ∧ x.2 ≤ a.2 ∧ 0 < side a b x) by omega), b2n_t (show (x.2 ≤ b.2 ∧ b.2 < a.2 ∧ 0 < side a b x) by omega)]; rfl
    · rw [b2n_t (k1.mpr c), b2n_f (show ¬ (b.2 < x.2 ∧ x.2 ≤ a.2 ∧ 0 < side a b x) by omega), b2n_f (show ¬ (x.2 ≤ b.2 ∧ b.2 < a.2 ∧ 0 < side a b x) by omega)]; rfl
/-- and ends: from a by b on to z -/
theorem end_w {a b z : P2} (hab : a ≠ b) (hz : z ≠ b) (hf : ¬ Fold b a z) : gw a b z - cw b z a = dw a b z - b2n (decide (¬ Up a b)) := by
  -- the way back: from z by b on to a
  have h := start_w (x := z) (a := b) (b := a) hab hz (fun w => hf w.symm)
  rw [gw_swap a b z, cw_swap b z a] at h
  have d : dw z b a + dw a b z = 1 := by
    unfold dw
    have e : Be b z a ↔ ¬ Be b a z := by
      unfold Be
      unfold Fold at hf
      rw [side_flip b a z]
      by_cases p : Up b a <;> by_cases q : Up b z <;> simp [p, q] at hf ⊢ <;> omega
    rw [b2n_c e]
    by_cases c : Be b a z
    · rw [b2n_f (fun w => w c), b2n_t c]; rfl
    · rw [b2n_t c, b2n_f c]; rfl
  have u : b2n (decide (¬ Up b a)) + b2n (decide (¬ Up a b)) = 1 := by
    have e : ¬ Up b a ↔ Up a b := by
      rw [up_ne hab]
      unfold Up
      omega
    rw [b2n_c e]
    by_cases c : Up a b
    · rw [b2n_t c, b2n_f (fun w => w c)]; rfl
    · rw [b2n_f c, b2n_t c]; rfl
  omega
end MT

set_option Elab.async false
set_option linter.all false
set_option maxRecDepth 100000
set_option maxHeartbeats 4000000
/-! Walls that have no points in common but corners: the value at their left is the same all round. -/
namespace MT
open DL
/-! ### sums -/
def su (f : Nat → Int) : Nat → Int
  | 0 => 0
  | n + 1 => su f n + f n
theorem su_ext {f g : Nat → Int} : ∀ {n : Nat}, (∀ k, k < n → f k = g k) → su f n = su g n
  | 0, _ => rfl
  | n + 1, h => by rw [su, su, su_ext fun k hk => h k (by omega), h n (by omega)]
theorem su_add (f g : Nat → Int) : ∀ n, su (fun k => f k + g k) n = su f n + su g n
  | 0 => rfl
  | n + 1 => by rw [su, su, su, su_add f g n]; omega
theorem su_sub (f g : Nat → Int) : ∀ n, su (fun k => f k - g k) n = su f n - su g n
  | 0 => rfl
  | n + 1 => by rw [su, su, su, su_sub f g n]; omega
theorem su_cut (f : Nat → Int) (a : Nat) : ∀ b, su f (a + b) = su f a + su (fun k => f (a + k)) b
  | 0 => by simp [su]
  | b + 1 => by rw [← Nat.add_assoc, su, su, su_cut f a b]; omega
theorem su_zero {f : Nat → Int} : ∀ {n : Nat}, (∀ k, k < n → f k = 0) → su f n = 0
  | 0, _ => rfl
  | n + 1, h => by rw [su, su_zero fun k hk => h k (by omega), h n (by omega)]; rfl
theorem su_one {f : Nat → Int} {i : Nat} : ∀ {n : Nat}, i < n → (∀ k, k < n → k ≠ i → f k = 0) → su f n = f i
  | 0, h, _ => by omega
  | n + 1, h, h2 => by
    rw [su]
    by_cases c : i = n
    · subst c
      rw [su_zero fun k hk => h2 k (by omega) (by omega)]
      omega
    · rw [su_one (by omega) fun k hk => h2 k (by omega), h2 n (by omega) (by omega)]
      omega
theorem su_three {f : Nat → Int} {i j l n : Nat} (hi : i < n) (hj : j < n) (hl : l < n) (hij : i ≠ j) (hil : i ≠ l) (hjl : j ≠ l) (h : ∀ k, k < n → k ≠ i → k ≠ j → k ≠ l → f k = 0) : su f n = f i + f j + f l := by
  have e : su f n = su (fun k => ((if k = i then f i else 0) + (if k = j then f j else 0)) + (if k = l then f l else 0)) n := su_ext fun k hk => by
    by_cases c1 : k = i
    · subst c1
      simp [hij, hil]
    · by_cases c2 : k = j
      · subst c2
        simp [c1, hjl]
      · by_cases c3 : k = l
        · subst c3
          simp [c1, c2]
        · rw [h k hk c1 c2 c3]
          simp [c1, c2, c3]
  rw [e, su_add, su_add, su_one hi fun k _ hk => by simp [hk], su_one hj fun k _ hk => by simp [hk], su_one hl fun k _ hk => by simp [hk]]
  simp
/-! ### round -/
def nxt (n k : Nat) : Nat := if k + 1 = n then 0 else k + 1
def prv (n k : Nat) : Nat := if k = 0 then n - 1 else k - 1
theorem nxt_lt {n k : Nat} (h : k < n) : nxt n k < n := by unfold nxt; split <;> omega
theorem prv_lt {n k : Nat} (h : k < n) : prv n k < n := by unfold prv; split <;> omega
theorem nxt_prv {n k : Nat} (h : k < n) : nxt n (prv n k) = k := by unfold nxt prv; split <;> split <;> omega
theorem prv_nxt {n k : Nat} (h : k < n) : prv n (nxt n k) = k := by unfold nxt prv; split <;> split <;> omega
theorem su_nxt (f : Nat → Int) : ∀ {n : Nat}, 0 < n → su (fun k => f (nxt n k)) n = su f n
  | 0, h => by omega
  | n + 1, h => by
    have e : ∀ m, su f (m + 1) = f 0 + su (fun k => f (k + 1)) m := fun m => by
      rw [Nat.add_comm m 1, su_cut f 1 m]
      simp only [su]
      rw [show (fun k => f (1 + k)) = fun k => f (k + 1) from funext fun k => by rw [Nat.add_comm]]
      omega
    rw [su, e n, su_ext (g := fun k => f (k + 1)) fun k hk => by unfold nxt; rw [if_neg (by omega)]]
    unfold nxt
    rw [if_pos rfl]
    omega
/-- a sum over walls -/
def cyc (f : P2 → P2 → Int) (n : Nat) (p : Nat → P2) : Int := su (fun k => f (p k) (p (nxt n k))) n
def wn (n : Nat) (p : Nat → P2) (q : P2) : Int := cyc (fun a b => cw a b q) n p
theorem cyc_tele (g : P2 → Int) {n : Nat} {p : Nat → P2} (h : 0 < n) : cyc (fun a b => g a - g b) n p = 0 := by
  unfold cyc
  rw [su_sub, su_nxt (fun k => g (p k)) h]
  omega
theorem cyc_sub (f g : P2 → P2 → Int) (n : Nat) (p : Nat → P2) : cyc (fun a b => f a b - g a b) n p = cyc f n p - cyc g n p := su_sub _ _ n
theorem tele {n : Nat} {p : Nat → P2} (u v : P2) (g : P2 → Int) (h : 0 < n) : wn n p v - wn n p u = su (fun j => (cw (p j) (p (nxt n j)) v - cw (p j) (p (nxt n j)) u) - (g (p j) - g (p (nxt n j)))) n := by
  have e1 := su_sub (fun j => cw (p j) (p (nxt n j)) v - cw (p j) (p (nxt n j)) u) (fun j => g (p j) - g (p (nxt n j))) n
  have e2 := su_sub (fun j => cw (p j) (p (nxt n j)) v) (fun j => cw (p j) (p (nxt n j)) u) n
  have e3 : su (fun j => g (p j) - g (p (nxt n j))) n = 0 := cyc_tele g h
  have e4 : wn n p v = su (fun j => cw (p j) (p (nxt n j)) v) n := rfl
  have e5 : wn n p u = su (fun j => cw (p j) (p (nxt n j)) u) n := rfl
  omega
structure Sim (n : Nat) (p : Nat → P2) : Prop where
  n3 : 3 ≤ n
  on : ∀ k m, k < n → m < n → m ≠ k → m ≠ nxt n k → ¬ On (p k) (p (nxt n k)) (p m)
  cr : ∀ k j, k < n → j < n → ¬ Cross (p k) (p (nxt n k)) (p j) (p (nxt n j))
theorem on_end (a b : P2) : On a b b := On_swap.mp (on_start b a)
section
variable {n : Nat} {p : Nat → P2}
theorem nxt_ne {k : Nat} (h : 3 ≤ n) (hk : k < n) : nxt n k ≠ k ∧ nxt n (nxt n k) ≠ k ∧ nxt n (nxt n k) ≠ nxt n k := by
  unfold nxt
  split <;> split <;> omega
theorem prv_ne {k : Nat} (h : 3 ≤ n) (hk : k < n) : prv n k ≠ k ∧ prv n k ≠ nxt n k := by
  unfold nxt prv
  split <;> split <;> omega
theorem nxt_inj {j k : Nat} (hj : j < n) (hk : k < n) (h : nxt n j = nxt n k) : j = k := by
  rw [← prv_nxt hj, ← prv_nxt hk, h]
theorem Sim.ne (h : Sim n p) {k m : Nat} (hk : k < n) (hm : m < n) (hkm : k ≠ m) : p k ≠ p m := by
  intro e
  by_cases c : m = nxt n k
  · have hn := nxt_ne h.n3 hk
    refine h.on m k hm hk hkm (by rw [c]; exact fun z => hn.2.1 z.symm) ?_
    rw [e]
    exact on_start _ _
  · refine h.on k m hk hm (fun z => hkm z.symm) c ?_
    rw [← e]
    exact on_start _ _
theorem Sim.off (h : Sim n p) {k j : Nat} (hk : k < n) (hj : j < n) (h1 : j ≠ k) (h2 : j ≠ nxt n k) (h3 : j ≠ prv n k) : Off (p j) (p (nxt n j)) (p k) (p (nxt n k)) := by
  have hk' := nxt_lt hk
  have hj' := nxt_lt hj
  have a1 : nxt n j ≠ k := fun z => h3 (by rw [← z, prv_nxt hj])
  have a2 : nxt n j ≠ nxt n k := fun z => h1 (nxt_inj hj hk z)
  exact ⟨h.on k j hk hj h1 h2, h.on k _ hk hj' a1 a2, h.on j k hj hk (fun z => h1 z.symm) (fun z => a1 z.symm), h.on j _ hj hk' (fun z => h2 z.symm) (fun z => a2 z.symm), h.cr j k hj hk⟩
theorem Sim.fold (h : Sim n p) {k : Nat} (hk : k < n) : ¬ Fold (p k) (p (prv n k)) (p (nxt n k)) := by
  intro z
  have e := nxt_prv hk
  have n1 := prv_ne h.n3 hk
  have n2 := nxt_ne h.n3 hk
  rcases fold_on z (h.ne (prv_lt hk) hk n1.1) (h.ne (nxt_lt hk) hk n2.1) with w | w
  · refine h.on (prv n k) (nxt n k) (prv_lt hk) (nxt_lt hk) (fun z => n1.2 z.symm) (by rw [e]; exact n2.1) ?_
    rw [e]
    exact On_swap.mp w
  · exact h.on k (prv n k) hk (prv_lt hk) n1.1 n1.2 (On_swap.mp w)
theorem cw_a (a b : P2) : cw a b a = 0 := by
  unfold cw
  rw [side_eq1, b2n_f (by omega), b2n_f (by omega)]
  rfl
theorem cw_b (a b : P2) : cw a b b = 0 := by rw [← Int.neg_neg (cw a b b), ← cw_swap, cw_a]; rfl
theorem gw_a {a b : P2} : gw a b a = 0 := by
  unfold gw
  rw [side_eq1, b2n_f (by omega), b2n_f (by omega)]
  rfl
theorem gw_line {a b x : P2} (h : side a b x = 0) : gw a b x = 0 := by
  unfold gw
  rw [h, b2n_f (by omega), b2n_f (by omega)]
  rfl
/-- from a corner to the next one -/
theorem Sim.step (h : Sim n p) {k : Nat} (hk : k < n) : wn n p (p (nxt n k)) - dw (p k) (p (nxt n k)) (p (nxt n (nxt n k))) = wn n p (p k) - dw (p (prv n k)) (p k) (p (nxt n k)) := by
  have hk' := nxt_lt hk
  have n1 := prv_ne h.n3 hk
  have n2 := nxt_ne h.n3 hk
  have t := tele (p := p) (p k) (p (nxt n k)) (gw (p k) (p (nxt n k))) (show 0 < n by have := h.n3; omega)
  have s := su_three (f := fun j => (cw (p j) (p (nxt n j)) (p (nxt n k)) - cw (p j) (p (nxt n j)) (p k)) - (gw (p k) (p (nxt n k)) (p j) - gw (p k) (p (nxt n k)) (p (nxt n j)))) (prv_lt hk) hk hk' n1.1 n1.2 (fun z => n2.1 z.symm) fun j hj a1 a2 a3 => by
    have := jump (h.off hk hj a2 a3 a1)
    omega
  have ea : p k ≠ p (nxt n k) := h.ne hk hk' (fun z => n2.1 z.symm)
  have f1 := h.fold hk
  have f2 := h.fold hk'
  rw [prv_nxt hk] at f2
  have w1 := start_w (x := p (prv n k)) (fun z => ea z.symm) (h.ne (prv_lt hk) hk n1.1) f1
  have w2 := end_w (z := p (nxt n (nxt n k))) ea (h.ne (nxt_lt hk') hk' n2.2.2) f2
  rw [nxt_prv hk] at s
  have z1 := cw_a (p k) (p (nxt n k))
  have z2 := cw_b (p k) (p (nxt n k))
  have z3 := cw_b (p (prv n k)) (p k)
  have z4 := cw_a (p (nxt n k)) (p (nxt n (nxt n k)))
  have z5 := gw_a (a := p k) (b := p (nxt n k))
  have z6 := gw_line (side_eq0 (p k) (p (nxt n k)))
  omega
/-- the value at the left -/
def lam (n : Nat) (p : Nat → P2) : Int := wn n p (p 0) + 1 - dw (p (prv n 0)) (p 0) (p (nxt n 0))
theorem Sim.lam (h : Sim n p) : ∀ k, k < n → wn n p (p k) = lam n p - 1 + dw (p (prv n k)) (p k) (p (nxt n k))
  | 0, _ => by unfold MT.lam; omega
  | k + 1, hk => by
    have ih := h.lam k (by omega)
    have s := h.step (k := k) (by omega)
    have e : nxt n k = k + 1 := by unfold nxt; rw [if_neg (by omega)]
    have e2 : prv n (k + 1) = k := by unfold prv; simp
    rw [e] at s ih
    rw [e2]
    omega
/-- a corner above all -/
theorem top_ex (p : Nat → P2) : ∀ n, 0 < n → ∃ k, k < n ∧ ∀ m, m < n → ¬ Up (p k) (p m)
  | 0, h => by omega
  | n + 1, _ => by
    by_cases c : n = 0
    · subst c
      refine ⟨0, by omega, fun m hm => ?_⟩
      have : m = 0 := by omega
      subst this
      unfold Up
      omega
    · obtain ⟨k, hk, h⟩ := top_ex p n (by omega)
      by_cases d : Up (p k) (p n)
      · refine ⟨n, by omega, fun m hm => ?_⟩
        by_cases g : m = n
        · subst g
          unfold Up
          omega
        · have := h m (by omega)
          unfold Up at *
          omega
      · refine ⟨k, by omega, fun m hm => ?_⟩
        by_cases g : m = n
        · subst g
          exact d
        · exact h m (by omega)
theorem wn_top {k : Nat} (h : ∀ m, m < n → ¬ Up (p k) (p m)) : wn n p (p k) = 0 := by
  unfold wn cyc
  refine su_zero fun j hj => ?_
  have h1 := h j hj
  have h2 := h (nxt n j) (nxt_lt hj)
  unfold Up at h1 h2
  show cw (p j) (p (nxt n j)) (p k) = 0
  unfold cw
  rw [b2n_f (by omega), b2n_f (by omega)]
  rfl
theorem dw_01 (x v y : P2) : dw x v y = 0 ∨ dw x v y = 1 := b2n_01
theorem Sim.lam01 (h : Sim n p) : MT.lam n p = 0 ∨ MT.lam n p = 1 := by
  obtain ⟨k, hk, ht⟩ := top_ex p n (by have := h.n3; omega)
  have e := h.lam k hk
  rw [wn_top ht] at e
  have := dw_01 (p (prv n k)) (p k) (p (nxt n k))
  omega
/-- a way that has no point of any wall -/
theorem wn_const {u v : P2} (hn : 0 < n) (h : ∀ k, k < n → Off (p k) (p (nxt n k)) u v) : wn n p v = wn n p u := by
  have t := tele (p := p) u v (gw u v) hn
  rw [su_zero fun k hk => by
    have := jump (h k hk)
    omega] at t
  omega
end
/-! ### a point of two stretches -/
theorem Par.flip {a b r : P2} {m n : Int} (h : Par a b r m n) : Par b a r (n - m) n := ⟨h.n0, by have := h.mn; omega, by have := h.m0; omega, by have := h.x; grind, by have := h.y; grind⟩
theorem up_par {a b r : P2} {m n : Int} (h : Par a b r m n) (hm : 0 < m) : Up a r ↔ Up a b := by
  have hx : n * (r.1 - a.1) = m * (b.1 - a.1) := by have := h.x; grind
  have hy : n * (r.2 - a.2) = m * (b.2 - a.2) := by have := h.y; grind
  have s1 := same_sign (A := r.1 - a.1) (B := b.1 - a.1) (d := n) (n := m) (by grind) h.n0 hm
  have s2 := same_sign (A := r.2 - a.2) (B := b.2 - a.2) (d := n) (n := m) (by grind) h.n0 hm
  unfold Up
  omega
theorem dw_par {x a b r : P2} {m n : Int} (h : Par a b r m n) (hm : 0 < m) : dw x a r = dw x a b := by
  have u := up_par h hm
  have e : n * side a x r = m * side a x b := by
    rw [h.side a x, side_eq1]
    simp
  have s := same_sign (A := side a x r) (B := side a x b) (d := n) (n := m) (by grind) h.n0 hm
  unfold dw
  refine b2n_c ?_
  unfold Be
  rw [u, s.1]
/-- beyond b no point of a, b comes again -/
theorem fold_of {a b z r : P2} (hab : a ≠ b) (hbz : z ≠ b) (h1 : On a b r) (h2 : On b z r) (hr : r ≠ b) : Fold b a z := by
  obtain ⟨m, n, q⟩ := (On_swap.mp h1).par (fun w => hab w.symm)
  obtain ⟨m2, n2, q2⟩ := h2.par (fun w => hbz w.symm)
  have hm := q.m_pos hr
  have hm2 := q2.m_pos hr
  refine ⟨?_, (up_par q hm).symm.trans (up_par q2 hm2)⟩
  have e1 := q.side1 z
  have e2 : side b r z = 0 := by
    have := h2.1
    rw [side_flip] at this
    omega
  rw [e2] at e1
  rw [Int.mul_comm m] at e1
  exact zero_l (by omega) hm
theorem On.trans {a b r s : P2} (hab : a ≠ b) (har : a ≠ r) (h1 : On a b r) (h2 : On a r s) : On a b s := by
  obtain ⟨m, n, q⟩ := h1.par hab
  obtain ⟨m2, n2, q2⟩ := h2.par har
  have e1 := q.x
  have e2 := q.y
  have e3 := q2.x
  have e4 := q2.y
  refine Par.on (m := m2 * m) (n := n2 * n) ⟨mul_pp q2.n0 q.n0, mul_nn q2.m0 q.m0, Int.mul_le_mul q2.mn q.mn q.m0 (by have := q2.n0; omega), ?_, ?_⟩
  · have : n2 * n * s.1 = n * (n2 * s.1) := by grind
    rw [this, e3]
    have : n * ((n2 - m2) * a.1 + m2 * r.1) = n * (n2 - m2) * a.1 + m2 * (n * r.1) := by grind
    rw [this, e1]
    grind
  · have : n2 * n * s.2 = n * (n2 * s.2) := by grind
    rw [this, e4]
    have : n * ((n2 - m2) * a.2 + m2 * r.2) = n * (n2 - m2) * a.2 + m2 * (n * r.2) := by grind
    rw [this, e2]
    grind
/-- signs of the ends by a point of the line -/
theorem par_zero {a b r s t : P2} (h : On a b r) (hab : a ≠ b) (hz : side s t r = 0) (hra : r ≠ a) (hrb : r ≠ b) : (0 < side s t a ∧ side s t b < 0) ∨ (side s t a < 0 ∧ 0 < side s t b) ∨ (side s t a = 0 ∧ side s t b = 0) := by
  obtain ⟨m, n, q⟩ := h.par hab
  have hm := q.m_pos hra
  have hn := q.m_lt hrb
  have e := q.side s t
  rw [hz] at e
  have hnm : 0 < n - m := by omega
  rcases Int.lt_trichotomy (side s t a) 0 with h1 | h1 | h1
  · rcases Int.lt_or_le 0 (side s t b) with h2 | h2
    · exact .inr (.inl ⟨h1, h2⟩)
    · have a1 := mul_pn hnm h1
      have a2 := mul_nn (show 0 ≤ m by omega) (show 0 ≤ -side s t b by omega)
      rw [Int.mul_neg] at a2
      omega
  · rw [h1] at e
    have : side s t b * m = 0 := by rw [Int.mul_comm]; omega
    exact .inr (.inr ⟨h1, zero_l this hm⟩)
  · rcases Int.lt_or_le (side s t b) 0 with h2 | h2
    · exact .inl ⟨h1, h2⟩
    · have a1 := mul_pp hnm h1
      have a2 := mul_nn (show 0 ≤ m by omega) h2
      omega
theorem on_line {a b t : P2} (hab : a ≠ b) (h : side a b t = 0) (hx : min a.1 b.1 ≤ t.1 ∧ t.1 ≤ max a.1 b.1) (hy : min a.2 b.2 ≤ t.2 ∧ t.2 ≤ max a.2 b.2) : On a b t := ⟨h, hx, hy⟩
theorem line_trans {a b s t : P2} (hab : a ≠ b) (h1 : side a b s = 0) (h2 : side a b t = 0) : side s t a = 0 ∧ side s t b = 0 := by
  have key : ∀ c d : P2, side a b c = 0 → side a b d = 0 → side c d a = 0 := fun c d e1 e2 => by
    have k1 : side c d a * (b.1 - a.1) = 0 := by unfold side at *; grind
    have k2 : side c d a * (b.2 - a.2) = 0 := by unfold side at *; grind
    by_cases x : b.1 = a.1
    · by_cases y : b.2 = a.2
      · exact absurd (Prod.ext x.symm y.symm) hab
      · rcases Int.mul_eq_zero.mp k2 with z | z
        · exact z
        · omega
    · rcases Int.mul_eq_zero.mp k1 with z | z
      · exact z
      · omega
  refine ⟨key s t h1 h2, ?_⟩
  have e := four1 s t a b
  have := key s t h1 h2
  omega
/-- where two stretches have a point in common, they meet -/
theorem meet_of {s t a b r : P2} (hst : s ≠ t) (hab : a ≠ b) (h1 : On s t r) (h2 : On a b r) : Meet s t a b := by
  by_cases r1 : r = s
  · exact .inr (.inr (.inl (by rw [← r1]; exact h2)))
  by_cases r2 : r = t
  · exact .inr (.inr (.inr (.inl (by rw [← r2]; exact h2))))
  by_cases r3 : r = a
  · exact .inl (by rw [← r3]; exact h1)
  by_cases r4 : r = b
  · exact .inr (.inl (by rw [← r4]; exact h1))
  have k1 := par_zero h2 hab h1.1 r3 r4
  have k2 := par_zero h1 hst h2.1 r1 r2
  have all0 : side a b s = 0 → side a b t = 0 → Meet s t a b := fun e1 e2 => by
    have e3 := line_trans hab e1 e2
    have x1 := h1.2.1
    have x2 := h2.2.1
    have y1 := h1.2.2
    have y2 := h2.2.2
    -- one coordinate tells them apart
    by_cases hx : a.1 = b.1
    · have hy : a.2 ≠ b.2 := fun w => hab (Prod.ext hx w)
      have sx : s.1 = a.1 := by
        unfold side at e1
        have : (b.2 - a.2) * (s.1 - a.1) = 0 := by rw [hx] at e1 ⊢; grind
        rcases Int.mul_eq_zero.mp this with w | w <;> omega
      have tx : t.1 = a.1 := by
        unfold side at e2
        have : (b.2 - a.2) * (t.1 - a.1) = 0 := by rw [hx] at e2 ⊢; grind
        rcases Int.mul_eq_zero.mp this with w | w <;> omega
      by_cases c1 : min a.2 b.2 ≤ s.2 ∧ s.2 ≤ max a.2 b.2
      · exact .inr (.inr (.inl ⟨e1, by omega, c1⟩))
      · by_cases c2 : min s.2 t.2 ≤ a.2 ∧ a.2 ≤ max s.2 t.2
        · exact .inl ⟨e3.1, by omega, c2⟩
        · exact .inr (.inl ⟨e3.2, by omega, by omega⟩)
    · -- heights follow the way across
      have on_x : ∀ c d e : P2, c.1 ≠ d.1 → side c d e = 0 → (min c.1 d.1 ≤ e.1 ∧ e.1 ≤ max c.1 d.1) → On c d e := fun c d e g0 g1 g2 => by
        unfold side at g1
        rcases Int.lt_or_gt_of_ne g0 with hl | hl
        · exact Par.on (m := e.1 - c.1) (n := d.1 - c.1) ⟨by omega, by omega, by omega, by grind, by grind⟩
        · exact Par.on (m := c.1 - e.1) (n := c.1 - d.1) ⟨by omega, by omega, by omega, by grind, by grind⟩
      have hs : s.1 ≠ t.1 := fun w => by
        have rx : r.1 = s.1 := by omega
        have sy : s.2 ≠ t.2 := fun w2 => hst (Prod.ext w w2)
        have : (b.1 - a.1) * (s.2 - t.2) = 0 := by
          unfold side at e1 e2
          rw [← w] at e2
          grind
        rcases Int.mul_eq_zero.mp this with w3 | w3 <;> omega
      by_cases c1 : min a.1 b.1 ≤ s.1 ∧ s.1 ≤ max a.1 b.1
      · exact .inr (.inr (.inl (on_x _ _ _ hx e1 c1)))
      · by_cases c2 : min s.1 t.1 ≤ a.1 ∧ a.1 ≤ max s.1 t.1
        · exact .inl (on_x _ _ _ hs e3.1 c2)
        · exact .inr (.inl (on_x _ _ _ hs e3.2 (by omega)))
  rcases k2 with k2 | k2 | k2
  · rcases k1 with k1 | k1 | k1
    · exact .inr (.inr (.inr (.inr ⟨.inl k1, .inl k2⟩)))
    · exact .inr (.inr (.inr (.inr ⟨.inr k1, .inl k2⟩)))
    · have := line_trans hst k1.1 k1.2
      omega
  · rcases k1 with k1 | k1 | k1
    · exact .inr (.inr (.inr (.inr ⟨.inl k1, .inr k2⟩)))
    · exact .inr (.inr (.inr (.inr ⟨.inr k1, .inr k2⟩)))
    · have := line_trans hst k1.1 k1.2
      omega
  · exact all0 k2.1 k2.2
/-- a wall off a stretch is off its parts -/
theorem Off.sub {s t a b r : P2} (h : Off s t a b) (hst : s ≠ t) (hab : a ≠ b) (hr : On a b r) (hra : r ≠ a) : Off s t a r := by
  refine ⟨fun z => h.os (hr.trans hab (fun w => hra w.symm) z), fun z => h.ot (hr.trans hab (fun w => hra w.symm) z), h.ou, fun z => (off_iff.mp h) (meet_of hst hab z hr), fun z => ?_⟩
  obtain ⟨m, n, q⟩ := hr.par hab
  have hm := q.m_pos hra
  have e1 := q.side1 s
  have e2 := q.side1 t
  have e3 := q.side s t
  have s1 := same_sign (A := side a r s) (B := side a b s) (d := n) (n := m) (by grind) q.n0 hm
  have s2 := same_sign (A := side a r t) (B := side a b t) (d := n) (n := m) (by grind) q.n0 hm
  unfold Cross at z
  rw [s1.1, s1.2, s2.1, s2.2] at z
  refine h.oc ⟨?_, z.2⟩
  have h1 := q.mn
  have hn := q.n0
  rcases z.1 with ⟨z1, z2⟩ | ⟨z1, z2⟩
  · refine .inl ⟨z1, ?_⟩
    rcases Int.lt_or_le (side s t b) 0 with g | g
    · exact g
    · have a1 := mul_nn (show 0 ≤ n - m by omega) (show 0 ≤ side s t a by omega)
      have a2 := mul_nn (show 0 ≤ m by omega) g
      have a3 := mul_pn hn z2
      omega
  · refine .inr ⟨z1, ?_⟩
    rcases Int.lt_or_le 0 (side s t b) with g | g
    · exact g
    · have a1 := mul_nn (show 0 ≤ n - m by omega) (show 0 ≤ -side s t a by omega)
      have a2 := mul_nn (show 0 ≤ m by omega) (show 0 ≤ -side s t b by omega)
      have a3 := mul_pp hn z2
      rw [Int.mul_neg] at a1 a2
      omega
section
variable {n : Nat} {p : Nat → P2}
theorem su_two {f : Nat → Int} {i j n : Nat} (hi : i < n) (hj : j < n) (hij : i ≠ j) (h : ∀ k, k < n → k ≠ i → k ≠ j → f k = 0) : su f n = f i + f j := by
  have e : su f n = su (fun k => (if k = i then f i else 0) + (if k = j then f j else 0)) n := su_ext fun k hk => by
    by_cases c1 : k = i
    · subst c1
      simp [hij]
    · by_cases c2 : k = j
      · subst c2
        simp [c1]
      · rw [h k hk c1 c2]
        simp [c1, c2]
  rw [e, su_add, su_one hi fun k _ hk => by simp [hk], su_one hj fun k _ hk => by simp [hk]]
  simp
/-- no point of two walls but corners -/
theorem Sim.once (h : Sim n p) {k j : Nat} {r : P2} (hk : k < n) (hj : j < n) (hkj : k ≠ j) (h1 : On (p k) (p (nxt n k)) r) (h2 : On (p j) (p (nxt n j)) r) : ∃ m, m < n ∧ r = p m := by
  have n2 := nxt_ne h.n3 hk
  have n3 := nxt_ne h.n3 hj
  have ek : p k ≠ p (nxt n k) := h.ne hk (nxt_lt hk) (fun z => n2.1 z.symm)
  have ej : p j ≠ p (nxt n j) := h.ne hj (nxt_lt hj) (fun z => n3.1 z.symm)
  by_cases c1 : j = nxt n k
  · subst c1
    by_cases g : r = p (nxt n k)
    · exact ⟨_, hj, g⟩
    · have := h.fold hj
      rw [prv_nxt hk] at this
      exact absurd (fold_of ek (fun w => ej w.symm) h1 h2 g) this
  · by_cases c2 : j = prv n k
    · have e : nxt n j = k := by rw [c2, nxt_prv hk]
      by_cases g : r = p k
      · exact ⟨_, hk, g⟩
      · have := h.fold hk
        rw [← c2] at this
        rw [e] at h2 ej
        exact absurd (fold_of ej (fun w => ek w.symm) h2 h1 g) this
    · exact absurd (meet_of ej ek h2 h1) (off_iff.mp (h.off hk hj (fun z => hkj z.symm) c1 c2))
/-- a point of a wall, no corner -/
theorem Sim.wall (h : Sim n p) {k : Nat} {r : P2} (hk : k < n) (hr : On (p k) (p (nxt n k)) r) (ha : r ≠ p k) (hb : r ≠ p (nxt n k)) : wn n p r = MT.lam n p - 1 + b2n (decide (¬ Up (p k) (p (nxt n k)))) := by
  have hk' := nxt_lt hk
  have n1 := prv_ne h.n3 hk
  have n2 := nxt_ne h.n3 hk
  have ek : p k ≠ p (nxt n k) := h.ne hk hk' (fun z => n2.1 z.symm)
  obtain ⟨m, d, q⟩ := hr.par ek
  have hm := q.m_pos ha
  have t := tele (p := p) (p k) r (gw (p k) r) (show 0 < n by have := h.n3; omega)
  have s := su_two (f := fun j => (cw (p j) (p (nxt n j)) r - cw (p j) (p (nxt n j)) (p k)) - (gw (p k) r (p j) - gw (p k) r (p (nxt n j)))) (prv_lt hk) hk n1.1 fun j hj a1 a2 => by
    have nj := nxt_ne h.n3 hj
    have ej : p j ≠ p (nxt n j) := h.ne hj (nxt_lt hj) (fun z => nj.1 z.symm)
    by_cases c : j = nxt n k
    · subst c
      have nn := nxt_ne h.n3 hk
      have o1 : ¬ On (p k) r (p (nxt n k)) := fun z => by
        obtain ⟨m2, d2, q2⟩ := z.par (fun w => ha w.symm)
        have e1 := q2.x
        have e2 := q2.y
        have e3 := q.x
        have e4 := q.y
        have hlt := q.m_lt hb
        have hle := q2.mn
        have k1 : (d * d2 - m * m2) * ((p (nxt n k)).1 - (p k).1) = 0 := by grind
        have k2 : (d * d2 - m * m2) * ((p (nxt n k)).2 - (p k).2) = 0 := by grind
        have hd : 0 < d * d2 - m * m2 := by
          have b1 : m * m2 ≤ m * d2 := Int.mul_le_mul_of_nonneg_left hle (by omega)
          have b2 : m * d2 < d * d2 := Int.mul_lt_mul_of_pos_right hlt q2.n0
          omega
        rw [Int.mul_comm] at k1 k2
        have z1 := zero_l k1 hd
        have z2 := zero_l k2 hd
        exact ek (Prod.ext (by omega) (by omega))
      have o := jump (s := p (nxt n k)) (t := p (nxt n (nxt n k))) (u := p k) (v := r) ⟨o1, fun z => h.on k _ hk (nxt_lt hk') nn.2.1 nn.2.2 (hr.trans ek (fun w => ha w.symm) z), h.on _ k hk' hk (fun z => nn.1 z.symm) (fun z => nn.2.1 z.symm), fun z => by
          have := h.fold hk'
          rw [prv_nxt hk] at this
          exact this (fold_of ek (fun w => ej w.symm) hr z hb), fun z => by
          have : side (p k) r (p (nxt n k)) = 0 := by
            have := hr.1
            rw [side_flip] at this
            omega
          unfold Cross at z
          omega⟩
      omega
    · have := jump ((h.off hk hj a2 c a1).sub ej ek hr ha)
      omega
  have w1 := start_w (x := p (prv n k)) (a := p k) (b := r) ha (h.ne (prv_lt hk) hk n1.1) (fun z => h.fold hk ⟨by
    have e := q.side (p k) (p (prv n k))
    rw [z.1, side_eq1] at e
    have : side (p k) (p (prv n k)) (p (nxt n k)) * m = 0 := by rw [Int.mul_comm]; omega
    exact zero_l this hm, z.2.trans (up_par q hm)⟩)
  rw [dw_par q hm, b2n_c (show ¬ Up (p k) r ↔ ¬ Up (p k) (p (nxt n k)) from not_congr (up_par q hm))] at w1
  rw [nxt_prv hk] at s
  have z1 := cw_a (p k) (p (nxt n k))
  have z2 : cw (p k) (p (nxt n k)) r = 0 := by
    unfold cw
    rw [hr.1, b2n_f (by omega), b2n_f (by omega)]
    rfl
  have z3 := cw_b (p (prv n k)) (p k)
  have z5 := gw_a (a := p k) (b := r)
  have z6 : gw (p k) r (p (nxt n k)) = 0 := gw_line (by
    have := hr.1
    rw [side_flip] at this
    omega)
  have l := h.lam k hk
  omega
end
end MT

set_option Elab.async false
set_option linter.all false
set_option maxRecDepth 100000
set_option maxHeartbeats 4000000
/-! A point anywhere: the walls go round it as often as the left value tells, or once less. -/
namespace MT
open DL
/-! ### all greater by one factor -/
def scp (N : Int) (a : P2) : P2 := (N * a.1, N * a.2)
def scl (N : Int) (p : Nat → P2) : Nat → P2 := fun k => scp N (p k)
theorem side_scp (N : Int) (a b t : P2) : side (scp N a) (scp N b) (scp N t) = N * N * side a b t := by unfold side scp; grind
theorem mul_lt_iff {N a b : Int} (h : 0 < N) : N * a < N * b ↔ a < b := ⟨fun z => Int.lt_of_mul_lt_mul_left z (by omega), fun z => Int.mul_lt_mul_of_pos_left z h⟩
theorem mul_le_iff {N a b : Int} (h : 0 < N) : N * a ≤ N * b ↔ a ≤ b := ⟨fun z => Int.le_of_mul_le_mul_left z h, fun z => Int.mul_le_mul_of_nonneg_left z (by omega)⟩
theorem mul_pos_iff {N a : Int} (h : 0 < N) : 0 < N * a ↔ 0 < a := by
  have := mul_lt_iff (a := 0) (b := a) h
  rwa [Int.mul_zero] at this
theorem mul_neg_iff {N a : Int} (h : 0 < N) : N * a < 0 ↔ a < 0 := by
  have := mul_lt_iff (a := a) (b := 0) h
  rwa [Int.mul_zero] at this
theorem mul_zero_iff {N a : Int} (h : 0 < N) : N * a = 0 ↔ a = 0 := by
  rw [Int.mul_eq_zero]
  omega
section
variable {N : Int} {n : Nat} {p : Nat → P2}
theorem scp_inj (h : 0 < N) {a b : P2} (e : scp N a = scp N b) : a = b := by
  have e1 := (Prod.mk.inj e)
  exact Prod.ext (Int.eq_of_mul_eq_mul_left (by omega) e1.1) (Int.eq_of_mul_eq_mul_left (by omega) e1.2)
theorem sgn_scp (h : 0 < N) (a b t : P2) : (0 < side (scp N a) (scp N b) (scp N t) ↔ 0 < side a b t) ∧ (side (scp N a) (scp N b) (scp N t) < 0 ↔ side a b t < 0) ∧ (side (scp N a) (scp N b) (scp N t) = 0 ↔ side a b t = 0) := by
  rw [side_scp]
  have hh := mul_pp h h
  exact ⟨mul_pos_iff hh, mul_neg_iff hh, mul_zero_iff hh⟩
theorem on_scp (h : 0 < N) {a b t : P2} : On (scp N a) (scp N b) (scp N t) ↔ On a b t := by
  have hh := mul_pp h h
  rw [On_iff, On_iff, (sgn_scp h a b t).2.2]
  have k : ∀ x y z : Int, (N * x - N * z) * (N * y - N * z) ≤ 0 ↔ (x - z) * (y - z) ≤ 0 := fun x y z => by
    have e : (N * x - N * z) * (N * y - N * z) = N * N * ((x - z) * (y - z)) := by grind
    rw [e]
    have := mul_pos_iff (a := (x - z) * (y - z)) hh
    omega
  unfold scp
  rw [k, k]
theorem cross_scp (h : 0 < N) {a b c d : P2} : Cross (scp N a) (scp N b) (scp N c) (scp N d) ↔ Cross a b c d := by
  unfold Cross
  rw [(sgn_scp h a b c).1, (sgn_scp h a b c).2.1, (sgn_scp h a b d).1, (sgn_scp h a b d).2.1, (sgn_scp h c d a).1, (sgn_scp h c d a).2.1, (sgn_scp h c d b).1, (sgn_scp h c d b).2.1]
theorem up_scp (h : 0 < N) {a b : P2} : Up (scp N a) (scp N b) ↔ Up a b := by
  unfold Up scp
  have := mul_lt_iff (a := a.2) (b := b.2) h
  have := mul_lt_iff (a := b.2) (b := a.2) h
  have := mul_lt_iff (a := b.1) (b := a.1) h
  constructor
  · rintro (z | ⟨z, z2⟩)
    · exact .inl (by omega)
    · exact .inr ⟨by omega, by omega⟩
  · rintro (z | ⟨z, z2⟩)
    · exact .inl (by omega)
    · exact .inr ⟨by rw [z], by omega⟩
theorem dw_scp (h : 0 < N) (a b c : P2) : dw (scp N a) (scp N b) (scp N c) = dw a b c := by
  unfold dw
  refine b2n_c ?_
  unfold Be
  rw [up_scp h, up_scp h, (sgn_scp h b a c).1]
theorem cw_scp (h : 0 < N) (a b q : P2) : cw (scp N a) (scp N b) (scp N q) = cw a b q := by
  unfold cw
  rw [b2n_c (p := (scp N a).2 ≤ (scp N q).2 ∧ (scp N q).2 < (scp N b).2 ∧ 0 < side (scp N a) (scp N b) (scp N q)) (q := a.2 ≤ q.2 ∧ q.2 < b.2 ∧ 0 < side a b q), b2n_c (p := (scp N b).2 ≤ (scp N q).2 ∧ (scp N q).2 < (scp N a).2 ∧ side (scp N a) (scp N b) (scp N q) < 0) (q := b.2 ≤ q.2 ∧ q.2 < a.2 ∧ side a b q < 0)]
  · rw [(sgn_scp h a b q).2.1]
    unfold scp
    rw [mul_le_iff h, mul_lt_iff h]
  · rw [(sgn_scp h a b q).1]
    unfold scp
    rw [mul_le_iff h, mul_lt_iff h]
theorem Sim.scl (h : Sim n p) (hN : 0 < N) : Sim n (scl N p) :=
  ⟨h.n3, fun k m hk hm a b z => h.on k m hk hm a b ((on_scp hN).mp z), fun k j hk hj z => h.cr k j hk hj ((cross_scp hN).mp z)⟩
theorem wn_scl (hN : 0 < N) (q : P2) : wn n (MT.scl N p) (scp N q) = wn n p q := su_ext fun k _ => cw_scp hN _ _ _
theorem lam_scl (hN : 0 < N) : lam n (MT.scl N p) = lam n p := by
  unfold lam
  rw [show wn n (MT.scl N p) (MT.scl N p 0) = wn n p (p 0) from wn_scl hN _]
  rw [show dw (MT.scl N p (prv n 0)) (MT.scl N p 0) (MT.scl N p (nxt n 0)) = _ from dw_scp hN _ _ _]
end
/-! ### the nearest -/
theorem near_ex (S : Nat → Prop) (u d : Nat → Int) (hd : ∀ k, S k → 0 < d k) : ∀ n, (∃ k, k < n ∧ S k) → ∃ e, e < n ∧ S e ∧ ∀ k, k < n → S k → u e * d k ≤ u k * d e
  | 0, ⟨k, hk, _⟩ => by omega
  | n + 1, ⟨k, hk, hs⟩ => by
    by_cases c : ∃ k, k < n ∧ S k
    · obtain ⟨e, he, hS, h⟩ := near_ex S u d hd n c
      by_cases g : S n ∧ u n * d e < u e * d n
      · refine ⟨n, by omega, g.1, fun j hj sj => ?_⟩
        by_cases w : j = n
        · subst w
          exact Int.le_refl _
        · have h1 := h j (by omega) sj
          have d1 := hd _ sj
          have d2 := hd _ g.1
          have d3 := hd _ hS
          -- u n / d n < u e / d e ≤ u j / d j
          have b1 : u n * d e * d j ≤ u e * d n * d j := Int.mul_le_mul_of_nonneg_right (by omega) (by omega)
          have b2 : u e * d j * d n ≤ u j * d e * d n := Int.mul_le_mul_of_nonneg_right h1 (by omega)
          refine (mul_le_iff d3).mp ?_
          have e1 : d e * (u n * d j) = u n * d e * d j := by grind
          have e2 : d e * (u j * d n) = u j * d e * d n := by grind
          have e3 : u e * d n * d j = u e * d j * d n := by grind
          omega
      · refine ⟨e, by omega, hS, fun j hj sj => ?_⟩
        by_cases w : j = n
        · subst w
          rcases Int.lt_or_le (u j * d e) (u e * d j) with z | z
          · exact absurd ⟨sj, z⟩ g
          · exact z
        · exact h j (by omega) sj
    · refine ⟨k, hk, hs, fun j hj sj => ?_⟩
      have e1 : ∀ j, j < n + 1 → S j → j = n := fun j hj sj => by
        by_cases w : j = n
        · exact w
        · exact absurd ⟨j, by omega, sj⟩ c
      rw [e1 j hj sj, e1 k hk hs]
      exact Int.le_refl _
theorem cw_ne {a b q : P2} (h : cw a b q ≠ 0) : (cw a b q = 1 ∧ a.2 ≤ q.2 ∧ q.2 < b.2 ∧ 0 < side a b q) ∨ (cw a b q = -1 ∧ b.2 ≤ q.2 ∧ q.2 < a.2 ∧ side a b q < 0) := by
  unfold cw at *
  by_cases c : a.2 ≤ q.2 ∧ q.2 < b.2 ∧ 0 < side a b q
  · rw [b2n_t c, b2n_f (show ¬ (b.2 ≤ q.2 ∧ q.2 < a.2 ∧ side a b q < 0) by omega)]
    exact .inl ⟨rfl, c⟩
  · by_cases d : b.2 ≤ q.2 ∧ q.2 < a.2 ∧ side a b q < 0
    · rw [b2n_t d, b2n_f c]
      exact .inr ⟨rfl, d⟩
    · rw [b2n_f c, b2n_f d] at h
      exact absurd rfl h
section
variable {n : Nat} {p : Nat → P2}
/-- at no corner's height -/
theorem Sim.at_free (h : Sim n p) {q : P2} (hq : ∀ k, k < n → (p k).2 ≠ q.2) : wn n p q = 0 ∨ wn n p q = MT.lam n p ∨ wn n p q = MT.lam n p - 1 := by
  by_cases c : ∃ k, k < n ∧ cw (p k) (p (nxt n k)) q ≠ 0
  · refine .inr ?_
    obtain ⟨e, he, hS, hmin⟩ := near_ex (fun k => cw (p k) (p (nxt n k)) q ≠ 0) (fun k => max (side (p k) (p (nxt n k)) q) (-side (p k) (p (nxt n k)) q)) (fun k => max ((p (nxt n k)).2 - (p k).2) ((p k).2 - (p (nxt n k)).2)) (fun k hk => by
      have := cw_ne hk
      omega) n c
    have hs := cw_ne hS
    have he' := nxt_lt he
    have q1 := hq e he
    have q2 := hq _ he'
    obtain ⟨u, hu⟩ : ∃ u, u = max (side (p e) (p (nxt n e)) q) (-side (p e) (p (nxt n e)) q) := ⟨_, rfl⟩
    obtain ⟨N, hN⟩ : ∃ N, N = max ((p (nxt n e)).2 - (p e).2) ((p e).2 - (p (nxt n e)).2) := ⟨_, rfl⟩
    obtain ⟨m, hm⟩ : ∃ m, m = max (q.2 - (p e).2) ((p e).2 - q.2) := ⟨_, rfl⟩
    have u0 : 0 < u := by omega
    have N0 : 0 < N := by omega
    have par : Par (scp N (p e)) (scp N (p (nxt n e))) (N * q.1 + u, N * q.2) m N := by
      rcases hs with hs | hs
      · have e1 : u = side (p e) (p (nxt n e)) q := by omega
        have e2 : N = (p (nxt n e)).2 - (p e).2 := by omega
        have e3 : m = q.2 - (p e).2 := by omega
        refine ⟨N0, by omega, by omega, ?_, ?_⟩
        · show N * (N * q.1 + u) = (N - m) * (N * (p e).1) + m * (N * (p (nxt n e)).1)
          rw [e1]
          unfold side
          rw [← e3, ← e2]
          grind
        · show N * (N * q.2) = (N - m) * (N * (p e).2) + m * (N * (p (nxt n e)).2)
          have : q.2 = m + (p e).2 := by omega
          have : (p (nxt n e)).2 = N + (p e).2 := by omega
          grind
      · have e1 : u = -side (p e) (p (nxt n e)) q := by omega
        have e2 : N = (p e).2 - (p (nxt n e)).2 := by omega
        have e3 : m = (p e).2 - q.2 := by omega
        refine ⟨N0, by omega, by omega, ?_, ?_⟩
        · show N * (N * q.1 + u) = (N - m) * (N * (p e).1) + m * (N * (p (nxt n e)).1)
          rw [e1]
          unfold side
          have e4 : q.2 - (p e).2 = -m := by omega
          have e5 : (p (nxt n e)).2 - (p e).2 = -N := by omega
          rw [e4, e5]
          grind
        · show N * (N * q.2) = (N - m) * (N * (p e).2) + m * (N * (p (nxt n e)).2)
          have : q.2 = (p e).2 - m := by omega
          have : (p (nxt n e)).2 = (p e).2 - N := by omega
          grind
    have hsc := h.scl N0
    have hc : ∀ k, k < n → (N * q.1 + u, N * q.2) ≠ scp N (p k) := fun k hk z => by
      have := (Prod.mk.inj z).2
      exact hq k hk (Int.eq_of_mul_eq_mul_left (by omega) this).symm
    have hw := hsc.wall (r := (N * q.1 + u, N * q.2)) he par.on (hc e he) (hc _ he')
    rw [lam_scl N0] at hw
    have rest : ∀ j, j < n → j ≠ e → cw (scp N (p j)) (scp N (p (nxt n j))) (N * q.1 + u, N * q.2) = cw (p j) (p (nxt n j)) q := fun j hj hje => by
      have es : side (scp N (p j)) (scp N (p (nxt n j))) (N * q.1 + u, N * q.2) = N * (N * side (p j) (p (nxt n j)) q - ((p (nxt n j)).2 - (p j).2) * u) := by
        unfold side scp
        grind
      have hj' := nxt_lt hj
      have no : ¬ On (scp N (p j)) (scp N (p (nxt n j))) (N * q.1 + u, N * q.2) := fun z => by
        obtain ⟨k, hk, e⟩ := hsc.once he hj (fun z => hje z.symm) par.on z
        exact hc k hk e
      have hm := hmin j hj
      rw [← hu, ← hN] at hm
      unfold cw
      rw [es]
      have y1 : (scp N (p j)).2 ≤ N * q.2 ↔ (p j).2 ≤ q.2 := mul_le_iff N0
      have y2 : N * q.2 < (scp N (p j)).2 ↔ q.2 < (p j).2 := mul_lt_iff N0
      have y3 : (scp N (p (nxt n j))).2 ≤ N * q.2 ↔ (p (nxt n j)).2 ≤ q.2 := mul_le_iff N0
      have y4 : N * q.2 < (scp N (p (nxt n j))).2 ↔ q.2 < (p (nxt n j)).2 := mul_lt_iff N0
      show b2n (decide ((scp N (p j)).2 ≤ N * q.2 ∧ N * q.2 < (scp N (p (nxt n j))).2 ∧ 0 < N * (N * side (p j) (p (nxt n j)) q - ((p (nxt n j)).2 - (p j).2) * u))) - b2n (decide ((scp N (p (nxt n j))).2 ≤ N * q.2 ∧ N * q.2 < (scp N (p j)).2 ∧ N * (N * side (p j) (p (nxt n j)) q - ((p (nxt n j)).2 - (p j).2) * u) < 0)) = _
      congr 1
      · refine b2n_c ?_
        rw [y1, y4, mul_pos_iff N0]
        constructor
        · rintro ⟨z1, z2, z3⟩
          refine ⟨z1, z2, ?_⟩
          have := mul_pp (show 0 < (p (nxt n j)).2 - (p j).2 by omega) u0
          exact (mul_pos_iff N0).mp (show 0 < N * side (p j) (p (nxt n j)) q by omega)
        · rintro ⟨z1, z2, z3⟩
          refine ⟨z1, z2, ?_⟩
          have hne : cw (p j) (p (nxt n j)) q ≠ 0 := by
            unfold cw
            rw [b2n_t ⟨z1, z2, z3⟩, b2n_f (by omega)]
            decide
          have g := hm hne
          rw [show max (side (p j) (p (nxt n j)) q) (-side (p j) (p (nxt n j)) q) = side (p j) (p (nxt n j)) q by omega, show max ((p (nxt n j)).2 - (p j).2) ((p j).2 - (p (nxt n j)).2) = (p (nxt n j)).2 - (p j).2 by omega, Int.mul_comm u, Int.mul_comm _ N] at g
          rcases Int.lt_or_le 0 (N * side (p j) (p (nxt n j)) q - ((p (nxt n j)).2 - (p j).2) * u) with w | w
          · exact w
          · refine absurd (on_height (by rw [es, show N * side (p j) (p (nxt n j)) q - ((p (nxt n j)).2 - (p j).2) * u = 0 by omega, Int.mul_zero]) (.inl ?_)) no
            have := y1.mpr z1
            have := y4.mpr z2
            show (scp N (p j)).2 < (scp N (p (nxt n j))).2 ∧ (scp N (p j)).2 ≤ N * q.2 ∧ N * q.2 ≤ (scp N (p (nxt n j))).2
            omega
      · refine b2n_c ?_
        rw [y3, y2, mul_neg_iff N0]
        constructor
        · rintro ⟨z1, z2, z3⟩
          refine ⟨z1, z2, ?_⟩
          have := mul_np (show (p (nxt n j)).2 - (p j).2 < 0 by omega) u0
          exact (mul_neg_iff N0).mp (show N * side (p j) (p (nxt n j)) q < 0 by omega)
        · rintro ⟨z1, z2, z3⟩
          refine ⟨z1, z2, ?_⟩
          have hne : cw (p j) (p (nxt n j)) q ≠ 0 := by
            unfold cw
            rw [b2n_f (show ¬ ((p j).2 ≤ q.2 ∧ q.2 < (p (nxt n j)).2 ∧ 0 < side (p j) (p (nxt n j)) q) by omega), b2n_t ⟨z1, z2, z3⟩]
            decide
          have g := hm hne
          rw [show max (side (p j) (p (nxt n j)) q) (-side (p j) (p (nxt n j)) q) = -side (p j) (p (nxt n j)) q by omega, show max ((p (nxt n j)).2 - (p j).2) ((p j).2 - (p (nxt n j)).2) = -((p (nxt n j)).2 - (p j).2) by omega, Int.mul_comm u, Int.mul_comm _ N, Int.neg_mul, Int.mul_neg] at g
          rcases Int.lt_or_le (N * side (p j) (p (nxt n j)) q - ((p (nxt n j)).2 - (p j).2) * u) 0 with w | w
          · exact w
          · refine absurd (on_height (by rw [es, show N * side (p j) (p (nxt n j)) q - ((p (nxt n j)).2 - (p j).2) * u = 0 by omega, Int.mul_zero]) (.inr ?_)) no
            have := y3.mpr z1
            have := y2.mpr z2
            show (scp N (p (nxt n j))).2 < (scp N (p j)).2 ∧ (scp N (p (nxt n j))).2 ≤ N * q.2 ∧ N * q.2 ≤ (scp N (p j)).2
            omega
    have s := su_one (f := fun j => cw (p j) (p (nxt n j)) q - cw (scp N (p j)) (scp N (p (nxt n j))) (N * q.1 + u, N * q.2)) he fun j hj hje => by
      have := rest j hj hje
      omega
    rw [su_sub] at s
    have z2 : cw (scp N (p e)) (scp N (p (nxt n e))) (N * q.1 + u, N * q.2) = 0 := by
      unfold cw
      rw [par.on.1, b2n_f (by omega), b2n_f (by omega)]
      rfl
    have e1 : wn n p q - wn n (MT.scl N p) (N * q.1 + u, N * q.2) = cw (p e) (p (nxt n e)) q - cw (scp N (p e)) (scp N (p (nxt n e))) (N * q.1 + u, N * q.2) := s
    have hu2 : b2n (decide (¬ Up (MT.scl N p e) (MT.scl N p (nxt n e)))) = b2n (decide (¬ Up (p e) (p (nxt n e)))) := b2n_c (not_congr (up_scp (a := p e) (b := p (nxt n e)) N0))
    rw [hu2] at hw
    rcases hs with hs | hs
    · rw [b2n_f (show ¬¬ Up (p e) (p (nxt n e)) from fun z => z (.inl (by omega)))] at hw
      omega
    · rw [b2n_t (show ¬ Up (p e) (p (nxt n e)) from fun z => by unfold Up at z; omega)] at hw
      omega
  · refine .inl (su_zero fun k hk => ?_)
    rcases Classical.em (cw (p k) (p (nxt n k)) q = 0) with z | z
    · exact z
    · exact absurd ⟨k, hk, z⟩ c
theorem bd_ex (p : Nat → P2) : ∀ n, ∃ B : Int, 0 ≤ B ∧ ∀ k, k < n → -B ≤ (p k).1 ∧ (p k).1 ≤ B ∧ -B ≤ (p k).2 ∧ (p k).2 ≤ B
  | 0 => ⟨0, by omega, fun k h => by omega⟩
  | n + 1 => by
    obtain ⟨B, h0, h⟩ := bd_ex p n
    refine ⟨B + ((p n).1.natAbs + (p n).2.natAbs : Nat), by omega, fun k hk => ?_⟩
    by_cases c : k = n
    · subst c
      omega
    · have := h k (by omega)
      omega
/-- a hair to the right, and less up -/
theorem cw_hair {a b q : P2} {K N : Int} (hK : 0 ≤ K) (ha : -K ≤ b.1 - a.1 ∧ b.1 - a.1 ≤ K ∧ -K ≤ b.2 - a.2 ∧ b.2 - a.2 ≤ K) (hN : N = K * K + K + 2) : cw (scp N a) (scp N b) (N * q.1 + K, N * q.2 + 1) = cw a b q := by
  have kk := mul_nn hK hK
  have N2 : 2 ≤ N := by omega
  have es : side (scp N a) (scp N b) (N * q.1 + K, N * q.2 + 1) = N * (N * side a b q + (b.1 - a.1) - (b.2 - a.2) * K) := by
    unfold side scp
    grind
  have y : ∀ u v : Int, N * u ≤ N * v + 1 ↔ u ≤ v := fun u v => by
    constructor
    · intro z
      rcases Int.lt_or_le v u with w | w
      · have := Int.mul_le_mul_of_nonneg_left (show v + 1 ≤ u by omega) (show 0 ≤ N by omega)
        rw [Int.mul_add, Int.mul_one] at this
        omega
      · exact w
    · intro z
      have := Int.mul_le_mul_of_nonneg_left z (show 0 ≤ N by omega)
      omega
  have y' : ∀ u v : Int, N * v + 1 < N * u ↔ v < u := fun u v => by
    have := y u v
    omega
  unfold cw
  rw [es]
  show b2n (decide (N * a.2 ≤ N * q.2 + 1 ∧ N * q.2 + 1 < N * b.2 ∧ 0 < N * (N * side a b q + (b.1 - a.1) - (b.2 - a.2) * K))) - b2n (decide (N * b.2 ≤ N * q.2 + 1 ∧ N * q.2 + 1 < N * a.2 ∧ N * (N * side a b q + (b.1 - a.1) - (b.2 - a.2) * K) < 0)) = _
  have N0 : 0 < N := by omega
  have big : ∀ s : Int, 1 ≤ s → N ≤ N * s := fun s hs => by
    have := Int.mul_le_mul_of_nonneg_left hs (show 0 ≤ N by omega)
    omega
  have dk : ∀ d : Int, d ≤ K → d * K ≤ K * K := fun d hd => Int.mul_le_mul_of_nonneg_right hd hK
  have d1 : ∀ d : Int, 1 ≤ d → K ≤ d * K := fun d hd => by
    have := Int.mul_le_mul_of_nonneg_right hd hK
    omega
  congr 1
  · refine b2n_c ?_
    rw [y, y', mul_pos_iff N0]
    constructor
    · rintro ⟨z1, z2, z3⟩
      refine ⟨z1, z2, ?_⟩
      have := d1 (b.2 - a.2) (by omega)
      rcases Int.lt_or_le 0 (side a b q) with w | w
      · exact w
      · have := mul_nn (show 0 ≤ N by omega) (show 0 ≤ -side a b q by omega)
        rw [Int.mul_neg] at this
        omega
    · rintro ⟨z1, z2, z3⟩
      refine ⟨z1, z2, ?_⟩
      have := big (side a b q) (by omega)
      have := dk (b.2 - a.2) (by omega)
      omega
  · refine b2n_c ?_
    rw [y, y', mul_neg_iff N0]
    constructor
    · rintro ⟨z1, z2, z3⟩
      refine ⟨z1, z2, ?_⟩
      have := d1 (a.2 - b.2) (by omega)
      rw [show (a.2 - b.2) * K = -((b.2 - a.2) * K) by grind] at this
      rcases Int.lt_or_le (side a b q) 0 with w | w
      · exact w
      · have := mul_nn (show 0 ≤ N by omega) w
        omega
    · rintro ⟨z1, z2, z3⟩
      refine ⟨z1, z2, ?_⟩
      have := big (-side a b q) (by omega)
      rw [Int.mul_neg] at this
      have := dk (a.2 - b.2) (by omega)
      rw [show (a.2 - b.2) * K = -((b.2 - a.2) * K) by grind] at this
      omega
/-- anywhere -/
theorem Sim.wn_any (h : Sim n p) (q : P2) : wn n p q = 0 ∨ wn n p q = MT.lam n p ∨ wn n p q = MT.lam n p - 1 := by
  obtain ⟨B, hB, hb⟩ := bd_ex p n
  obtain ⟨N, hN⟩ : ∃ N, N = (2 * B) * (2 * B) + 2 * B + 2 := ⟨_, rfl⟩
  have N0 : 0 < N := by
    have := mul_nn (show 0 ≤ 2 * B by omega) (show 0 ≤ 2 * B by omega)
    omega
  have e : wn n (MT.scl N p) (N * q.1 + 2 * B, N * q.2 + 1) = wn n p q := su_ext fun k hk => cw_hair (by omega) (by
    have := hb k hk
    have := hb _ (nxt_lt hk)
    omega) hN
  have := (h.scl N0).at_free (q := (N * q.1 + 2 * B, N * q.2 + 1)) fun k hk z => by
    have z : N * (p k).2 = N * q.2 + 1 := z
    have N2 : 2 ≤ N := by
      have := mul_nn (show 0 ≤ 2 * B by omega) (show 0 ≤ 2 * B by omega)
      omega
    have : N * ((p k).2 - q.2) = 1 := by rw [Int.mul_sub]; omega
    rcases Int.lt_trichotomy ((p k).2 - q.2) 0 with w | w | w
    · have := mul_pn N0 w
      omega
    · rw [w] at this
      simp at this
    · have := Int.mul_le_mul_of_nonneg_left (show 1 ≤ (p k).2 - q.2 by omega) (show 0 ≤ N by omega)
      omega
  rw [e, lam_scl N0] at this
  exact this
theorem Sim.wn01 (h : Sim n p) (hl : MT.lam n p = 1) (q : P2) : wn n p q = 0 ∨ wn n p q = 1 := by
  have := h.wn_any q
  omega
end
end MT

set_option Elab.async false
set_option linter.all false
set_option maxRecDepth 100000
set_option maxHeartbeats 4000000
/-! A line cuts in two. -/
namespace MT
open DL
/-! ### directions in order -/
theorem be_total {v x y : P2} (h : ¬ Fold v x y) : Be v x y ↔ ¬ Be v y x := by
  unfold Be
  unfold Fold at h
  rw [side_flip v x y]
  by_cases p : Up v x <;> by_cases q : Up v y <;> simp [p, q] at h ⊢ <;> omega
/-- three directions of one half -/
theorem side_trans {v x y z : P2} (hx : x ≠ v) (hy : y ≠ v) (hz : z ≠ v) (hxy : Up v x ↔ Up v y) (hyz : Up v y ↔ Up v z) (h1 : 0 ≤ side v x y) (h2 : 0 ≤ side v y z) : 0 ≤ side v x z ∧ (0 < side v x y ∨ 0 < side v y z → 0 < side v x z) := by
  have e : side v x z * (y.2 - v.2) = side v x y * (z.2 - v.2) + side v y z * (x.2 - v.2) := by unfold side; grind
  have e2 : side v x z * (y.1 - v.1) = side v x y * (z.1 - v.1) + side v y z * (x.1 - v.1) := by unfold side; grind
  -- a positive number for each of the three
  have key : ∀ a b c X : Int, 0 < b → 0 ≤ a → 0 ≤ c → X * b = side v x y * c + side v y z * a → (0 ≤ X ∧ (0 < a → 0 < c → 0 < side v x y ∨ 0 < side v y z → 0 < X)) := fun a b c X hb ha hc he => by
    have n1 := mul_nn h1 hc
    have n2 := mul_nn h2 ha
    refine ⟨?_, fun a0 c0 w => ?_⟩
    · rcases Int.lt_or_le X 0 with g | g
      · have := mul_np g hb
        omega
      · exact g
    · have : 0 < X * b := by
        rcases w with w | w
        · have := mul_pp w c0
          omega
        · have := mul_pp w a0
          omega
      exact pos_l this hb
  by_cases u : Up v y
  · have ux := hxy.mpr u
    have uz := hyz.mp u
    unfold Up at u ux uz
    by_cases l : y.2 = v.2
    · -- y to the left
      have l1 : y.1 < v.1 := by omega
      have sx : side v x y = (x.2 - v.2) * (v.1 - y.1) := by unfold side; rw [l]; grind
      have sz : side v y z = (y.1 - v.1) * (z.2 - v.2) := by unfold side; rw [l]; grind
      have z0 : z.2 = v.2 := by
        rcases uz with g | g
        · have := mul_np (show y.1 - v.1 < 0 by omega) (show 0 < z.2 - v.2 by omega)
          omega
        · exact g.1
      have sz0 : side v y z = 0 := by rw [sz, z0]; simp
      have sx2 : side v x z = (x.2 - v.2) * (v.1 - z.1) := by unfold side; rw [z0]; grind
      have zl : z.1 < v.1 := by omega
      rw [sx2]
      refine ⟨mul_nn (by omega) (by omega), fun w => ?_⟩
      have : 0 < side v x y := by omega
      rw [sx] at this
      have := pos_l this (by omega)
      exact mul_pp (by omega) (by omega)
    · have y0 : v.2 < y.2 := by omega
      by_cases lx : x.2 = v.2
      · have xl : x.1 < v.1 := by omega
        have sx : side v x y = (x.1 - v.1) * (y.2 - v.2) := by unfold side; rw [lx]; grind
        have := mul_np (show x.1 - v.1 < 0 by omega) (show 0 < y.2 - v.2 by omega)
        omega
      · by_cases lz : z.2 = v.2
        · have zl : z.1 < v.1 := by omega
          have sx2 : side v x z = (x.2 - v.2) * (v.1 - z.1) := by unfold side; rw [lz]; grind
          rw [sx2]
          have := mul_pp (show 0 < x.2 - v.2 by omega) (show 0 < v.1 - z.1 by omega)
          exact ⟨by omega, fun _ => this⟩
        · have k := key (x.2 - v.2) (y.2 - v.2) (z.2 - v.2) (side v x z) (by omega) (by omega) (by omega) e
          exact ⟨k.1, k.2 (by omega) (by omega)⟩
  · have ux := fun w => u (hxy.mp w)
    have uz := fun w => u (hyz.mpr w)
    have u := (up_ne hy).mp u
    have ux := (up_ne hx).mp ux
    have uz := (up_ne hz).mp uz
    by_cases l : y.2 = v.2
    · have l1 : v.1 < y.1 := by omega
      have sx : side v x y = (v.2 - x.2) * (y.1 - v.1) := by unfold side; rw [l]; grind
      have sz : side v y z = (y.1 - v.1) * (z.2 - v.2) := by unfold side; rw [l]; grind
      have z0 : z.2 = v.2 := by
        rcases uz with g | g
        · have := mul_pn (show 0 < y.1 - v.1 by omega) (show z.2 - v.2 < 0 by omega)
          omega
        · exact g.1
      have sz0 : side v y z = 0 := by rw [sz, z0]; simp
      have sx2 : side v x z = (v.2 - x.2) * (z.1 - v.1) := by unfold side; rw [z0]; grind
      have zl : v.1 < z.1 := by omega
      rw [sx2]
      refine ⟨mul_nn (by omega) (by omega), fun w => ?_⟩
      have : 0 < side v x y := by omega
      rw [sx] at this
      have := pos_l this (by omega)
      exact mul_pp (by omega) (by omega)
    · have y0 : y.2 < v.2 := by omega
      by_cases lx : x.2 = v.2
      · have xl : v.1 < x.1 := by omega
        have sx : side v x y = (x.1 - v.1) * (y.2 - v.2) := by unfold side; rw [lx]; grind
        have := mul_pn (show 0 < x.1 - v.1 by omega) (show y.2 - v.2 < 0 by omega)
        omega
      · by_cases lz : z.2 = v.2
        · have zl : v.1 < z.1 := by omega
          have sx2 : side v x z = (v.2 - x.2) * (z.1 - v.1) := by unfold side; rw [lz]; grind
          rw [sx2]
          have := mul_pp (show 0 < v.2 - x.2 by omega) (show 0 < z.1 - v.1 by omega)
          exact ⟨by omega, fun _ => this⟩
        · have k := key (v.2 - x.2) (v.2 - y.2) (v.2 - z.2) (side v x z) (by omega) (by omega) (by omega) (by grind)
          exact ⟨k.1, k.2 (by omega) (by omega)⟩
/-- at least as far on -/
def Le (v x y : P2) : Prop := ¬ Be v y x
theorem le_iff {v x y : P2} : Le v x y ↔ (Up v x ∧ ¬ Up v y) ∨ ((Up v x ↔ Up v y) ∧ 0 ≤ side v x y) := by
  unfold Le Be
  rw [side_flip v x y]
  by_cases p : Up v x <;> by_cases q : Up v y <;> simp [p, q] <;> omega
theorem le_trans {v x y z : P2} (hx : x ≠ v) (hy : y ≠ v) (hz : z ≠ v) (h1 : Le v x y) (h2 : Le v y z) : Le v x z := by
  rw [le_iff] at *
  rcases h1 with ⟨a, b⟩ | ⟨a, b⟩
  · rcases h2 with ⟨c, d⟩ | ⟨c, d⟩
    · exact absurd c b
    · exact .inl ⟨a, fun z => b (c.mpr z)⟩
  · rcases h2 with ⟨c, d⟩ | ⟨c, d⟩
    · exact .inl ⟨a.mpr c, d⟩
    · exact .inr ⟨a.trans c, (side_trans hx hy hz a c b d).1⟩
theorem be_le_trans {v x y z : P2} (hx : x ≠ v) (hy : y ≠ v) (hz : z ≠ v) (h1 : Be v x y) (h2 : Le v y z) : Be v x z := by
  rw [le_iff] at h2
  unfold Be at *
  rcases h1 with ⟨a, b⟩ | ⟨a, b⟩
  · rcases h2 with ⟨c, d⟩ | ⟨c, d⟩
    · exact absurd c b
    · exact .inl ⟨a, fun z => b (c.mpr z)⟩
  · rcases h2 with ⟨c, d⟩ | ⟨c, d⟩
    · exact .inl ⟨a.mpr c, d⟩
    · exact .inr ⟨a.trans c, (side_trans hx hy hz a c (by omega) d).2 (.inl b)⟩
theorem le_be_trans {v x y z : P2} (hx : x ≠ v) (hy : y ≠ v) (hz : z ≠ v) (h1 : Le v x y) (h2 : Be v y z) : Be v x z := by
  rw [le_iff] at h1
  unfold Be at *
  rcases h1 with ⟨a, b⟩ | ⟨a, b⟩
  · rcases h2 with ⟨c, d⟩ | ⟨c, d⟩
    · exact absurd c b
    · exact .inl ⟨a, fun z => b (c.mpr z)⟩
  · rcases h2 with ⟨c, d⟩ | ⟨c, d⟩
    · exact .inl ⟨a.mpr c, d⟩
    · exact .inr ⟨a.trans c, (side_trans hx hy hz a c b (by omega)).2 (.inr d)⟩
/-- the way to b begins at the left of u, a, z -/
def Opn (u a z b : P2) : Prop := dw b a z + dw u a b = dw u a z
theorem dw_t {u v z : P2} (h : Be v u z) : dw u v z = 1 := b2n_t h
theorem dw_f {u v z : P2} (h : Le v z u) : dw u v z = 0 := b2n_f h
theorem opn_01 {u a z b : P2} (hu : u ≠ a) (hz : z ≠ a) (hb : b ≠ a) : Opn u a z b ∨ dw b a z + dw u a b = dw u a z + 1 := by
  unfold Opn
  by_cases h1 : Be a u z
  · rw [dw_t h1]
    by_cases h2 : Be a b z
    · rw [dw_t h2]
      have := dw_01 u a b
      omega
    · rw [dw_f h2, dw_t (be_le_trans hu hz hb h1 h2)]
      omega
  · rw [dw_f h1]
    by_cases h2 : Be a b z
    · rw [dw_t h2, dw_f fun w => h1 (be_le_trans hu hb hz w (fun y => ?_))]
      · omega
      · -- b before z, not z before b
        rw [show Be a z b ↔ ¬ Le a b z by unfold Le; simp] at y
        refine y ?_
        rw [le_iff]
        unfold Be at h2
        rcases h2 with h2 | h2
        · exact .inl h2
        · exact .inr ⟨h2.1, by omega⟩
    · rw [dw_f h2]
      have := dw_01 u a b
      omega
/-- one way left of the other: the way on -/
theorem opn_next {u a z b y : P2} (hu : u ≠ a) (hz : z ≠ a) (hb : b ≠ a) (hy : y ≠ a) (h1 : Opn u a z b) (h2 : Opn u a b y) : Opn u a z y := by
  unfold Opn at *
  -- dw y z = dw b z + dw y b
  by_cases c1 : Be a u z
  · rw [dw_t c1] at *
    by_cases c2 : Be a b z
    · rw [dw_t c2] at h1
      have e : dw u a b = 0 := by omega
      have e1 := dw_01 y a b
      have e2 := dw_01 u a y
      have f1 : dw y a b = 0 := by omega
      have f2 : dw u a y = 0 := by omega
      have l1 : Le a y u := fun w => by rw [dw_t w] at f2; omega
      rw [f2, dw_t (le_be_trans hy hu hz l1 c1)]
      omega
    · rw [dw_f c2] at h1
      have e : dw u a b = 1 := by omega
      by_cases c3 : Be a y b
      · rw [dw_t c3] at h2
        have f2 : dw u a y = 0 := by omega
        have l1 : Le a y u := fun w => by rw [dw_t w] at f2; omega
        rw [f2, dw_t (le_be_trans hy hu hz l1 c1)]
        omega
      · rw [dw_f c3] at h2
        have f2 : dw u a y = 1 := by omega
        rw [f2, dw_f (le_trans hz hb hy c2 c3)]
        omega
  · rw [dw_f c1] at *
    have e1 := dw_01 b a z
    have e2 := dw_01 u a b
    have f1 : dw b a z = 0 := by omega
    have f2 : dw u a b = 0 := by omega
    rw [f2] at h2
    have e3 := dw_01 y a b
    have e4 := dw_01 u a y
    have f3 : dw u a y = 0 := by omega
    have f4 : dw y a b = 0 := by omega
    have l1 : Le a z b := fun w => by rw [dw_t w] at f1; omega
    have l2 : Le a b y := fun w => by rw [dw_t w] at f4; omega
    rw [f3, dw_f (le_trans hz hb hy l1 l2)]
    omega
theorem opn_prev {u a z b y : P2} (hu : u ≠ a) (hz : z ≠ a) (hb : b ≠ a) (hy : y ≠ a) (h1 : Opn u a z b) (h2 : Opn b a z y) : Opn u a z y := by
  unfold Opn at *
  -- dw u y = dw b y + dw u b
  by_cases c1 : Be a u z
  · rw [dw_t c1] at *
    by_cases c2 : Be a b z
    · rw [dw_t c2] at h1 h2
      have f2 : dw u a b = 0 := by omega
      have l1 : Le a b u := fun w => by rw [dw_t w] at f2; omega
      by_cases c3 : Be a y z
      · rw [dw_t c3] at h2 ⊢
        have f3 : dw b a y = 0 := by omega
        have l2 : Le a y b := fun w => by rw [dw_t w] at f3; omega
        rw [dw_f (le_trans hy hb hu l2 l1)]
        omega
      · rw [dw_f c3] at h2 ⊢
        rw [dw_t (be_le_trans hu hz hy c1 c3)]
        omega
    · rw [dw_f c2] at h1 h2
      have f2 : dw u a b = 1 := by omega
      have e3 := dw_01 y a z
      have e4 := dw_01 b a y
      have f3 : dw y a z = 0 := by omega
      have l2 : Le a z y := fun w => by rw [dw_t w] at f3; omega
      rw [f3, dw_t (be_le_trans hu hz hy c1 l2)]
      omega
  · rw [dw_f c1] at *
    have e1 := dw_01 b a z
    have e2 := dw_01 u a b
    have f1 : dw b a z = 0 := by omega
    have f2 : dw u a b = 0 := by omega
    rw [f1] at h2
    have e3 := dw_01 y a z
    have e4 := dw_01 b a y
    have f3 : dw y a z = 0 := by omega
    have f4 : dw b a y = 0 := by omega
    have l1 : Le a b u := fun w => by rw [dw_t w] at f2; omega
    have l2 : Le a y b := fun w => by rw [dw_t w] at f4; omega
    rw [f3, dw_f (le_trans hy hb hu l2 l1)]
    omega
/-- the other way -/
def rfl2 (v x : P2) : P2 := (2 * v.1 - x.1, 2 * v.2 - x.2)
theorem rfl2_ne {v x : P2} (h : x ≠ v) : rfl2 v x ≠ v := fun e => by
  have := Prod.mk.inj e
  exact h (Prod.ext (by omega) (by omega))
theorem rfl2_up {v x : P2} (h : x ≠ v) : Up v (rfl2 v x) ↔ ¬ Up v x := by
  rw [up_ne h]
  unfold Up rfl2
  omega
theorem rfl2_side (v x y : P2) : side v (rfl2 v x) y = - side v x y ∧ side v x (rfl2 v y) = - side v x y := by
  unfold side rfl2
  grind
/-- three ways of one half, in order -/
theorem rank3 {v x y z : P2} (hx : x ≠ v) (hy : y ≠ v) (hz : z ≠ v) (hxy : Up v x ↔ Up v y) (hyz : Up v y ↔ Up v z) : ∃ a b c : Int,
    (0 < side v x y ↔ a < b) ∧ (side v x y < 0 ↔ b < a) ∧ (0 < side v y z ↔ b < c) ∧ (side v y z < 0 ↔ c < b) ∧ (0 < side v x z ↔ a < c) ∧ (side v x z < 0 ↔ c < a) := by
  have t1 := side_trans hx hy hz hxy hyz
  have t2 := side_trans hx hz hy (hxy.trans hyz) hyz.symm
  have t3 := side_trans hy hx hz hxy.symm (hxy.trans hyz)
  have t4 := side_trans hy hz hx hyz (hxy.trans hyz).symm
  have t5 := side_trans hz hx hy (hxy.trans hyz).symm hxy
  have t6 := side_trans hz hy hx hyz.symm hxy.symm
  have f1 := side_flip v x y
  have f2 := side_flip v x z
  have f3 := side_flip v y z
  rw [f3] at t2
  rw [f1] at t3
  rw [f2] at t4
  rw [f2, f3] at t5
  rw [f3, f1, f2] at t6
  rw [f1] at t4
  generalize side v x y = A at *
  generalize side v y z = B at *
  generalize side v x z = C at *
  clear f1 f2 f3
  rcases Int.lt_trichotomy A 0 with a | a | a <;> rcases Int.lt_trichotomy B 0 with b | b | b <;> rcases Int.lt_trichotomy C 0 with c | c | c
  all_goals first
    | (exfalso; omega)
    | exact ⟨0, 0, 0, by omega, by omega, by omega, by omega, by omega, by omega⟩
    | exact ⟨0, 1, 2, by omega, by omega, by omega, by omega, by omega, by omega⟩
    | exact ⟨0, 2, 1, by omega, by omega, by omega, by omega, by omega, by omega⟩
    | exact ⟨1, 0, 2, by omega, by omega, by omega, by omega, by omega, by omega⟩
    | exact ⟨1, 2, 0, by omega, by omega, by omega, by omega, by omega, by omega⟩
    | exact ⟨2, 0, 1, by omega, by omega, by omega, by omega, by omega, by omega⟩
    | exact ⟨2, 1, 0, by omega, by omega, by omega, by omega, by omega, by omega⟩
    | exact ⟨0, 0, 1, by omega, by omega, by omega, by omega, by omega, by omega⟩
    | exact ⟨0, 1, 0, by omega, by omega, by omega, by omega, by omega, by omega⟩
    | exact ⟨1, 0, 0, by omega, by omega, by omega, by omega, by omega, by omega⟩
    | exact ⟨1, 1, 0, by omega, by omega, by omega, by omega, by omega, by omega⟩
    | exact ⟨1, 0, 1, by omega, by omega, by omega, by omega, by omega, by omega⟩
    | exact ⟨0, 1, 1, by omega, by omega, by omega, by omega, by omega, by omega⟩
/-- the like way in the upper half -/
def hat (v x : P2) : P2 := if Up v x then x else rfl2 v x
theorem hat_ne {v x : P2} (h : x ≠ v) : hat v x ≠ v := by
  unfold hat
  split
  · exact h
  · exact rfl2_ne h
theorem hat_up {v x : P2} (h : x ≠ v) : Up v (hat v x) := by
  unfold hat
  by_cases c : Up v x
  · rw [if_pos c]
    exact c
  · rw [if_neg c]
    exact (rfl2_up h).mpr c
theorem hat_side (v x y : P2) : side v (hat v x) (hat v y) = (if (Up v x ↔ Up v y) then side v x y else - side v x y) := by
  unfold hat
  by_cases c : Up v x <;> by_cases d : Up v y <;> simp only [c, d, if_true, if_false, iff_true, iff_false, not_true, not_false_iff]
  · exact (rfl2_side v x y).2
  · exact (rfl2_side v x y).1
  · rw [(rfl2_side v x (rfl2 v y)).1, (rfl2_side v x y).2]
    omega
/-- told by sides -/
theorem opn_iff {u a z b : P2} (hu : u ≠ a) (hz : z ≠ a) (hb : b ≠ a) (f1 : ¬ Fold a u z) (f2 : ¬ Fold a u b) (f3 : ¬ Fold a z b) : Opn u a z b ↔ if 0 < side u a z then 0 < side a z b ∧ 0 < side u a b else 0 < side a z b ∨ 0 < side u a b := by
  obtain ⟨ru, rz, rb, k⟩ := rank3 (hat_ne hu) (hat_ne hz) (hat_ne hb) ⟨fun _ => hat_up hz, fun _ => hat_up hu⟩ ⟨fun _ => hat_up hb, fun _ => hat_up hz⟩
  rw [hat_side, hat_side, hat_side] at k
  have r1 : side u a z = - side a u z := by rw [side_turn u a z, side_flip]
  have r2 : side u a b = - side a u b := by rw [side_turn u a b, side_flip]
  have r3 := side_flip a z b
  rw [r1, r2]
  unfold Opn dw
  unfold Fold at f1 f2 f3
  have d1 : Be a b z ↔ (Up a b ∧ ¬ Up a z) ∨ ((Up a b ↔ Up a z) ∧ side a z b < 0) := by unfold Be; rw [r3, show (0 < -side a z b) = (side a z b < 0) from propext (by omega)]
  have d2 : Be a u b ↔ (Up a u ∧ ¬ Up a b) ∨ ((Up a u ↔ Up a b) ∧ 0 < side a u b) := by unfold Be; rfl
  have d3 : Be a u z ↔ (Up a u ∧ ¬ Up a z) ∨ ((Up a u ↔ Up a z) ∧ 0 < side a u z) := by unfold Be; rfl
  have g : ∀ p : Prop, [Decidable p] → (p ∧ b2n (decide p) = 1) ∨ (¬ p ∧ b2n (decide p) = 0) := fun p _ => by
    by_cases c : p
    · exact .inl ⟨c, b2n_t c⟩
    · exact .inr ⟨c, b2n_f c⟩
  have g1 := g (Be a b z)
  have g2 := g (Be a u b)
  have g3 := g (Be a u z)
  generalize b2n (decide (Be a b z)) = x1 at *
  generalize b2n (decide (Be a u b)) = x2 at *
  generalize b2n (decide (Be a u z)) = x3 at *
  rw [d1] at g1
  rw [d2] at g2
  rw [d3] at g3
  clear d1 d2 d3 g
  generalize side a u z = A at *
  generalize side a z b = B at *
  generalize side a u b = C at *
  have goal : (x1 + x2 = x3 ↔ (0 < -A ∧ 0 < B ∧ 0 < -C) ∨ (¬ 0 < -A ∧ (0 < B ∨ 0 < -C))) := by
    by_cases uu : Up a u <;> by_cases uz : Up a z <;> by_cases ub : Up a b <;> simp only [uu, uz, ub, if_true, if_false, iff_true, true_iff, iff_false, false_iff, not_true, not_false_iff, true_and, false_and, and_true, and_false, or_false, false_or, true_or, or_true, iff_self, not_and, not_or] at f1 f2 f3 k g1 g2 g3 ⊢ <;> omega
  rw [goal]
  by_cases s : 0 < -A
  · rw [if_pos s]
    omega
  · rw [if_neg s]
    omega
end MT

set_option Elab.async false
set_option linter.all false
set_option maxRecDepth 100000
set_option maxHeartbeats 4000000
/-! Parts of a closed way: what a line cuts off. -/
namespace MT
open DL
structure Miss (n : Nat) (p : Nat → P2) (i j : Nat) : Prop where
  on : ∀ m, m < n → m ≠ i → m ≠ j → ¬ On (p i) (p j) (p m)
  cr : ∀ k, k < n → ¬ Cross (p i) (p j) (p k) (p (nxt n k))
theorem Cross.symm {a b c d : P2} (h : Cross a b c d) : Cross c d a b := ⟨h.2, h.1⟩
theorem Miss.symm {n : Nat} {p : Nat → P2} {i j : Nat} (h : Miss n p i j) : Miss n p j i := ⟨fun m hm a b z => h.on m hm b a (On_swap.mp z), fun k hk z => h.cr k hk (cross_swap1.mp z)⟩
structure SubP (n m : Nat) (φ : Nat → Nat) (s a b : Nat) : Prop where
  m3 : 3 ≤ m
  lt : ∀ k, k < m → φ k < n
  mono : ∀ k l, k < l → l < m → φ k < φ l
  sl : s < m
  ea : φ s = a
  eb : φ (nxt m s) = b
  step : ∀ k, k < m → k ≠ s → φ (nxt m k) = nxt n (φ k)
section
variable {n m : Nat} {p : Nat → P2} {φ : Nat → Nat} {s a b : Nat}
theorem SubP.inj (h : SubP n m φ s a b) {k l : Nat} (hk : k < m) (hl : l < m) (e : φ k = φ l) : k = l := by
  rcases Nat.lt_trichotomy k l with z | z | z
  · have := h.mono k l z hl
    omega
  · exact z
  · have := h.mono l k z hk
    omega
theorem SubP.back (h : SubP n m φ s a b) {k : Nat} (hk : k < m) (h1 : k ≠ nxt m s) : φ (prv m k) = prv n (φ k) := by
  have e := h.step (prv m k) (prv_lt hk) (fun z => h1 (by rw [← z, nxt_prv hk]))
  rw [nxt_prv hk] at e
  rw [e, prv_nxt (h.lt _ (prv_lt hk))]
theorem SubP.sim (h : SubP n m φ s a b) (S : Sim n p) (M : Miss n p a b) : Sim m (fun k => p (φ k)) := by
  have hs' := nxt_lt h.sl
  refine ⟨h.m3, fun k l hk hl h1 h2 => ?_, fun k j hk hj => ?_⟩
  · by_cases c : k = s
    · subst c
      show ¬ On (p (φ k)) (p (φ (nxt m k))) (p (φ l))
      rw [h.ea, h.eb]
      exact M.on _ (h.lt l hl) (fun z => h1 (h.inj hl hk (z.trans h.ea.symm))) (fun z => h2 (h.inj hl hs' (z.trans h.eb.symm)))
    · show ¬ On (p (φ k)) (p (φ (nxt m k))) (p (φ l))
      rw [h.step k hk c]
      exact S.on _ _ (h.lt k hk) (h.lt l hl) (fun z => h1 (h.inj hl hk z)) (fun z => h2 (h.inj hl (nxt_lt hk) (z.trans (h.step k hk c).symm)))
  · show ¬ Cross (p (φ k)) (p (φ (nxt m k))) (p (φ j)) (p (φ (nxt m j)))
    by_cases c : k = s
    · by_cases d : j = s
      · rw [c, d]
        intro z
        unfold Cross at z
        rw [side_eq1] at z
        omega
      · rw [c, h.ea, h.eb, h.step j hj d]
        exact M.cr _ (h.lt j hj)
    · by_cases d : j = s
      · rw [d, h.ea, h.eb, h.step k hk c]
        exact fun z => M.cr _ (h.lt k hk) z.symm
      · rw [h.step k hk c, h.step j hj d]
        exact S.cr _ _ (h.lt k hk) (h.lt j hj)
end
/-! ### the two parts -/
def slf (i : Nat) : Nat → Nat := fun k => i + k
def dlf (i d : Nat) : Nat → Nat := fun k => if k ≤ i then k else k + d
theorem sub_sl {i d e : Nat} (hd : 1 ≤ d) : SubP (i + d + e + 2) (d + 2) (slf i) (d + 1) (i + d + 1) i := by
  refine ⟨by omega, fun k hk => ?_, fun k l hk hl => ?_, by omega, ?_, ?_, fun k hk h => ?_⟩
  all_goals unfold slf
  · omega
  · omega
  · omega
  · unfold nxt
    rw [if_pos (by omega)]
    rfl
  · unfold nxt
    rw [if_neg (by omega), if_neg (by omega)]
    omega
theorem sub_dl {i d e : Nat} (hd : 1 ≤ i + e) : SubP (i + d + e + 2) (i + e + 2) (dlf i d) i i (i + d + 1) := by
  refine ⟨by omega, fun k hk => ?_, fun k l hk hl => ?_, by omega, ?_, ?_, fun k hk h => ?_⟩
  all_goals unfold dlf
  · split <;> omega
  · split <;> split <;> omega
  · rw [if_pos (Nat.le_refl _)]
  · unfold nxt
    rw [if_neg (show ¬ i + 1 = i + e + 2 by omega), if_neg (by omega)]
    omega
  · unfold nxt
    by_cases c : k ≤ i
    · rw [if_pos c, if_neg (show ¬ k + 1 = i + e + 2 by omega), if_pos (by omega), if_neg (by omega)]
    · rw [if_neg c]
      by_cases g : k + 1 = i + e + 2
      · rw [if_pos g, if_pos (by omega), if_pos (by omega)]
      · rw [if_neg g, if_neg (by omega), if_neg (by omega)]
        omega
theorem cyc_open (f : P2 → P2 → Int) (n : Nat) (p : Nat → P2) : cyc f (n + 1) p = su (fun k => f (p k) (p (k + 1))) n + f (p n) (p 0) := by
  unfold cyc
  rw [su, su_ext (g := fun k => f (p k) (p (k + 1))) fun k hk => by unfold nxt; rw [if_neg (by omega)]]
  unfold nxt
  rw [if_pos rfl]
theorem cyc_two (f : P2 → P2 → Int) (hf : ∀ a b, f b a = - f a b) (p : Nat → P2) (i d e : Nat) : cyc f (i + d + e + 2) p = cyc f (d + 2) (fun k => p (slf i k)) + cyc f (i + e + 2) (fun k => p (dlf i d k)) := by
  rw [cyc_open f (i + d + e + 1), cyc_open f (d + 1), cyc_open f (i + e + 1)]
  rw [show i + d + e + 1 = i + ((d + 1) + e) by omega, su_cut, su_cut _ (d + 1), show i + e + 1 = i + (1 + e) by omega, su_cut _ i (1 + e), su_cut _ 1 e]
  have e1 : su (fun k => f (p (slf i k)) (p (slf i (k + 1)))) (d + 1) = su (fun k => f (p (i + k)) (p (i + k + 1))) (d + 1) := rfl
  have e2 : su (fun k => f (p (dlf i d k)) (p (dlf i d (k + 1)))) i = su (fun k => f (p k) (p (k + 1))) i := su_ext fun k hk => by
    unfold dlf
    rw [if_pos (by omega), if_pos (by omega)]
  have e3 : su (fun k => f (p (dlf i d (i + (1 + k)))) (p (dlf i d (i + (1 + k) + 1)))) e = su (fun k => f (p (i + (d + 1 + k))) (p (i + (d + 1 + k) + 1))) e := su_ext fun k hk => by
    unfold dlf
    rw [if_neg (by omega), if_neg (by omega)]
    congr 2 <;> omega
  have e4 : su (fun k => f (p (dlf i d (i + k))) (p (dlf i d (i + k + 1)))) 1 = f (p i) (p (i + d + 1)) := by
    simp only [su]
    unfold dlf
    rw [if_pos (by omega), if_neg (by omega)]
    simp only [Nat.add_zero, Int.zero_add]
    congr 2
    omega
  have e5 : f (p (dlf i d (i + (1 + e)))) (p (dlf i d 0)) = f (p (i + (d + 1 + e))) (p 0) := by
    unfold dlf
    rw [if_neg (by omega), if_pos (by omega)]
    congr 2
    omega
  have e6 : f (p (slf i (d + 1))) (p (slf i 0)) = - f (p i) (p (i + d + 1)) := by
    rw [← hf]
    rfl
  have e7 := hf (p i) (p (i + d + 1))
  omega
theorem wn_two (p : Nat → P2) (i d e : Nat) (q : P2) : wn (i + d + e + 2) p q = wn (d + 2) (fun k => p (slf i k)) q + wn (i + e + 2) (fun k => p (dlf i d k)) q :=
  cyc_two _ (fun a b => cw_swap a b q) p i d e
/-! ### a line -/
structure Diag (n : Nat) (p : Nat → P2) (i j : Nat) : Prop where
  ij : i + 1 < j
  jn : j < n
  no : ¬ (i = 0 ∧ j = n - 1)
  ms : Miss n p i j
  op : Opn (p (prv n i)) (p i) (p (nxt n i)) (p j)
/-- what a line leaves -/
structure Halves (i d e : Nat) (p : Nat → P2) : Prop where
  hd : 1 ≤ d
  he : 1 ≤ i + e
  s1 : Sim (d + 2) (fun k => p (slf i k))
  l1 : lam (d + 2) (fun k => p (slf i k)) = 1
  s2 : Sim (i + e + 2) (fun k => p (dlf i d k))
  l2 : lam (i + e + 2) (fun k => p (dlf i d k)) = 1
  oi : Opn (p (prv (i + d + e + 2) i)) (p i) (p (nxt (i + d + e + 2) i)) (p (i + d + 1))
  oj : Opn (p (prv (i + d + e + 2) (i + d + 1))) (p (i + d + 1)) (p (nxt (i + d + e + 2) (i + d + 1))) (p i)
theorem halves {i d e : Nat} {p : Nat → P2} (S : Sim (i + d + e + 2) p) (L : lam (i + d + e + 2) p = 1) (hd : 1 ≤ d) (he : 1 ≤ i + e) (M : Miss (i + d + e + 2) p i (i + d + 1))
    (O : Opn (p (prv (i + d + e + 2) i)) (p i) (p (nxt (i + d + e + 2) i)) (p (i + d + 1)) ∨ Opn (p (prv (i + d + e + 2) (i + d + 1))) (p (i + d + 1)) (p (nxt (i + d + e + 2) (i + d + 1))) (p i)) : Halves i d e p := by
  have b1 := sub_sl (i := i) (d := d) (e := e) hd
  have b2 := sub_dl (i := i) (d := d) (e := e) he
  have S1 := b1.sim S M.symm
  have S2 := b2.sim S M
  have t := S1.lam01
  have t2 := S2.lam01
  have hi : i < i + d + e + 2 := by omega
  have hj : i + d + 1 < i + d + e + 2 := by omega
  -- at the first corner
  have A0 := S.lam i hi
  have A1 := S1.lam 0 (by omega)
  have A2 := S2.lam i (by omega)
  have W := wn_two p i d e (p i)
  have x1 : slf i (prv (d + 2) 0) = i + d + 1 := by unfold slf prv; simp; omega
  have x2 : slf i (nxt (d + 2) 0) = nxt (i + d + e + 2) i := by unfold slf nxt; rw [if_neg (by omega), if_neg (by omega)]
  have x0 : slf i 0 = i := rfl
  have y1 : dlf i d (prv (i + e + 2) i) = prv (i + d + e + 2) i := by
    have := b2.back (k := i) (by omega) (by unfold nxt; rw [if_neg (by omega)]; omega)
    rw [this]
    unfold dlf
    rw [if_pos (Nat.le_refl _)]
  have y2 : dlf i d (nxt (i + e + 2) i) = i + d + 1 := b2.eb
  have y0 : dlf i d i = i := b2.ea
  rw [x0, x1, x2] at A1
  rw [y0, y1, y2] at A2
  -- at the other corner
  have B0 := S.lam (i + d + 1) hj
  have B1 := S1.lam (d + 1) (by omega)
  have B2 := S2.lam (i + 1) (by omega)
  have V := wn_two p i d e (p (i + d + 1))
  have u1 : slf i (prv (d + 2) (d + 1)) = prv (i + d + e + 2) (i + d + 1) := by unfold slf prv; rw [if_neg (by omega), if_neg (by omega)]; omega
  have u2 : slf i (nxt (d + 2) (d + 1)) = i := b1.eb
  have u0 : slf i (d + 1) = i + d + 1 := b1.ea
  have v0 : dlf i d (i + 1) = i + d + 1 := by unfold dlf; rw [if_neg (by omega)]; omega
  have v3 : prv (i + e + 2) (i + 1) = i := by unfold prv; rw [if_neg (by omega)]; omega
  have v1 : dlf i d (prv (i + e + 2) (i + 1)) = i := by rw [v3]; exact y0
  have v2 : dlf i d (nxt (i + e + 2) (i + 1)) = nxt (i + d + e + 2) (i + d + 1) := by
    rw [b2.step (i + 1) (by omega) (by omega), v0]
  rw [u0, u1, u2] at B1
  rw [v0, v1, v2] at B2
  have nij : p i ≠ p (i + d + 1) := S.ne hi hj (by omega)
  have ni := prv_ne S.n3 hi
  have ni2 := nxt_ne S.n3 hi
  have nj := prv_ne S.n3 hj
  have nj2 := nxt_ne S.n3 hj
  have oi := opn_01 (S.ne (prv_lt hi) hi ni.1) (S.ne (nxt_lt hi) hi ni2.1) (fun z => nij z.symm)
  have oj := opn_01 (S.ne (prv_lt hj) hj nj.1) (S.ne (nxt_lt hj) hj nj2.1) nij
  unfold Opn at *
  clear x1 x2 x0 y1 y2 y0 u1 u2 u0 v0 v1 v2 v3 ni ni2 nj nj2
  have l1 : lam (d + 2) (fun k => p (slf i k)) = 1 := by omega
  have l2 : lam (i + e + 2) (fun k => p (dlf i d k)) = 1 := by omega
  rw [l1] at A1 B1
  rw [l2] at A2 B2
  exact ⟨hd, he, S1, l1, S2, l2, by unfold Opn; omega, by unfold Opn; omega⟩
theorem Diag.par {n : Nat} {p : Nat → P2} {i j : Nat} (D : Diag n p i j) : ∃ d e, n = i + d + e + 2 ∧ j = i + d + 1 ∧ 1 ≤ d ∧ 1 ≤ i + e := by
  have h1 := D.ij
  have h2 := D.jn
  have h3 := D.no
  exact ⟨j - i - 1, n - 1 - j, by omega, by omega, by omega, by omega⟩
theorem Diag.halves {i d e : Nat} {p : Nat → P2} (S : Sim (i + d + e + 2) p) (L : lam (i + d + e + 2) p = 1) (D : Diag (i + d + e + 2) p i (i + d + 1)) : Halves i d e p := by
  have h1 := D.ij
  have h3 := D.no
  exact MT.halves S L (by omega) (by omega) D.ms (.inl D.op)
/-- amid a line the walls go round once -/
theorem Diag.one {n : Nat} {p : Nat → P2} {i j : Nat} {r : P2} (S : Sim n p) (L : lam n p = 1) (D : Diag n p i j) (hr : On (p i) (p j) r) (h1 : r ≠ p i) (h2 : r ≠ p j) : wn n p r = 1 := by
  obtain ⟨d, e, rfl, rfl, hd, he⟩ := D.par
  have H := D.halves S L
  rw [wn_two]
  have b1 := sub_sl (i := i) (d := d) (e := e) hd
  have b2 := sub_dl (i := i) (d := d) (e := e) he
  have w1 := H.s1.wall (k := d + 1) (r := r) (by omega) (by
    show On (p (slf i (d + 1))) (p (slf i (nxt (d + 2) (d + 1)))) r
    rw [b1.ea, b1.eb]
    exact On_swap.mp hr) (by
    show r ≠ p (slf i (d + 1))
    rw [b1.ea]
    exact h2) (by
    show r ≠ p (slf i (nxt (d + 2) (d + 1)))
    rw [b1.eb]
    exact h1)
  have w2 := H.s2.wall (k := i) (r := r) (by omega) (by
    show On (p (dlf i d i)) (p (dlf i d (nxt (i + e + 2) i))) r
    rw [b2.ea, b2.eb]
    exact hr) (by
    show r ≠ p (dlf i d i)
    rw [b2.ea]
    exact h1) (by
    show r ≠ p (dlf i d (nxt (i + e + 2) i))
    rw [b2.eb]
    exact h2)
  have e1 : b2n (decide (¬ Up (p (slf i (d + 1))) (p (slf i (nxt (d + 2) (d + 1)))))) = b2n (decide (¬ Up (p (i + d + 1)) (p i))) := by rw [b1.ea, b1.eb]
  have e2 : b2n (decide (¬ Up (p (dlf i d i)) (p (dlf i d (nxt (i + e + 2) i))))) = b2n (decide (¬ Up (p i) (p (i + d + 1)))) := by rw [b2.ea, b2.eb]
  rw [e1, H.l1] at w1
  rw [e2, H.l2] at w2
  have ne := S.ne (k := i) (m := i + d + 1) (by omega) (by omega) (by omega)
  have u := up_ne (v := p i) (x := p (i + d + 1)) (fun z => ne z.symm)
  have ud : Up (p (i + d + 1)) (p i) ↔ ¬ Up (p i) (p (i + d + 1)) := by
    rw [u]
    unfold Up
    omega
  rw [b2n_c (not_congr ud)] at w1
  by_cases c : Up (p i) (p (i + d + 1))
  · rw [b2n_f (fun z => z c)] at w2
    rw [b2n_t (show ¬¬ Up (p i) (p (i + d + 1)) from fun z => z c)] at w1
    omega
  · rw [b2n_t c] at w2
    rw [b2n_f (show ¬¬¬ Up (p i) (p (i + d + 1)) from fun z => z c)] at w1
    omega
theorem Diag.scl {n : Nat} {p : Nat → P2} {i j : Nat} {N : Int} (D : Diag n p i j) (hN : 0 < N) : Diag n (MT.scl N p) i j := by
  refine ⟨D.ij, D.jn, D.no, ⟨fun m hm a b z => D.ms.on m hm a b ((on_scp hN).mp z), fun k hk z => D.ms.cr k hk ((cross_scp hN).mp z)⟩, ?_⟩
  unfold Opn MT.scl
  rw [dw_scp hN, dw_scp hN, dw_scp hN]
  exact D.op
/-! ### where two stretches cross -/
theorem cross_pt {a b c d : P2} (h : Cross a b c d) : ∃ (N : Int) (r : P2), 0 < N ∧ On (scp N a) (scp N b) r ∧ On (scp N c) (scp N d) r ∧ r ≠ scp N a ∧ r ≠ scp N b ∧ r ≠ scp N c ∧ r ≠ scp N d := by
  have key : ∀ a b c d : P2, 0 < side c d a → side c d b < 0 → Cross a b c d → ∃ (N : Int) (r : P2), 0 < N ∧ On (scp N a) (scp N b) r ∧ On (scp N c) (scp N d) r ∧ r ≠ scp N a ∧ r ≠ scp N b ∧ r ≠ scp N c ∧ r ≠ scp N d := fun a b c d hA hB h => by
    have i1 := four1 a b c d
    have hC : side a b c < 0 ∧ 0 < side a b d := by
      rcases h.1 with z | z
      · omega
      · exact z
    have v1 : side c d a * b.1 - side c d b * a.1 = side a b d * c.1 - side a b c * d.1 := by unfold side; grind
    have v2 : side c d a * b.2 - side c d b * a.2 = side a b d * c.2 - side a b c * d.2 := by unfold side; grind
    obtain ⟨A, eA⟩ : ∃ A, A = side c d a := ⟨_, rfl⟩
    obtain ⟨B, eB⟩ : ∃ A, A = side c d b := ⟨_, rfl⟩
    obtain ⟨C, eC⟩ : ∃ A, A = side a b c := ⟨_, rfl⟩
    obtain ⟨D, eD⟩ : ∃ A, A = side a b d := ⟨_, rfl⟩
    rw [← eA] at hA
    rw [← eB] at hB
    rw [← eC, ← eD] at hC
    rw [← eA, ← eB, ← eC, ← eD] at i1 v1 v2
    have q1 : Par (scp (A - B) a) (scp (A - B) b) (A * b.1 - B * a.1, A * b.2 - B * a.2) A (A - B) := ⟨by omega, by omega, by omega, by unfold scp; grind, by unfold scp; grind⟩
    have q2 : Par (scp (A - B) c) (scp (A - B) d) (A * b.1 - B * a.1, A * b.2 - B * a.2) (-C) (A - B) := by
      rw [v1, v2]
      have e : A - B = D - C := by omega
      exact ⟨by omega, by omega, by omega, by unfold scp; grind, by unfold scp; grind⟩
    have hN : 0 < A - B := by omega
    have s := fun t => sgn_scp hN c d t
    have s2 := fun t => sgn_scp hN a b t
    have z1 := q1.on.1
    have z2 := q2.on.1
    refine ⟨A - B, _, hN, q1.on, q2.on, fun z => ?_, fun z => ?_, fun z => ?_, fun z => ?_⟩
    · rw [z] at z2
      have := (s a).2.2.mp z2
      omega
    · rw [z] at z2
      have := (s b).2.2.mp z2
      omega
    · rw [z] at z1
      have := (s2 c).2.2.mp z1
      omega
    · rw [z] at z1
      have := (s2 d).2.2.mp z1
      omega
  rcases h.2 with z | z
  · exact key a b c d z.1 z.2 h
  · obtain ⟨N, r, h0, h1, h2, h3, h4, h5, h6⟩ := key b a c d z.2 z.1 (cross_swap1.mp h)
    exact ⟨N, r, h0, On_swap.mp h1, h2, h4, h3, h5, h6⟩
/-! ### a line of a part is a line of the whole -/
structure Parts (n m m' : Nat) (p : Nat → P2) (φ φ' : Nat → Nat) (s s' a b : Nat) : Prop where
  S : Sim n p
  L : lam n p = 1
  u : SubP n m φ s a b
  u' : SubP n m' φ' s' b a
  S1 : Sim m (fun k => p (φ k))
  L1 : lam m (fun k => p (φ k)) = 1
  S2 : Sim m' (fun k => p (φ' k))
  L2 : lam m' (fun k => p (φ' k)) = 1
  w : ∀ (p : Nat → P2) q, wn n p q = wn m (fun k => p (φ k)) q + wn m' (fun k => p (φ' k)) q
  all : ∀ k, k < n → (∃ j, j < m ∧ j ≠ s ∧ φ j = k) ∨ (∃ j, j < m' ∧ j ≠ s' ∧ φ' j = k)
  oa : Opn (p (prv n a)) (p a) (p (nxt n a)) (p b)
  ob : Opn (p (prv n b)) (p b) (p (nxt n b)) (p a)
section
variable {n m m' : Nat} {p : Nat → P2} {φ φ' : Nat → Nat} {s s' a b : Nat}
/-- the other part's corners lie outside -/
theorem Parts.out (P : Parts n m m' p φ φ' s s' a b) {j : Nat} (hj : j < m') (h1 : j ≠ s') (h2 : j ≠ nxt m' s') : wn m (fun k => p (φ k)) (p (φ' j)) = 0 := by
  have e1 := P.S.lam _ (P.u'.lt j hj)
  have e2 := P.S2.lam j hj
  have e3 := P.w p (p (φ' j))
  rw [P.u'.back hj h2, P.u'.step j hj h1, P.L2] at e2
  rw [P.L] at e1
  omega
theorem Parts.scl (P : Parts n m m' p φ φ' s s' a b) {N : Int} (hN : 0 < N) : Parts n m m' (MT.scl N p) φ φ' s s' a b :=
  ⟨P.S.scl hN, (lam_scl hN).trans P.L, P.u, P.u', P.S1.scl hN, (lam_scl (p := fun k => p (φ k)) hN).trans P.L1, P.S2.scl hN, (lam_scl (p := fun k => p (φ' k)) hN).trans P.L2, P.w, P.all,
    by unfold Opn MT.scl; rw [dw_scp hN, dw_scp hN, dw_scp hN]; exact P.oa, by unfold Opn MT.scl; rw [dw_scp hN, dw_scp hN, dw_scp hN]; exact P.ob⟩
/-- and its walls -/
theorem Parts.outw (P : Parts n m m' p φ φ' s s' a b) {j : Nat} {r : P2} (hj : j < m') (h1 : j ≠ s') (hr : On (p (φ' j)) (p (nxt n (φ' j))) r) (ha : r ≠ p (φ' j)) (hb : r ≠ p (nxt n (φ' j))) : wn m (fun k => p (φ k)) r = 0 := by
  have e1 := P.S.wall (P.u'.lt j hj) hr ha hb
  have e2 := P.S2.wall (k := j) (r := r) hj (by
    show On (p (φ' j)) (p (φ' (nxt m' j))) r
    rw [P.u'.step j hj h1]
    exact hr) ha (by
    show r ≠ p (φ' (nxt m' j))
    rw [P.u'.step j hj h1]
    exact hb)
  have e3 := P.w p r
  have e4 : b2n (decide (¬ Up (p (φ' j)) (p (φ' (nxt m' j))))) = b2n (decide (¬ Up (p (φ' j)) (p (nxt n (φ' j))))) := by rw [P.u'.step j hj h1]
  rw [e4, P.L2] at e2
  rw [P.L] at e1
  omega
theorem Parts.lift (P : Parts n m m' p φ φ' s s' a b) {x y : Nat} (D : Diag m (fun k => p (φ k)) x y) (no : ¬ (φ x = 0 ∧ φ y = n - 1)) : Diag n p (φ x) (φ y) := by
  have hx : x < m := by have := D.ij; have := D.jn; omega
  have hy := D.jn
  have hxy := D.ij
  refine ⟨?_, P.u.lt y hy, no, ⟨fun k hk h1 h2 => ?_, fun k hk => ?_⟩, ?_⟩
  · have e1 := P.u.mono x (x + 1) (by omega) (by omega)
    have e2 := P.u.mono (x + 1) y (by omega) hy
    omega
  · rcases P.all k hk with ⟨j, hj, hjs, rfl⟩ | ⟨j, hj, hjs, rfl⟩
    · exact D.ms.on j hj (fun z => h1 (by rw [z])) (fun z => h2 (by rw [z]))
    · by_cases c : j = nxt m' s'
      · have e : φ' j = φ s := by rw [c, P.u'.eb, P.u.ea]
        rw [e] at h1 h2 ⊢
        exact D.ms.on s P.u.sl (fun z => h1 (by rw [z])) (fun z => h2 (by rw [z]))
      · intro z
        have e1 := P.out hj hjs c
        have e2 := D.one P.S1 P.L1 z (P.S.ne hk (P.u.lt x hx) h1) (P.S.ne hk (P.u.lt y hy) h2)
        omega
  · intro z
    rcases P.all k hk with ⟨j, hj, hjs, rfl⟩ | ⟨j, hj, hjs, rfl⟩
    · refine D.ms.cr j hj ?_
      show Cross (p (φ x)) (p (φ y)) (p (φ j)) (p (φ (nxt m j)))
      rw [P.u.step j hj hjs]
      exact z
    · obtain ⟨N, r, h0, h1, h2, h3, h4, h5, h6⟩ := cross_pt z
      have e1 := (P.scl h0).outw (r := r) hj hjs h2 h5 h6
      have e2 := (D.scl h0).one (r := r) (P.scl h0).S1 (P.scl h0).L1 h1 h3 h4
      have e1 : wn m (fun k => MT.scl N p (φ k)) r = 0 := e1
      have e2 : wn m (fun k => MT.scl N p (φ k)) r = 1 := e2
      omega
  · have hop := D.op
    have n1 := prv_ne P.S1.n3 hx
    have n2 := nxt_ne P.S1.n3 hx
    have fx := P.u.lt x hx
    have m1 := prv_ne P.S.n3 fx
    have m2 := nxt_ne P.S.n3 fx
    have q1 := P.S.ne (prv_lt fx) fx m1.1
    have q2 := P.S.ne (nxt_lt fx) fx m2.1
    have q4 : p (φ y) ≠ p (φ x) := P.S.ne (P.u.lt y hy) fx (fun z => by
      have := P.u.mono x y (by omega) hy
      omega)
    by_cases c : x = s
    · subst c
      rw [P.u.back hx (fun z => n2.1 z.symm), P.u.eb] at hop
      have hoa := P.oa
      rw [← P.u.ea] at hoa
      have q3 : p b ≠ p (φ x) := by
        rw [← P.u.eb]
        exact P.S1.ne (nxt_lt hx) hx n2.1
      exact opn_next q1 q2 q3 q4 hoa hop
    · by_cases c2 : x = nxt m s
      · have hob := P.ob
        have e1 : φ (prv m x) = a := by rw [c2, prv_nxt P.u.sl, P.u.ea]
        have e2 : φ x = b := by rw [c2, P.u.eb]
        rw [e1, P.u.step x hx c] at hop
        rw [← e2] at hob
        have q3 : p a ≠ p (φ x) := by
          rw [← e1]
          exact P.S1.ne (prv_lt hx) hx n1.1
        exact opn_prev q1 q2 q3 q4 hob hop
      · rw [P.u.back hx c2, P.u.step x hx c] at hop
        exact hop
end
theorem Diag.parts_sl {i d e : Nat} {p : Nat → P2} (S : Sim (i + d + e + 2) p) (L : lam (i + d + e + 2) p = 1) (D : Diag (i + d + e + 2) p i (i + d + 1)) : Parts (i + d + e + 2) (d + 2) (i + e + 2) p (slf i) (dlf i d) (d + 1) i (i + d + 1) i := by
  have H := D.halves S L
  exact ⟨S, L, sub_sl H.hd, sub_dl H.he, H.s1, H.l1, H.s2, H.l2, fun p q => wn_two p i d e q, fun k hk => by
    by_cases c : i ≤ k ∧ k < i + d + 1
    · exact .inl ⟨k - i, by omega, by omega, by unfold slf; omega⟩
    · by_cases c2 : k < i
      · exact .inr ⟨k, by omega, by omega, by unfold dlf; rw [if_pos (by omega)]⟩
      · exact .inr ⟨k - d, by omega, by omega, by unfold dlf; rw [if_neg (by omega)]; omega⟩, H.oj, H.oi⟩
theorem Diag.parts_dl {i d e : Nat} {p : Nat → P2} (S : Sim (i + d + e + 2) p) (L : lam (i + d + e + 2) p = 1) (D : Diag (i + d + e + 2) p i (i + d + 1)) : Parts (i + d + e + 2) (i + e + 2) (d + 2) p (dlf i d) (slf i) i (d + 1) i (i + d + 1) := by
  have H := D.parts_sl S L
  exact ⟨S, L, H.u', H.u, H.S2, H.L2, H.S1, H.L1, fun p q => by rw [H.w p q]; omega, fun k hk => (H.all k hk).symm, H.ob, H.oa⟩
end MT

set_option Elab.async false
set_option linter.all false
set_option maxRecDepth 100000
set_option maxHeartbeats 4000000
/-! There is a line; each pair that is joined has a third corner. -/
namespace MT
open DL
theorem side3 (u v z s : P2) : side u v s + side v z s + side z u s = side u v z := by unfold side; grind
theorem bary (u v z s a b : P2) : side v z s * side a b u + side z u s * side a b v + side u v s * side a b z = side u v z * side a b s := by unfold side; grind
/-- out of a triangle, from a point in it or on its side z, u, to a point at the same side of z, u -/
theorem exit_of {u v z X s : P2} (D : 0 < side u v z) (aX : 0 < side u v X) (bX : 0 < side v z X) (gX : 0 ≤ side z u X) (gs : 0 < side z u s) (h : side u v s < 0 ∨ side v z s < 0) : Cross s X u v ∨ Cross s X v z ∨ On s X v := by
  have k1 := bary u v z s s X
  have k2 := bary u v z X s X
  rw [side_eq1, Int.mul_zero] at k1
  rw [side_eq0, Int.mul_zero] at k2
  have hsX : s ≠ X := fun w => by rw [w] at h; omega
  -- the three ends, seen from the way
  have nz : ¬ (side s X u = 0 ∧ side s X v = 0 ∧ side s X z = 0) := fun w => by
    have := (line_trans hsX w.1 w.2.1)
    have e := bary s X u v u v
    have l1 := line_trans hsX w.1 w.2.1
    have l2 := line_trans hsX w.2.1 w.2.2
    have : side u v z = 0 := by
      by_cases c : u = v
      · rw [c, side_eq2]
      · -- s, X on the line u, v
        have m1 : side u v s = 0 := l1.1
        have m2 : side u v X = 0 := l1.2
        omega
    omega
  obtain ⟨U, eU⟩ : ∃ A, A = side s X u := ⟨_, rfl⟩
  obtain ⟨V, eV⟩ : ∃ A, A = side s X v := ⟨_, rfl⟩
  obtain ⟨Z, eZ⟩ : ∃ A, A = side s X z := ⟨_, rfl⟩
  have c1 : side u v s < 0 → (0 < U ∧ V < 0) ∨ (U < 0 ∧ 0 < V) → Cross s X u v := fun h1 h2 => by
    unfold Cross
    rw [← eU, ← eV]
    exact ⟨h2, .inr ⟨h1, aX⟩⟩
  have c2 : side v z s < 0 → (0 < V ∧ Z < 0) ∨ (V < 0 ∧ 0 < Z) → Cross s X v z := fun h1 h2 => by
    unfold Cross
    rw [← eV, ← eZ]
    exact ⟨h2, .inr ⟨h1, bX⟩⟩
  rw [← eU, ← eV, ← eZ] at k1 k2 nz
  have c3 : V = 0 → side u v s < 0 → On s X v := fun h1 h2 => by
    have v1 : side u v X * s.1 - side u v s * X.1 = U * v.1 - V * u.1 := by rw [eU, eV]; unfold side; grind
    have v2 : side u v X * s.2 - side u v s * X.2 = U * v.2 - V * u.2 := by rw [eU, eV]; unfold side; grind
    have v3 : side u v X - side u v s = U - V := by rw [eU, eV]; unfold side; grind
    rw [h1] at v1 v2 v3
    exact Par.on (m := -side u v s) (n := U) ⟨by omega, by omega, by omega, by grind, by grind⟩
  generalize side u v s = as at *
  generalize side v z s = bs at *
  generalize side z u s = gs' at *
  generalize side u v X = ax at *
  generalize side v z X = bx at *
  generalize side z u X = gx at *
  clear eU eV eZ
  by_cases A : as < 0
  · by_cases B : bs < 0
    · -- both
      rcases Int.lt_trichotomy V 0 with v0 | v0 | v0
      · have p1 := mul_pn gs v0
        have p2 : 0 ≤ gx * -V := mul_nn gX (by omega)
        rw [Int.mul_neg] at p2
        -- bs U + as Z > 0, bx U + ax Z >= 0
        by_cases hu : 0 < U
        · exact .inl (c1 A (.inl ⟨hu, v0⟩))
        · by_cases hz : 0 < Z
          · exact .inr (.inl (c2 B (.inr ⟨v0, hz⟩)))
          · have q1 : 0 ≤ bx * -U := mul_nn (by omega) (by omega)
            have q2 : 0 ≤ ax * -Z := mul_nn (by omega) (by omega)
            rw [Int.mul_neg] at q1 q2
            have q3 : bx * U = 0 := by omega
            have q4 : ax * Z = 0 := by omega
            have u0 : U = 0 := zero_l (by rw [Int.mul_comm]; exact q3) bX
            have z0 : Z = 0 := zero_l (by rw [Int.mul_comm]; exact q4) aX
            rw [u0, z0] at k1
            simp at k1
            omega
      · exact .inr (.inr (c3 v0 A))
      · have p1 := mul_pp gs v0
        have p2 : 0 ≤ gx * V := mul_nn gX (by omega)
        by_cases hu : U < 0
        · exact .inl (c1 A (.inr ⟨hu, v0⟩))
        · by_cases hz : Z < 0
          · exact .inr (.inl (c2 B (.inl ⟨v0, hz⟩)))
          · have q1 : 0 ≤ bx * U := mul_nn (by omega) (by omega)
            have q2 : 0 ≤ ax * Z := mul_nn (by omega) (by omega)
            have q3 : bx * U = 0 := by omega
            have q4 : ax * Z = 0 := by omega
            have u0 : U = 0 := zero_l (by rw [Int.mul_comm]; exact q3) bX
            have z0 : Z = 0 := zero_l (by rw [Int.mul_comm]; exact q4) aX
            rw [u0, z0] at k1
            simp at k1
            omega
    · -- as < 0, bs >= 0
      refine .inl (c1 A ?_)
      have nA : 0 < -as := by omega
      rcases Int.lt_trichotomy V 0 with v0 | v0 | v0
      · refine .inl ⟨?_, v0⟩
        rcases Int.lt_or_le 0 U with hu | hu
        · exact hu
        · have p1 := mul_pn gs v0
          have p2 : 0 ≤ gx * -V := mul_nn gX (by omega)
          have q1 : 0 ≤ bx * -U := mul_nn (by omega) (by omega)
          have q2 : 0 ≤ bs * -U := mul_nn (by omega) (by omega)
          rw [Int.mul_neg] at p2 q1 q2
          have q3 : 0 ≤ ax * Z := by omega
          have z0 : 0 ≤ Z := by
            rcases Int.lt_or_le Z 0 with w | w
            · have := mul_pn aX w
              omega
            · exact w
          have := mul_nn (show 0 ≤ -as by omega) z0
          rw [Int.neg_mul] at this
          omega
      · exfalso
        rw [v0] at k1 k2
        simp at k1 k2
        rcases Int.lt_trichotomy U 0 with hu | hu | hu
        · have q1 := mul_pn bX hu
          have z0 : 0 < Z := by
            rcases Int.lt_or_le 0 Z with w | w
            · exact w
            · have := mul_nn (show 0 ≤ ax by omega) (show 0 ≤ -Z by omega)
              rw [Int.mul_neg] at this
              omega
          have q2 := mul_pp nA z0
          have q3 : 0 ≤ bs * -U := mul_nn (by omega) (by omega)
          rw [Int.mul_neg] at q3
          rw [Int.neg_mul] at q2
          omega
        · rw [hu] at k2
          simp at k2
          have : Z = 0 := zero_l (by rw [Int.mul_comm]; exact k2) aX
          exact nz ⟨hu, v0, this⟩
        · have q1 := mul_pp bX hu
          have z0 : Z < 0 := by
            rcases Int.lt_or_le Z 0 with w | w
            · exact w
            · have := mul_nn (show 0 ≤ ax by omega) w
              omega
          have q2 := mul_pn nA z0
          have q3 : 0 ≤ bs * U := mul_nn (by omega) (by omega)
          rw [Int.neg_mul] at q2
          omega
      · refine .inr ⟨?_, v0⟩
        rcases Int.lt_or_le U 0 with hu | hu
        · exact hu
        · have p1 := mul_pp gs v0
          have p2 : 0 ≤ gx * V := mul_nn gX (by omega)
          have q1 : 0 ≤ bx * U := mul_nn (by omega) (by omega)
          have q2 : 0 ≤ bs * U := mul_nn (by omega) (by omega)
          have q3 : ax * Z ≤ 0 := by omega
          have z0 : Z ≤ 0 := by
            rcases Int.lt_or_le 0 Z with w | w
            · have := mul_pp aX w
              omega
            · exact w
          have := mul_nn (show 0 ≤ -as by omega) (show 0 ≤ -Z by omega)
          rw [Int.neg_mul_neg] at this
          omega
  · -- as >= 0, bs < 0
    have B : bs < 0 := by omega
    refine .inr (.inl (c2 B ?_))
    have nB : 0 < -bs := by omega
    rcases Int.lt_trichotomy V 0 with v0 | v0 | v0
    · refine .inr ⟨v0, ?_⟩
      rcases Int.lt_or_le 0 Z with hu | hu
      · exact hu
      · have p1 := mul_pn gs v0
        have p2 : 0 ≤ gx * -V := mul_nn gX (by omega)
        have q1 : 0 ≤ ax * -Z := mul_nn (by omega) (by omega)
        have q2 : 0 ≤ as * -Z := mul_nn (by omega) (by omega)
        rw [Int.mul_neg] at p2 q1 q2
        have q3 : 0 ≤ bx * U := by omega
        have z0 : 0 ≤ U := by
          rcases Int.lt_or_le U 0 with w | w
          · have := mul_pn bX w
            omega
          · exact w
        have := mul_nn (show 0 ≤ -bs by omega) z0
        rw [Int.neg_mul] at this
        omega
    · exfalso
      rw [v0] at k1 k2
      simp at k1 k2
      rcases Int.lt_trichotomy Z 0 with hu | hu | hu
      · have q1 := mul_pn aX hu
        have z0 : 0 < U := by
          rcases Int.lt_or_le 0 U with w | w
          · exact w
          · have := mul_nn (show 0 ≤ bx by omega) (show 0 ≤ -U by omega)
            rw [Int.mul_neg] at this
            omega
        have q2 := mul_pp nB z0
        have q3 : 0 ≤ as * -Z := mul_nn (by omega) (by omega)
        rw [Int.mul_neg] at q3
        rw [Int.neg_mul] at q2
        omega
      · rw [hu] at k2
        simp at k2
        have : U = 0 := zero_l (by rw [Int.mul_comm]; exact k2) bX
        exact nz ⟨this, v0, hu⟩
      · have q1 := mul_pp aX hu
        have z0 : U < 0 := by
          rcases Int.lt_or_le U 0 with w | w
          · exact w
          · have := mul_nn (show 0 ≤ bx by omega) w
            omega
        have q2 := mul_pn nB z0
        have q3 : 0 ≤ as * Z := mul_nn (by omega) (by omega)
        rw [Int.neg_mul] at q2
        omega
    · refine .inl ⟨v0, ?_⟩
      rcases Int.lt_or_le Z 0 with hu | hu
      · exact hu
      · have p1 := mul_pp gs v0
        have p2 : 0 ≤ gx * V := mul_nn gX (by omega)
        have q1 : 0 ≤ ax * Z := mul_nn (by omega) (by omega)
        have q2 : 0 ≤ as * Z := mul_nn (by omega) (by omega)
        have q3 : bx * U ≤ 0 := by omega
        have z0 : U ≤ 0 := by
          rcases Int.lt_or_le 0 U with w | w
          · have := mul_pp bX w
            omega
          · exact w
        have := mul_nn (show 0 ≤ -bs by omega) (show 0 ≤ -U by omega)
        rw [Int.neg_mul_neg] at this
        omega
/-- the same with the stretch told farther -/
theorem exit_far {u v z X s t : P2} (D : 0 < side u v z) (aX : 0 < side u v X) (bX : 0 < side v z X) (gX : 0 ≤ side z u X) (gs : 0 < side z u s) (h : side u v s < 0 ∨ side v z s < 0) (hX : On s t X) (hXs : X ≠ s) (hst : s ≠ t) : Cross s t u v ∨ Cross s t v z ∨ On s t v := by
  obtain ⟨m, n, q⟩ := hX.par hst
  have hm := q.m_pos hXs
  have far : ∀ a b : P2, 0 < side a b X → Cross s X a b → Cross s t a b := fun a b hp z => by
    have s1 := same_sign (A := side s X a) (B := side s t a) (d := n) (n := m) (by have := q.side1 a; grind) q.n0 hm
    have s2 := same_sign (A := side s X b) (B := side s t b) (d := n) (n := m) (by have := q.side1 b; grind) q.n0 hm
    unfold Cross at z ⊢
    rw [s1.1, s1.2, s2.1, s2.2] at z
    refine ⟨z.1, .inr ⟨by omega, ?_⟩⟩
    have e := q.side a b
    have hs : side a b s < 0 := by omega
    rcases Int.lt_or_le 0 (side a b t) with w | w
    · exact w
    · have a1 := mul_pp q.n0 hp
      have a2 := mul_nn (show 0 ≤ n - m by have := q.mn; omega) (show 0 ≤ -side a b s by omega)
      have a3 := mul_nn (show 0 ≤ m by omega) (show 0 ≤ -side a b t by omega)
      rw [Int.mul_neg] at a2 a3
      omega
  rcases exit_of D aX bX gX gs h with w | w | w
  · exact .inl (far _ _ aX w)
  · exact .inr (.inl (far _ _ bX w))
  · exact .inr (.inr (hX.trans hst (fun y => hXs y.symm) w))
section
variable {n : Nat} {p : Nat → P2}
/-- a corner above all turns to the left -/
theorem Sim.top (S : Sim n p) (L : MT.lam n p = 1) : ∃ t, t < n ∧ 0 < side (p (prv n t)) (p t) (p (nxt n t)) := by
  obtain ⟨t, ht, h⟩ := top_ex p n (by have := S.n3; omega)
  refine ⟨t, ht, ?_⟩
  have e := S.lam t ht
  rw [wn_top h, L] at e
  have hu := h _ (prv_lt ht)
  have hz := h _ (nxt_lt ht)
  have nf := S.fold ht
  unfold dw at e
  have nb : ¬ Be (p t) (p (prv n t)) (p (nxt n t)) := fun w => by
    rw [b2n_t w] at e
    omega
  unfold Be at nb
  unfold Fold at nf
  have iff : Up (p t) (p (prv n t)) ↔ Up (p t) (p (nxt n t)) := ⟨fun w => absurd w hu, fun w => absurd w hz⟩
  have n1 : ¬ 0 < side (p t) (p (prv n t)) (p (nxt n t)) := fun w => nb (.inr ⟨iff, w⟩)
  have n2 : side (p t) (p (prv n t)) (p (nxt n t)) ≠ 0 := fun w => nf ⟨w, iff⟩
  have e2 := side_turn (p (prv n t)) (p t) (p (nxt n t))
  have e3 := side_flip (p t) (p (prv n t)) (p (nxt n t))
  omega
/-- a line there is -/
theorem Sim.line (S : Sim n p) (L : MT.lam n p = 1) (h4 : 4 ≤ n) : ∃ i j, Diag n p i j := by
  obtain ⟨t, ht, hD⟩ := S.top L
  have hu := prv_lt ht
  have hz := nxt_lt ht
  have n1 := prv_ne S.n3 ht
  have n2 := nxt_ne S.n3 ht
  have eu := nxt_prv ht
  -- a line told by any two ends, in any order
  have mk : ∀ a b, a < n → b < n → a ≠ b → b ≠ nxt n a → a ≠ nxt n b → Miss n p a b → Opn (p (prv n a)) (p a) (p (nxt n a)) (p b) → ∃ i j, Diag n p i j := fun a b ha hb hab h1 h2 M O => by
    rcases Nat.lt_or_gt_of_ne hab with w | w
    · refine ⟨a, b, ?_, hb, ?_, M, O⟩
      · unfold nxt at h1
        split at h1 <;> omega
      · rintro ⟨rfl, rfl⟩
        unfold nxt at h2
        rw [if_pos (by omega)] at h2
        exact h2 rfl
    · have g1 : b + 1 < a := by
        unfold nxt at h2
        split at h2 <;> omega
      have g2 : ¬ (b = 0 ∧ a = n - 1) := by
        rintro ⟨rfl, rfl⟩
        unfold nxt at h1
        rw [if_pos (by omega)] at h1
        exact h1 rfl
      obtain ⟨d, e, en, ea⟩ : ∃ d e, n = b + d + e + 2 ∧ a = b + d + 1 := ⟨a - b - 1, n - 1 - a, by omega, by omega⟩
      subst en ea
      have H := halves S L (by omega) (by omega) M.symm (.inr O)
      exact ⟨b, b + d + 1, g1, ha, g2, M.symm, H.oi⟩
  have enz : prv n (nxt n t) = t := prv_nxt ht
  obtain ⟨x, hx⟩ : ∃ x, x = prv n (prv n t) := ⟨_, rfl⟩
  have xlt : x < n := by rw [hx]; exact prv_lt hu
  have ex : nxt n x = prv n t := by rw [hx, nxt_prv hu]
  have xne : x ≠ t ∧ x ≠ nxt n t ∧ x ≠ prv n t := by
    rw [hx]
    unfold prv nxt
    repeat' split
    all_goals omega
  have w1 : ∀ m, m < n → m ≠ prv n t → m ≠ t → ¬ On (p (prv n t)) (p t) (p m) := fun m hm a b => by
    have := S.on (prv n t) m hu hm a (by rw [eu]; exact b)
    rwa [eu] at this
  have w2 : ∀ m, m < n → m ≠ t → m ≠ nxt n t → ¬ On (p t) (p (nxt n t)) (p m) := fun m hm a b => S.on t m ht hm a b
  have neuv : p (prv n t) ≠ p t := S.ne hu ht n1.1
  have nevz : p t ≠ p (nxt n t) := S.ne ht hz (fun w => n2.1 w.symm)
  have neuz : p (prv n t) ≠ p (nxt n t) := S.ne hu hz n1.2
  -- corners in the triangle
  by_cases c : ∃ m, m < n ∧ (m ≠ t ∧ m ≠ prv n t ∧ m ≠ nxt n t ∧ 0 ≤ side (p (prv n t)) (p t) (p m) ∧ 0 ≤ side (p t) (p (nxt n t)) (p m) ∧ 0 ≤ side (p (nxt n t)) (p (prv n t)) (p m))
  · obtain ⟨k, hk, hS, hmax⟩ := near_ex (fun m => m ≠ t ∧ m ≠ prv n t ∧ m ≠ nxt n t ∧ 0 ≤ side (p (prv n t)) (p t) (p m) ∧ 0 ≤ side (p t) (p (nxt n t)) (p m) ∧ 0 ≤ side (p (nxt n t)) (p (prv n t)) (p m)) (fun m => -side (p (nxt n t)) (p (prv n t)) (p m)) (fun _ => 1) (fun _ _ => by omega) n c
    obtain ⟨k1, k2, k3, ka, kb, kg⟩ := hS
    have s3 := side3 (p (prv n t)) (p t) (p (nxt n t)) (p k)
    -- no corner of a wall of the two
    have ka' : 0 < side (p (prv n t)) (p t) (p k) := by
      rcases Int.lt_or_le 0 (side (p (prv n t)) (p t) (p k)) with w | w
      · exact w
      · have e0 : side (p (prv n t)) (p t) (p k) = 0 := by omega
        refine absurd ?_ (w1 k hk k2 k1)
        -- on the line u, v, in the triangle
        have b1 := bary (p (prv n t)) (p t) (p (nxt n t)) (p k) (p k) (p k)
        have x1 : side (p (prv n t)) (p t) (p (nxt n t)) * (p k).1 = side (p t) (p (nxt n t)) (p k) * (p (prv n t)).1 + side (p (nxt n t)) (p (prv n t)) (p k) * (p t).1 + side (p (prv n t)) (p t) (p k) * (p (nxt n t)).1 := by unfold side; grind
        have x2 : side (p (prv n t)) (p t) (p (nxt n t)) * (p k).2 = side (p t) (p (nxt n t)) (p k) * (p (prv n t)).2 + side (p (nxt n t)) (p (prv n t)) (p k) * (p t).2 + side (p (prv n t)) (p t) (p k) * (p (nxt n t)).2 := by unfold side; grind
        rw [e0] at x1 x2 s3
        have e3 : side (p (prv n t)) (p t) (p (nxt n t)) - side (p (nxt n t)) (p (prv n t)) (p k) = side (p t) (p (nxt n t)) (p k) := by omega
        exact Par.on (m := side (p (nxt n t)) (p (prv n t)) (p k)) (n := side (p (prv n t)) (p t) (p (nxt n t))) ⟨hD, kg, by omega, by rw [e3, x1]; omega, by rw [e3, x2]; omega⟩
    have kb' : 0 < side (p t) (p (nxt n t)) (p k) := by
      rcases Int.lt_or_le 0 (side (p t) (p (nxt n t)) (p k)) with w | w
      · exact w
      · have e0 : side (p t) (p (nxt n t)) (p k) = 0 := by omega
        refine absurd ?_ (w2 k hk k1 k3)
        have x1 : side (p (prv n t)) (p t) (p (nxt n t)) * (p k).1 = side (p t) (p (nxt n t)) (p k) * (p (prv n t)).1 + side (p (nxt n t)) (p (prv n t)) (p k) * (p t).1 + side (p (prv n t)) (p t) (p k) * (p (nxt n t)).1 := by unfold side; grind
        have x2 : side (p (prv n t)) (p t) (p (nxt n t)) * (p k).2 = side (p t) (p (nxt n t)) (p k) * (p (prv n t)).2 + side (p (nxt n t)) (p (prv n t)) (p k) * (p t).2 + side (p (prv n t)) (p t) (p k) * (p (nxt n t)).2 := by unfold side; grind
        rw [e0] at x1 x2 s3
        have e3 : side (p (prv n t)) (p t) (p (nxt n t)) - side (p (prv n t)) (p t) (p k) = side (p (nxt n t)) (p (prv n t)) (p k) := by omega
        exact Par.on (m := side (p (prv n t)) (p t) (p k)) (n := side (p (prv n t)) (p t) (p (nxt n t))) ⟨hD, ka, by omega, by rw [e3, x1]; omega, by rw [e3, x2]; omega⟩
    have netk : p t ≠ p k := S.ne ht hk (fun w => k1 w.symm)
    -- inside the triangle, farther from z, u
    have inner : ∀ r, On (p t) (p k) r → r ≠ p t → r ≠ p k → 0 < side (p (prv n t)) (p t) r ∧ 0 < side (p t) (p (nxt n t)) r ∧ side (p (nxt n t)) (p (prv n t)) (p k) < side (p (nxt n t)) (p (prv n t)) r := fun r hr r1 r2 => by
      obtain ⟨m, d, q⟩ := hr.par netk
      have hm := q.m_pos r1
      have hm2 := q.m_lt r2
      have e1 := q.side (p (prv n t)) (p t)
      have e2 := q.side (p t) (p (nxt n t))
      have e3 := q.side (p (nxt n t)) (p (prv n t))
      rw [side_eq0] at e1
      rw [side_eq1] at e2
      have f1 := mul_pp hm ka'
      have f2 := mul_pp hm kb'
      have e0 : side (p (nxt n t)) (p (prv n t)) (p t) = side (p (prv n t)) (p t) (p (nxt n t)) := by unfold side; grind
      rw [e0] at e3
      refine ⟨?_, ?_, ?_⟩
      · have : 0 < side (p (prv n t)) (p t) r * d := by rw [Int.mul_comm]; omega
        exact pos_l this q.n0
      · have : 0 < side (p t) (p (nxt n t)) r * d := by rw [Int.mul_comm]; omega
        exact pos_l this q.n0
      · have g : 0 < (d - m) * (side (p (prv n t)) (p t) (p (nxt n t)) - side (p (nxt n t)) (p (prv n t)) (p k)) := mul_pp (by omega) (by omega)
        have g2 : (d - m) * (side (p (prv n t)) (p t) (p (nxt n t)) - side (p (nxt n t)) (p (prv n t)) (p k)) = d * (side (p (nxt n t)) (p (prv n t)) r - side (p (nxt n t)) (p (prv n t)) (p k)) := by
          rw [Int.mul_sub, Int.mul_sub, e3]
          grind
        rw [g2, Int.mul_comm] at g
        have := pos_l g q.n0
        omega
    refine mk t k ht hk (fun w => k1 w.symm) k3 (fun w => k2 (by rw [w, prv_nxt hk])) ⟨fun m hm h1 h2 z => ?_, fun j hj z => ?_⟩ ?_
    · have q := inner (p m) z (S.ne hm ht h1) (S.ne hm hk h2)
      have a1 : m ≠ prv n t := fun w => by rw [w, side_eq1] at q; omega
      have a2 : m ≠ nxt n t := fun w => by rw [w, side_eq0] at q; omega
      have := hmax m hm ⟨h1, a1, a2, by omega, by omega, by omega⟩
      omega
    · -- a wall across
      have hj' := nxt_lt hj
      obtain ⟨N, r, h0, r1, r2, r3, r4, r5, r6⟩ := cross_pt z
      have q := (S.scl h0)
      have sc := fun a b c => sgn_scp h0 a b c
      -- from the larger one, r inside
      have nst : ∀ l, l < n → (l = j ∨ l = nxt n j) → l ≠ t ∧ l ≠ k := fun l hl hor => by
        refine ⟨fun w => ?_, fun w => ?_⟩
        · unfold Cross at z
          rcases hor with g | g
          · rw [← g, w, side_eq1] at z; omega
          · rw [← g, w, side_eq1] at z; omega
        · unfold Cross at z
          rcases hor with g | g
          · rw [← g, w, side_eq0] at z; omega
          · rw [← g, w, side_eq0] at z; omega
      obtain ⟨m, d, qq⟩ := r1.par (fun w => netk (scp_inj h0 w))
      have hm := qq.m_pos r3
      have hm2 := qq.m_lt r4
      have ea := qq.side (scp N (p (prv n t))) (scp N (p t))
      have eb := qq.side (scp N (p t)) (scp N (p (nxt n t)))
      have eg := qq.side (scp N (p (nxt n t))) (scp N (p (prv n t)))
      rw [side_eq0] at ea
      rw [side_eq1] at eb
      have e0 : side (scp N (p (nxt n t))) (scp N (p (prv n t))) (scp N (p t)) = side (scp N (p (prv n t))) (scp N (p t)) (scp N (p (nxt n t))) := by unfold side; grind
      rw [e0] at eg
      have f1 := mul_pp hm ((sc (p (prv n t)) (p t) (p k)).1.mpr ka')
      have f2 := mul_pp hm ((sc (p t) (p (nxt n t)) (p k)).1.mpr kb')
      have ar : 0 < side (scp N (p (prv n t))) (scp N (p t)) r := by
        have : 0 < side (scp N (p (prv n t))) (scp N (p t)) r * d := by rw [Int.mul_comm]; omega
        exact pos_l this qq.n0
      have br : 0 < side (scp N (p t)) (scp N (p (nxt n t))) r := by
        have : 0 < side (scp N (p t)) (scp N (p (nxt n t))) r * d := by rw [Int.mul_comm]; omega
        exact pos_l this qq.n0
      have NN := mul_pp h0 h0
      have hgk : side (scp N (p (nxt n t))) (scp N (p (prv n t))) (scp N (p k)) < side (scp N (p (nxt n t))) (scp N (p (prv n t))) r := by
        have hlt : side (scp N (p (nxt n t))) (scp N (p (prv n t))) (scp N (p k)) < side (scp N (p (prv n t))) (scp N (p t)) (scp N (p (nxt n t))) := by
          rw [side_scp, side_scp]
          exact (mul_lt_iff NN).mpr (by omega)
        have g : 0 < (d - m) * (side (scp N (p (prv n t))) (scp N (p t)) (scp N (p (nxt n t))) - side (scp N (p (nxt n t))) (scp N (p (prv n t))) (scp N (p k))) := mul_pp (by omega) (by omega)
        have g2 : (d - m) * (side (scp N (p (prv n t))) (scp N (p t)) (scp N (p (nxt n t))) - side (scp N (p (nxt n t))) (scp N (p (prv n t))) (scp N (p k))) = d * (side (scp N (p (nxt n t))) (scp N (p (prv n t))) r - side (scp N (p (nxt n t))) (scp N (p (prv n t))) (scp N (p k))) := by
          rw [Int.mul_sub, Int.mul_sub, eg]
          grind
        rw [g2, Int.mul_comm] at g
        have := pos_l g qq.n0
        omega
      have hgr : 0 ≤ side (scp N (p (nxt n t))) (scp N (p (prv n t))) (scp N (p k)) := by
        rw [side_scp]
        exact mul_nn (by omega) kg
      -- a far end that is out
      have go : ∀ l o, l < n → o < n → ((l = j ∧ o = nxt n j) ∨ (l = nxt n j ∧ o = j)) → On (scp N (p l)) (scp N (p o)) r → r ≠ scp N (p l) → side (scp N (p (nxt n t))) (scp N (p (prv n t))) (scp N (p k)) < side (scp N (p (nxt n t))) (scp N (p (prv n t))) (scp N (p l)) → False := fun l o hl ho hor hon hne hg => by
        have hl2 := nst l hl (hor.imp (·.1) (·.1))
        have ho2 := nst o ho (hor.symm.imp (·.2) (·.2))
        rw [side_scp, side_scp] at hg
        have hg' := (mul_lt_iff NN).mp hg
        have a1 : l ≠ prv n t := fun w => by rw [w, side_eq0] at hg'; omega
        have a2 : l ≠ nxt n t := fun w => by rw [w, side_eq1] at hg'; omega
        have out : side (p (prv n t)) (p t) (p l) < 0 ∨ side (p t) (p (nxt n t)) (p l) < 0 := by
          rcases Int.lt_or_le (side (p (prv n t)) (p t) (p l)) 0 with g1 | g1
          · exact .inl g1
          · rcases Int.lt_or_le (side (p t) (p (nxt n t)) (p l)) 0 with g2 | g2
            · exact .inr g2
            · have := hmax l hl ⟨hl2.1, a1, a2, g1, g2, by omega⟩
              omega
        have lo : l ≠ o := by
          have := nxt_ne S.n3 hj
          omega
        have cr : ∀ i, i < n → ¬ Cross (p l) (p o) (p i) (p (nxt n i)) := fun i hi w => by
          rcases hor with ⟨rfl, rfl⟩ | ⟨rfl, rfl⟩
          · exact S.cr _ _ hj hi w
          · exact S.cr _ _ hj hi (cross_swap1.mp w)
        have hv : ¬ On (p l) (p o) (p t) := fun w => by
          rcases hor with ⟨rfl, rfl⟩ | ⟨rfl, rfl⟩
          · exact S.on _ t hj ht (fun y => hl2.1 y.symm) (fun y => ho2.1 y.symm) w
          · exact S.on _ t hj ht (fun y => ho2.1 y.symm) (fun y => hl2.1 y.symm) (On_swap.mp w)
        rcases exit_far (u := scp N (p (prv n t))) (v := scp N (p t)) (z := scp N (p (nxt n t))) (X := r) (s := scp N (p l)) (t := scp N (p o)) ((sc _ _ _).1.mpr hD) ar br (by omega) ((sc _ _ _).1.mpr (by omega)) (out.imp (sc _ _ _).2.1.mpr (sc _ _ _).2.1.mpr) hon hne (fun w => S.ne hl ho lo (scp_inj h0 w)) with w | w | w
        · have := cr (prv n t) hu
          rw [eu] at this
          exact this ((cross_scp h0).mp w)
        · exact cr t ht ((cross_scp h0).mp w)
        · exact hv ((on_scp h0).mp w)
      -- one of the two ends is farther
      have ne2 : scp N (p j) ≠ scp N (p (nxt n j)) := fun w => S.ne hj hj' (fun y => (nxt_ne S.n3 hj).1 y.symm) (scp_inj h0 w)
      obtain ⟨m2, d2, q2⟩ := r2.par ne2
      have e := q2.side (scp N (p (nxt n t))) (scp N (p (prv n t)))
      rcases Int.lt_or_le (side (scp N (p (nxt n t))) (scp N (p (prv n t))) (scp N (p k))) (side (scp N (p (nxt n t))) (scp N (p (prv n t))) (scp N (p j))) with g1 | g1
      · exact go j (nxt n j) hj hj' (.inl ⟨rfl, rfl⟩) r2 r5 g1
      · rcases Int.lt_or_le (side (scp N (p (nxt n t))) (scp N (p (prv n t))) (scp N (p k))) (side (scp N (p (nxt n t))) (scp N (p (prv n t))) (scp N (p (nxt n j)))) with g2 | g2
        · exact go (nxt n j) j hj' hj (.inr ⟨rfl, rfl⟩) (On_swap.mp r2) r6 g2
        · have a1 := mul_nn (show 0 ≤ d2 - m2 by have := q2.mn; omega) (show 0 ≤ side (scp N (p (nxt n t))) (scp N (p (prv n t))) (scp N (p k)) - side (scp N (p (nxt n t))) (scp N (p (prv n t))) (scp N (p j)) by omega)
          have a2 := mul_nn q2.m0 (show 0 ≤ side (scp N (p (nxt n t))) (scp N (p (prv n t))) (scp N (p k)) - side (scp N (p (nxt n t))) (scp N (p (prv n t))) (scp N (p (nxt n j))) by omega)
          have a3 := mul_pp q2.n0 (show 0 < side (scp N (p (nxt n t))) (scp N (p (prv n t))) r - side (scp N (p (nxt n t))) (scp N (p (prv n t))) (scp N (p k)) by omega)
          rw [Int.mul_sub] at a1 a2 a3
          rw [e] at a3
          have : (d2 - m2) * side (scp N (p (nxt n t))) (scp N (p (prv n t))) (scp N (p k)) + m2 * side (scp N (p (nxt n t))) (scp N (p (prv n t))) (scp N (p k)) = d2 * side (scp N (p (nxt n t))) (scp N (p (prv n t))) (scp N (p k)) := by grind
          omega
    · refine (opn_iff neuv (fun w => nevz w.symm) (fun w => netk w.symm) (S.fold ht) (fun w => ?_) (fun w => ?_)).mpr (by rw [if_pos hD]; exact ⟨kb', ka'⟩)
      · have := w.1
        have e1 := side_turn (p (prv n t)) (p t) (p k)
        have e2 := side_flip (p t) (p (prv n t)) (p k)
        omega
      · have := w.1
        omega
  · -- the triangle is free of corners
    have free : ∀ m, m < n → m ≠ t → m ≠ prv n t → m ≠ nxt n t → 0 ≤ side (p (nxt n t)) (p (prv n t)) (p m) → side (p (prv n t)) (p t) (p m) < 0 ∨ side (p t) (p (nxt n t)) (p m) < 0 := fun m hm h1 h2 h3 h4 => by
      rcases Int.lt_or_le (side (p (prv n t)) (p t) (p m)) 0 with g1 | g1
      · exact .inl g1
      · rcases Int.lt_or_le (side (p t) (p (nxt n t)) (p m)) 0 with g2 | g2
        · exact .inr g2
        · exact absurd ⟨m, hm, h1, h2, h3, g1, g2, h4⟩ c
    have onuz : ∀ r, On (p (prv n t)) (p (nxt n t)) r → r ≠ p (prv n t) → r ≠ p (nxt n t) → 0 < side (p (prv n t)) (p t) r ∧ 0 < side (p t) (p (nxt n t)) r ∧ side (p (nxt n t)) (p (prv n t)) r = 0 := fun r hr r1 r2 => by
      obtain ⟨m, d, q⟩ := hr.par neuz
      have hm := q.m_pos r1
      have hm2 := q.m_lt r2
      have e1 := q.side (p (prv n t)) (p t)
      have e2 := q.side (p t) (p (nxt n t))
      rw [side_eq1] at e1
      rw [side_eq0] at e2
      have e0 : side (p t) (p (nxt n t)) (p (prv n t)) = side (p (prv n t)) (p t) (p (nxt n t)) := (side_turn _ _ _).symm
      rw [e0] at e2
      have f1 := mul_pp hm hD
      have f2 := mul_pp (show 0 < d - m by omega) hD
      refine ⟨?_, ?_, ?_⟩
      · have : 0 < side (p (prv n t)) (p t) r * d := by rw [Int.mul_comm]; omega
        exact pos_l this q.n0
      · have : 0 < side (p t) (p (nxt n t)) r * d := by rw [Int.mul_comm]; omega
        exact pos_l this q.n0
      · have := hr.1
        rw [side_swap] at this
        omega
    have nz : nxt n (nxt n t) ≠ prv n t := by
      unfold nxt prv
      repeat' split
      all_goals omega
    refine mk (prv n t) (nxt n t) hu hz n1.2 (by rw [eu]; exact n2.1) (fun w => nz w.symm) ⟨fun m hm h1 h2 z => ?_, fun j hj z => ?_⟩ ?_
    · have q := onuz (p m) z (S.ne hm hu h1) (S.ne hm hz h2)
      have a1 : m ≠ t := fun w => by rw [w, side_eq0] at q; omega
      rcases free m hm a1 h1 h2 (by omega) with g | g <;> omega
    · have hj' := nxt_lt hj
      obtain ⟨N, r, h0, r1, r2, r3, r4, r5, r6⟩ := cross_pt z
      have sc := fun a b c => sgn_scp h0 a b c
      have NN := mul_pp h0 h0
      obtain ⟨m, d, q⟩ := r1.par (fun w => neuz (scp_inj h0 w))
      have hm := q.m_pos r3
      have hm2 := q.m_lt r4
      have e1 := q.side (scp N (p (prv n t))) (scp N (p t))
      have e2 := q.side (scp N (p t)) (scp N (p (nxt n t)))
      rw [side_eq1] at e1
      rw [side_eq0] at e2
      have e0 : side (scp N (p t)) (scp N (p (nxt n t))) (scp N (p (prv n t))) = side (scp N (p (prv n t))) (scp N (p t)) (scp N (p (nxt n t))) := (side_turn _ _ _).symm
      rw [e0] at e2
      have D2 := (sc (p (prv n t)) (p t) (p (nxt n t))).1.mpr hD
      have f1 := mul_pp hm D2
      have f2 := mul_pp (show 0 < d - m by omega) D2
      have ar : 0 < side (scp N (p (prv n t))) (scp N (p t)) r := by
        have : 0 < side (scp N (p (prv n t))) (scp N (p t)) r * d := by rw [Int.mul_comm]; omega
        exact pos_l this q.n0
      have br : 0 < side (scp N (p t)) (scp N (p (nxt n t))) r := by
        have : 0 < side (scp N (p t)) (scp N (p (nxt n t))) r * d := by rw [Int.mul_comm]; omega
        exact pos_l this q.n0
      have gr : side (scp N (p (nxt n t))) (scp N (p (prv n t))) r = 0 := by
        have := r1.1
        rw [side_swap] at this
        omega
      have go : ∀ l o, l < n → o < n → ((l = j ∧ o = nxt n j) ∨ (l = nxt n j ∧ o = j)) → On (scp N (p l)) (scp N (p o)) r → r ≠ scp N (p l) → side (p (nxt n t)) (p (prv n t)) (p o) < 0 → 0 < side (p (nxt n t)) (p (prv n t)) (p l) → False := fun l o hl ho hor hon hne hgo hg => by
        have lo : l ≠ o := by
          have := nxt_ne S.n3 hj
          omega
        have a1 : l ≠ prv n t := fun w => by rw [w, side_eq0] at hg; omega
        have a2 : l ≠ nxt n t := fun w => by rw [w, side_eq1] at hg; omega
        have a4 : o ≠ prv n t := fun w => by rw [w, side_eq0] at hgo; omega
        have a5 : o ≠ nxt n t := fun w => by rw [w, side_eq1] at hgo; omega
        have a6 : o ≠ t := fun w => by
          have e3 : side (p (nxt n t)) (p (prv n t)) (p t) = side (p (prv n t)) (p t) (p (nxt n t)) := by unfold side; grind
          rw [w, e3] at hgo
          omega
        have a3 : l ≠ t := fun w => by
          rcases hor with ⟨g1, g2⟩ | ⟨g1, g2⟩
          · exact a5 (by rw [g2, ← g1, w])
          · exact a4 (by rw [g2, ← w, g1, prv_nxt hj])
        have out := free l hl a3 a1 a2 (by omega)
        have cr : ∀ i, i < n → ¬ Cross (p l) (p o) (p i) (p (nxt n i)) := fun i hi w => by
          rcases hor with ⟨rfl, rfl⟩ | ⟨rfl, rfl⟩
          · exact S.cr _ _ hj hi w
          · exact S.cr _ _ hj hi (cross_swap1.mp w)
        have hv : ¬ On (p l) (p o) (p t) := fun w => by
          rcases hor with ⟨rfl, rfl⟩ | ⟨rfl, rfl⟩
          · exact S.on _ t hj ht (fun y => a3 y.symm) (fun y => a6 y.symm) w
          · exact S.on _ t hj ht (fun y => a6 y.symm) (fun y => a3 y.symm) (On_swap.mp w)
        rcases exit_far (u := scp N (p (prv n t))) (v := scp N (p t)) (z := scp N (p (nxt n t))) (X := r) (s := scp N (p l)) (t := scp N (p o)) D2 ar br (by omega) ((sc _ _ _).1.mpr hg) (out.imp (sc _ _ _).2.1.mpr (sc _ _ _).2.1.mpr) hon hne (fun w => S.ne hl ho lo (scp_inj h0 w)) with w | w | w
        · have := cr (prv n t) hu
          rw [eu] at this
          exact this ((cross_scp h0).mp w)
        · exact cr t ht ((cross_scp h0).mp w)
        · exact hv ((on_scp h0).mp w)
      have zz := z.1
      have s1 := side_swap (p (prv n t)) (p (nxt n t)) (p j)
      have s2 := side_swap (p (prv n t)) (p (nxt n t)) (p (nxt n j))
      rcases zz with ⟨g1, g2⟩ | ⟨g1, g2⟩
      · exact go (nxt n j) j hj' hj (.inr ⟨rfl, rfl⟩) (On_swap.mp r2) r6 (by omega) (by omega)
      · exact go j (nxt n j) hj hj' (.inl ⟨rfl, rfl⟩) r2 r5 (by omega) (by omega)
    · -- the way begins inside
      have nxu : p x ≠ p (prv n t) := S.ne xlt hu xne.2.2
      have fl := S.fold hu
      rw [← hx, eu] at fl
      have zu : side (p (prv n t)) (p t) (p (nxt n t)) = - side (p (prv n t)) (p (nxt n t)) (p t) := side_flip _ _ _
      have nox : ¬ On (p x) (p (prv n t)) (p (nxt n t)) := by
        have := S.on x (nxt n t) xlt hz (fun w => xne.2.1 w.symm) (by rw [ex]; exact fun w => n1.2 w.symm)
        rw [ex] at this
        exact this
      -- x between v and z, seen from u, is no
      have key : 0 < side (p (prv n t)) (p t) (p x) → side (p (prv n t)) (p (nxt n t)) (p x) ≤ 0 → False := fun g1 g2 => by
        have e3 := side_swap (p (prv n t)) (p (nxt n t)) (p x)
        rcases free x xlt xne.1 xne.2.2 xne.2.1 (by omega) with g | g
        · omega
        · -- x, u cross v, z
          have c1 := S.cr x t xlt ht
          rw [ex] at c1
          have e4 : side (p x) (p (prv n t)) (p t) = side (p (prv n t)) (p t) (p x) := by unfold side; grind
          have e5 : side (p x) (p (prv n t)) (p (nxt n t)) = side (p (prv n t)) (p (nxt n t)) (p x) := by unfold side; grind
          have e6 : side (p t) (p (nxt n t)) (p (prv n t)) = side (p (prv n t)) (p t) (p (nxt n t)) := (side_turn _ _ _).symm
          by_cases g0 : side (p (prv n t)) (p (nxt n t)) (p x) = 0
          · refine nox ?_
            -- z on the line x, u, between
            have v1 : side (p t) (p (nxt n t)) (p (prv n t)) * (p x).1 - side (p t) (p (nxt n t)) (p x) * (p (prv n t)).1 = (side (p t) (p (nxt n t)) (p (prv n t)) - side (p t) (p (nxt n t)) (p x)) * (p (nxt n t)).1 - side (p (prv n t)) (p (nxt n t)) (p x) * (p t).1 + side (p (prv n t)) (p (nxt n t)) (p x) * (p (nxt n t)).1 := by unfold side; grind
            have v2 : side (p t) (p (nxt n t)) (p (prv n t)) * (p x).2 - side (p t) (p (nxt n t)) (p x) * (p (prv n t)).2 = (side (p t) (p (nxt n t)) (p (prv n t)) - side (p t) (p (nxt n t)) (p x)) * (p (nxt n t)).2 - side (p (prv n t)) (p (nxt n t)) (p x) * (p t).2 + side (p (prv n t)) (p (nxt n t)) (p x) * (p (nxt n t)).2 := by unfold side; grind
            rw [g0] at v1 v2
            simp only [Int.zero_mul, Int.sub_zero, Int.add_zero] at v1 v2
            exact Par.on (m := - side (p t) (p (nxt n t)) (p x)) (n := side (p t) (p (nxt n t)) (p (prv n t)) - side (p t) (p (nxt n t)) (p x)) ⟨by omega, by omega, by omega, by grind, by grind⟩
          · refine c1 ⟨.inl ⟨by omega, by omega⟩, .inr ⟨by omega, by omega⟩⟩
      show Opn (p (prv n (prv n t))) (p (prv n t)) (p (nxt n (prv n t))) (p (nxt n t))
      rw [← hx, eu]
      have r1 : side (p x) (p (prv n t)) (p t) = side (p (prv n t)) (p t) (p x) := by unfold side; grind
      have r2 : side (p x) (p (prv n t)) (p (nxt n t)) = side (p (prv n t)) (p (nxt n t)) (p x) := by unfold side; grind
      refine (opn_iff nxu (fun w => neuv w.symm) (fun w => neuz w.symm) fl (fun w => ?_) (fun w => ?_)).mpr ?_
      · -- x and z the same way from u
        have f1 := w.1
        rcases fold_on w nxu (fun y => neuz y.symm) with y | y
        · exact nox (On_swap.mp y)
        · have q := onuz (p x) (On_swap.mp y) nxu (S.ne xlt hz xne.2.1)
          rcases free x xlt xne.1 xne.2.2 xne.2.1 (by omega) with g | g <;> omega
      · have := w.1
        omega
      · rw [r1, r2]
        by_cases g : 0 < side (p (prv n t)) (p t) (p x)
        · rw [if_pos g]
          refine ⟨hD, ?_⟩
          rcases Int.lt_or_le 0 (side (p (prv n t)) (p (nxt n t)) (p x)) with w | w
          · exact w
          · exact (key g w).elim
        · rw [if_neg g]
          exact .inl hD
end
end MT

set_option Elab.async false
set_option linter.all false
set_option maxRecDepth 100000
set_option maxHeartbeats 4000000
/-! Third corners; areas; rooms. -/
namespace MT
open DL
/-- neighbours or a line -/
def Jn (n : Nat) (p : Nat → P2) (i j : Nat) : Prop := j = i + 1 ∨ (i = 0 ∧ j = n - 1) ∨ Diag n p i j
theorem third0 : ∀ (n : Nat) (p : Nat → P2), Sim n p → lam n p = 1 → ∃ k, 0 < k ∧ k < n - 1 ∧ Jn n p 0 k ∧ Jn n p k (n - 1) := by
  intro n
  induction n using Nat.strongRecOn with
  | ind n ih =>
    intro p S L
    by_cases h3 : n = 3
    · subst h3
      exact ⟨1, by omega, by omega, .inl rfl, .inl rfl⟩
    · have h4 : 4 ≤ n := by have := S.n3; omega
      obtain ⟨i, j, D⟩ := S.line L h4
      obtain ⟨d, e, rfl, rfl, hd, he⟩ := D.par
      have P := D.parts_dl S L
      obtain ⟨k, k0, k1, J1, J2⟩ := ih (i + e + 2) (by omega) _ P.S1 P.L1
      have z0 : dlf i d 0 = 0 := by unfold dlf; rw [if_pos (by omega)]
      have zn : dlf i d (i + e + 2 - 1) = i + d + e + 2 - 1 := by unfold dlf; rw [if_neg (by omega)]; omega
      have up : ∀ x, x ≤ dlf i d x := fun x => by unfold dlf; split <;> omega
      have kk : dlf i d k < dlf i d (i + e + 2 - 1) := P.u.mono k _ k1 (by omega)
      refine ⟨dlf i d k, by have := up k; omega, by omega, ?_, ?_⟩
      · rcases J1 with a | a | a
        · subst a
          by_cases c : i = 0
          · subst c
            refine .inr (.inr ?_)
            have e1 : dlf 0 d (0 + 1) = 0 + d + 1 := by unfold dlf; rw [if_neg (by omega)]; omega
            rw [e1]
            exact D
          · refine .inl ?_
            unfold dlf
            rw [if_pos (by omega)]
        · omega
        · refine .inr (.inr ?_)
          have := P.lift a (by rintro ⟨_, y⟩; omega)
          rw [z0] at this
          exact this
      · rcases J2 with a | a | a
        · by_cases c : k = i
          · subst c
            refine .inr (.inr ?_)
            have e1 : dlf k d k = k := by unfold dlf; rw [if_pos (by omega)]
            rw [e1]
            have e2 : k + d + e + 2 - 1 = k + d + 1 := by omega
            rw [e2]
            exact D
          · refine .inl ?_
            have s := P.u.step k (by omega) c
            have e1 : nxt (i + e + 2) k = i + e + 2 - 1 := by unfold nxt; rw [if_neg (by omega)]; omega
            rw [e1, zn] at s
            unfold nxt at s
            rw [if_neg (by omega)] at s
            exact s
        · omega
        · refine .inr (.inr ?_)
          have := P.lift a (by rintro ⟨x, _⟩; have := up k; omega)
          rw [zn] at this
          exact this
/-- each joined pair that are no neighbours has a third -/
theorem third {n : Nat} {p : Nat → P2} {i j : Nat} (S : Sim n p) (L : lam n p = 1) (h : (i = 0 ∧ j = n - 1) ∨ Diag n p i j) : ∃ k, i < k ∧ k < j ∧ Jn n p i k ∧ Jn n p k j := by
  rcases h with ⟨rfl, rfl⟩ | D
  · obtain ⟨k, h1, h2, h3, h4⟩ := third0 n p S L
    exact ⟨k, h1, h2, h3, h4⟩
  · obtain ⟨d, e, rfl, rfl, hd, he⟩ := D.par
    have P := D.parts_sl S L
    have no := D.no
    obtain ⟨k, h1, h2, h3, h4⟩ := third0 _ _ P.S1 P.L1
    refine ⟨i + k, by omega, by omega, ?_, ?_⟩
    · rcases h3 with a | a | a
      · exact .inl (by omega)
      · omega
      · exact .inr (.inr (P.lift a (by unfold slf; rintro ⟨_, y⟩; omega)))
    · rcases h4 with a | a | a
      · exact .inl (by omega)
      · omega
      · have e1 : slf i (d + 2 - 1) = i + d + 1 := by unfold slf; omega
        have := P.lift a (by rw [e1]; unfold slf; rintro ⟨x, _⟩; omega)
        rw [e1] at this
        exact .inr (.inr this)
/-! ### areas -/
def crs2 (a b : P2) : Int := a.1 * b.2 - a.2 * b.1
theorem crs2_swap (a b : P2) : crs2 b a = - crs2 a b := by unfold crs2; grind
theorem lam3 {p : Nat → P2} (S : Sim 3 p) (L : lam 3 p = 1) : 0 < side (p 0) (p 1) (p 2) := by
  obtain ⟨t, ht, h⟩ := S.top L
  have : t = 0 ∨ t = 1 ∨ t = 2 := by omega
  rcases this with rfl | rfl | rfl
  · have h : 0 < side (p 2) (p 0) (p 1) := h
    rw [side_turn]
    rw [side_turn, side_turn] at h
    rwa [side_turn] at h ⊢
  · exact h
  · have h : 0 < side (p 1) (p 2) (p 0) := h
    rw [side_turn]
    exact h
theorem area_pos : ∀ (n : Nat) (p : Nat → P2), Sim n p → lam n p = 1 → 0 < cyc crs2 n p := by
  intro n
  induction n using Nat.strongRecOn with
  | ind n ih =>
    intro p S L
    by_cases h3 : n = 3
    · subst h3
      have := lam3 S L
      have e : cyc crs2 3 p = side (p 0) (p 1) (p 2) := by
        unfold cyc
        simp only [su, nxt]
        simp only [Nat.reduceAdd, Nat.reduceEqDiff, if_true, if_false]
        unfold crs2 side
        grind
      omega
    · have h4 : 4 ≤ n := by have := S.n3; omega
      obtain ⟨i, j, D⟩ := S.line L h4
      obtain ⟨d, e, rfl, rfl, hd, he⟩ := D.par
      have H := D.halves S L
      rw [cyc_two crs2 (fun a b => crs2_swap a b)]
      have := ih (d + 2) (by omega) _ H.s1 H.l1
      have := ih (i + e + 2) (by omega) _ H.s2 H.l2
      omega
/-! ### told backwards -/
def bk (n : Nat) (p : Nat → P2) : Nat → P2 := fun k => p (n - 1 - k)
theorem bk_nxt {n k : Nat} (h : k < n) : nxt n (n - 1 - nxt n k) = n - 1 - k := by
  unfold nxt
  split <;> split <;> omega
theorem bk_prv {n k : Nat} (h : k < n) : n - 1 - prv n k = nxt n (n - 1 - k) := by
  unfold nxt prv
  split <;> split <;> omega
theorem bk_nxt2 {n k : Nat} (h : k < n) : n - 1 - nxt n k = prv n (n - 1 - k) := by
  unfold nxt prv
  split <;> split <;> omega
theorem Sim.bk {n : Nat} {p : Nat → P2} (S : Sim n p) : Sim n (bk n p) := by
  refine ⟨S.n3, fun k m hk hm h1 h2 z => ?_, fun k j hk hj z => ?_⟩
  · have hk' := nxt_lt hk
    refine S.on (n - 1 - nxt n k) (n - 1 - m) (by omega) (by omega) (fun y => h2 (by omega)) (by rw [bk_nxt hk]; exact fun y => h1 (by omega)) ?_
    rw [bk_nxt hk]
    exact On_swap.mp z
  · have hk' := nxt_lt hk
    have hj' := nxt_lt hj
    refine S.cr (n - 1 - nxt n k) (n - 1 - nxt n j) (by omega) (by omega) ?_
    rw [bk_nxt hk, bk_nxt hj]
    exact cross_swap1.mp (cross_swap2.mp z)
theorem su_rev (f : Nat → Int) : ∀ n, su (fun k => f (n - 1 - k)) n = su f n
  | 0 => rfl
  | n + 1 => by
    rw [Nat.add_comm n 1, su_cut _ 1 n, Nat.add_comm 1 n, su]
    have e : su (fun k => f (n + 1 - 1 - (1 + k))) n = su (fun k => f (n - 1 - k)) n := su_ext fun k hk => by
      congr 1
      omega
    rw [e, su_rev f n]
    simp only [su]
    have : n + 1 - 1 - 0 = n := by omega
    rw [this]
    omega
theorem cyc_bk (f : P2 → P2 → Int) (hf : ∀ a b, f b a = - f a b) {n : Nat} (p : Nat → P2) : cyc f n (bk n p) = - cyc f n p := by
  have e0 : ∀ g : Nat → Int, ∀ n, su (fun k => - g k) n = - su g n := fun g n => by
    induction n with
    | zero => rfl
    | succ n ih => rw [su, su, ih]; omega
  by_cases h0 : n = 0
  · subst h0
    rfl
  unfold cyc
  rw [← e0, ← su_rev (fun k => - f (p k) (p (nxt n k))) n]
  have e1 := su_nxt (fun k => - f (p (n - 1 - k)) (p (nxt n (n - 1 - k)))) (show 0 < n by omega)
  rw [← e1]
  refine su_ext fun k hk => ?_
  rw [bk_nxt hk, ← hf]
  rfl
theorem Sim.lam_bk {n : Nat} {p : Nat → P2} (S : Sim n p) (h : MT.lam n p = 0) : MT.lam n (MT.bk n p) = 1 := by
  obtain ⟨t, ht, ho⟩ := top_ex p n (by have := S.n3; omega)
  have e := S.lam t ht
  rw [wn_top ho, h] at e
  have hu := ho _ (prv_lt ht)
  have hz := ho _ (nxt_lt ht)
  have d := dw_01 (p (prv n t)) (p t) (p (nxt n t))
  have b : Be (p t) (p (prv n t)) (p (nxt n t)) := by
    by_cases c : Be (p t) (p (prv n t)) (p (nxt n t))
    · exact c
    · have : dw (p (prv n t)) (p t) (p (nxt n t)) = 0 := b2n_f c
      omega
  unfold Be at b
  have s : 0 < side (p t) (p (prv n t)) (p (nxt n t)) := by
    rcases b with w | w
    · exact absurd w.1 hu
    · exact w.2
  have hk : n - 1 - t < n := by omega
  have e2 := S.bk.lam (n - 1 - t) hk
  have et : n - 1 - (n - 1 - t) = t := by omega
  have e3 : MT.bk n p (n - 1 - t) = p t := by unfold MT.bk; rw [et]
  have e4 : MT.bk n p (prv n (n - 1 - t)) = p (nxt n t) := by unfold MT.bk; rw [bk_prv hk, et]
  have e5 : MT.bk n p (nxt n (n - 1 - t)) = p (prv n t) := by unfold MT.bk; rw [bk_nxt2 hk, et]
  have e6 : wn n (MT.bk n p) (MT.bk n p (n - 1 - t)) = 0 := wn_top fun m hm => by
    rw [e3]
    exact ho _ (by omega)
  rw [e6, e3, e4, e5] at e2
  have d2 : dw (p (nxt n t)) (p t) (p (prv n t)) = 0 := b2n_f (by
    unfold Be
    rintro (w | w)
    · exact hz w.1
    · have := side_flip (p t) (p (prv n t)) (p (nxt n t))
      omega)
  omega
theorem Sim.lam_of_area {n : Nat} {p : Nat → P2} (S : Sim n p) (h : 0 < cyc crs2 n p) : MT.lam n p = 1 := by
  rcases S.lam01 with z | z
  · have := area_pos n _ S.bk (S.lam_bk z)
    rw [cyc_bk crs2 (fun a b => crs2_swap a b)] at this
    omega
  · exact z
/-! ### rooms -/
theorem pt_nxt {r : List P2} {k : Nat} (h : k < r.length) : pt r (nxt r.length k) = pt r (k + 1) := by
  unfold nxt
  split
  · next e =>
    rw [e]
    have := pt_add r 0
    rw [Nat.zero_add] at this
    exact this.symm
  · rfl
theorem pt_prv {r : List P2} {k : Nat} (h : k < r.length) : pt r (prv r.length k) = pt r (k + r.length - 1) := by
  unfold prv
  split
  · next e =>
    subst e
    rw [Nat.zero_add]
  · rw [show k + r.length - 1 = k - 1 + r.length by omega, pt_add]
theorem Room.sim {r : List P2} (h : Room r) : Sim r.length (pt r) := by
  have n3 := h.lo
  -- walls that are no neighbours
  have ap : ∀ k j, k < r.length → j < r.length → k ≠ j → k ≠ nxt r.length j → j ≠ nxt r.length k → ¬ Meet (pt r k) (pt r (nxt r.length k)) (pt r j) (pt r (nxt r.length j)) := fun k j hk hj h1 h2 h3 z => by
    rw [pt_nxt hk, pt_nxt hj] at z
    rcases Nat.lt_or_gt_of_ne h1 with w | w
    · refine h.apart j k ⟨w, hj, ?_, ?_⟩ z.symm
      · unfold nxt at h3
        split at h3 <;> omega
      · rintro ⟨rfl, rfl⟩
        unfold nxt at h2
        rw [if_pos (by omega)] at h2
        exact h2 rfl
    · refine h.apart k j ⟨w, hk, ?_, ?_⟩ z
      · unfold nxt at h2
        split at h2 <;> omega
      · rintro ⟨rfl, rfl⟩
        unfold nxt at h3
        rw [if_pos (by omega)] at h3
        exact h3 rfl
  have fl : ∀ k, k < r.length → side (pt r k) (pt r (nxt r.length k)) (pt r (nxt r.length (nxt r.length k))) ≠ 0 := fun k hk => by
    have hk' := nxt_lt hk
    rw [pt_nxt hk', pt_nxt hk]
    have e : pt r (nxt r.length k + 1) = pt r (k + 2) := by
      unfold nxt
      split
      · next e =>
        rw [show k + 2 = 0 + 1 + r.length by omega, pt_add]
      · rfl
    rw [e]
    exact h.flat k hk
  refine ⟨n3, fun k m hk hm h1 h2 z => ?_, fun k j hk hj z => ?_⟩
  · by_cases c : m = nxt r.length (nxt r.length k)
    · rw [c] at z
      exact fl k hk z.1
    · by_cases d : nxt r.length m = k
      · have := fl m hm
        rw [d] at this
        rw [side_turn] at this
        exact this z.1
      · -- the wall from m on
        refine ap k m hk hm (fun y => h1 y.symm) (fun y => d y.symm) h2 ?_
        exact .inl z
  · by_cases c : k = j
    · subst c
      unfold Cross at z
      rw [side_eq1] at z
      omega
    · by_cases d : k = nxt r.length j
      · rw [← d] at z
        unfold Cross at z
        rw [side_eq1] at z
        omega
      · by_cases e : j = nxt r.length k
        · rw [← e] at z
          unfold Cross at z
          rw [side_eq0] at z
          omega
        · exact ap k j hk hj c d e (.inr (.inr (.inr (.inr z))))
theorem areaTo_su (r : List P2) (h3 : 3 ≤ r.length) : ∀ n, n ≤ r.length → areaTo r n = su (fun k => crs2 (pt r (prv r.length k)) (pt r k)) n
  | 0, _ => rfl
  | n + 1, h => by
    rw [areaTo, su, areaTo_su r h3 n (by omega), areaAt]
    rw [gz_pred (show n < r.length by omega), gz_nat (show n < r.length by omega), pt_prv (show n < r.length by omega)]
    unfold crs2
    omega
theorem Room.lam {r : List P2} (h : Room r) : MT.lam r.length (pt r) = 1 := by
  refine h.sim.lam_of_area ?_
  have e := areaTo_su r h.lo r.length (Nat.le_refl _)
  have e2 := su_nxt (fun k => crs2 (pt r (prv r.length k)) (pt r k)) (show 0 < r.length by have := h.lo; omega)
  have e3 : su (fun k => crs2 (pt r (prv r.length (nxt r.length k))) (pt r (nxt r.length k))) r.length = cyc crs2 r.length (pt r) := su_ext fun k hk => by rw [prv_nxt hk]
  have := h.area
  unfold areaBy at this
  omega
/-- the walls go round a point once or never -/
theorem Room.once {r : List P2} (h : Room r) (q : P2) : wn r.length (pt r) q = 0 ∨ wn r.length (pt r) q = 1 := h.sim.wn01 h.lam q
end MT

set_option Elab.async false
set_option linter.all false
set_option maxRecDepth 100000
set_option maxHeartbeats 4000000
/-! Lists of pairs: sorted, compared, searched; pop with names; an owned list let go. -/
namespace DL
open PySem PySem.Spec PyProof.Rows L2
/-! ### pairs in order -/
def ltP2 (p q : P2) : Bool := SrtO.lexB p q
def insP (p : P2) : List P2 → List P2
  | [] => [p]
  | q :: qs => if ltP2 q p = true then q :: insP p qs else p :: q :: qs
def sortP : List P2 → List P2
  | [] => []
  | p :: ps => insP p (sortP ps)
theorem ltP2_iff {p q : P2} : ltP2 p q = true ↔ p.1 < q.1 ∨ (p.1 = q.1 ∧ p.2 < q.2) := SrtO.lexB_iff
theorem ltP2_no {p q : P2} : ltP2 p q = false ↔ ¬ (p.1 < q.1 ∨ (p.1 = q.1 ∧ p.2 < q.2)) := SrtO.lexB_no
theorem insP_perm (p : P2) : ∀ l, (insP p l).Perm (p :: l)
  | [] => List.Perm.refl _
  | q :: qs => by
    unfold insP
    split
    · exact ((insP_perm p qs).cons q).trans (List.Perm.swap p q qs)
    · exact List.Perm.refl _
theorem sortP_perm : ∀ l, (sortP l).Perm l
  | [] => List.Perm.refl _
  | p :: ps => (insP_perm p _).trans ((sortP_perm ps).cons p)
def UpP (l : List P2) : Prop := l.Pairwise fun x y => ltP2 y x = false
theorem insP_up (p : P2) : ∀ l, UpP l → UpP (insP p l)
  | [], _ => List.pairwise_singleton _ _
  | q :: qs, h => by
    obtain ⟨h1, h2⟩ := List.pairwise_cons.mp h
    unfold insP
    split
    · next c =>
      refine List.pairwise_cons.mpr ⟨fun x hx => ?_, insP_up p qs h2⟩
      rcases List.mem_cons.mp ((insP_perm p qs).mem_iff.mp hx) with e | e
      · subst e
        rw [ltP2_iff] at c
        rw [ltP2_no]
        omega
      · exact h1 x e
    · next c =>
      have c := Bool.eq_false_iff.mpr c
      refine List.pairwise_cons.mpr ⟨fun x hx => ?_, h⟩
      rcases List.mem_cons.mp hx with e | e
      · rw [e]; exact c
      · have := h1 x e
        rw [ltP2_no] at *
        omega
theorem sortP_up : ∀ l, UpP (sortP l)
  | [] => List.Pairwise.nil
  | p :: ps => insP_up p _ (sortP_up ps)
theorem up_uniq : ∀ {l m : List P2}, UpP l → UpP m → l.Perm m → l = m
  | [], m, _, _, h => (List.Perm.eq_nil h.symm).symm
  | x :: l, [], _, _, h => absurd h.length_eq (by simp)
  | x :: l, y :: m, hl, hm, h => by
    obtain ⟨l1, l2⟩ := List.pairwise_cons.mp hl
    obtain ⟨m1, m2⟩ := List.pairwise_cons.mp hm
    have e1 : x = y ∨ ltP2 x y = false := by
      rcases List.mem_cons.mp (h.mem_iff.mp List.mem_cons_self) with e | e
      · exact .inl e
      · exact .inr (m1 x e)
    have e2 : x = y ∨ ltP2 y x = false := by
      rcases List.mem_cons.mp (h.mem_iff.mpr List.mem_cons_self) with e | e
      · exact .inl e.symm
      · exact .inr (l1 y e)
    have e : x = y := by
      rcases e1 with e | e1
      · exact e
      · rcases e2 with e | e2
        · exact e
        · rw [ltP2_no] at e1 e2
          exact Prod.ext (by omega) (by omega)
    subst e
    rw [up_uniq l2 m2 h.cons_inv]
theorem sortP_uniq {l m : List P2} (h : l.Perm m) : sortP l = sortP m := up_uniq (sortP_up l) (sortP_up m) ((sortP_perm l).trans (h.trans (sortP_perm m).symm))
theorem sortP_id {l : List P2} (h : UpP l) : sortP l = l := up_uniq (sortP_up l) h (sortP_perm l)
theorem sortP_len (l : List P2) : (sortP l).length = l.length := (sortP_perm l).length_eq
theorem mem_sortP {l : List P2} {p : P2} : p ∈ sortP l ↔ p ∈ l := (sortP_perm l).mem_iff
section
variable {X : Cx} {E : L2.WX} {G : Gs} {D : DE} {st : Stmt} {rest body els : List Stmt} {a b c e i tg iter : Expr} {es : List Expr} {pos : Pos} {x y : PyData} {ds xs : List PyData} {m n : Int} {p q : Bool}
/-- the pair that a reference stands for -/
def kP (S : Hp) : V → Int × Int
  | .ref t => (match S t with
    | some (.tup [.int i, .int j]) => (i, j)
    | _ => (0, 0))
  | _ => (0, 0)
theorem kP_of {K : Fg} {S : Hp} {v : V} {p : P2} (h : Rp K S v (dP p)) : kP S v = p ∧ ∃ t, v = .ref t ∧ S t = some (.tup [.int p.1, .int p.2]) := by
  cases h with
  | tup e r =>
    obtain ⟨v1, v2, rfl, r1, r2⟩ := rpa2 r
    cases r1
    cases r2
    refine ⟨?_, _, rfl, e⟩
    simp only [kP, e]
theorem kP_map {K : Fg} {S : Hp} : ∀ {vs : List V} {ps : List P2}, RpA K S vs (ps.map dP) → vs.map (kP S) = ps
  | _, [], .nil => rfl
  | _, p :: ps, .cons h r => by
    rw [List.map_cons, (kP_of h).1, kP_map r]
theorem kP_back {K : Fg} {S : Hp} : ∀ {ys : List V}, (∀ y ∈ ys, Rp K S y (dP (kP S y))) → RpA K S ys ((ys.map (kP S)).map dP)
  | [], _ => .nil
  | y :: ys, h => .cons (h y List.mem_cons_self) (kP_back fun z hz => h z (List.mem_cons_of_mem _ hz))
theorem rpa_mem {K : Fg} {S : Hp} : ∀ {vs : List V} {ds : List PyData}, RpA K S vs ds → ∀ v ∈ vs, ∃ d ∈ ds, Rp K S v d
  | _, _, .nil, v, h => by cases h
  | _, _, .cons h r, v, hv => by
    rcases List.mem_cons.mp hv with e | e
    · subst e
      exact ⟨_, List.mem_cons_self, h⟩
    · obtain ⟨d, h1, h2⟩ := rpa_mem r v e
      exact ⟨d, List.mem_cons_of_mem _ h1, h2⟩
theorem ef_sortedP {q1 : Pos} {ps : List P2} (hm : X.mg "sorted" = none) (ha : EL X G e (ps.map dP)) (hg : Gl X "sorted" := by rfl) (he : starEach [e] X.env = (false, eval e X.env) :: starEach [] X.env := by rfl) (hpl : (backTo pos (starEach [] X.env)).any (·.1) = false := by rfl) :
    EF X G (.Call (.Name "sorted" q1) [e] [] pos) ((sortP ps).map dP) := ⟨fun σ S H k Q q =>
  wE_of (pe_callB cr_sortedPO hg hm (by decide +kernel) (pa_cons pe_w pa_nil he) (by decide) (by decide) he hpl) (ha σ S H k _ fun a vs S1 H1 g1 h1 r1 => by
    refine ⟨a, vs, kP S1, rfl, SqL.of h1, fun x hx => ?_, fun ys p hsrt hstb hp => ?_⟩
    · obtain ⟨d, hd, hr⟩ := rpa_mem r1 x hx
      obtain ⟨pp, _, rfl⟩ := List.mem_map.mp hd
      obtain ⟨e1, t, e2, e3⟩ := kP_of hr
      rw [e1]
      exact ⟨t, e2, g1.sh _ _ e3⟩
    · have hback : ∀ y ∈ ys, Rp X.K S1 y (dP (kP S1 y)) := fun y hy => by
        obtain ⟨d, hd, hr⟩ := rpa_mem r1 y (hstb.perm.mem_iff.mp hy)
        obtain ⟨pp, _, rfl⟩ := List.mem_map.mp hd
        rw [(kP_of hr).1]
        exact hr
      have es : ys.map (kP S1) = sortP ps := by
        refine up_uniq ?_ (sortP_up ps) ?_
        · exact List.pairwise_map.mpr hsrt
        · rw [← kP_map r1]
          exact (hstb.perm.map _).trans (sortP_perm _).symm
      have rb := kP_back hback
      rw [es] at rb
      exact q p ys S1 _ (g1.raw hp) (g1.h.free hp) (g1.sh.free hp) upd_same rb)⟩
/-! ### pairs compared -/
def geP (p q : P2) : Bool := decide (q.1 < p.1) || (decide (p.1 = q.1) && decide (q.2 ≤ p.2))
def rGeT (K : PySem.W.Frag) : R2 := fun x y H Q => ∃ (a b : Addr) (ns ms : List Int), x = .ref a ∧ y = .ref b ∧ SqT K H a (ns.map V.int) ∧ SqT K H b (ms.map V.int) ∧
  Q (.bl (Ob.lexAt (fun j => decide (ns.getD j 0 = ms.getD j 0)) (fun j => decide (ms.getD j 0 ≤ ns.getD j 0)) (decide (ns.length ≥ ms.length)) 0 (min ns.length ms.length))) H
theorem op_geT (hu : X.A.units < cLine) : OpR X (compareOp .GtE) (rGeT X.K) := by
  intro pins s σ H x y v u Q I rx ry h
  obtain ⟨a, b, ns, ms, rfl, rfl, ha, hb, q⟩ := h
  cases rx
  cases ry
  obtain ⟨its, r1, p1, _⟩ := I.tuple ha
  obtain ⟨its2, r2, p2, _⟩ := I.tuple hb
  have i1 : IntsAre its ns := Vals.ints r1
  have i2 : IntsAre its2 ms := Vals.ints r2
  have e1 : its.toArray.size = ns.length := by rw [List.size_toArray]; exact i1.length
  have e2 : its2.toArray.size = ms.length := by rw [List.size_toArray]; exact i2.length
  have at1 : ∀ j (h1 : j < its.toArray.size), ∃ t, its.toArray[j] = .int (ns.getD j 0) t := fun j h1 => PyProof.Rows.IntsAre.int_at i1 _ _ (by simp at h1; simp [h1])
  have at2 : ∀ j (h1 : j < its2.toArray.size), ∃ t, its2.toArray[j] = .int (ms.getD j 0) t := fun j h1 => PyProof.Rows.IntsAre.int_at i2 _ _ (by simp at h1; simp [h1])
  have R := Ob.RcOp.tuples_ge (A := X.A) (s := s) (e := fun j => decide (ns.getD j 0 = ms.getD j 0)) (r := fun j => decide (ms.getD j 0 ≤ ns.getD j 0)) p1 p2 hu (fun j h1 h2 => by
    obtain ⟨t, et⟩ := at1 j h1
    obtain ⟨t', et'⟩ := at2 j h2
    rw [et, et']
    have z : (ns.getD j 0 == ms.getD j 0) = decide (ns.getD j 0 = ms.getD j 0) := by
      by_cases q : ns.getD j 0 = ms.getD j 0
      · rw [decide_eq_true q]; exact beq_iff_eq.mpr q
      · rw [decide_eq_false q]; exact beq_eq_false_iff_ne.mpr q
    rw [← z]
    exact SeqAt.EqAt.int_int _ _ _ _) (fun j h1 h2 _ => by
    obtain ⟨t, et⟩ := at1 j h1
    obtain ⟨t', et'⟩ := at2 j h2
    rw [et, et']
    exact Ob.RcOp.ge_int _ _ _ _)
  rw [e1, e2] at R
  have z : wpAny (model X.prog X.w) X.A (compareOp .GtE (.ref a) (.ref b)) (EP X pins σ Q) X.xe s := R X.prog X.w X.xe (EP X pins σ Q) ⟨.bl _, H, I, rfl, q⟩
  exact z
theorem lex_geP (p q : P2) : Ob.lexAt (fun j => decide (([p.1, p.2] : List Int).getD j 0 = ([q.1, q.2] : List Int).getD j 0)) (fun j => decide (([q.1, q.2] : List Int).getD j 0 ≤ ([p.1, p.2] : List Int).getD j 0)) true 0 2 = geP p q := by
  unfold geP
  simp only [Ob.lexAt, List.getD_cons_zero, List.getD_cons_succ, decide_eq_true_eq]
  by_cases c : p.1 = q.1
  · rw [if_pos c]
    by_cases d : p.2 = q.2
    · rw [if_pos d]
      simp [c, d]
    · rw [if_neg d]
      simp [c]
  · rw [if_neg c]
    rw [Bool.eq_iff_iff]
    simp [c]
    omega
theorem cd_gteT (hu : X.A.units < cLine) {a b c d : Int} : CD X .GtE (.tuple [.int a, .int b]) (.tuple [.int c, .int d]) (geP (a, b) (c, d)) := ⟨_, op_geT hu, fun v u S H sh r1 r2 Q q => by
  obtain ⟨_, t, rfl, e1⟩ := kP_of (p := (a, b)) r1
  obtain ⟨_, t2, rfl, e2⟩ := kP_of (p := (c, d)) r2
  refine ⟨t, t2, [a, b], [c, d], rfl, rfl, SqT.of (sh _ _ e1), SqT.of (sh _ _ e2), ?_⟩
  have e := lex_geP (a, b) (c, d)
  show Q (.bl (Ob.lexAt _ _ true 0 2)) H
  rw [e]
  exact q⟩
/-! ### a pair among pairs -/
theorem any_eqP (p : P2) (ps : List P2) : ((ps.map dP).any fun z => PyData.eqv z (dP p)) = decide (p ∈ ps) := by
  rw [Bool.eq_iff_iff, List.any_eq_true, decide_eq_true_eq]
  constructor
  · rintro ⟨z, hz, h⟩
    obtain ⟨w, hw, rfl⟩ := List.mem_map.mp hz
    rw [eqv_P, decide_eq_true_eq] at h
    rw [← h]
    exact hw
  · intro h
    exact ⟨dP p, List.mem_map_of_mem h, by rw [eqv_P, decide_eq_true_eq]⟩
theorem cd_inPs (hu : X.A.units + 65 < cLine) {a b : Int} {ps : List P2} : CD X .In (.tuple [.int a, .int b]) (.list (ps.map dP)) (decide ((a, b) ∈ ps)) := ⟨_, op_inD hu, fun v u S H sh r1 r2 Q q =>
  ⟨_, _, Rp.dp _ _ (pn_P (a, b)).lay (r1.mono sh), Rp.dp _ _ (pn_Ps ps).lay (r2.mono sh), (pn_P (a, b)).shaped (by decide), (pn_Ps ps).shaped (by decide), by
    have := any_eqP (a, b) ps
    rw [← this] at q
    exact q⟩⟩
theorem cd_niPs (hu : X.A.units + 65 < cLine) {a b : Int} {ps : List P2} : CD X .NotIn (.tuple [.int a, .int b]) (.list (ps.map dP)) (!decide ((a, b) ∈ ps)) := ⟨_, op_notInD hu, fun v u S H sh r1 r2 Q q =>
  ⟨_, _, Rp.dp _ _ (pn_P (a, b)).lay (r1.mono sh), Rp.dp _ _ (pn_Ps ps).lay (r2.mono sh), (pn_P (a, b)).shaped (by decide), (pn_Ps ps).shaped (by decide), by
    have := any_eqP (a, b) ps
    rw [← this] at q
    exact q⟩⟩
/-! ### an owned one let go -/
theorem SB.drop {ce : List (Option Sv)} {pre post : List (Addr × Ow)} {w : Addr × Ow} (h : SB X E { c := ce, o := pre ++ post } body D) : SB X E { c := ce, o := pre ++ w :: post } body D := ⟨fun S0 H0 he σ S H g k' f => by
  have sub : ∀ p ∈ pre ++ post, p ∈ pre ++ w :: post := fun p hp => by
    rcases List.mem_append.mp hp with hp | hp
    · exact List.mem_append_left _ hp
    · exact List.mem_append_right _ (List.mem_cons_of_mem _ hp)
  refine h S0 H0 he σ S H g ⟨k'.sh, k'.sl, fun p hp => k'.ow p (sub p hp), ?_⟩ fun p hp => f p (sub p hp)
  have q := k'.nd
  simp only [List.map_append, List.map_cons] at q ⊢
  exact (List.nodup_cons.mp (List.perm_middle.nodup_iff.mp q)).2⟩
/-! ### z, w = l.pop() -/
theorem sd_popU {z w u : Str} {px py pt q1 q2 q3 : Pos} {kt} {ce : List (Option Sv)} {post : List (Addr × Ow)} {l : Addr} (j k t : Nat) (pre : List (Addr × Ow)) (hk : ce[t]? = some (some (.v (.ref l)))) (hne : ds[ds.length - 1]? = some (.tuple [x, y]))
    (hn : D.nx { c := (ce.set j (some (.d x))).set k (some (.d y)), o := pre ++ (l, .lst ds.dropLast) :: post })
    (hi : X.N[j]? = some z := by rfl) (hj : X.N[k]? = some w := by rfl) (hN : X.N.Nodup := by assumption) (hc : X.calm = true := by rfl)
    (hx : Loc X.env.scope z := by first | exact Or.inl rfl | exact Or.inr rfl) (hy : Loc X.env.scope w := by first | exact Or.inl rfl | exact Or.inr rfl) (fx : X.fn z = true ∨ X.env.scope.names.lookup z = some .local := by first | exact .inl rfl | exact .inr rfl | assumption) (fy : X.fn w = true ∨ X.env.scope.names.lookup w = some .local := by first | exact .inl rfl | exact .inr rfl | assumption)
    (hNt : X.N[t]? = some u := by rfl) (hv : Vis X.env.scope u := by first | exact Or.inl rfl | exact Or.inr (Or.inl rfl) | exact Or.inr (Or.inr rfl)) (hd : (u == ("__debug__" : Str)) = false := by decide) (hcd : (u == ("__classdict__" : Str)) = false := by decide)
    (hbase : attributeBase (.Name u q1) "pop" X.env (eval (.Name u q1) X.env) = eval (.Name u q1) X.env := by rfl) (hline : (q2.endLine == q3.line) = true := by rfl)
    (hs : swapsWithSole [.Tuple [.Name z px, .Name w py] kt pt] (.Call (.Attribute (.Name u q1) "pop" q2) [] [] q3) pos.line X.env = pure false := by rfl) (hw : swappedStores [.Tuple [.Name z px, .Name w py] kt pt] (.Call (.Attribute (.Name u q1) "pop" q2) [] [] q3) X.env = pure none := by rfl)
    (h1 : (assignEach [.Tuple [.Name z px, .Name w py] kt pt] X.env).map (·.2) = [assign (.Tuple [.Name z px, .Name w py] kt pt) X.env] := by rfl) (hl : (assignEach [.Name z px, .Name w py] X.env).length = 2 := by rfl) (hst : (assignEach [.Name z px, .Name w py] X.env).findIdx? (·.1) = none := by rfl)
    (hs1 : (assignEach (.Name z px :: [.Name w py]) X.env).map (·.2) = assign (.Name z px) X.env :: (assignEach [.Name w py] X.env).map (·.2) := by rfl) (hs2 : (assignEach (.Name w py :: []) X.env).map (·.2) = assign (.Name w py) X.env :: (assignEach [] X.env).map (·.2) := by rfl) :
    SD X E { c := ce, o := pre ++ (l, .lst ds) :: post } (.Assign [.Tuple [.Name z px, .Name w py] kt pt] (.Call (.Attribute (.Name u q1) "pop" q2) [] [] q3) pos) D := ⟨fun S0 H0 _ σ S H g k' f => by
  obtain ⟨s, e1, e2⟩ := k'.sl.get hk
  have hs' : s = some (.ref l) := e2
  obtain ⟨n1, vs0, e0, r0⟩ := k'.ow (l, .lst ds) (by simp)
  refine wS_of (ps_asg (pe_bm0 PySem.F.plainAttrs_list PySem.F.slot_list_pop PySem.F.type_list_pop mt_pop (pv t hNt hv hd hcd) hbase hline) (pg_tup hc (pgs_cons (pg_name hN hi hx fx) (pgs_cons (pg_name hN hj hy fy) pgs_nil hs2) hs1) hl hst) hs hw h1) ⟨.ref l, by rw [e1, hs'], .inl ⟨rfl, _, .inl (.inl e0)⟩, ?_⟩
  obtain ⟨v, hv1, hv2⟩ := r0.get hne
  refine ⟨l, vs0, v, rfl, rfl, e0, by rw [r0.length]; exact hv1, ?_⟩
  have k2 := k'.write (w' := .lst ds.dropLast) (o := .lst vs0.dropLast) ⟨vs0.dropLast, upd_same, r0.dropLast⟩
  have g2 := g.write (o := .lst vs0.dropLast) (f (l, .lst ds) (by simp)) n1
  cases hv2 with
  | tup t1 t2 =>
    obtain ⟨a1, a2, rfl, r2, r3⟩ := rpa2 t2
    exact ⟨_, [a1, a2], rfl, SqT.of (g2.sh _ _ t1), rfl, a1, [a2], rfl, a2, [], rfl, rfl, at_of (G := { c := (ce.set j (some (.d x))).set k (some (.d y)), o := pre ++ (l, .lst ds.dropLast) :: post }) g2 ⟨k2.sh, Sl.set (g := some (.d y)) ⟨a2, rfl, r3⟩ k (Sl.set (g := some (.d x)) ⟨a1, rfl, r2⟩ j k2.sl), k2.ow, k2.nd⟩ f.write hn⟩⟩
/-! ### an owned list read as data for a while -/
def flatY : PyData → Bool
  | .none | .bool _ | .int _ | .str _ => true | _ => false
theorem flat_rp {K : Fg} {S S' : Hp} {v : V} (h : Rp K S v x) (hf : flatY x = true) : Rp K S' v x := by
  cases h with
  | non => exact .non
  | bl b => exact .bl b
  | int i => exact .int i
  | str x => exact .str x
  | _ => cases hf
theorem ED.thaw {ce : List (Option Sv)} {post : List (Addr × Ow)} {l : Addr} (k : Nat) (pre : List (Addr × Ow)) (h : ED X { c := ce.set k (some (.d (.list ds))), o := pre ++ post } e y) (hk : ce[k]? = some (some (.v (.ref l)))) (hf : flatY y = true := by rfl) : ED X { c := ce, o := pre ++ (l, .lst ds) :: post } e y := ⟨fun σ S H k' Q q => by
  obtain ⟨n1, vs, e1, r1⟩ := k'.ow (l, .lst ds) (by simp)
  obtain ⟨s, h1, h2⟩ := k'.sl.get hk
  have hs : s = some (.ref l) := h2
  have nl : ∀ p ∈ pre ++ post, p.1 ≠ l := fun p hp z => by
    have q := k'.nd
    simp only [List.map_append, List.map_cons] at q
    have q2 := List.nodup_append.mp q
    rcases List.mem_append.mp hp with hp | hp
    · exact q2.2.2 p.1 (List.mem_map_of_mem hp) l (by simp) z
    · have q3 := List.nodup_cons.mp q2.2.1
      exact q3.1 (by rw [← z]; exact List.mem_map_of_mem hp)
  have sub : ∀ p ∈ pre ++ post, p ∈ pre ++ (l, Ow.lst ds) :: post := fun p hp => by
    rcases List.mem_append.mp hp with hp | hp
    · exact List.mem_append_left _ hp
    · exact List.mem_append_right _ (List.mem_cons_of_mem _ hp)
  have kf : Ok X.K (upd S l (.lst vs)) H σ { c := ce.set k (some (.d (.list ds))), o := pre ++ post } := by
    refine ⟨fun b u q => ?_, ?_, fun p hp => ?_, ?_⟩
    · by_cases hb : b = l
      · subst hb
        rw [upd_same] at q
        rw [e1]
        exact q
      · rw [upd_ne hb] at q
        exact k'.sh b u q
    · have q := Sl.set (K := X.K) (S := upd S l (.lst vs)) (s := s) (g := some (.d (.list ds))) ⟨.ref l, hs, .lst upd_same (r1.mono (same_new n1 _))⟩ k (k'.sl.mono (same_new n1 (.lst vs)))
      have e2 : σ.set k s = σ := by
        obtain ⟨hl, hk2⟩ := List.getElem?_eq_some_iff.mp h1
        subst hk2
        exact List.set_getElem_self hl
      rw [e2] at q
      exact q
    · obtain ⟨q1, q2⟩ := k'.ow p (sub p hp)
      exact ⟨by rw [upd_ne (nl p hp)]; exact q1, q2.mono (same_new n1 _) (Same.refl H)⟩
    · have q := k'.nd
      simp only [List.map_append, List.map_cons] at q ⊢
      exact (List.nodup_cons.mp (List.perm_middle.nodup_iff.mp q)).2
  refine h σ (upd S l (.lst vs)) H kf Q fun v S' H' g r => q v (fun b => if b = l then none else S' b) H' ⟨fun b u e => ?_, g.h, fun b u e => ?_, fun b u e m n => ?_⟩ (flat_rp r hf)
  · have hb : b ≠ l := fun z => by rw [z, n1] at e; cases e
    show (if b = l then none else S' b) = _
    rw [if_neg hb]
    exact g.s b u (by rw [upd_ne hb]; exact e)
  · by_cases hb : b = l
    · rw [if_pos hb] at e
      cases e
    · rw [if_neg hb] at e
      exact g.sh b u e
  · show (if b = l then none else S' b) = _
    by_cases hb : b = l
    · rw [if_pos hb]
    · rw [if_neg hb]
      exact g.new b u e m (by rw [upd_ne hb]; exact n)⟩
end
section
variable {P : Program} {w : World} {K : Fg} {mg : Str → Option Value} {base : Heap} {f : Addr} {fd : FuncData} {ps : List Str} {cx : CXT} {k : Nat} {R : Rl}
/-- what is never asked -/
theorem fn_D0 (no : ∀ xs r, ¬ R xs r) : FnOk P w K mg base cx k f fd ps (spD K R) := by
  have nx : ∀ vs H Q E, ¬ spD K R vs H Q E := fun vs H Q E h => by
    obtain ⟨S, xs, r, _, _, h3, _⟩ := h
    exact no _ _ h3
  exact ⟨fun vs H Q E h => absurd h (nx vs H Q E), fun A outer s H args us vs Q E _ _ _ _ h => absurd h (nx vs H Q E)⟩
end
end DL

set_option Elab.async false
set_option linter.all false
set_option maxRecDepth 100000
set_option maxHeartbeats 4000000
/-! The program's lines are lines; cuts as trees. -/
namespace MT
open DL
theorem nx_nxt {r : List P2} {k : Nat} (h : k < r.length) : nx (len r) (k : Int) = ((nxt r.length k : Nat) : Int) := by
  unfold len
  rw [nx_of (by omega)]
  unfold nxt
  by_cases c : k + 1 = r.length
  · rw [if_pos c, if_pos (by omega)]; rfl
  · rw [if_neg c, if_neg (by omega)]; rfl
theorem gz_nx {r : List P2} {k : Nat} (h : k < r.length) : gz r (nx (len r) (k : Int)) = pt r (nxt r.length k) := by
  rw [nx_nxt h, gz_nat (nxt_lt h)]
theorem gz_prv {r : List P2} {k : Nat} (h : k < r.length) : gz r ((k : Int) - 1) = pt r (prv r.length k) := by rw [gz_pred h, pt_prv h]
theorem line_diag {r : List P2} (h : Room r) {i j : Nat} (hij : i < j) (hj : j < r.length) : lineBy r (i : Int) (j : Int) = true ↔ Diag r.length (pt r) i j := by
  have S := h.sim
  have n3 := h.lo
  have hi : i < r.length := by omega
  have hn : (decide ((j : Int) ≤ i) || (decide (nx (len r) (i : Int) = j) || decide (nx (len r) (j : Int) = i))) = false ↔ i + 1 < j ∧ ¬ (i = 0 ∧ j = r.length - 1) := by
    rw [nx_nxt hi, nx_nxt hj]
    simp only [Bool.or_eq_false_iff, decide_eq_false_iff_not]
    unfold nxt
    rw [if_neg (by omega)]
    split <;> omega
  have gi := gz_nat hi
  have gj := gz_nat hj
  have ne : pt r i ≠ pt r j := S.ne hi hj (by omega)
  have blocks : ((rg 0 r.length).any (fun k => blk1 r i j k || blk2 r i j k)) = false ↔ ∀ k, k < r.length → (k ≠ i → k ≠ j → ¬ On (pt r i) (pt r j) (pt r k)) ∧ (k ≠ i → k ≠ j → nxt r.length k ≠ i → nxt r.length k ≠ j → ¬ Meet (pt r i) (pt r j) (pt r k) (pt r (nxt r.length k))) := by
    rw [← Bool.not_eq_true', not_any_rg]
    refine forall_congr' fun k => forall_congr' fun hk => ?_
    unfold blk1 blk2
    rw [gi, gj, gz_nat hk, gz_nx hk, nx_nxt hk, Bool.or_eq_false_iff, ← liesOn_iff, ← meet_iff]
    have e1 : (!decide ((k : Int) ∈ [(i : Int), (j : Int)])) = true ↔ k ≠ i ∧ k ≠ j := by
      simp only [Bool.not_eq_true', decide_eq_false_iff_not, List.mem_cons, List.not_mem_nil, or_false]
      omega
    have e2 : (!decide (((nxt r.length k : Nat) : Int) ∈ [(i : Int), (j : Int)])) = true ↔ nxt r.length k ≠ i ∧ nxt r.length k ≠ j := by
      simp only [Bool.not_eq_true', decide_eq_false_iff_not, List.mem_cons, List.not_mem_nil, or_false]
      omega
    generalize (!decide ((k : Int) ∈ [(i : Int), (j : Int)])) = A at *
    generalize (!decide (((nxt r.length k : Nat) : Int) ∈ [(i : Int), (j : Int)])) = B at *
    generalize liesOn (pt r i) (pt r j) (pt r k) = C at *
    generalize meet (pt r i) (pt r j) (pt r k) (pt r (nxt r.length k)) = M at *
    constructor
    · rintro ⟨h1, h2⟩
      refine ⟨fun a b c => ?_, fun a b c d m => ?_⟩
      · rw [e1.mpr ⟨a, b⟩, c] at h1
        cases h1
      · rw [e1.mpr ⟨a, b⟩, e2.mpr ⟨c, d⟩, m] at h2
        cases h2
    · rintro ⟨h1, h2⟩
      refine ⟨?_, ?_⟩
      · rw [← Bool.not_eq_true, Bool.and_eq_true]
        rintro ⟨a, c⟩
        have := e1.mp a
        exact h1 this.1 this.2 c
      · rw [← Bool.not_eq_true, Bool.and_eq_true, Bool.and_eq_true]
        rintro ⟨⟨a, b⟩, m⟩
        have g1 := e1.mp a
        have g2 := e2.mp b
        exact h2 g1.1 g1.2 g2.1 g2.2 m
  by_cases adj : i + 1 < j ∧ ¬ (i = 0 ∧ j = r.length - 1)
  · have pj : prv r.length i ≠ j := by
      unfold prv
      split <;> omega
    have nj : nxt r.length i ≠ j := by
      unfold nxt
      split <;> omega
    have n1 := prv_ne n3 hi
    have n2 := nxt_ne n3 hi
    have hu := prv_lt hi
    have hz := nxt_lt hi
    have op : Miss r.length (pt r) i j → (opens r i j = true ↔ Opn (pt r (prv r.length i)) (pt r i) (pt r (nxt r.length i)) (pt r j)) := fun M => by
      have e := opn_iff (b := pt r j) (S.ne hu hi n1.1) (S.ne hz hi n2.1) (fun z => ne z.symm) (S.fold hi) (fun w => by
        rcases fold_on w (S.ne hu hi n1.1) (fun z => ne z.symm) with y | y
        · have := S.on (prv r.length i) j hu hj (fun z => pj z.symm) (by rw [nxt_prv hi]; omega)
          rw [nxt_prv hi] at this
          exact this (On_swap.mp y)
        · exact M.on (prv r.length i) hu n1.1 pj (On_swap.mp y)) (fun w => by
        rcases fold_on w (S.ne hz hi n2.1) (fun z => ne z.symm) with y | y
        · exact S.on i j hi hj (by omega) (fun z => nj z.symm) y
        · exact M.on (nxt r.length i) hz n2.1 nj (On_swap.mp y))
      rw [e]
      unfold opens
      rw [gi, gj, gz_nx hi, gz_prv hi]
      by_cases c : 0 < side (pt r (prv r.length i)) (pt r i) (pt r (nxt r.length i))
      · rw [if_pos c, if_pos (decide_eq_true c)]
        simp
      · rw [if_neg c, if_neg (by simpa using c)]
        simp
    unfold lineBy
    rw [if_neg (by rw [hn.mpr adj]; decide)]
    constructor
    · intro q
      by_cases b : ((rg 0 r.length).any (fun k => blk1 r i j k || blk2 r i j k)) = true
      · rw [if_pos b] at q
        cases q
      · rw [if_neg b] at q
        have B := blocks.mp (Bool.eq_false_iff.mpr b)
        have M : Miss r.length (pt r) i j := ⟨fun m hm h1 h2 => (B m hm).1 h1 h2, fun k hk z => by
          have hk' := nxt_lt hk
          have z0 := z
          unfold Cross at z
          by_cases k1 : k = i
          · rw [k1, side_eq1] at z; omega
          · by_cases k2 : k = j
            · rw [k2, side_eq0] at z; omega
            · by_cases k3 : nxt r.length k = i
              · rw [k3, side_eq1] at z; omega
              · by_cases k4 : nxt r.length k = j
                · rw [k4, side_eq0] at z; omega
                · exact (B k hk).2 k1 k2 k3 k4 (.inr (.inr (.inr (.inr z0))))⟩
        exact ⟨adj.1, hj, adj.2, M, (op M).mp q⟩
    · intro D
      rw [if_neg, (op D.ms).mpr D.op]
      rw [Bool.not_eq_true, blocks]
      intro k hk
      have hk' := nxt_lt hk
      refine ⟨fun h1 h2 => D.ms.on k hk h1 h2, fun h1 h2 h3 h4 z => ?_⟩
      rcases z with z | z | z | z | z
      · exact D.ms.on k hk h1 h2 z
      · exact D.ms.on _ hk' h3 h4 z
      · exact S.on k i hk hi (fun y => h1 y.symm) (fun y => h3 y.symm) z
      · exact S.on k j hk hj (fun y => h2 y.symm) (fun y => h4 y.symm) z
      · exact D.ms.cr k hk z
  · have q : lineBy r i j = false := by
      unfold lineBy
      rw [if_pos]
      rw [← Bool.not_eq_false]
      exact fun z => adj (hn.mp z)
    rw [q]
    constructor
    · intro z; cases z
    · intro D
      exact absurd ⟨D.ij, D.no⟩ adj
theorem jn_iff {r : List P2} (h : Room r) {i j : Nat} (hij : i < j) (hj : j < r.length) : jnB r (i : Int) (j : Int) = true ↔ Jn r.length (pt r) i j := by
  have := line_diag h hij hj
  have n3 := h.lo
  unfold jnB Jn len
  simp only [Bool.or_eq_true, Bool.and_eq_true, decide_eq_true_eq]
  rw [this]
  constructor
  · rintro (z | z | z)
    · exact .inl (by omega)
    · exact .inr (.inl (by omega))
    · exact .inr (.inr z)
  · rintro (z | z | z)
    · exact .inl (by omega)
    · exact .inr (.inl (by omega))
    · exact .inr (.inr z)
/-- corners with which a joined pair makes a triangle -/
theorem btw_ne {r : List P2} (h : Room r) {i j : Int} (hi : 0 ≤ i) (hij : i + 1 < j) (hj : j < r.length) (hJ : jnB r i j = true) : btw (jnB r) i j ≠ [] := by
  obtain ⟨a, rfl⟩ : ∃ a : Nat, i = a := ⟨i.toNat, by omega⟩
  obtain ⟨b, rfl⟩ : ∃ a : Nat, j = a := ⟨j.toNat, by omega⟩
  have J := (jn_iff h (by omega) (by omega)).mp hJ
  obtain ⟨k, h1, h2, h3, h4⟩ := third h.sim h.lam (i := a) (j := b) (by
    rcases J with z | z | z
    · omega
    · exact .inl z
    · exact .inr z)
  have m : (k : Int) ∈ btw (jnB r) a b := by
    unfold btw
    rw [List.mem_filter, Bool.and_eq_true]
    exact ⟨mem_ints.mpr (by omega), (jn_iff h h1 (by omega)).mpr h3, (jn_iff h h2 (by omega)).mpr h4⟩
  intro e
  rw [e] at m
  cases m
/-! ### cuts as trees -/
inductive Tr where
  | leaf
  | node (k : Int) (l r : Tr)
namespace Tr
def ok (J : Int → Int → Bool) : Tr → Int → Int → Prop
  | leaf, i, j => j = i + 1
  | node k l r, i, j => i < k ∧ k < j ∧ J i k = true ∧ J k j = true ∧ ok J l i k ∧ ok J r k j
/-- all pairs but neighbours, its own too -/
def sub : Tr → Int → Int → List P2
  | leaf, _, _ => []
  | node k l r, i, j => (i, j) :: (sub l i k ++ sub r k j)
def nodes : Tr → Nat
  | leaf => 0
  | node _ l r => nodes l + nodes r + 1
section
variable {J : Int → Int → Bool}
theorem ok_lt : ∀ {t : Tr} {i j : Int}, t.ok J i j → i < j
  | leaf, i, j, h => by unfold ok at h; omega
  | node k l r, i, j, h => by
    obtain ⟨h1, h2, _⟩ := h
    omega
theorem ok_nodes : ∀ {t : Tr} {i j : Int}, t.ok J i j → (t.nodes : Int) = j - i - 1
  | leaf, i, j, h => by unfold ok at h; unfold nodes; omega
  | node k l r, i, j, h => by
    obtain ⟨_, _, _, _, h1, h2⟩ := h
    have := ok_nodes h1
    have := ok_nodes h2
    unfold nodes
    omega
theorem sub_len : ∀ (t : Tr) (i j : Int), (t.sub i j).length = t.nodes
  | leaf, _, _ => rfl
  | node k l r, i, j => by
    unfold sub nodes
    rw [List.length_cons, List.length_append, sub_len l, sub_len r]
/-- within i, j -/
theorem sub_in : ∀ {t : Tr} {i j : Int}, t.ok J i j → ∀ p ∈ t.sub i j, i ≤ p.1 ∧ p.1 + 1 < p.2 ∧ p.2 ≤ j
  | leaf, i, j, _, p, hp => by cases hp
  | node k l r, i, j, h, p, hp => by
    obtain ⟨h0, h00, _, _, h1, h2⟩ := h
    unfold sub at hp
    rcases List.mem_cons.mp hp with e | hp
    · subst e
      show i ≤ i ∧ i + 1 < j ∧ j ≤ j
      omega
    · rcases List.mem_append.mp hp with hp | hp
      · have := sub_in h1 p hp
        omega
      · have := sub_in h2 p hp
        omega
/-- each is joined -/
theorem sub_J : ∀ {t : Tr} {i j : Int}, t.ok J i j → J i j = true → ∀ p ∈ t.sub i j, J p.1 p.2 = true
  | leaf, i, j, _, _, p, hp => by cases hp
  | node k l r, i, j, h, hJ, p, hp => by
    obtain ⟨_, _, j1, j2, h1, h2⟩ := h
    unfold sub at hp
    rcases List.mem_cons.mp hp with e | hp
    · subst e
      exact hJ
    · rcases List.mem_append.mp hp with hp | hp
      · exact sub_J h1 j1 p hp
      · exact sub_J h2 j2 p hp
def Crs (p q : P2) : Prop := (p.1 < q.1 ∧ q.1 < p.2 ∧ p.2 < q.2) ∨ (q.1 < p.1 ∧ p.1 < q.2 ∧ q.2 < p.2)
/-- no two cross -/
theorem sub_nc : ∀ {t : Tr} {i j : Int}, t.ok J i j → ∀ p ∈ t.sub i j, ∀ q ∈ t.sub i j, ¬ Crs p q
  | leaf, i, j, _, p, hp, _, _ => by cases hp
  | node k l r, i, j, h, p, hp, q, hq => by
    obtain ⟨h0, h00, _, _, h1, h2⟩ := h
    have hp0 := hp
    have hq0 := hq
    unfold sub at hp hq
    have own : ∀ u : P2, u ∈ (node k l r).sub i j → ¬ Crs (i, j) u ∧ ¬ Crs u (i, j) := fun u hu => by
      have := sub_in (J := J) (t := node k l r) ⟨h0, h00, by assumption, by assumption, h1, h2⟩ u hu
      unfold Crs
      dsimp only
      omega
    rcases List.mem_cons.mp hp with e | hp
    · subst e
      exact (own q hq0).1
    · rcases List.mem_cons.mp hq with e | hq
      · subst e
        exact (own p hp0).2
      · rcases List.mem_append.mp hp with hp | hp <;> rcases List.mem_append.mp hq with hq | hq
        · exact sub_nc h1 p hp q hq
        · have a := sub_in h1 p hp
          have b := sub_in h2 q hq
          unfold Crs
          omega
        · have a := sub_in h2 p hp
          have b := sub_in h1 q hq
          unfold Crs
          omega
        · exact sub_nc h2 p hp q hq
theorem sub_nd : ∀ {t : Tr} {i j : Int}, t.ok J i j → (t.sub i j).Nodup
  | leaf, i, j, _ => List.nodup_nil
  | node k l r, i, j, h => by
    obtain ⟨h0, h00, _, _, h1, h2⟩ := h
    unfold sub
    refine List.nodup_cons.mpr ⟨fun hm => ?_, List.nodup_append.mpr ⟨sub_nd h1, sub_nd h2, fun p hp q hq e => ?_⟩⟩
    · rcases List.mem_append.mp hm with hp | hp
      · have := sub_in h1 _ hp
        dsimp only at this
        omega
      · have := sub_in h2 _ hp
        dsimp only at this
        omega
    · subst e
      have a := sub_in h1 p hp
      have b := sub_in h2 p hq
      omega
/-- without its own -/
def inn : Tr → Int → Int → List P2
  | leaf, _, _ => []
  | node k l r, i, j => sub l i k ++ sub r k j
theorem inn_sub {t : Tr} {i j : Int} {p : P2} (h : p ∈ t.inn i j) : p ∈ t.sub i j := by
  cases t with
  | leaf => exact h
  | node k l r => exact List.mem_cons_of_mem _ h
theorem inn_lt {t : Tr} {i j : Int} (h : t.ok J i j) {p : P2} (hp : p ∈ t.inn i j) : p.2 - p.1 < j - i := by
  cases t with
  | leaf => cases hp
  | node k l r =>
    obtain ⟨h0, h00, _, _, h1, h2⟩ := h
    rcases List.mem_append.mp hp with hp | hp
    · have := sub_in h1 p hp
      omega
    · have := sub_in h2 p hp
      omega
theorem inn_nd {t : Tr} {i j : Int} (h : t.ok J i j) : (t.inn i j).Nodup := by
  have := sub_nd h
  cases t with
  | leaf => exact this
  | node k l r => exact (List.nodup_cons.mp this).2
theorem inn_len {t : Tr} {i j : Int} (h : t.ok J i j) (hij : i + 1 < j) : ((t.inn i j).length : Int) = j - i - 2 := by
  have e := sub_len t i j
  have e2 := ok_nodes h
  cases t with
  | leaf => unfold ok at h; omega
  | node k l r =>
    have : ((node k l r).sub i j).length = ((node k l r).inn i j).length + 1 := rfl
    omega
/-- a tree by a choice -/
def mk (sel : Int → Int → Int) : Nat → Int → Int → Tr
  | 0, _, _ => leaf
  | f + 1, i, j => if i + 1 < j then node (sel i j) (mk sel f i (sel i j)) (mk sel f (sel i j) j) else leaf
theorem mk_more {sel : Int → Int → Int} (hs : ∀ i j, i + 1 < j → i < sel i j ∧ sel i j < j) : ∀ (f g : Nat) (i j : Int), j - i ≤ f → j - i ≤ g → mk sel f i j = mk sel g i j
  | 0, 0, i, j, _, _ => rfl
  | 0, g + 1, i, j, h, _ => by
    unfold mk
    rw [if_neg (by omega)]
  | f + 1, 0, i, j, _, h => by
    unfold mk
    rw [if_neg (by omega)]
  | f + 1, g + 1, i, j, h1, h2 => by
    unfold mk
    by_cases c : i + 1 < j
    · have := hs i j c
      rw [if_pos c, if_pos c, mk_more hs f g i _ (by omega) (by omega), mk_more hs f g _ j (by omega) (by omega)]
    · rw [if_neg c, if_neg c]
/-- the tree of a choice -/
def tree (sel : Int → Int → Int) (i j : Int) : Tr := mk sel (j - i).toNat i j
theorem tree_leaf {sel : Int → Int → Int} {i j : Int} (h : ¬ i + 1 < j) : tree sel i j = leaf := by
  unfold tree
  cases (j - i).toNat with
  | zero => rfl
  | succ f => unfold mk; rw [if_neg h]
theorem tree_node {sel : Int → Int → Int} (hs : ∀ i j, i + 1 < j → i < sel i j ∧ sel i j < j) {i j : Int} (h : i + 1 < j) : tree sel i j = node (sel i j) (tree sel i (sel i j)) (tree sel (sel i j) j) := by
  have := hs i j h
  unfold tree
  obtain ⟨f, hf⟩ : ∃ f, (j - i).toNat = f + 1 := ⟨(j - i).toNat - 1, by omega⟩
  rw [hf, mk, if_pos h, mk_more hs f (sel i j - i).toNat i _ (by omega) (by omega), mk_more hs f (j - sel i j).toNat _ j (by omega) (by omega)]
theorem tree_ok {sel : Int → Int → Int} (hs : ∀ i j, i + 1 < j → i < sel i j ∧ sel i j < j) {lo hi : Int} (hJ : ∀ i j, lo ≤ i → i + 1 < j → j ≤ hi → J i j = true → J i (sel i j) = true ∧ J (sel i j) j = true) (h1 : ∀ i, lo ≤ i → i + 1 ≤ hi → J i (i + 1) = true) : ∀ (n : Nat) (i j : Int), j - i ≤ n → lo ≤ i → i < j → j ≤ hi → J i j = true → (tree sel i j).ok J i j
  | 0, i, j, h, _, h2, _, _ => by omega
  | n + 1, i, j, h, hl, h2, hh, h3 => by
    by_cases c : i + 1 < j
    · rw [tree_node hs c]
      have b := hs i j c
      have j2 := hJ i j hl c hh h3
      exact ⟨b.1, b.2, j2.1, j2.2, tree_ok hs hJ h1 n i _ (by omega) hl (by omega) (by omega) j2.1, tree_ok hs hJ h1 n _ j (by omega) (by omega) (by omega) hh j2.2⟩
    · rw [tree_leaf c]
      unfold ok
      omega
end
end Tr
end MT

set_option Elab.async false
set_option linter.all false
set_option maxRecDepth 100000
set_option maxHeartbeats 4000000
/-! What a cut is, by the program and by the law. -/
namespace MT
open DL
def crossB (p q : P2) : Bool := (decide (p.1 < q.1) && (decide (q.1 < p.2) && decide (p.2 < q.2))) || (decide (q.1 < p.1) && (decide (p.1 < q.2) && decide (q.2 < p.2)))
def bad1 (r ls : List P2) (k : Int) : Bool := decide ((gz ls k).1 < 0) || (decide (len r ≤ (gz ls k).2) || !lineBy r (gz ls k).1 (gz ls k).2)
def bad2 (ls : List P2) (k : Int) : Bool := decide (0 < k) && geP (gz ls (k - 1)) (gz ls k)
def bad3 (ls : List P2) (k : Int) : Bool := (rg 0 k.toNat).any fun j => crossB (gz ls j) (gz ls k)
def cutBy (r ls : List P2) : Bool := if (!decide ((ls.length : Int) = len r - 3)) = true then false else !(rg 0 ls.length).any fun k => bad1 r ls k || (bad2 ls k || bad3 ls k)
def lbad1 (r ls : List P2) (k : Int) : Bool := !lLine r (gz ls k).1 (gz ls k).2 || bad2 ls k
def lbad3 (ls : List P2) (k : Int) : Bool := decide (0 < (((rg 0 k.toNat).filter fun j => crossB (gz ls j) (gz ls k)).length : Int))
def lCut (r ls : List P2) : Bool := if (!decide ((ls.length : Int) = len r - 3)) = true then false else !(rg 0 ls.length).any fun k => lbad1 r ls k || lbad3 ls k
theorem any_len {α : Type} (f : α → Bool) (l : List α) : decide (0 < ((l.filter f).length : Int)) = l.any f := by
  rw [Bool.eq_iff_iff, decide_eq_true_eq, List.any_eq_true]
  constructor
  · intro h
    obtain ⟨x, hx⟩ := List.exists_mem_of_length_pos (show 0 < (l.filter f).length by omega)
    exact ⟨x, (List.mem_filter.mp hx).1, (List.mem_filter.mp hx).2⟩
  · rintro ⟨x, hx, h⟩
    have := List.length_pos_of_mem (List.mem_filter.mpr ⟨hx, h⟩)
    omega
theorem cut_law {r : List P2} (h : Room r) (ls : List P2) : cutBy r ls = lCut r ls := by
  unfold cutBy lCut
  congr 3
  funext k
  unfold lbad1 lbad3
  rw [any_len, lLine_eq h.lo]
  have n3 := h.lo
  have e : bad1 r ls k = !isLine r (gz ls k).1 (gz ls k).2 := by
    unfold bad1 isLine
    generalize (gz ls k).1 = a
    generalize (gz ls k).2 = b
    by_cases c : a < 0
    · rw [decide_eq_true c]
      rfl
    · by_cases d : len r ≤ b
      · rw [decide_eq_true d]
        simp
      · rw [decide_eq_false c, decide_eq_false d]
        by_cases f : b < 0
        · have : lineBy r a b = false := by
            unfold lineBy
            rw [if_pos]
            rw [decide_eq_true (show b ≤ a by omega)]
            rfl
          rw [this, decide_eq_true f]
          simp
        · by_cases g : len r ≤ a
          · have : lineBy r a b = false := by
              unfold lineBy
              rw [if_pos]
              rw [decide_eq_true (show b ≤ a by omega)]
              rfl
            rw [this, decide_eq_true g]
            simp
          · rw [decide_eq_false f, decide_eq_false g]
            rfl
  rw [e]
  unfold bad3
  rw [Bool.or_assoc]
theorem cutBy_f {r ls : List P2} {k : Nat} (h : ¬ (!decide ((ls.length : Int) = len r - 3)) = true) (hk : k < ls.length) (hb : (bad1 r ls k || (bad2 ls k || bad3 ls k)) = true) : cutBy r ls = false := by
  unfold cutBy
  rw [if_neg h, any_t hk hb]
  rfl
theorem cutBy_t {r ls : List P2} (h : ¬ (!decide ((ls.length : Int) = len r - 3)) = true) (hb : ∀ k : Nat, k < ls.length → (bad1 r ls k || (bad2 ls k || bad3 ls k)) = false) : cutBy r ls = true := by
  unfold cutBy
  rw [if_neg h, any_f hb]
  rfl
theorem lCut_f {r ls : List P2} {k : Nat} (h : ¬ (!decide ((ls.length : Int) = len r - 3)) = true) (hk : k < ls.length) (hb : (lbad1 r ls k || lbad3 ls k) = true) : lCut r ls = false := by
  unfold lCut
  rw [if_neg h, any_t (f := fun k => lbad1 r ls k || lbad3 ls k) hk hb]
  rfl
theorem lCut_t {r ls : List P2} (h : ¬ (!decide ((ls.length : Int) = len r - 3)) = true) (hb : ∀ k : Nat, k < ls.length → (lbad1 r ls k || lbad3 ls k) = false) : lCut r ls = true := by
  unfold lCut
  rw [if_neg h, any_f (f := fun k => lbad1 r ls k || lbad3 ls k) hb]
  rfl
theorem geP_iff {p q : P2} : geP p q = true ↔ ltP2 p q = false := by
  unfold geP
  rw [ltP2_no]
  simp only [Bool.or_eq_true, Bool.and_eq_true, decide_eq_true_eq]
  constructor
  · intro h g
    omega
  · intro h
    omega
/-- rising, none twice -/
def Rising (l : List P2) : Prop := l.Pairwise fun x y => ltP2 x y = true
theorem rising_sort {l : List P2} (h : l.Nodup) : Rising (sortP l) := by
  have nd : (sortP l).Nodup := (sortP_perm l).nodup_iff.mpr h
  refine ((sortP_up l).and nd).imp fun {x y} hh => ?_
  obtain ⟨h1, h2⟩ := hh
  rw [ltP2_no] at h1
  rw [ltP2_iff]
  have : ¬ (x.1 = y.1 ∧ x.2 = y.2) := fun a => h2 (Prod.ext a.1 a.2)
  omega
theorem crossB_iff {p q : P2} : crossB p q = true ↔ Tr.Crs p q := by
  unfold crossB Tr.Crs
  simp only [Bool.or_eq_true, Bool.and_eq_true, decide_eq_true_eq]
/-- a cut, in words -/
structure CutP (r ls : List P2) : Prop where
  ln : ls.length + 3 = r.length
  line : ∀ p ∈ ls, 0 ≤ p.1 ∧ p.2 < r.length ∧ lineBy r p.1 p.2 = true
  up : Rising ls
  nc : ∀ p ∈ ls, ∀ q ∈ ls, ¬ Tr.Crs p q
theorem CutP.by {r ls : List P2} (h : CutP r ls) : cutBy r ls = true := by
  have l := h.ln
  refine cutBy_t (by simp only [Bool.not_eq_true', decide_eq_false_iff_not]; unfold len; omega) fun k hk => ?_
  have m := List.getElem_mem hk
  have e := gz_natI hk
  rw [Bool.or_eq_false_iff, Bool.or_eq_false_iff]
  refine ⟨?_, ?_, ?_⟩
  · unfold bad1
    rw [e]
    have q := h.line _ m
    rw [decide_eq_false (show ¬ ls[k].1 < 0 by omega), decide_eq_false (show ¬ len r ≤ ls[k].2 by unfold len; omega), q.2.2]
    rfl
  · unfold bad2
    by_cases c : (0 : Int) < k
    · have hk1 : k - 1 < ls.length := by omega
      rw [show ((k : Int) - 1) = ((k - 1 : Nat) : Int) by omega, gz_natI hk1, e]
      have q := List.pairwise_iff_getElem.mp h.up (k - 1) k hk1 hk (by omega)
      rw [Bool.and_eq_false_iff]
      refine .inr ?_
      rw [← Bool.not_eq_true, geP_iff, q]
      decide
    · rw [decide_eq_false c]
      rfl
  · unfold bad3
    refine any_f fun j hj => ?_
    have hj' : j < ls.length := by omega
    rw [gz_natI hj', e, ← Bool.not_eq_true, crossB_iff]
    exact h.nc _ (List.getElem_mem hj') _ m
/-- a tree over all corners tells a cut -/
theorem tree_cut {r : List P2} (h : Room r) {t : Tr} (ht : t.ok (jnB r) 0 ((r.length : Int) - 1)) : CutP r (sortP (t.inn 0 ((r.length : Int) - 1))) := by
  have n3 := h.lo
  have l := Tr.inn_len ht (by omega)
  have hJ : jnB r 0 ((r.length : Int) - 1) = true := by
    unfold jnB len
    simp
  refine ⟨by rw [sortP_len]; omega, fun p hp => ?_, rising_sort (Tr.inn_nd ht), fun p hp q hq => Tr.sub_nc ht p (Tr.inn_sub (mem_sortP.mp hp)) q (Tr.inn_sub (mem_sortP.mp hq))⟩
  have hp := mem_sortP.mp hp
  have a := Tr.sub_in ht p (Tr.inn_sub hp)
  have b := Tr.inn_lt ht hp
  have c := Tr.sub_J ht hJ p (Tr.inn_sub hp)
  refine ⟨a.1, by omega, ?_⟩
  unfold jnB len at c
  simp only [Bool.or_eq_true, Bool.and_eq_true, decide_eq_true_eq] at c
  rcases c with c | c | c
  · omega
  · omega
  · exact c
/-! ### a tree chosen out of the corners between -/
/-- a choice that lies between -/
def selOf (J : Int → Int → Bool) (pickK : Int → Int → Int) (i j : Int) : Int := if btw J i j = [] then i + 1 else gz (btw J i j) (pickK i j)
theorem sel_btw {J : Int → Int → Bool} {pk : Int → Int → Int} (hp : ∀ i j, btw J i j ≠ [] → 0 ≤ pk i j ∧ pk i j < (btw J i j).length) (i j : Int) (h : i + 1 < j) : i < selOf J pk i j ∧ selOf J pk i j < j := by
  unfold selOf
  by_cases c : btw J i j = []
  · rw [if_pos c]
    omega
  · rw [if_neg c]
    have q := hp i j c
    have m := gz_mem (xs := btw J i j) (k := pk i j) (by omega)
    have := mem_btw m
    omega
theorem sel_J {J : Int → Int → Bool} {pk : Int → Int → Int} (hp : ∀ i j, btw J i j ≠ [] → 0 ≤ pk i j ∧ pk i j < (btw J i j).length) {i j : Int} (h : btw J i j ≠ []) : selOf J pk i j = gz (btw J i j) (pk i j) ∧ J i (selOf J pk i j) = true ∧ J (selOf J pk i j) j = true := by
  have e : selOf J pk i j = gz (btw J i j) (pk i j) := if_neg h
  have q := hp i j h
  have m := gz_mem (xs := btw J i j) (k := pk i j) (by omega)
  have := mem_btw m
  rw [e]
  exact ⟨rfl, this.2.2⟩
theorem jn_one (r : List P2) (i : Int) : jnB r i (i + 1) = true := by
  unfold jnB
  simp
theorem jn_all {r : List P2} : jnB r 0 ((r.length : Int) - 1) = true := by
  unfold jnB len
  simp
/-- any such choice makes a tree of the room -/
theorem choice_ok {r : List P2} (h : Room r) {pk : Int → Int → Int} (hp : ∀ i j, btw (jnB r) i j ≠ [] → 0 ≤ pk i j ∧ pk i j < (btw (jnB r) i j).length) {i j : Int} (hi : 0 ≤ i) (hij : i < j) (hj : j ≤ (r.length : Int) - 1) (hJ : jnB r i j = true) : (Tr.tree (selOf (jnB r) pk) i j).ok (jnB r) i j :=
  Tr.tree_ok (lo := 0) (hi := (r.length : Int) - 1) (sel_btw hp) (fun i j a b c d => (sel_J hp (btw_ne h a b (by omega) d)).2) (fun i _ _ => jn_one r i) (j - i).toNat i j (by omega) hi hij hj hJ
/-! ### the program's: the first between -/
def pk0 (_ _ : Int) : Int := 0
theorem pk0_ok {J : Int → Int → Bool} : ∀ i j, btw J i j ≠ [] → 0 ≤ pk0 i j ∧ pk0 i j < (btw J i j).length := fun i j h => by
  have := List.length_pos_iff.mpr h
  unfold pk0
  omega
/-- as the program tells them, last the greatest corner -/
def lf (J : Int → Int → Bool) (last : Int) : Nat → Int → Int → List P2
  | 0, _, _ => []
  | f + 1, i, j => if i + 1 < j then (if j - i < last then [(i, j)] else []) ++ lf J last f i (gz (btw J i j) 0) ++ lf J last f (gz (btw J i j) 0) j else []
theorem lf_tree {r : List P2} (h : Room r) : ∀ (f : Nat) (i j : Int), j - i ≤ f → 0 ≤ i → i < j → j ≤ (r.length : Int) - 1 → jnB r i j = true →
    lf (jnB r) ((r.length : Int) - 1) f i j = if j - i < (r.length : Int) - 1 then (Tr.tree (selOf (jnB r) pk0) i j).sub i j else (Tr.tree (selOf (jnB r) pk0) i j).inn i j
  | 0, i, j, h0, _, h2, _, _ => by omega
  | f + 1, i, j, h0, h1, h2, h3, hJ => by
    unfold lf
    by_cases c : i + 1 < j
    · rw [if_pos c, Tr.tree_node (sel_btw pk0_ok) c]
      have b := sel_btw (J := jnB r) pk0_ok i j c
      have s := sel_J pk0_ok (btw_ne h h1 c (by omega) hJ)
      rw [show gz (btw (jnB r) i j) 0 = selOf (jnB r) pk0 i j from s.1.symm]
      rw [lf_tree h f i _ (by omega) h1 (by omega) (by omega) s.2.1, lf_tree h f _ j (by omega) (by omega) (by omega) h3 s.2.2]
      rw [if_pos (show selOf (jnB r) pk0 i j - i < (r.length : Int) - 1 by omega), if_pos (show j - selOf (jnB r) pk0 i j < (r.length : Int) - 1 by omega)]
      by_cases d : j - i < (r.length : Int) - 1
      · rw [if_pos d, if_pos d]
        rfl
      · rw [if_neg d, if_neg d]
        rfl
    · rw [if_neg c, Tr.tree_leaf c]
      split <;> rfl
theorem lf_len {r : List P2} (h : Room r) {f : Nat} {i j : Int} (h0 : j - i ≤ f) (h1 : 0 ≤ i) (h2 : i < j) (h3 : j ≤ (r.length : Int) - 1) (hJ : jnB r i j = true) : (lf (jnB r) ((r.length : Int) - 1) f i j).length ≤ 12 := by
  have n12 := h.hi
  have ok := choice_ok h pk0_ok h1 h2 h3 hJ
  have e := Tr.sub_len (Tr.tree (selOf (jnB r) pk0) i j) i j
  have e2 := Tr.ok_nodes ok
  rw [lf_tree h f i j h0 h1 h2 h3 hJ]
  split
  · omega
  · have : ∀ t : Tr, (t.inn i j).length ≤ (t.sub i j).length := fun t => by
      cases t with
      | leaf => exact Nat.le_refl _
      | node k l r => exact Nat.le_succ _
    have := this (Tr.tree (selOf (jnB r) pk0) i j)
    omega
/-- the program's cut -/
def pCut (r : List P2) : List P2 := sortP (lf (jnB r) ((r.length : Int) - 1) 12 0 ((r.length : Int) - 1))
theorem pCut_ok {r : List P2} (h : Room r) : CutP r (pCut r) := by
  have n3 := h.lo
  have n12 := h.hi
  unfold pCut
  rw [lf_tree h 12 0 _ (by omega) (by omega) (by omega) (by omega) jn_all, if_neg (by omega)]
  exact tree_cut h (choice_ok h pk0_ok (by omega) (by omega) (by omega) jn_all)
end MT

set_option Elab.async false
set_option linter.all false
set_option maxRecDepth 100000
set_option maxHeartbeats 4000000
/-! Lines of one part; the triangles of a cut lie at the left of their ways. -/
namespace MT
open DL
theorem diag_of {n i j : Nat} {p : Nat → P2} (S : Sim n p) (L : lam n p = 1) (h1 : i + 1 < j) (h2 : j < n) (h3 : ¬ (i = 0 ∧ j = n - 1)) (M : Miss n p i j)
    (O : Opn (p (prv n i)) (p i) (p (nxt n i)) (p j) ∨ Opn (p (prv n j)) (p j) (p (nxt n j)) (p i)) : Diag n p i j ∧ Opn (p (prv n j)) (p j) (p (nxt n j)) (p i) := by
  obtain ⟨d, e, rfl, rfl, hd, he⟩ : ∃ d e, n = i + d + e + 2 ∧ j = i + d + 1 ∧ 1 ≤ d ∧ 1 ≤ i + e := ⟨j - i - 1, n - 1 - j, by omega, by omega, by omega, by omega⟩
  have H := MT.halves S L hd he M O
  exact ⟨⟨h1, h2, h3, M, H.oi⟩, H.oj⟩
theorem Diag.far {n i j : Nat} {p : Nat → P2} (S : Sim n p) (L : lam n p = 1) (D : Diag n p i j) : Opn (p (prv n j)) (p j) (p (nxt n j)) (p i) := (diag_of S L D.ij D.jn D.no D.ms (.inl D.op)).2
/-- the part from i on to j -/
theorem Diag.part {n i j : Nat} {p : Nat → P2} (S : Sim n p) (L : lam n p = 1) (D : Diag n p i j) : Sim (j - i + 1) (fun k => p (i + k)) ∧ lam (j - i + 1) (fun k => p (i + k)) = 1 := by
  obtain ⟨d, e, rfl, rfl, hd, he⟩ := D.par
  have H := D.halves S L
  have : i + d + 1 - i + 1 = d + 2 := by omega
  rw [this]
  exact ⟨H.s1, H.l1⟩
/-- the other one, of a line from the first corner on -/
theorem Diag.rest {m k : Nat} {p : Nat → P2} (S : Sim m p) (L : lam m p = 1) (D : Diag m p 0 k) : Sim (m - k + 1) (fun t => p (dlf 0 (k - 1) t)) ∧ lam (m - k + 1) (fun t => p (dlf 0 (k - 1) t)) = 1 := by
  obtain ⟨d, e, h1, h2, hd, he⟩ := D.par
  subst h1
  have hk : k = d + 1 := by omega
  subst hk
  have D' : Diag (0 + d + e + 2) p 0 (0 + d + 1) := by
    have : 0 + d + 1 = d + 1 := by omega
    rw [this]
    exact D
  have H := Diag.halves (i := 0) (d := d) (e := e) S L D'
  have e1 : 0 + d + e + 2 - (d + 1) + 1 = 0 + e + 2 := by omega
  have e2 : d + 1 - 1 = d := by omega
  rw [e1, e2]
  exact ⟨H.s2, H.l2⟩
/-- a joined pair within the part, with its first corner -/
theorem Jn.first {n i j k : Nat} {p : Nat → P2} (S : Sim n p) (L : lam n p = 1) (D : Diag n p i j) (h1 : i < k) (h2 : k < j) (h : Jn n p i k) : Jn (j - i + 1) (fun t => p (i + t)) 0 (k - i) := by
  have hj := D.jn
  obtain ⟨S1, L1⟩ := D.part S L
  rcases h with a | a | a
  · exact .inl (by omega)
  · omega
  · refine .inr (.inr (diag_of S1 L1 (by have := a.ij; omega) (by omega) (by omega) ⟨fun m hm c1 c2 => ?_, fun m hm => ?_⟩ (.inr ?_)).1)
    · have := a.ms.on (i + m) (by omega) (by omega) (by omega)
      show ¬ On (p (i + 0)) (p (i + (k - i))) (p (i + m))
      rw [show i + (k - i) = k by omega]
      exact this
    · show ¬ Cross (p (i + 0)) (p (i + (k - i))) (p (i + m)) (p (i + nxt (j - i + 1) m))
      rw [show i + (k - i) = k by omega]
      by_cases c : m = j - i
      · have e : nxt (j - i + 1) m = 0 := by unfold nxt; rw [if_pos (by omega)]
        rw [e]
        intro z
        unfold Cross at z
        rw [side_eq1] at z
        omega
      · have e : i + nxt (j - i + 1) m = nxt n (i + m) := by unfold nxt; rw [if_neg (by omega), if_neg (by omega)]; omega
        rw [e]
        exact a.ms.cr (i + m) (by omega)
    · have := a.far S L
      show Opn (p (i + prv (j - i + 1) (k - i))) (p (i + (k - i))) (p (i + nxt (j - i + 1) (k - i))) (p (i + 0))
      rw [show i + prv (j - i + 1) (k - i) = prv n k by unfold prv; rw [if_neg (by omega), if_neg (by omega)]; omega, show i + nxt (j - i + 1) (k - i) = nxt n k by unfold nxt; rw [if_neg (by omega), if_neg (by omega)]; omega, show i + (k - i) = k by omega]
      exact this
theorem Jn.last {n i j k : Nat} {p : Nat → P2} (S : Sim n p) (L : lam n p = 1) (D : Diag n p i j) (h1 : i < k) (h2 : k < j) (h : Jn n p k j) : Jn (j - i + 1) (fun t => p (i + t)) (k - i) (j - i) := by
  have hj := D.jn
  obtain ⟨S1, L1⟩ := D.part S L
  rcases h with a | a | a
  · exact .inl (by omega)
  · omega
  · refine .inr (.inr (diag_of S1 L1 (by have := a.ij; omega) (by omega) (by omega) ⟨fun m hm c1 c2 => ?_, fun m hm => ?_⟩ (.inl ?_)).1)
    · have := a.ms.on (i + m) (by omega) (by omega) (by omega)
      show ¬ On (p (i + (k - i))) (p (i + (j - i))) (p (i + m))
      rw [show i + (k - i) = k by omega, show i + (j - i) = j by omega]
      exact this
    · show ¬ Cross (p (i + (k - i))) (p (i + (j - i))) (p (i + m)) (p (i + nxt (j - i + 1) m))
      rw [show i + (k - i) = k by omega, show i + (j - i) = j by omega]
      by_cases c : m = j - i
      · rw [show i + m = j by omega]
        intro z
        unfold Cross at z
        rw [side_eq0] at z
        omega
      · have e : i + nxt (j - i + 1) m = nxt n (i + m) := by unfold nxt; rw [if_neg (by omega), if_neg (by omega)]; omega
        rw [e]
        exact a.ms.cr (i + m) (by omega)
    · have := a.op
      show Opn (p (i + prv (j - i + 1) (k - i))) (p (i + (k - i))) (p (i + nxt (j - i + 1) (k - i))) (p (i + (j - i)))
      rw [show i + prv (j - i + 1) (k - i) = prv n k by unfold prv; rw [if_neg (by omega), if_neg (by omega)]; omega, show i + nxt (j - i + 1) (k - i) = nxt n k by unfold nxt; rw [if_neg (by omega), if_neg (by omega)]; omega, show i + (k - i) = k by omega, show i + (j - i) = j by omega]
      exact this
/-- a corner joined with the first and the last one -/
theorem tri_pos1 : ∀ {m : Nat} {q : Nat → P2}, Sim m q → lam m q = 1 → Jn m q 1 (m - 1) → 0 < side (q 0) (q 1) (q (m - 1)) := by
  intro m q S L J
  have n3 := S.n3
  rcases J with a | a | a
  · have hm : m = 3 := by omega
    subst hm
    exact lam3 S L
  · omega
  · obtain ⟨d, e, h1, h2, hd, he⟩ := a.par
    have e0 : e = 0 := by omega
    subst e0
    subst h1
    have D' : Diag (1 + d + 0 + 2) q 1 (1 + d + 1) := by
      have : 1 + d + 0 + 2 - 1 = 1 + d + 1 := by omega
      rw [← this]
      exact a
    have H := Diag.halves (i := 1) (d := d) (e := 0) S L D'
    have S3 : Sim 3 (fun k => q (dlf 1 d k)) := H.s2
    have L3 : lam 3 (fun k => q (dlf 1 d k)) = 1 := H.l2
    have t3 := lam3 S3 L3
    have f0 : dlf 1 d 0 = 0 := by unfold dlf; rw [if_pos (by omega)]
    have f1 : dlf 1 d 1 = 1 := by unfold dlf; rw [if_pos (by omega)]
    have e1 : 1 + d + 0 + 2 - 1 = dlf 1 d 2 := by unfold dlf; rw [if_neg (by omega)]; omega
    rw [e1]
    rw [f0, f1] at t3
    exact t3
theorem tri_pos0 {m k : Nat} {q : Nat → P2} (S : Sim m q) (L : lam m q = 1) (h1 : 0 < k) (h2 : k < m - 1) (J1 : Jn m q 0 k) (J2 : Jn m q k (m - 1)) : 0 < side (q 0) (q k) (q (m - 1)) := by
  rcases J1 with a | a | a
  · have hk : k = 1 := by omega
    subst hk
    exact tri_pos1 S L J2
  · omega
  · obtain ⟨S2, L2⟩ := a.rest S L
    have hk := a.ij
    have e0 : dlf 0 (k - 1) 0 = 0 := by unfold dlf; rw [if_pos (by omega)]
    have ex : ∀ t, 1 ≤ t → dlf 0 (k - 1) t = t + (k - 1) := fun t ht => by unfold dlf; rw [if_neg (by omega)]
    have el : dlf 0 (k - 1) (m - k + 1 - 1) = m - 1 := by rw [ex _ (by omega)]; omega
    have e1 : dlf 0 (k - 1) 1 = k := by rw [ex _ (by omega)]; omega
    have key : Jn (m - k + 1) (fun t => q (dlf 0 (k - 1) t)) 1 (m - k + 1 - 1) := by
      rcases J2 with b | b | b
      · exact .inl (by omega)
      · omega
      · refine .inr (.inr (diag_of S2 L2 (by have := b.ij; omega) (by omega) (by omega) ⟨fun t ht c1 c2 => ?_, fun t ht => ?_⟩ (.inr ?_)).1)
        · show ¬ On (q (dlf 0 (k - 1) 1)) (q (dlf 0 (k - 1) (m - k + 1 - 1))) (q (dlf 0 (k - 1) t))
          rw [e1, el]
          by_cases c : t = 0
          · rw [c, e0]
            exact b.ms.on 0 (by omega) (by omega) (by omega)
          · rw [ex t (by omega)]
            exact b.ms.on _ (by omega) (by omega) (by omega)
        · show ¬ Cross (q (dlf 0 (k - 1) 1)) (q (dlf 0 (k - 1) (m - k + 1 - 1))) (q (dlf 0 (k - 1) t)) (q (dlf 0 (k - 1) (nxt (m - k + 1) t)))
          rw [e1, el]
          by_cases c : t = 0
          · have e2 : nxt (m - k + 1) t = 1 := by unfold nxt; rw [if_neg (by omega)]; omega
            rw [e2, e1]
            intro z
            unfold Cross at z
            rw [side_eq1] at z
            omega
          · by_cases c3 : t = m - k
            · have e2 : nxt (m - k + 1) t = 0 := by unfold nxt; rw [if_pos (by omega)]
              rw [e2, e0, ex t (by omega), show t + (k - 1) = m - 1 by omega]
              intro z
              unfold Cross at z
              rw [side_eq0] at z
              omega
            · have e2 : dlf 0 (k - 1) (nxt (m - k + 1) t) = nxt m (t + (k - 1)) := by
                unfold nxt
                rw [if_neg (by omega), if_neg (by omega), ex _ (by omega)]
                omega
              rw [e2, ex t (by omega)]
              exact b.ms.cr _ (by omega)
        · have := b.far S L
          show Opn (q (dlf 0 (k - 1) (prv (m - k + 1) (m - k + 1 - 1)))) (q (dlf 0 (k - 1) (m - k + 1 - 1))) (q (dlf 0 (k - 1) (nxt (m - k + 1) (m - k + 1 - 1)))) (q (dlf 0 (k - 1) 1))
          have e2 : dlf 0 (k - 1) (prv (m - k + 1) (m - k + 1 - 1)) = prv m (m - 1) := by
            have := b.ij
            unfold prv
            rw [if_neg (by omega), if_neg (by omega), ex _ (by omega)]
            omega
          have e3 : dlf 0 (k - 1) (nxt (m - k + 1) (m - k + 1 - 1)) = nxt m (m - 1) := by
            unfold nxt
            rw [if_pos (by omega), if_pos (by omega), e0]
          rw [e1, e2, e3, el]
          exact this
    have := tri_pos1 S2 L2 key
    rw [e0, e1, el] at this
    exact this
/-- three corners joined with one another turn to the left -/
theorem tri_pos {n i k j : Nat} {p : Nat → P2} (S : Sim n p) (L : lam n p = 1) (h1 : i < k) (h2 : k < j) (hj : j < n) (Jij : Jn n p i j) (Jik : Jn n p i k) (Jkj : Jn n p k j) : 0 < side (p i) (p k) (p j) := by
  rcases Jij with a | a | a
  · omega
  · obtain ⟨rfl, rfl⟩ := a
    exact tri_pos0 S L h1 h2 Jik Jkj
  · obtain ⟨S1, L1⟩ := a.part S L
    have := tri_pos0 S1 L1 (k := k - i) (by omega) (by omega) (Jik.first S L a h1 h2) (by
      have := Jkj.last S L a h1 h2
      rw [show j - i + 1 - 1 = j - i by omega]
      exact this)
    rw [show i + 0 = i by omega, show i + (k - i) = k by omega, show i + (j - i + 1 - 1) = j by omega] at this
    exact this
end MT

set_option Elab.async false
set_option linter.all false
set_option maxRecDepth 100000
set_option maxHeartbeats 4000000
/-! Each cut is a tree; its triangles. -/
namespace MT
open DL
namespace Tr
/-- the farthest one that i is told with -/
theorem far_ex (S : List P2) (i : Int) : ∀ (f : Nat) (j : Int), i + 1 < j → j - i ≤ f → ∃ k, i < k ∧ k < j ∧ (k = i + 1 ∨ (i, k) ∈ S) ∧ ∀ m, k < m → m < j → (i, m) ∉ S
  | 0, j, h, h2 => by omega
  | f + 1, j, h, h2 => by
    by_cases c : j = i + 2
    · exact ⟨i + 1, by omega, by omega, .inl rfl, fun m a b => by omega⟩
    · by_cases d : (i, j - 1) ∈ S
      · exact ⟨j - 1, by omega, by omega, .inr d, fun m a b => by omega⟩
      · obtain ⟨k, h3, h4, h5, h6⟩ := far_ex S i f (j - 1) (by omega) (by omega)
        refine ⟨k, h3, by omega, h5, fun m a b => ?_⟩
        by_cases e : m = j - 1
        · rw [e]; exact d
        · exact h6 m a (by omega)
theorem filt_two {α : Type} (f : α → Bool) : ∀ l : List α, (l.filter f).length + (l.filter fun x => !f x).length = l.length
  | [] => rfl
  | x :: l => by
    have := filt_two f l
    by_cases c : f x = true
    · rw [List.filter_cons_of_pos c, List.filter_cons_of_neg (by simp [c]), List.length_cons, List.length_cons]
      omega
    · rw [List.filter_cons_of_neg c, List.filter_cons_of_pos (by simp [c]), List.length_cons, List.length_cons]
      omega
theorem filt_eq {l : List P2} (h : l.Nodup) (q : P2) : (l.filter fun x => decide (x = q)).length ≤ 1 := by
  have nd := h.filter fun x => decide (x = q)
  match e : l.filter (fun x => decide (x = q)) with
  | [] => simp
  | [x] => simp
  | x :: y :: m =>
    rw [e] at nd
    have hx : x ∈ l.filter (fun x => decide (x = q)) := by rw [e]; simp
    have hy : y ∈ l.filter (fun x => decide (x = q)) := by rw [e]; simp
    have ex := of_decide_eq_true (List.mem_filter.mp hx).2
    have ey := of_decide_eq_true (List.mem_filter.mp hy).2
    have := (List.nodup_cons.mp nd).1
    exact absurd (by rw [ex, ey]; simp) this
/-- pairs that do not cross: at most so many; if so many, a tree -/
theorem of_pairs {J : Int → Int → Bool} (h1 : ∀ i, J i (i + 1) = true) : ∀ (f : Nat) (i j : Int) (S : List P2), j - i ≤ f → i < j → S.Nodup → (∀ p ∈ S, i ≤ p.1 ∧ p.1 + 1 < p.2 ∧ p.2 ≤ j ∧ J p.1 p.2 = true) → (∀ p ∈ S, ∀ q ∈ S, ¬ Crs p q) →
    (S.length : Int) ≤ j - i - 1 ∧ ((S.length : Int) = j - i - 1 → ∃ t : Tr, t.ok J i j ∧ ∀ p, p ∈ S ↔ p ∈ t.sub i j)
  | 0, i, j, S, hf, hij, _, _, _ => by omega
  | f + 1, i, j, S, hf, hij, nd, hS, nc => by
    by_cases c : j = i + 1
    · have e : S = [] := by
        cases S with
        | nil => rfl
        | cons p S =>
          have := hS p List.mem_cons_self
          omega
      subst e
      refine ⟨by simp; omega, fun _ => ⟨leaf, by unfold ok; exact c, fun p => by unfold sub; rfl⟩⟩
    · obtain ⟨k, hik, hkj, hk, hmax⟩ := far_ex S i (f + 1) j (by omega) (by omega)
      obtain ⟨S', hS'⟩ : ∃ S', S' = S.filter fun x => !decide (x = ((i, j) : P2)) := ⟨_, rfl⟩
      obtain ⟨S1, hS1⟩ : ∃ S1, S1 = S'.filter fun x : P2 => decide (x.2 ≤ k) := ⟨_, rfl⟩
      obtain ⟨S2, hS2⟩ : ∃ S2, S2 = S'.filter fun x : P2 => !decide (x.2 ≤ k) := ⟨_, rfl⟩
      have e0 : (S.filter fun x => decide (x = ((i, j) : P2))).length + S'.length = S.length := by rw [hS']; exact filt_two _ S
      have e1 : (S.filter fun x => decide (x = ((i, j) : P2))).length ≤ 1 := filt_eq nd _
      have e2 : S1.length + S2.length = S'.length := by rw [hS1, hS2]; exact filt_two _ S'
      have m1 : ∀ p, p ∈ S1 ↔ p ∈ S ∧ p ≠ (i, j) ∧ p.2 ≤ k := fun p => by
        rw [hS1, hS', List.mem_filter, List.mem_filter]
        simp [and_assoc]
      have m2 : ∀ p, p ∈ S2 ↔ p ∈ S ∧ p ≠ (i, j) ∧ k < p.2 := fun p => by
        rw [hS2, hS', List.mem_filter, List.mem_filter]
        simp [and_assoc]
      have in2 : ∀ p ∈ S, p ≠ (i, j) → k < p.2 → k ≤ p.1 := fun p hp hne hlt => by
        have a := hS p hp
        by_cases d : k ≤ p.1
        · exact d
        · exfalso
          by_cases g : p.1 = i
          · have hlt2 : p.2 < j := by
              have : p.2 ≠ j := fun z => hne (Prod.ext g z)
              omega
            refine hmax p.2 hlt hlt2 ?_
            rw [← g]
            exact hp
          · rcases hk with hk | hk
            · omega
            · refine nc (i, k) hk p hp ?_
              unfold Crs
              dsimp only
              omega
      have I1 := of_pairs h1 f i k S1 (by omega) hik (by rw [hS1, hS']; exact (nd.filter _).filter _) (fun p hp => by
        obtain ⟨a, b, d⟩ := (m1 p).mp hp
        have := hS p a
        exact ⟨this.1, this.2.1, d, this.2.2.2⟩) (fun p hp q hq => nc p ((m1 p).mp hp).1 q ((m1 q).mp hq).1)
      have I2 := of_pairs h1 f k j S2 (by omega) hkj (by rw [hS2, hS']; exact (nd.filter _).filter _) (fun p hp => by
        obtain ⟨a, b, d⟩ := (m2 p).mp hp
        have := hS p a
        exact ⟨in2 p a b d, this.2.1, this.2.2.1, this.2.2.2⟩) (fun p hp q hq => nc p ((m2 p).mp hp).1 q ((m2 q).mp hq).1)
      refine ⟨by omega, fun hl => ?_⟩
      obtain ⟨l, ol, ml⟩ := I1.2 (by omega)
      obtain ⟨r, orr, mr⟩ := I2.2 (by omega)
      have top : ((i, j) : P2) ∈ S := by
        have hp : 0 < (S.filter fun x => decide (x = ((i, j) : P2))).length := by omega
        obtain ⟨x, hx⟩ := List.exists_mem_of_length_pos hp
        have := List.mem_filter.mp hx
        rw [← of_decide_eq_true this.2]
        exact this.1
      have J1 : J i k = true := by
        rcases hk with hk | hk
        · rw [hk]; exact h1 i
        · exact (hS _ hk).2.2.2
      have J2 : J k j = true := by
        by_cases d : j = k + 1
        · rw [d]; exact h1 k
        · have : ((k, j) : P2) ∈ r.sub k j := by
            cases r with
            | leaf => unfold ok at orr; omega
            | node m a b => unfold sub; exact List.mem_cons_self
          have := (hS _ ((m2 _).mp ((mr _).mpr this)).1).2.2.2
          exact this
      refine ⟨node k l r, ⟨hik, hkj, J1, J2, ol, orr⟩, fun p => ?_⟩
      unfold sub
      rw [List.mem_cons, List.mem_append, ← ml, ← mr, m1, m2]
      constructor
      · intro hp
        by_cases d : p = (i, j)
        · exact .inl d
        · by_cases g : p.2 ≤ k
          · exact .inr (.inl ⟨hp, d, g⟩)
          · exact .inr (.inr ⟨hp, d, by omega⟩)
      · rintro (rfl | h | h)
        · exact top
        · exact h.1
        · exact h.1
/-! ### triangles -/
abbrev T3 := Int × Int × Int
def tri : Tr → Int → Int → List T3
  | leaf, _, _ => []
  | node k l r, i, j => (i, k, j) :: (tri l i k ++ tri r k j)
theorem tri_len : ∀ (t : Tr) (i j : Int), (t.tri i j).length = t.nodes
  | leaf, _, _ => rfl
  | node k l r, i, j => by
    unfold tri nodes
    rw [List.length_cons, List.length_append, tri_len l, tri_len r]
/-- neighbours, or told -/
def Ed (t : Tr) (i j a b : Int) : Prop := b = a + 1 ∨ (a, b) ∈ t.sub i j
section
variable {J : Int → Int → Bool}
theorem top_sub {t : Tr} {i j : Int} (h : t.ok J i j) : t.Ed i j i j := by
  cases t with
  | leaf => unfold ok at h; exact .inl h
  | node k l r => exact .inr (by unfold sub; exact List.mem_cons_self)
theorem Ed.left {k : Int} {l r : Tr} {i j a b : Int} (h : l.Ed i k a b) : (node k l r).Ed i j a b := by
  rcases h with h | h
  · exact .inl h
  · exact .inr (by unfold sub; exact List.mem_cons_of_mem _ (List.mem_append_left _ h))
theorem Ed.right {k : Int} {l r : Tr} {i j a b : Int} (h : r.Ed k j a b) : (node k l r).Ed i j a b := by
  rcases h with h | h
  · exact .inl h
  · exact .inr (by unfold sub; exact List.mem_cons_of_mem _ (List.mem_append_right _ h))
theorem tri_in : ∀ {t : Tr} {i j : Int}, t.ok J i j → ∀ x ∈ t.tri i j, i ≤ x.1 ∧ x.1 < x.2.1 ∧ x.2.1 < x.2.2 ∧ x.2.2 ≤ j
  | leaf, i, j, _, x, hx => by cases hx
  | node k l r, i, j, h, x, hx => by
    obtain ⟨h0, h00, _, _, h1, h2⟩ := h
    unfold tri at hx
    rcases List.mem_cons.mp hx with e | hx
    · subst e
      dsimp only
      omega
    · rcases List.mem_append.mp hx with hx | hx
      · have := tri_in h1 x hx
        omega
      · have := tri_in h2 x hx
        omega
theorem tri_ed : ∀ {t : Tr} {i j : Int}, t.ok J i j → ∀ x ∈ t.tri i j, t.Ed i j x.1 x.2.1 ∧ t.Ed i j x.2.1 x.2.2 ∧ t.Ed i j x.1 x.2.2
  | leaf, i, j, _, x, hx => by cases hx
  | node k l r, i, j, h, x, hx => by
    have h' := h
    obtain ⟨h0, h00, _, _, h1, h2⟩ := h
    unfold tri at hx
    rcases List.mem_cons.mp hx with e | hx
    · subst e
      exact ⟨(top_sub h1).left, (top_sub h2).right, top_sub h'⟩
    · rcases List.mem_append.mp hx with hx | hx
      · have := tri_ed h1 x hx
        exact ⟨this.1.left, this.2.1.left, this.2.2.left⟩
      · have := tri_ed h2 x hx
        exact ⟨this.1.right, this.2.1.right, this.2.2.right⟩
/-- an edge within the left part is the left part's -/
theorem Ed.toL {k : Int} {l r : Tr} {i j a b : Int} (h : (node k l r).ok J i j) (e : (node k l r).Ed i j a b) (hb : b ≤ k) (hab : a < b) : l.Ed i k a b := by
  obtain ⟨h0, h00, _, _, h1, h2⟩ := h
  rcases e with e | e
  · exact .inl e
  · unfold sub at e
    rcases List.mem_cons.mp e with e | e
    · have := (Prod.mk.inj e).2
      omega
    · rcases List.mem_append.mp e with e | e
      · exact .inr e
      · have := sub_in h2 _ e
        dsimp only at this
        omega
theorem Ed.toR {k : Int} {l r : Tr} {i j a b : Int} (h : (node k l r).ok J i j) (e : (node k l r).Ed i j a b) (hb : k ≤ a) (hab : a < b) : r.Ed k j a b := by
  obtain ⟨h0, h00, _, _, h1, h2⟩ := h
  rcases e with e | e
  · exact .inl e
  · unfold sub at e
    rcases List.mem_cons.mp e with e | e
    · have := (Prod.mk.inj e).1
      omega
    · rcases List.mem_append.mp e with e | e
      · have := sub_in h1 _ e
        dsimp only at this
        omega
      · exact .inr e
/-- no edge goes over the third corner but the tree's own -/
theorem Ed.side {k : Int} {l r : Tr} {i j a b : Int} (h : (node k l r).ok J i j) (e : (node k l r).Ed i j a b) (hab : a < b) : (a = i ∧ b = j) ∨ b ≤ k ∨ k ≤ a := by
  obtain ⟨h0, h00, _, _, h1, h2⟩ := h
  rcases e with e | e
  · omega
  · unfold sub at e
    rcases List.mem_cons.mp e with e | e
    · have := Prod.mk.inj e
      exact .inl this
    · rcases List.mem_append.mp e with e | e
      · have := sub_in h1 _ e
        dsimp only at this
        omega
      · have := sub_in h2 _ e
        dsimp only at this
        omega
/-- three corners with all edges are a triangle of the tree -/
theorem ed_tri : ∀ {t : Tr} {i j a b c : Int}, t.ok J i j → i ≤ a → a < b → b < c → c ≤ j → t.Ed i j a b → t.Ed i j b c → t.Ed i j a c → (a, b, c) ∈ t.tri i j
  | leaf, i, j, a, b, c, h, _, _, _, _, _, _, e => by
    unfold ok at h
    omega
  | node k l r, i, j, a, b, c, h, ha, hab, hbc, hc, e1, e2, e3 => by
    have s1 := e1.side h hab
    have s2 := e2.side h hbc
    have s3 := e3.side h (by omega)
    have h' := h
    obtain ⟨h0, h00, _, _, o1, o2⟩ := h'
    unfold tri
    rcases s3 with ⟨rfl, rfl⟩ | s3 | s3
    · have : b = k := by omega
      subst this
      exact List.mem_cons_self
    · exact List.mem_cons_of_mem _ (List.mem_append_left _ (ed_tri o1 ha hab hbc s3 (e1.toL h (by omega) hab) (e2.toL h (by omega) hbc) (e3.toL h s3 (by omega))))
    · exact List.mem_cons_of_mem _ (List.mem_append_right _ (ed_tri o2 s3 hab hbc hc (e1.toR h (by omega) hab) (e2.toR h (by omega) hbc) (e3.toR h s3 (by omega))))
theorem tri_nd : ∀ {t : Tr} {i j : Int}, t.ok J i j → (t.tri i j).Nodup
  | leaf, i, j, _ => List.nodup_nil
  | node k l r, i, j, h => by
    obtain ⟨h0, h00, _, _, h1, h2⟩ := h
    unfold tri
    refine List.nodup_cons.mpr ⟨fun hm => ?_, List.nodup_append.mpr ⟨tri_nd h1, tri_nd h2, fun p hp q hq e => ?_⟩⟩
    · rcases List.mem_append.mp hm with hp | hp
      · have := tri_in h1 _ hp
        dsimp only at this
        omega
      · have := tri_in h2 _ hp
        dsimp only at this
        omega
    · subst e
      have a := tri_in h1 p hp
      have b := tri_in h2 p hq
      omega
end
end Tr
/-! ### a cut's tree -/
theorem CutP.tree {r ls : List P2} (h : Room r) (C : CutP r ls) : ∃ t : Tr, t.ok (jnB r) 0 ((r.length : Int) - 1) ∧ ls.Perm (t.inn 0 ((r.length : Int) - 1)) := by
  have n3 := h.lo
  have ln := C.ln
  have line : ∀ p ∈ ls, 0 ≤ p.1 ∧ p.1 + 1 < p.2 ∧ p.2 ≤ (r.length : Int) - 1 ∧ jnB r p.1 p.2 = true ∧ p ≠ (0, (r.length : Int) - 1) := fun p hp => by
    obtain ⟨a, b, c⟩ := C.line p hp
    have lt : p.1 < p.2 := by
      by_cases g : p.1 < p.2
      · exact g
      · unfold lineBy at c
        rw [if_pos (by simp; omega)] at c
        cases c
    obtain ⟨x, hx⟩ : ∃ x : Nat, p.1 = x := ⟨p.1.toNat, by omega⟩
    obtain ⟨y, hy⟩ : ∃ y : Nat, p.2 = y := ⟨p.2.toNat, by omega⟩
    have J : jnB r p.1 p.2 = true := by
      unfold jnB
      rw [c]
      simp
    have D := (line_diag h (i := x) (j := y) (by omega) (by omega)).mp (by rw [← hx, ← hy]; exact c)
    have := D.ij
    have := D.no
    refine ⟨a, by omega, by omega, J, fun e => ?_⟩
    have e1 := congrArg Prod.fst e
    have e2 := congrArg Prod.snd e
    dsimp only at e1 e2
    omega
  have nd : ls.Nodup := C.up.imp fun {x y} hh e => by
    subst e
    rw [ltP2_iff] at hh
    omega
  obtain ⟨_, k2⟩ := Tr.of_pairs (J := jnB r) (jn_one r) (r.length) 0 ((r.length : Int) - 1) ((0, (r.length : Int) - 1) :: ls) (by omega) (by omega)
    (List.nodup_cons.mpr ⟨fun z => (line _ z).2.2.2.2 rfl, nd⟩) (fun p hp => by
      rcases List.mem_cons.mp hp with e | hp
      · subst e
        exact ⟨Int.le_refl _, by dsimp only; omega, Int.le_refl _, jn_all⟩
      · have := line p hp
        exact ⟨this.1, this.2.1, this.2.2.1, this.2.2.2.1⟩) (fun p hp q hq => by
      rcases List.mem_cons.mp hp with e | hp
      · subst e
        rcases List.mem_cons.mp hq with e | hq
        · subst e
          unfold Tr.Crs
          dsimp only
          omega
        · have := line q hq
          unfold Tr.Crs
          dsimp only
          omega
      · rcases List.mem_cons.mp hq with e | hq
        · subst e
          have := line p hp
          unfold Tr.Crs
          dsimp only
          omega
        · exact C.nc p hp q hq)
  obtain ⟨t, ok, mem⟩ := k2 (by rw [List.length_cons]; omega)
  refine ⟨t, ok, ?_⟩
  have nd2 := Tr.inn_nd ok
  refine (List.perm_ext_iff_of_nodup nd nd2).mpr fun p => ?_
  have m := mem p
  rw [List.mem_cons] at m
  have nt : ((0, (r.length : Int) - 1) : P2) ∉ t.inn 0 ((r.length : Int) - 1) := fun z => by
    have := Tr.inn_lt ok z
    dsimp only at this
    omega
  cases t with
  | leaf => unfold Tr.ok at ok; omega
  | node k a b =>
    unfold Tr.sub at m
    rw [List.mem_cons] at m
    unfold Tr.inn at nt ⊢
    constructor
    · intro hp
      rcases m.mp (.inr hp) with e | e
      · exact absurd e (line p hp).2.2.2.2
      · exact e
    · intro hp
      rcases m.mpr (.inr hp) with e | e
      · subst e
        exact absurd hp nt
      · exact e
end MT

set_option Elab.async false
set_option linter.all false
set_option maxRecDepth 100000
set_option maxHeartbeats 4000000
/-! The law's drawn cut. -/
namespace MT
open DL
theorem jd_law {r : List P2} (h : Room r) : JdOk (jnB r) (r.length : Int) (jdO (lJn r) r.length) := fun i j h1 h2 h3 => by
  have := jdO_ok (J := lJn r) (n := r.length) i j h1 h2 h3
  rw [this, lJn_eq h.lo h1 h2 h3]
section
variable (ns : List Int) (k : Int) (r : List P2)
def pkD (i j : Int) : Int := cell ns (k + i) / (1 + j) % ((btw (jnB r) i j).length : Int)
theorem pkD_ok : ∀ i j, btw (jnB r) i j ≠ [] → 0 ≤ pkD ns k r i j ∧ pkD ns k r i j < (btw (jnB r) i j).length := fun i j h => by
  have := List.length_pos_iff.mpr h
  have := md (a := cell ns (k + i) / (1 + j)) (m := ((btw (jnB r) i j).length : Int)) (by omega)
  unfold pkD
  omega
def dSel (i j : Int) : Int := selOf (jnB r) (pkD ns k r) i j
def dTree (i j : Int) : Tr := Tr.tree (dSel ns k r) i j
def dOut (p : P2) : List P2 := if p.2 - p.1 < (r.length : Int) - 1 then (dTree ns k r p.1 p.2).sub p.1 p.2 else (dTree ns k r p.1 p.2).inn p.1 p.2
def dInn : List P2 := (dTree ns k r 0 ((r.length : Int) - 1)).inn 0 ((r.length : Int) - 1)
def dCut : List P2 := sortP (dInn ns k r)
end
section
variable {ns : List Int} {k : Int} {r : List P2}
theorem dTree_ok (h : Room r) : (dTree ns k r 0 ((r.length : Int) - 1)).ok (jnB r) 0 ((r.length : Int) - 1) := by
  have n3 := h.lo
  exact choice_ok h (pkD_ok ns k r) (by omega) (by omega) (by omega) jn_all
theorem dCut_ok (h : Room r) : CutP r (dCut ns k r) := tree_cut h (dTree_ok h)
theorem dInn_len (h : Room r) : ((dInn ns k r).length : Int) = (r.length : Int) - 3 := by
  have n3 := h.lo
  have := Tr.inn_len (dTree_ok (ns := ns) (k := k) h) (by omega)
  unfold dInn
  omega
/-- how much is to be done -/
def duP (p : P2) : Nat := (2 * (p.2 - p.1) - 1).toNat
def due (T : List P2) : Nat := (T.map duP).sum
theorem due_app (T U : List P2) : due (T ++ U) = due T + due U := by unfold due; rw [List.map_append, List.sum_append]
structure Dw (ns : List Int) (k : Int) (r l T : List P2) : Prop where
  pm : (l ++ T.flatMap (dOut ns k r)).Perm (dInn ns k r)
  td : ∀ p ∈ T, 0 ≤ p.1 ∧ p.1 < p.2 ∧ p.2 ≤ (r.length : Int) - 1 ∧ jnB r p.1 p.2 = true
  du : due T ≤ 2 * r.length
theorem Dw.llen (h : Room r) (w : Dw ns k r l T) : l.length ≤ 12 := by
  have n3 := h.lo
  have n12 := h.hi
  have a := w.pm.length_eq
  have b := dInn_len (ns := ns) (k := k) h
  rw [List.length_append] at a
  omega
theorem due_len : ∀ {T : List P2}, (∀ p ∈ T, p.1 < p.2) → T.length ≤ due T
  | [], _ => Nat.zero_le _
  | p :: T, h => by
    have a := due_len (T := T) fun q hq => h q (List.mem_cons_of_mem _ hq)
    have b := h p List.mem_cons_self
    have e : due (p :: T) = duP p + due T := by unfold due; rw [List.map_cons, List.sum_cons]
    rw [List.length_cons, e]
    unfold duP
    omega
theorem Dw.tlen (h : Room r) (w : Dw ns k r l T) : T.length ≤ 24 := by
  have n12 := h.hi
  have a := due_len fun p hp => (w.td p hp).2.1
  have b := w.du
  omega
theorem Dw.init (h : Room r) : Dw ns k r [] [(0, (r.length : Int) - 1)] := by
  have n3 := h.lo
  refine ⟨?_, fun p hp => ?_, ?_⟩
  · rw [List.nil_append, List.flatMap_cons, List.flatMap_nil, List.append_nil]
    unfold dOut
    rw [if_neg (by dsimp only; omega)]
    exact List.Perm.refl _
  · rw [List.mem_singleton] at hp
    subst hp
    exact ⟨Int.le_refl _, by dsimp only; omega, Int.le_refl _, jn_all⟩
  · unfold due duP
    simp only [List.map_cons, List.map_nil, List.sum_cons, List.sum_nil]
    omega
theorem Dw.last (w : Dw ns k r l (T ++ [p])) : 0 ≤ p.1 ∧ p.1 < p.2 ∧ p.2 ≤ (r.length : Int) - 1 ∧ jnB r p.1 p.2 = true := w.td p (by simp)
/-- what is chosen -/
theorem Dw.sel (h : Room r) (w : Dw ns k r l (T ++ [p])) (hp : 1 < p.2 - p.1) : 0 < (btw (jnB r) p.1 p.2).length ∧ dSel ns k r p.1 p.2 = gz (btw (jnB r) p.1 p.2) (pkD ns k r p.1 p.2) ∧ (p.1 < dSel ns k r p.1 p.2 ∧ dSel ns k r p.1 p.2 < p.2) ∧ jnB r p.1 (dSel ns k r p.1 p.2) = true ∧ jnB r (dSel ns k r p.1 p.2) p.2 = true := by
  obtain ⟨a, b, c, d⟩ := w.last
  have ne := btw_ne h a (by omega) (by omega) d
  have s := sel_J (pkD_ok ns k r) ne
  have b2 := sel_btw (J := jnB r) (pkD_ok ns k r) p.1 p.2 (by omega)
  exact ⟨List.length_pos_iff.mpr ne, s.1, b2, s.2.1, s.2.2⟩
theorem Dw.one (h : Room r) (w : Dw ns k r l (T ++ [p])) (hp : ¬ 1 < p.2 - p.1) : Dw ns k r l T ∧ due T < due (T ++ [p]) := by
  have lp := w.last
  have e : dOut ns k r p = [] := by
    unfold dOut dTree
    rw [Tr.tree_leaf (by omega)]
    split <;> rfl
  have pm := w.pm
  have du := w.du
  have dp : duP p = 1 := by unfold duP; omega
  rw [List.flatMap_append, List.flatMap_cons, List.flatMap_nil, e, List.append_nil, List.append_nil] at pm
  have d1 : due (T ++ [p]) = due T + 1 := by
    rw [due_app]
    have : due [p] = duP p := by unfold due; simp
    omega
  exact ⟨⟨pm, fun q hq => w.td q (by simp [hq]), by omega⟩, by omega⟩
theorem Dw.two (h : Room r) (w : Dw ns k r l (T ++ [p])) (hp : 1 < p.2 - p.1) : Dw ns k r (l ++ if p.2 - p.1 < (r.length : Int) - 1 then [p] else []) (T ++ [(p.1, dSel ns k r p.1 p.2), (dSel ns k r p.1 p.2, p.2)]) ∧ due (T ++ [(p.1, dSel ns k r p.1 p.2), (dSel ns k r p.1 p.2, p.2)]) < due (T ++ [p]) := by
  obtain ⟨a, b, c, d⟩ := w.last
  obtain ⟨s0, s1, s2, s3, s4⟩ := w.sel h hp
  have pm := w.pm
  have du := w.du
  have hb : ∀ i j, i + 1 < j → i < dSel ns k r i j ∧ dSel ns k r i j < j := sel_btw (pkD_ok ns k r)
  have d1 : due (T ++ [(p.1, dSel ns k r p.1 p.2), (dSel ns k r p.1 p.2, p.2)]) + 1 = due (T ++ [p]) := by
    rw [due_app, due_app]
    have e1 : due [p] = duP p := by unfold due; simp
    have e2 : due [(p.1, dSel ns k r p.1 p.2), (dSel ns k r p.1 p.2, p.2)] = duP (p.1, dSel ns k r p.1 p.2) + duP (dSel ns k r p.1 p.2, p.2) := by unfold due; simp
    rw [e1, e2]
    unfold duP
    dsimp only
    omega
  have e : dOut ns k r p = (if p.2 - p.1 < (r.length : Int) - 1 then [p] else []) ++ (dOut ns k r (p.1, dSel ns k r p.1 p.2) ++ dOut ns k r (dSel ns k r p.1 p.2, p.2)) := by
    have t1 : dOut ns k r (p.1, dSel ns k r p.1 p.2) = (dTree ns k r p.1 (dSel ns k r p.1 p.2)).sub p.1 (dSel ns k r p.1 p.2) := if_pos (by dsimp only; omega)
    have t2 : dOut ns k r (dSel ns k r p.1 p.2, p.2) = (dTree ns k r (dSel ns k r p.1 p.2) p.2).sub (dSel ns k r p.1 p.2) p.2 := if_pos (by dsimp only; omega)
    have t3 : dTree ns k r p.1 p.2 = .node (dSel ns k r p.1 p.2) (dTree ns k r p.1 (dSel ns k r p.1 p.2)) (dTree ns k r (dSel ns k r p.1 p.2) p.2) := Tr.tree_node hb (by omega)
    rw [t1, t2]
    unfold dOut
    rw [t3]
    by_cases g : p.2 - p.1 < (r.length : Int) - 1
    · rw [if_pos g, if_pos g]
      rfl
    · rw [if_neg g, if_neg g]
      rfl
  refine ⟨⟨?_, fun q hq => ?_, by omega⟩, by omega⟩
  · refine List.Perm.trans ?_ pm
    simp only [List.flatMap_append, List.flatMap_cons, List.flatMap_nil, List.append_nil]
    rw [e]
    generalize (if p.2 - p.1 < (r.length : Int) - 1 then [p] else []) = A
    generalize dOut ns k r (p.1, dSel ns k r p.1 p.2) ++ dOut ns k r (dSel ns k r p.1 p.2, p.2) = B
    generalize T.flatMap (dOut ns k r) = C
    rw [List.append_assoc]
    refine List.Perm.append_left l ?_
    rw [← List.append_assoc, ← List.append_assoc]
    exact List.Perm.append_right B List.perm_append_comm
  · rw [List.mem_append] at hq
    rcases hq with hq | hq
    · exact w.td q (by simp [hq])
    · simp only [List.mem_cons, List.not_mem_nil, or_false] at hq
      rcases hq with rfl | rfl
      · exact ⟨a, s2.1, by dsimp only; omega, s3⟩
      · exact ⟨by dsimp only; omega, s2.2, c, s4⟩
theorem Dw.done (w : Dw ns k r l []) : sortP l = dCut ns k r := by
  have pm := w.pm
  rw [List.flatMap_nil, List.append_nil] at pm
  exact sortP_uniq pm
/-- told by data -/
def muT (ds : List PySem.PyData) : Nat := (ds.map fun x => match x with
  | .tuple [.int a, .int b] => duP (a, b)
  | _ => 0).sum
theorem muT_map (T : List P2) : muT (T.map dP) = due T := by
  unfold muT due
  rw [List.map_map]
  rfl
def muG (G : Gs) : Nat := match G.o with
  | (_, .lst ds) :: _ => muT ds
  | _ => 0
theorem pop_map (T : List P2) (p : P2) : ((T ++ [p]).map dP).dropLast = T.map dP := by simp
theorem pop_get (T : List P2) (p : P2) : ((T ++ [p]).map dP)[((T ++ [p]).map dP).length - 1]? = some (.tuple [.int p.1, .int p.2]) := by simp
theorem snoc_ex {T : List P2} (h : 0 < (T.length : Int)) : ∃ T' p, T = T' ++ [p] := by
  rcases List.eq_nil_or_concat T with e | ⟨T', p, e⟩
  · subst e; simp at h
  · exact ⟨T', p, by rw [e, List.concat_eq_append]⟩
end
end MT

set_option Elab.async false
set_option linter.all false
set_option maxRecDepth 100000
set_option maxHeartbeats 4000000
/-! The list of triangles. -/
namespace MT
open DL
abbrev T3 := Int × Int × Int
section
variable (C : Int → Int → Int → Bool) (n : Int)
def p3 (a b : Int) : Nat → List T3
  | 0 => []
  | m + 1 => if C a b (b + 1 + m) = true then p3 a b m ++ [(a, b, b + 1 + m)] else p3 a b m
def p2 (a : Int) : Nat → List T3
  | 0 => []
  | m + 1 => p2 a m ++ p3 C a (a + 1 + m) (n - (a + 1 + m + 1)).toNat
def p1 : Nat → List T3
  | 0 => []
  | m + 1 => p1 m ++ p2 C n m (n - (m + 1)).toNat
end
section
variable {C : Int → Int → Int → Bool} {n : Int}
theorem p3_mem {a b : Int} {x : T3} : ∀ {m : Nat}, x ∈ p3 C a b m ↔ x.1 = a ∧ x.2.1 = b ∧ b < x.2.2 ∧ x.2.2 < b + 1 + m ∧ C a b x.2.2 = true
  | 0 => by
    unfold p3
    constructor
    · intro h; cases h
    · intro h; omega
  | m + 1 => by
    have ih := p3_mem (a := a) (b := b) (x := x) (m := m)
    unfold p3
    by_cases c : C a b (b + 1 + m) = true
    · rw [if_pos c, List.mem_append, List.mem_singleton, ih]
      constructor
      · rintro (h | h)
        · exact ⟨h.1, h.2.1, h.2.2.1, by omega, h.2.2.2.2⟩
        · subst h
          exact ⟨rfl, rfl, by dsimp only; omega, by dsimp only; omega, c⟩
      · rintro ⟨h1, h2, h3, h4, h5⟩
        by_cases e : x.2.2 = b + 1 + m
        · exact .inr (Prod.ext h1 (Prod.ext h2 e))
        · exact .inl ⟨h1, h2, h3, by omega, h5⟩
    · rw [if_neg c, ih]
      constructor
      · rintro h
        exact ⟨h.1, h.2.1, h.2.2.1, by omega, h.2.2.2.2⟩
      · rintro ⟨h1, h2, h3, h4, h5⟩
        have : x.2.2 ≠ b + 1 + m := fun e => c (by rw [← e]; exact h5)
        exact ⟨h1, h2, h3, by omega, h5⟩
theorem p2_mem {a : Int} {x : T3} : ∀ {m : Nat}, x ∈ p2 C n a m ↔ x.1 = a ∧ a < x.2.1 ∧ x.2.1 < a + 1 + m ∧ x.2.1 < x.2.2 ∧ x.2.2 < n ∧ C a x.2.1 x.2.2 = true
  | 0 => by
    unfold p2
    constructor
    · intro h; cases h
    · intro h; omega
  | m + 1 => by
    have ih := p2_mem (a := a) (x := x) (m := m)
    unfold p2
    rw [List.mem_append, ih, p3_mem]
    constructor
    · rintro (h | h)
      · exact ⟨h.1, h.2.1, by omega, h.2.2.2⟩
      · obtain ⟨h1, h2, h3, h4, h5⟩ := h
        exact ⟨h1, by omega, by omega, by omega, by omega, by rw [h2]; exact h5⟩
    · rintro ⟨h1, h2, h3, h4, h5, h6⟩
      by_cases e : x.2.1 = a + 1 + m
      · exact .inr ⟨h1, e, by omega, by omega, by rw [← e]; exact h6⟩
      · exact .inl ⟨h1, h2, by omega, h4, h5, h6⟩
theorem p1_mem {x : T3} : ∀ {m : Nat}, x ∈ p1 C n m ↔ 0 ≤ x.1 ∧ x.1 < m ∧ x.1 < x.2.1 ∧ x.2.1 < x.2.2 ∧ x.2.2 < n ∧ C x.1 x.2.1 x.2.2 = true
  | 0 => by
    unfold p1
    constructor
    · intro h; cases h
    · intro h; omega
  | m + 1 => by
    have ih := p1_mem (x := x) (m := m)
    unfold p1
    rw [List.mem_append, ih, p2_mem]
    constructor
    · rintro (h | h)
      · exact ⟨h.1, by omega, h.2.2⟩
      · obtain ⟨h1, h2, h3, h4, h5, h6⟩ := h
        exact ⟨by omega, by omega, by omega, h4, h5, by rw [h1]; exact h6⟩
    · rintro ⟨h1, h2, h3, h4, h5, h6⟩
      by_cases e : x.1 = m
      · exact .inr ⟨e, by omega, by omega, h4, h5, by rw [← e]; exact h6⟩
      · exact .inl ⟨h1, by omega, h3, h4, h5, h6⟩
theorem p3_nd {a b : Int} : ∀ m : Nat, (p3 C a b m).Nodup
  | 0 => List.nodup_nil
  | m + 1 => by
    have ih := p3_nd (a := a) (b := b) m
    unfold p3
    split
    · refine List.nodup_append.mpr ⟨ih, List.nodup_cons.mpr ⟨by simp, List.nodup_nil⟩, fun x hx y hy e => ?_⟩
      subst e
      rw [List.mem_singleton] at hy
      subst hy
      have := p3_mem.mp hx
      dsimp only at this
      omega
    · exact ih
theorem p2_nd {a : Int} : ∀ m : Nat, (p2 C n a m).Nodup
  | 0 => List.nodup_nil
  | m + 1 => by
    unfold p2
    refine List.nodup_append.mpr ⟨p2_nd m, p3_nd _, fun x hx y hy e => ?_⟩
    subst e
    have := p2_mem.mp hx
    have := p3_mem.mp hy
    omega
theorem p1_nd : ∀ m : Nat, (p1 C n m).Nodup
  | 0 => List.nodup_nil
  | m + 1 => by
    unfold p1
    refine List.nodup_append.mpr ⟨p1_nd m, p2_nd _, fun x hx y hy e => ?_⟩
    subst e
    have := p1_mem.mp hx
    have := p2_mem.mp hy
    omega
theorem p3_len {a b : Int} : ∀ m : Nat, (p3 C a b m).length ≤ m
  | 0 => Nat.le_refl _
  | m + 1 => by
    have := p3_len (a := a) (b := b) m
    unfold p3
    split
    · rw [List.length_append, List.length_singleton]; omega
    · omega
theorem p2_len {a : Int} (h0 : 0 ≤ a) (hn : n ≤ 12) : ∀ m : Nat, (p2 C n a m).length ≤ 12 * m
  | 0 => Nat.le_refl _
  | m + 1 => by
    have := p2_len h0 hn m
    have := p3_len (C := C) (a := a) (b := a + 1 + m) (n - (a + 1 + m + 1)).toNat
    unfold p2
    rw [List.length_append]
    omega
theorem p1_len (hn : n ≤ 12) : ∀ m : Nat, (p1 C n m).length ≤ 144 * m
  | 0 => Nat.le_refl _
  | m + 1 => by
    have := p1_len hn m
    have := p2_len (C := C) (n := n) (a := (m : Int)) (by omega) hn (n - (m + 1)).toNat
    unfold p1
    rw [List.length_append]
    omega
theorem p3_ext {C' : Int → Int → Int → Bool} {a b : Int} : ∀ m : Nat, (∀ c, b < c → c < b + 1 + m → C a b c = C' a b c) → p3 C a b m = p3 C' a b m
  | 0, _ => rfl
  | m + 1, h => by
    unfold p3
    rw [p3_ext m fun c h1 h2 => h c h1 (by omega), h (b + 1 + m) (by omega) (by omega)]
theorem p2_ext {C' : Int → Int → Int → Bool} {a : Int} : ∀ m : Nat, (∀ b c, a < b → b < c → c < n → C a b c = C' a b c) → p2 C n a m = p2 C' n a m
  | 0, _ => rfl
  | m + 1, h => by
    unfold p2
    rw [p2_ext m h, p3_ext _ fun c h1 h2 => h _ c (by omega) h1 (by omega)]
theorem p1_ext {C' : Int → Int → Int → Bool} : ∀ m : Nat, (∀ a b c, 0 ≤ a → a < b → b < c → c < n → C a b c = C' a b c) → p1 C n m = p1 C' n m
  | 0, _ => rfl
  | m + 1, h => by
    unfold p1
    rw [p1_ext m h, p2_ext _ fun b c => h m b c (by omega)]
end
/-! ### what makes a triangle -/
def adjB (n : Int) (ls : List P2) (a b : Int) : Bool := decide (b - a ∈ [1, n - 1]) || decide ((a, b) ∈ ls)
def triB (n : Int) (ls : List P2) (a b c : Int) : Bool := adjB n ls a b && (adjB n ls b c && adjB n ls a c)
def partsN (n : Nat) (ls : List P2) : List T3 := p1 (triB n ls) n n
def parts (r ls : List P2) : List T3 := partsN r.length ls
/-- the law's count of edges -/
theorem three_len (f : P2 → Bool) (x y z : P2) : decide ((([x, y, z].filter f).length : Int) = 3) = (f x && (f y && f z)) := by
  cases hx : f x <;> cases hy : f y <;> cases hz : f z <;> simp [List.filter_cons, hx, hy, hz]
def ltriB (n : Int) (ls : List P2) (a b c : Int) : Bool := decide ((([(a, b), (b, c), (a, c)].filter fun p : P2 => adjB n ls p.1 p.2).length : Int) = 3)
theorem ltri_eq (n : Int) (ls : List P2) (a b c : Int) : ltriB n ls a b c = triB n ls a b c := three_len _ _ _ _
/-! ### the program's dict -/
def jd0 : Nat → KD
  | 0 => []
  | k + 1 => putD (jd0 k) ((k : Int), (k : Int) + 1) (.bool true)
def jdL (kd : KD) (ls : List P2) : KD := ls.foldl (fun d p => putD d p (.bool true)) kd
def jdT (n : Nat) (ls : List P2) : KD := jdL (putD (jd0 (n - 1)) (0, (n : Int) - 1) (.bool true)) ls
theorem jd0_val : ∀ (k : Nat) (p : P2), (valD (jd0 k) p).isSome = true ↔ 0 ≤ p.1 ∧ p.1 < k ∧ p.2 = p.1 + 1
  | 0, p => by
    unfold jd0
    constructor
    · intro h; cases h
    · intro h; omega
  | k + 1, p => by
    unfold jd0
    rw [valD_put]
    by_cases c : p = ((k : Int), (k : Int) + 1)
    · rw [if_pos c]
      subst c
      simp
      omega
    · rw [if_neg c, jd0_val k p]
      have : ¬ (p.1 = (k : Int) ∧ p.2 = (k : Int) + 1) := fun z => c (Prod.ext z.1 z.2)
      omega
theorem jdL_val : ∀ (ls : List P2) (kd : KD) (p : P2), (valD (jdL kd ls) p).isSome = true ↔ (valD kd p).isSome = true ∨ p ∈ ls
  | [], kd, p => by unfold jdL; simp
  | q :: ls, kd, p => by
    have ih := jdL_val ls (putD kd q (.bool true)) p
    have e : jdL kd (q :: ls) = jdL (putD kd q (.bool true)) ls := rfl
    rw [e, ih, valD_put, List.mem_cons]
    by_cases c : p = q
    · rw [if_pos c]
      simp [c]
    · rw [if_neg c]
      simp [c]
theorem jd0_len : ∀ k, (jd0 k).length ≤ k
  | 0 => Nat.le_refl _
  | k + 1 => by
    have := jd0_len k
    have := putD_len (jd0 k) ((k : Int), (k : Int) + 1) (.bool true)
    unfold jd0
    omega
theorem jdL_len : ∀ (ls : List P2) (kd : KD), (jdL kd ls).length ≤ kd.length + ls.length
  | [], kd => Nat.le_refl _
  | q :: ls, kd => by
    have ih := jdL_len ls (putD kd q (.bool true))
    have := putD_len kd q (.bool true)
    have e : jdL kd (q :: ls) = jdL (putD kd q (.bool true)) ls := rfl
    rw [e, List.length_cons]
    omega
theorem jdL_take {ls : List P2} {i : Nat} {p : P2} (kd : KD) (h : ls[i]? = some p) : jdL kd (ls.take (i + 1)) = putD (jdL kd (ls.take i)) p (.bool true) := by
  unfold jdL
  rw [List.take_add_one, h, List.foldl_append]
  rfl
theorem jdT_adj {n : Nat} {ls : List P2} (h3 : 3 ≤ n) {a b : Int} (h0 : 0 ≤ a) (hab : a < b) (hb : b < n) : (valD (jdT n ls) (a, b)).isSome = adjB n ls a b := by
  rw [Bool.eq_iff_iff]
  unfold jdT adjB
  rw [jdL_val, valD_put, Bool.or_eq_true, decide_eq_true_eq, decide_eq_true_eq]
  by_cases c : (a, b) = ((0 : Int), (n : Int) - 1)
  · rw [if_pos c]
    have := Prod.mk.inj c
    simp only [List.mem_cons, List.not_mem_nil, or_false]
    simp
    omega
  · rw [if_neg c, jd0_val]
    have : ¬ (a = (0 : Int) ∧ b = (n : Int) - 1) := fun z => c (Prod.ext z.1 z.2)
    simp only [List.mem_cons, List.not_mem_nil, or_false]
    constructor
    · rintro (z | z)
      · exact .inl (by omega)
      · exact .inr z
    · rintro (z | z)
      · exact .inl (by omega)
      · exact .inr z
/-! ### the parts of a cut -/
section
variable {r ls : List P2}
theorem parts_iff {x : T3} : x ∈ parts r ls ↔ 0 ≤ x.1 ∧ x.1 < x.2.1 ∧ x.2.1 < x.2.2 ∧ x.2.2 < r.length ∧ adjB r.length ls x.1 x.2.1 = true ∧ adjB r.length ls x.2.1 x.2.2 = true ∧ adjB r.length ls x.1 x.2.2 = true := by
  unfold parts partsN
  rw [p1_mem]
  unfold triB
  rw [Bool.and_eq_true, Bool.and_eq_true]
  constructor
  · rintro ⟨a, b, c, d, e, f⟩
    exact ⟨a, c, d, e, f⟩
  · rintro ⟨a, c, d, e, f⟩
    exact ⟨a, by omega, c, d, e, f⟩
/-- by its tree -/
structure CutT (r ls : List P2) (t : Tr) : Prop where
  ok : t.ok (jnB r) 0 ((r.length : Int) - 1)
  pm : ls.Perm (t.inn 0 ((r.length : Int) - 1))
theorem CutT.adj {t : Tr} (h : Room r) (T : CutT r ls t) {a b : Int} (h0 : 0 ≤ a) (hab : a < b) (hb : b < r.length) : adjB r.length ls a b = true ↔ t.Ed 0 ((r.length : Int) - 1) a b := by
  have n3 := h.lo
  have ok := T.ok
  have pm := T.pm.mem_iff (a := (a, b))
  unfold adjB
  rw [Bool.or_eq_true, decide_eq_true_eq, decide_eq_true_eq, pm]
  simp only [List.mem_cons, List.not_mem_nil, or_false]
  unfold Tr.Ed
  cases t with
  | leaf => unfold Tr.ok at ok; omega
  | node k l u =>
    unfold Tr.sub Tr.inn
    rw [List.mem_cons]
    constructor
    · rintro ((z | z) | z)
      · exact .inl (by omega)
      · exact .inr (.inl (Prod.ext (by dsimp only; omega) (by dsimp only; omega)))
      · exact .inr (.inr z)
    · rintro (z | z | z)
      · exact .inl (.inl (by omega))
      · have := Prod.mk.inj z
        exact .inl (.inr (by omega))
      · exact .inr z
theorem CutT.tri {t : Tr} (h : Room r) (T : CutT r ls t) : (parts r ls).Perm (t.tri 0 ((r.length : Int) - 1)) := by
  refine (List.perm_ext_iff_of_nodup (p1_nd _) (Tr.tri_nd T.ok)).mpr fun x => ?_
  have m := parts_iff (r := r) (ls := ls) (x := x)
  unfold parts partsN at m
  rw [m]
  constructor
  · rintro ⟨a, b, c, d, e, f, g⟩
    obtain ⟨x1, x2, x3⟩ := x
    dsimp only at *
    exact Tr.ed_tri T.ok a b c (by omega) ((T.adj h a b (by omega)).mp e) ((T.adj h (by omega) c d).mp f) ((T.adj h a (by omega) d).mp g)
  · intro hx
    have i := Tr.tri_in T.ok x hx
    have e := Tr.tri_ed T.ok x hx
    exact ⟨i.1, i.2.1, i.2.2.1, by omega, (T.adj h (by omega) (by omega) (by omega)).mpr e.1, (T.adj h (by omega) (by omega) (by omega)).mpr e.2.1, (T.adj h (by omega) (by omega) (by omega)).mpr e.2.2⟩
theorem CutT.len {t : Tr} (h : Room r) (T : CutT r ls t) : (parts r ls).length + 2 = r.length := by
  have n3 := h.lo
  rw [(T.tri h).length_eq, Tr.tri_len]
  have := Tr.ok_nodes T.ok
  omega
end
end MT

set_option Elab.async false
set_option linter.all false
set_option maxRecDepth 100000
set_option maxHeartbeats 4000000
/-! Comprehensions over tuples; sorted lists of numbers. -/
namespace DL
open PySem PySem.Spec PyProof.Rows L2
section
variable {X : Cx} {E : L2.WX} {G : Gs} {D : DE} {st : Stmt} {rest body els : List Stmt} {a b c e i tg iter : Expr} {es : List Expr} {pos : Pos} {x y : PyData} {ds xs : List PyData} {m n : Int} {p q : Bool} {z : Str}
theorem lc_tG {α : Type} {scope : Scope} {elt : Expr} {ifs : List Expr} {own : List (Str × Nat)} {tt : TT} {g0 : TG} {f : α → PyData} {zs : List α} {u : α → PyData} {t : α → Bool} (gc : α → List (Option Sv)) (hN : X.N.Nodup) (hc : X.calm = true) (ok : BlkOk X.N X.env.scope scope own)
    (ha : ED X G iter (.tuple (zs.map u))) (hlen : zs.length < 100000)
    (hg : ∀ (s : Shared) (H : Hp) (C : Addr) (cl : List (Str × Addr)) (fp : List Addr), PG (X.blk s H scope (compEnvC scope cl C X.env) fp) tg g0)
    (hgd : ∀ v ∈ zs, ∀ (σ : L2.St) (S H : Hp) (w : V), Same S H → Sl X.K S σ G.c → Rp X.K S w (u v) → ∀ Q : L2.St → Hp → Prop, (∀ σ', Sl X.K S σ' (gc v) → L2.wipe σ' (own.map (·.2)) = L2.wipe σ (own.map (·.2)) → Q σ' H) → g0 w (L2.wipe σ (own.map (·.2))) H Q)
    (ht : ∀ (s : Shared) (H : Hp) (C : Addr) (cl : List (Str × Addr)) (fp : List Addr), PTs (X.blk s H scope (compEnvC scope cl C X.env) fp) ifs tt)
    (htd : ∀ v ∈ zs, ∀ (σ : L2.St) (S H : Hp), Ok X.K S H σ { G with c := gc v } → ∀ Q : Bool → Hp → Prop, (∀ S' H', Gr S H S' H' → Q (t v) H') → tt σ H Q)
    (he : ∀ v ∈ zs, t v = true → ∀ X', Blk X X' scope → X'.K = X.K → ED X' { G with c := gc v } elt (f v)) (hs : ∀ x, foldedSetIterable iter X.env x = pure x) :
    LC X G (.ListComp elt [⟨tg, iter, ifs, 0⟩] scope pos) ((zs.filter t).map f) := lc_mk hc hN (pi_tup pe_w) ok hg ht (fun s H C cl fp => pe_blk s H C cl fp) hs fun σ S H k Q q =>  (ha σ S H k _ fun v S1 H1 g1 r1 => by
    cases r1 with
    | @tup l vs _ e1 r1 =>
    have k1 := k.mono g1
    refine ⟨l, rfl, ⟨vs, SqT.of (g1.sh _ _ e1)⟩, fun A hA => ?_⟩
    refine lc_tup (K := X.K) (a := l) (xs := vs) (fun i => LcAt X.K S1 H1 A (accF t f (zs.take i))) ⟨S1, [], (Gr.refl g1.sh).raw hA, g1.sh.free hA, upd_same, .nil⟩ (fun i H' _ ⟨S', ws, g', _⟩ => SqT.of (g'.sh _ _ (g'.s _ _ e1))) (fun i w H' hw hat => ?_) fun H' hat => ?_
    · have hlen' := r1.length
      rw [List.length_map] at hlen'
      have hi : i < zs.length := by
        rw [← hlen']
        exact (List.getElem?_eq_some_iff.mp hw).1
      obtain ⟨w', e2, r2⟩ := r1.get (i := i) (d := u zs[i]) (by rw [List.getElem?_map, List.getElem?_eq_getElem hi]; rfl)
      rw [hw] at e2
      cases e2
      obtain ⟨S', ws, g', hs', ha', r'⟩ := id hat
      refine hgd zs[i] (List.getElem_mem hi) σ S1 H' w (g'.s.trans g'.sh) k1.sl r2 _ fun σ' hsl hw2 => ⟨hw2, ?_⟩
      have turn := lc_turn (X := X) (σ := σ') (G' := { G with c := gc zs[i] }) (scope := scope) (x := f zs[i]) (t := t zs[i]) (lim := 0) (Nat.lt_of_le_of_lt accF_le hlen) hA hat ?_ (htd _ (List.getElem_mem hi) σ') (he _ (List.getElem_mem hi)) fun X' hX' => blk_K hX'
      · rw [← accF_more (List.getElem?_eq_getElem hi)] at turn
        exact turn
      · intro S2 H2 g2
        have k2 := k1.mono g2
        exact ⟨k2.sh, hsl.mono g2.s, k2.ow, k2.nd⟩
    · obtain ⟨S', ws, g', hs', ha', r'⟩ := hat
      rw [show vs.length = zs.length by rw [r1.length, List.length_map], List.take_length] at r'
      exact q _ ws S' H' (g1.trans g') (g1.h.free hA) hs' ha' r')
theorem lc_cT {α : Type} {scope : Scope} {elt : Expr} {f : α → PyData} {zs : List α} {u : α → PyData} {pz : Pos} (k : Nat) (ha : ED X G iter (.tuple (zs.map u))) (hlen : zs.length < 100000)
    (he : ∀ v ∈ zs, ∀ X', Blk X X' scope → X'.K = X.K → ED X' { G with c := (G.c.set k none).set k (some (.d (u v))) } elt (f v))
    (ok : BlkOk X.N X.env.scope scope [(z, k)] := by exact blkOk_by (by decide +kernel)) (hN : X.N.Nodup := by assumption) (hc : X.calm = true := by rfl)
    (hg : ∀ (s : Shared) (H : Hp) (C : Addr) (cl : List (Str × Addr)) (fp : List Addr), PG (X.blk s H scope (compEnvC scope cl C X.env) fp) (.Name z pz) (gName k) := by exact fun _ _ _ _ _ => pg_name (by assumption) rfl (by first | exact Or.inl rfl | exact Or.inr rfl))
    (hs : ∀ x, foldedSetIterable iter X.env x = pure x := by intro _; rfl) :
    LC X G (.ListComp elt [⟨.Name z pz, iter, [], 0⟩] scope pos) (zs.map f) := by
  have h := lc_tG (own := [(z, k)]) (t := fun _ => true) (tt := tYes) (f := f) (g0 := gName k) (elt := elt) (ifs := []) (pos := pos) (scope := scope) (fun v => (G.c.set k none).set k (some (.d (u v)))) hN hc ok ha hlen hg (fun v hv σ S H w sh sl r Q q => ?_) (fun _ _ _ _ _ => pts_nil) (fun v hv σ S H k1 Q q => q S H k1.gr) (fun v hv _ => he v hv) hs
  · rw [List.filter_eq_self.mpr (fun _ _ => rfl)] at h
    exact h
  · exact q _ (Sl.set (g := some (.d (u v))) ⟨w, rfl, r⟩ k (Sl.set (g := none) trivial k sl)) (wipe_set1 σ k _)
theorem lc_cTIf {α : Type} {scope : Scope} {elt : Expr} {f : α → PyData} {zs : List α} {u : α → PyData} {pz : Pos} (k : Nat) (t : α → Bool) (ha : ED X G iter (.tuple (zs.map u))) (hlen : zs.length < 100000)
    (ht : ∀ v ∈ zs, ∀ X', Blk X X' scope → X'.K = X.K → ET X' { G with c := (G.c.set k none).set k (some (.d (u v))) } c (t v))
    (he : ∀ v ∈ zs, t v = true → ∀ X', Blk X X' scope → X'.K = X.K → ED X' { G with c := (G.c.set k none).set k (some (.d (u v))) } elt (f v))
    (ok : BlkOk X.N X.env.scope scope [(z, k)] := by exact blkOk_by (by decide +kernel)) (hN : X.N.Nodup := by assumption) (hc : X.calm = true := by rfl)
    (hg : ∀ (s : Shared) (H : Hp) (C : Addr) (cl : List (Str × Addr)) (fp : List Addr), PG (X.blk s H scope (compEnvC scope cl C X.env) fp) (.Name z pz) (gName k) := by exact fun _ _ _ _ _ => pg_name (by assumption) rfl (by first | exact Or.inl rfl | exact Or.inr rfl))
    (hs : ∀ x, foldedSetIterable iter X.env x = pure x := by intro _; rfl) :
    LC X G (.ListComp elt [⟨.Name z pz, iter, [c], 0⟩] scope pos) ((zs.filter t).map f) :=
  lc_tG (own := [(z, k)]) (t := t) (tt := ttB X scope c) (f := f) (g0 := gName k) (elt := elt) (ifs := [c]) (pos := pos) (scope := scope) (fun v => (G.c.set k none).set k (some (.d (u v)))) hN hc ok ha hlen hg (fun v hv σ S H w sh sl r Q q => q _ (Sl.set (g := some (.d (u v))) ⟨w, rfl, r⟩ k (Sl.set (g := none) trivial k sl)) (wipe_set1 σ k _)) (fun s H C cl fp => pts_one (pt_blk s H C cl fp)) (fun v hv σ S H k1 Q q X' hX' => ht v hv X' hX' (blk_K hX') σ S H (by rw [blk_K hX']; exact k1) Q q) he hs
/-! ### numbers in order -/
def insI (p : Int) : List Int → List Int
  | [] => [p]
  | q :: qs => if q < p then q :: insI p qs else p :: q :: qs
def sortI : List Int → List Int
  | [] => []
  | p :: ps => insI p (sortI ps)
theorem insI_perm (p : Int) : ∀ l, (insI p l).Perm (p :: l)
  | [] => List.Perm.refl _
  | q :: qs => by
    unfold insI
    split
    · exact ((insI_perm p qs).cons q).trans (List.Perm.swap p q qs)
    · exact List.Perm.refl _
theorem sortI_perm : ∀ l, (sortI l).Perm l
  | [] => List.Perm.refl _
  | p :: ps => (insI_perm p _).trans ((sortI_perm ps).cons p)
theorem insI_up (p : Int) : ∀ l, l.Pairwise (· ≤ ·) → (insI p l).Pairwise (· ≤ ·)
  | [], _ => List.pairwise_singleton _ _
  | q :: qs, h => by
    obtain ⟨h1, h2⟩ := List.pairwise_cons.mp h
    unfold insI
    split
    · refine List.pairwise_cons.mpr ⟨fun x hx => ?_, insI_up p qs h2⟩
      rcases List.mem_cons.mp ((insI_perm p qs).mem_iff.mp hx) with e | e
      · omega
      · exact h1 x e
    · refine List.pairwise_cons.mpr ⟨fun x hx => ?_, h⟩
      rcases List.mem_cons.mp hx with e | e
      · omega
      · have := h1 x e
        omega
theorem sortI_up : ∀ l, (sortI l).Pairwise (· ≤ ·)
  | [] => List.Pairwise.nil
  | p :: ps => insI_up p _ (sortI_up ps)
theorem upI_uniq : ∀ {l m : List Int}, l.Pairwise (· ≤ ·) → m.Pairwise (· ≤ ·) → l.Perm m → l = m
  | [], m, _, _, h => (List.Perm.eq_nil h.symm).symm
  | x :: l, [], _, _, h => absurd h.length_eq (by simp)
  | x :: l, y :: m, hl, hm, h => by
    obtain ⟨l1, l2⟩ := List.pairwise_cons.mp hl
    obtain ⟨m1, m2⟩ := List.pairwise_cons.mp hm
    have e1 : y ≤ x := by
      rcases List.mem_cons.mp (h.mem_iff.mp List.mem_cons_self) with e | e
      · omega
      · exact m1 x e
    have e2 : x ≤ y := by
      rcases List.mem_cons.mp (h.mem_iff.mpr List.mem_cons_self) with e | e
      · omega
      · exact l1 y e
    have e : x = y := by omega
    subst e
    rw [upI_uniq l2 m2 h.cons_inv]
theorem ef_sortedI {q1 : Pos} {ns : List Int} (hm : X.mg "sorted" = none) (ha : EL X G e (ns.map PyData.int)) (hg : Gl X "sorted" := by rfl) (he : starEach [e] X.env = (false, eval e X.env) :: starEach [] X.env := by rfl) (hpl : (backTo pos (starEach [] X.env)).any (·.1) = false := by rfl) :
    EF X G (.Call (.Name "sorted" q1) [e] [] pos) ((sortI ns).map PyData.int) := ⟨fun σ S H k Q q =>
  wE_of (pe_callB cr_sortedI hg hm (by decide +kernel) (pa_cons pe_w pa_nil he) (by decide) (by decide) he hpl) (ha σ S H k _ fun a vs S1 H1 g1 h1 r1 => by
    refine ⟨a, ns, rfl, by rw [r1.ints] at h1; exact SqL.of h1, fun ys p hperm hup hp => ?_⟩
    have es : ys = sortI ns := upI_uniq hup (sortI_up ns) (hperm.trans (sortI_perm ns).symm)
    subst es
    exact q p _ S1 _ (g1.raw hp) (g1.h.free hp) (g1.sh.free hp) upd_same (RpA.of_ints _))⟩
end
end DL

set_option Elab.async false
set_option linter.all false
set_option maxRecDepth 100000
set_option maxHeartbeats 4000000
/-! Three names out of a list. -/
namespace DL
open PySem PySem.Spec PyProof.Rows L2
section
variable {X : Cx} {E : L2.WX} {G : Gs} {D : DE} {st : Stmt} {a b c e i tg iter : Expr} {es : List Expr} {pos : Pos} {x y u : PyData} {ds xs : List PyData} {m n : Int} {p q : Bool} {z w t : Str}
theorem rpa3 {K : Fg} {S : Hp} {vs : List V} {x y u : PyData} (h : RpA K S vs [x, y, u]) : ∃ a b c, vs = [a, b, c] ∧ Rp K S a x ∧ Rp K S b y ∧ Rp K S c u := by
  cases h with
  | cons h1 r =>
    obtain ⟨a, b, rfl, h2, h3⟩ := rpa2 r
    exact ⟨_, a, b, rfl, h1, h2, h3⟩
theorem sd_unL3 {px py pu pt : Pos} {kt} (i j k : Nat) (h : EL X G e [x, y, u]) (hn : D.nx { G with c := ((G.c.set i (some (.d x))).set j (some (.d y))).set k (some (.d u)) }) (hi : X.N[i]? = some z := by rfl) (hj : X.N[j]? = some w := by rfl) (hk : X.N[k]? = some t := by rfl) (hN : X.N.Nodup := by assumption) (hc : X.calm = true := by rfl)
    (hx : Loc X.env.scope z := by first | exact Or.inl rfl | exact Or.inr rfl) (hy : Loc X.env.scope w := by first | exact Or.inl rfl | exact Or.inr rfl) (hu : Loc X.env.scope t := by first | exact Or.inl rfl | exact Or.inr rfl)
    (fx : X.fn z = true ∨ X.env.scope.names.lookup z = some .local := by first | exact .inl rfl | exact .inr rfl | assumption) (fy : X.fn w = true ∨ X.env.scope.names.lookup w = some .local := by first | exact .inl rfl | exact .inr rfl | assumption) (fu : X.fn t = true ∨ X.env.scope.names.lookup t = some .local := by first | exact .inl rfl | exact .inr rfl | assumption)
    (hs : swapsWithSole [.Tuple [.Name z px, .Name w py, .Name t pu] kt pt] e pos.line X.env = pure false := by rfl) (hw : swappedStores [.Tuple [.Name z px, .Name w py, .Name t pu] kt pt] e X.env = pure none := by rfl) (h1 : (assignEach [.Tuple [.Name z px, .Name w py, .Name t pu] kt pt] X.env).map (·.2) = [assign (.Tuple [.Name z px, .Name w py, .Name t pu] kt pt) X.env] := by rfl) (hl : (assignEach [.Name z px, .Name w py, .Name t pu] X.env).length = 3 := by rfl) (hst : (assignEach [.Name z px, .Name w py, .Name t pu] X.env).findIdx? (·.1) = none := by rfl)
    (hs1 : (assignEach (.Name z px :: [.Name w py, .Name t pu]) X.env).map (·.2) = assign (.Name z px) X.env :: (assignEach [.Name w py, .Name t pu] X.env).map (·.2) := by rfl) (hs2 : (assignEach (.Name w py :: [.Name t pu]) X.env).map (·.2) = assign (.Name w py) X.env :: (assignEach [.Name t pu] X.env).map (·.2) := by rfl) (hs3 : (assignEach (.Name t pu :: []) X.env).map (·.2) = assign (.Name t pu) X.env :: (assignEach [] X.env).map (·.2) := by rfl) :
    SD X E G (.Assign [.Tuple [.Name z px, .Name w py, .Name t pu] kt pt] e pos) D := ⟨fun S0 H0 _ σ S H g k' f =>
  wS_of (ps_asg pe_w (pg_lst hc (pgs_cons (pg_name hN hi hx fx) (pgs_cons (pg_name hN hj hy fy) (pgs_cons (pg_name hN hk hu fu) pgs_nil hs3) hs2) hs1) hl hst) hs hw h1) (h σ S H k' _ fun l vs S1 H1 g1 e1 r1 => by
    obtain ⟨a, b, c, rfl, r2, r3, r4⟩ := rpa3 r1
    have k1 := k'.mono g1
    exact ⟨_, [a, b, c], rfl, SqL.of e1, rfl, a, [b, c], rfl, b, [c], rfl, c, [], rfl, rfl, at_of (G := { G with c := ((G.c.set i (some (.d x))).set j (some (.d y))).set k (some (.d u)) }) (g.trans g1) ⟨k1.sh, Sl.set (g := some (.d u)) ⟨c, rfl, r4⟩ k (Sl.set (g := some (.d y)) ⟨b, rfl, r3⟩ j (Sl.set (g := some (.d x)) ⟨a, rfl, r2⟩ i k1.sl)), k1.ow, k1.nd⟩ f hn⟩)⟩
end
end DL

set_option Elab.async false
set_option linter.all false
set_option maxRecDepth 100000
set_option maxHeartbeats 4000000
/-! A triple among triples. -/
namespace DL
open PySem PySem.Spec PyProof.Rows L2
abbrev Z3 := Int × Int × Int
section
variable {X : Cx}
theorem any_eqT (p : Z3) (ps : List Z3) : ((ps.map dT).any fun z => PyData.eqv z (dT p)) = decide (p ∈ ps) := by
  rw [Bool.eq_iff_iff, List.any_eq_true, decide_eq_true_eq]
  constructor
  · rintro ⟨z, hz, h⟩
    obtain ⟨w, hw, rfl⟩ := List.mem_map.mp hz
    rw [eqv_T, decide_eq_true_eq] at h
    rw [← h]
    exact hw
  · intro h
    exact ⟨dT p, List.mem_map_of_mem h, by rw [eqv_T, decide_eq_true_eq]⟩
theorem pn_T3s (xs : List Z3) : Pn 2 (.list (xs.map dT)) := pn_lst (pna_map pn_T xs)
theorem cd_inTs (hu : X.A.units + 65 < cLine) {a b c : Int} {ps : List Z3} : CD X .In (.tuple [.int a, .int b, .int c]) (.list (ps.map dT)) (decide ((a, b, c) ∈ ps)) := ⟨_, op_inD hu, fun v u S H sh r1 r2 Q q =>
  ⟨_, _, Rp.dp _ _ (pn_T (a, b, c)).lay (r1.mono sh), Rp.dp _ _ (pn_T3s ps).lay (r2.mono sh), (pn_T (a, b, c)).shaped (by decide), (pn_T3s ps).shaped (by decide), by
    have := any_eqT (a, b, c) ps
    rw [← this] at q
    exact q⟩⟩
theorem cd_niTs (hu : X.A.units + 65 < cLine) {a b c : Int} {ps : List Z3} : CD X .NotIn (.tuple [.int a, .int b, .int c]) (.list (ps.map dT)) (!decide ((a, b, c) ∈ ps)) := ⟨_, op_notInD hu, fun v u S H sh r1 r2 Q q =>
  ⟨_, _, Rp.dp _ _ (pn_T (a, b, c)).lay (r1.mono sh), Rp.dp _ _ (pn_T3s ps).lay (r2.mono sh), (pn_T (a, b, c)).shaped (by decide), (pn_T3s ps).shaped (by decide), by
    have := any_eqT (a, b, c) ps
    rw [← this] at q
    exact q⟩⟩
end
end DL

set_option Elab.async false
set_option linter.all false
set_option maxRecDepth 100000
set_option maxHeartbeats 4000000
/-! Lists of lists of pairs: in order, sorted. -/
namespace DL
open PySem PySem.Spec PyProof.Rows L2
/-! ### rows in order -/
def rLt : List P2 → List P2 → Bool
  | [], [] => false
  | [], _ :: _ => true
  | _ :: _, [] => false
  | x :: xs, y :: ys => if x = y then rLt xs ys else ltP2 x y
theorem ltP2_irr (x : P2) : ltP2 x x = false := by rw [ltP2_no]; omega
theorem ltP2_ne {x y : P2} (h : x ≠ y) : ltP2 x y = true ∨ ltP2 y x = true := by
  rw [ltP2_iff, ltP2_iff]
  have : ¬ (x.1 = y.1 ∧ x.2 = y.2) := fun a => h (Prod.ext a.1 a.2)
  omega
theorem ltP2_asym {x y : P2} (h : ltP2 x y = true) : ltP2 y x = false := by
  rw [ltP2_iff] at h
  rw [ltP2_no]
  omega
theorem ltP2_trans {x y z : P2} (h : ltP2 x y = true) (g : ltP2 y z = true) : ltP2 x z = true := by
  rw [ltP2_iff] at *
  omega
theorem rLt_eq : ∀ {l m : List P2}, rLt l m = false → rLt m l = false → l = m
  | [], [], _, _ => rfl
  | [], _ :: _, h, _ => by cases h
  | _ :: _, [], _, h => by cases h
  | x :: l, y :: m, h, g => by
    unfold rLt at h g
    by_cases c : x = y
    · subst c
      rw [if_pos rfl] at h g
      rw [rLt_eq h g]
    · rw [if_neg c] at h
      rw [if_neg (fun z => c z.symm)] at g
      rcases ltP2_ne c with k | k
      · rw [k] at h; cases h
      · rw [k] at g; cases g
theorem rLt_asym : ∀ {l m : List P2}, rLt l m = true → rLt m l = false
  | [], [], h => by cases h
  | [], _ :: _, _ => rfl
  | _ :: _, [], h => by cases h
  | x :: l, y :: m, h => by
    unfold rLt at h ⊢
    by_cases c : x = y
    · subst c
      rw [if_pos rfl] at h ⊢
      exact rLt_asym h
    · rw [if_neg c] at h
      rw [if_neg (fun z => c z.symm)]
      exact ltP2_asym h
theorem rLt_trans : ∀ {l m n : List P2}, rLt l m = true → rLt m n = true → rLt l n = true
  | [], [], _, h, _ => by cases h
  | [], _ :: _, [], _, g => by cases g
  | [], _ :: _, _ :: _, _, _ => rfl
  | _ :: _, [], _, h, _ => by cases h
  | _ :: _, _ :: _, [], _, g => by cases g
  | x :: l, y :: m, z :: n, h, g => by
    unfold rLt at h g ⊢
    by_cases c : x = y
    · subst c
      rw [if_pos rfl] at h
      by_cases d : x = z
      · subst d
        rw [if_pos rfl] at g ⊢
        exact rLt_trans h g
      · rw [if_neg d] at g ⊢
        exact g
    · rw [if_neg c] at h
      by_cases d : y = z
      · subst d
        rw [if_neg c]
        exact h
      · rw [if_neg d] at g
        have k := ltP2_trans h g
        have e : x ≠ z := fun e => by
          subst e
          rw [ltP2_irr] at k
          cases k
        rw [if_neg e]
        exact k
/-- not above -/
theorem rLe_trans {l m n : List P2} (h : rLt m l = false) (g : rLt n m = false) : rLt n l = false := by
  by_cases c : rLt l m = true
  · by_cases d : rLt m n = true
    · exact rLt_asym (rLt_trans c d)
    · rw [← rLt_eq (Bool.not_eq_true _ ▸ d) g]
      exact h
  · rw [rLt_eq (Bool.not_eq_true _ ▸ c) h]
    exact g
def insR (p : List P2) : List (List P2) → List (List P2)
  | [] => [p]
  | q :: qs => if rLt q p = true then q :: insR p qs else p :: q :: qs
def sortR : List (List P2) → List (List P2)
  | [] => []
  | p :: ps => insR p (sortR ps)
theorem insR_perm (p : List P2) : ∀ l, (insR p l).Perm (p :: l)
  | [] => List.Perm.refl _
  | q :: qs => by
    unfold insR
    split
    · exact ((insR_perm p qs).cons q).trans (List.Perm.swap p q qs)
    · exact List.Perm.refl _
theorem sortR_perm : ∀ l, (sortR l).Perm l
  | [] => List.Perm.refl _
  | p :: ps => (insR_perm p _).trans ((sortR_perm ps).cons p)
def UpR (l : List (List P2)) : Prop := l.Pairwise fun x y => rLt y x = false
theorem insR_up (p : List P2) : ∀ l, UpR l → UpR (insR p l)
  | [], _ => List.pairwise_singleton _ _
  | q :: qs, h => by
    obtain ⟨h1, h2⟩ := List.pairwise_cons.mp h
    unfold insR
    split
    · next c =>
      refine List.pairwise_cons.mpr ⟨fun x hx => ?_, insR_up p qs h2⟩
      rcases List.mem_cons.mp ((insR_perm p qs).mem_iff.mp hx) with e | e
      · subst e
        exact rLt_asym c
      · exact h1 x e
    · next c =>
      have c := Bool.eq_false_iff.mpr c
      refine List.pairwise_cons.mpr ⟨fun x hx => ?_, h⟩
      rcases List.mem_cons.mp hx with e | e
      · rw [e]; exact c
      · exact rLe_trans c (h1 x e)
theorem sortR_up : ∀ l, UpR (sortR l)
  | [] => List.Pairwise.nil
  | p :: ps => insR_up p _ (sortR_up ps)
theorem upR_uniq : ∀ {l m : List (List P2)}, UpR l → UpR m → l.Perm m → l = m
  | [], m, _, _, h => (List.Perm.eq_nil h.symm).symm
  | x :: l, [], _, _, h => absurd h.length_eq (by simp)
  | x :: l, y :: m, hl, hm, h => by
    obtain ⟨l1, l2⟩ := List.pairwise_cons.mp hl
    obtain ⟨m1, m2⟩ := List.pairwise_cons.mp hm
    have e1 : x = y ∨ rLt x y = false := by
      rcases List.mem_cons.mp (h.mem_iff.mp List.mem_cons_self) with e | e
      · exact .inl e
      · exact .inr (m1 x e)
    have e2 : x = y ∨ rLt y x = false := by
      rcases List.mem_cons.mp (h.mem_iff.mpr List.mem_cons_self) with e | e
      · exact .inl e.symm
      · exact .inr (l1 y e)
    have e : x = y := by
      rcases e1 with e | e1
      · exact e
      · rcases e2 with e | e2
        · exact e
        · exact rLt_eq e1 e2
    subst e
    rw [upR_uniq l2 m2 h.cons_inv]
theorem sortR_uniq {l m : List (List P2)} (h : l.Perm m) : sortR l = sortR m := upR_uniq (sortR_up l) (sortR_up m) ((sortR_perm l).trans (h.trans (sortR_perm m).symm))
theorem sortR_len (l : List (List P2)) : (sortR l).length = l.length := (sortR_perm l).length_eq
theorem mem_sortR {l : List (List P2)} {p : List P2} : p ∈ sortR l ↔ p ∈ l := (sortR_perm l).mem_iff
/-! ### the order is the data's -/
theorem listLt_r : ∀ l m : List P2, PySem.W.listLt l m = rLt l m
  | [], [] => rfl
  | [], _ :: _ => rfl
  | _ :: _, [] => rfl
  | x :: l, y :: m => by
    unfold PySem.W.listLt rLt
    by_cases c : x = y
    · rw [if_pos c, if_pos c, listLt_r l m]
    · rw [if_neg c, if_neg c]
      show (if x.1 = y.1 then decide (x.2 < y.2) else decide (x.1 < y.1)) = ltP2 x y
      rw [Bool.eq_iff_iff, ltP2_iff]
      by_cases d : x.1 = y.1
      · rw [if_pos d, decide_eq_true_eq]
        omega
      · rw [if_neg d, decide_eq_true_eq]
        omega
theorem toD_row (l : List P2) : (PySem.W.Datum.toD l : PyData) = dPs l := rfl
theorem lt_row (l m : List P2) : PySem.W.dataLt (dPs l) (dPs m) = rLt l m := by
  rw [← toD_row, ← toD_row, PySem.W.DatumOrd.lt_eq]
  exact listLt_r l m
theorem alike_row (l m : List P2) : PySem.W.alike (dPs l) (dPs m) = true := by
  rw [← toD_row, ← toD_row]
  exact PySem.W.DatumOrd.alike l m
section
variable {X : Cx} {E : L2.WX} {G : Gs} {D : DE} {e : Expr} {pos : Pos}
theorem each_zipV {xs : List V} {us : List Value} (h : Vals xs us) : ∀ {rows : List (List P2)}, xs.length = rows.length → PySem.W.EachIs (fun u (z : V × List P2) => RelV z.1 u) us (xs.zip rows) := by
  induction h with
  | nil =>
    intro rows hl
    exact .nil
  | cons h t ih =>
    intro rows hl
    cases rows with
    | nil => cases hl
    | cons r rows => exact .cons h (ih (by simpa using hl))
theorem each_back {out : List Value} {zs : List (V × List P2)} (h : PySem.W.EachIs (fun u (z : V × List P2) => RelV z.1 u) out zs) : Vals (zs.map (·.1)) out := by
  induction h with
  | nil => exact .nil
  | cons h t ih => exact .cons h ih
theorem each_readR {pins : List (Addr × Obj)} {s : Shared} {σ : L2.St} {H : Hp} (I : Inv X pins σ H s) {xs : List V} {us : List Value} (h : Vals xs us) : ∀ {rows : List (List P2)}, DpAll X.K H xs (rows.map dPs) → PySem.W.EachIs (fun u (z : V × List P2) => ∃ as, Reads s.heap u (dPs z.2) as) us (xs.zip rows) := by
  induction h with
  | nil =>
    intro rows r
    exact .nil
  | cons h t ih =>
    intro rows r
    cases rows with
    | nil => cases r
    | cons w rows =>
      cases r with
      | cons r1 r2 => exact .cons (Dp.reads I _ _ _ r1 h) (ih r2)
def rSortR (K : PySem.W.Frag) : List V → Hp → VK → Prop := fun vs H Q => ∃ (a : Addr) (xs : List V) (rows : List (List P2)), vs = [V.ref a] ∧ SqL K H a xs ∧ DpAll K H xs (rows.map dPs) ∧ xs.length = rows.length ∧
  ∀ (zs : List (V × List P2)) (p : Addr), zs.Perm (xs.zip rows) → zs.map (·.2) = sortR rows → H p = none → Q (.ref p) (upd H p (.lst (zs.map (·.1))))
theorem zip_snd {α β : Type} : ∀ {xs : List α} {ys : List β}, xs.length = ys.length → (xs.zip ys).map (·.2) = ys
  | [], [], _ => rfl
  | [], _ :: _, h => by cases h
  | _ :: _, [], h => by cases h
  | x :: xs, y :: ys, h => by
    rw [List.zip_cons_cons, List.map_cons, zip_snd (by simpa using h)]
theorem zip_fst {α β : Type} : ∀ {xs : List α} {ys : List β}, xs.length = ys.length → (xs.zip ys).map (·.1) = xs
  | [], [], _ => rfl
  | [], _ :: _, h => by cases h
  | _ :: _, [], h => by cases h
  | x :: xs, y :: ys, h => by
    rw [List.zip_cons_cons, List.map_cons, zip_fst (by simpa using h)]
theorem cr_sortedR (hu : X.A.units + 4 < cLine) : CallR X (.builtin "sorted") (rSortR X.K) := by
  intro pins s σ H vs us Q I r h
  obtain ⟨a, xs, rows, rfl, hs, hd, hl, q⟩ := h
  obtain ⟨its, rv, hlst, hz⟩ := I.list hs
  rw [Vals.ref1 r]
  have e := each_zipV rv hl
  have er := each_readR I rv hd
  have hlen : (xs.zip rows).length = xs.length := by rw [List.length_zip, hl, Nat.min_self]
  refine PySem.W.sorted_data (enc := fun z : V × List P2 => dPs z.2) hlst.isList e er (PySem.W.AllAlike.of fun b b' => alike_row b.2 b'.2) (PySem.W.Sortable.others (enc := fun z : V × List P2 => dPs z.2) fun b => ⟨fun z => (by cases z), fun xs z => (by cases z)⟩) (by rw [hlen]; exact hz) (fun b hb => ?_) fun out ho eo => ?_
  · have d := (pn_Ps b.2).dep
    show X.A.units + 2 + (dPs b.2).depth < cLine
    omega
  · obtain ⟨ep, he'⟩ := PyProof.Rows.sortedAll_at s.heap its out.toArray
    have rb := each_back eo
    have pm := List.mergeSort_perm (xs.zip rows) (PySem.W.dataLe false fun z : V × List P2 => dPs z.2)
    have hle : ∀ b b' : V × List P2, PySem.W.dataLe false (fun z : V × List P2 => dPs z.2) b b' = !rLt b'.2 b.2 := fun b b' => by
      show (!PySem.W.dataLt (dPs b'.2) (dPs b.2)) = _
      rw [lt_row]
    have up : UpR (((xs.zip rows).mergeSort (PySem.W.dataLe false fun z : V × List P2 => dPs z.2)).map (·.2)) := by
      refine List.pairwise_map.mpr ((List.pairwise_mergeSort (fun x y z h1 h2 => ?_) (fun x y => ?_) (xs.zip rows)).imp fun {x y} h => ?_)
      · rw [hle, Bool.not_eq_true'] at *
        exact rLe_trans h1 h2
      · rw [hle, hle]
        cases c : rLt y.2 x.2 with
        | false => rfl
        | true => rw [rLt_asym c]; rfl
      · rw [hle, Bool.not_eq_true'] at h
        exact h
    have es : ((xs.zip rows).mergeSort (PySem.W.dataLe false fun z : V × List P2 => dPs z.2)).map (·.2) = sortR rows := by
      refine upR_uniq up (sortR_up rows) ?_
      have := pm.map (·.2)
      rw [zip_snd hl] at this
      exact this.trans (sortR_perm rows).symm
    have hlen2 : (((xs.zip rows).mergeSort (PySem.W.dataLe false fun z : V × List P2 => dPs z.2)).map (·.1)).length ≤ sizeLine := by
      rw [List.length_map, pm.length_eq, hlen]
      exact hz
    exact ⟨.ref _, upd H (s.heap.objs.size + 1) (.lst _), I.laid (t' := s.toks) (fun _ _ => PyProof.Rows.sortedAll_old) (Nat.le_succ _) ⟨hlen2, out, ep, rb, he'⟩, rfl, q _ _ pm es (I.hok.fresh (Nat.le_succ _))⟩
/-- read again behind the order -/
theorem rpa_zip {K : Fg} {S : Hp} {f : List P2 → PyData} : ∀ {vs : List V} {rows : List (List P2)}, RpA K S vs (rows.map f) → ∀ z ∈ vs.zip rows, Rp K S z.1 (f z.2)
  | _, [], .nil, z, hz => by cases hz
  | _, w :: rows, .cons h r, z, hz => by
    rcases List.mem_cons.mp hz with e | hz
    · rw [e]; exact h
    · exact rpa_zip r z hz
theorem rpa_of {K : Fg} {S : Hp} {f : List P2 → PyData} : ∀ {zs : List (V × List P2)}, (∀ z ∈ zs, Rp K S z.1 (f z.2)) → RpA K S (zs.map (·.1)) ((zs.map (·.2)).map f)
  | [], _ => .nil
  | z :: zs, h => .cons (h z List.mem_cons_self) (rpa_of fun w hw => h w (List.mem_cons_of_mem _ hw))
theorem ef_sortedR {q1 : Pos} {rows : List (List P2)} (hm : X.mg "sorted" = none) (ha : EL X G e (rows.map dPs)) (hu : X.A.units + 4 < cLine) (hg : Gl X "sorted" := by rfl) (he : starEach [e] X.env = (false, eval e X.env) :: starEach [] X.env := by rfl) (hpl : (backTo pos (starEach [] X.env)).any (·.1) = false := by rfl) :
    EF X G (.Call (.Name "sorted" q1) [e] [] pos) ((sortR rows).map dPs) := ⟨fun σ S H k Q q =>
  wE_of (pe_callB (cr_sortedR hu) hg hm (by decide +kernel) (pa_cons pe_w pa_nil he) (by decide) (by decide) he hpl) (ha σ S H k _ fun a vs S1 H1 g1 h1 r1 => by
    have hl : vs.length = rows.length := by rw [r1.length, List.length_map]
    refine ⟨a, vs, rows, rfl, SqL.of h1, RpA.dp _ _ (pna_map pn_Ps rows).lay (r1.mono g1.sh), hl, fun zs p pm es hp => ?_⟩
    have rb := rpa_of (zs := zs) (K := X.K) (S := S1) (f := dPs) fun z hz => rpa_zip r1 z (pm.mem_iff.mp hz)
    rw [es] at rb
    exact q p _ S1 _ (g1.raw hp) (g1.h.free hp) (g1.sh.free hp) upd_same rb)⟩
end
end DL

set_option Elab.async false
set_option linter.all false
set_option maxRecDepth 100000
set_option maxHeartbeats 4000000
/-! All cuts: rows of lines in order; all trees; the law's rows. -/
namespace MT
open DL
/-! ### all trees -/
def trees (J : Int → Int → Bool) : Nat → Int → Int → List Tr
  | 0, _, _ => []
  | f + 1, i, j => if j = i + 1 then [.leaf] else (btw J i j).flatMap fun k => (trees J f i k).flatMap fun l => (trees J f k j).map fun r => .node k l r
theorem mem_btw_iff {J : Int → Int → Bool} {i j k : Int} : k ∈ btw J i j ↔ i < k ∧ k < j ∧ J i k = true ∧ J k j = true := by
  refine ⟨mem_btw, fun ⟨a, b, c, d⟩ => ?_⟩
  unfold btw
  rw [List.mem_filter, Bool.and_eq_true]
  exact ⟨mem_ints.mpr (by omega), c, d⟩
theorem mem_trees {J : Int → Int → Bool} : ∀ {f : Nat} {i j : Int} {t : Tr}, j - i ≤ f → i < j → (t ∈ trees J f i j ↔ t.ok J i j)
  | 0, i, j, t, h, h2 => by omega
  | f + 1, i, j, t, h, h2 => by
    unfold trees
    by_cases c : j = i + 1
    · rw [if_pos c, List.mem_singleton]
      cases t with
      | leaf => exact ⟨fun _ => c, fun _ => rfl⟩
      | node k l r => exact ⟨fun z => (by cases z), fun ⟨a, b, _⟩ => (by omega)⟩
    · rw [if_neg c, List.mem_flatMap]
      cases t with
      | leaf =>
        refine ⟨fun ⟨k, _, hk⟩ => ?_, fun z => absurd z c⟩
        obtain ⟨l, _, hl⟩ := List.mem_flatMap.mp hk
        obtain ⟨r, _, hr⟩ := List.mem_map.mp hl
        cases hr
      | node k l r =>
        constructor
        · rintro ⟨k', hk, hm⟩
          obtain ⟨l', hl, hm2⟩ := List.mem_flatMap.mp hm
          obtain ⟨r', hr, e⟩ := List.mem_map.mp hm2
          cases e
          obtain ⟨a1, a2, a3, a4⟩ := mem_btw hk
          exact ⟨a1, a2, a3, a4, (mem_trees (by omega) a1).mp hl, (mem_trees (by omega) a2).mp hr⟩
        · rintro ⟨a1, a2, a3, a4, hl, hr⟩
          exact ⟨k, mem_btw_iff.mpr ⟨a1, a2, a3, a4⟩, List.mem_flatMap.mpr ⟨l, (mem_trees (by omega) a1).mpr hl, List.mem_map.mpr ⟨r, (mem_trees (by omega) a2).mpr hr, rfl⟩⟩⟩
theorem rg_nd (lo : Int) (n : Nat) : (rg lo n).Nodup := by
  unfold rg
  refine List.pairwise_map.mpr ((List.nodup_range).imp fun {a b} h z => h ?_)
  omega
theorem trees_nd {J : Int → Int → Bool} : ∀ (f : Nat) (i j : Int), (trees J f i j).Nodup
  | 0, _, _ => List.nodup_nil
  | f + 1, i, j => by
    unfold trees
    split
    · exact List.pairwise_singleton _ _
    · refine List.pairwise_flatMap.mpr ⟨fun k _ => List.pairwise_flatMap.mpr ⟨fun l _ => List.pairwise_map.mpr ((trees_nd f k j).imp fun {a b} h z => h (Tr.node.inj z).2.2), (trees_nd f i k).imp fun {a b} h x hx y hy e => ?_⟩, ((rg_nd _ _).filter _).imp fun {a b} h x hx y hy e => ?_⟩
      · obtain ⟨_, _, rfl⟩ := List.mem_map.mp hx
        obtain ⟨_, _, rfl⟩ := List.mem_map.mp hy
        exact h (Tr.node.inj e).2.1
      · obtain ⟨_, _, hx⟩ := List.mem_flatMap.mp hx
        obtain ⟨_, _, hy⟩ := List.mem_flatMap.mp hy
        obtain ⟨_, _, rfl⟩ := List.mem_map.mp hx
        obtain ⟨_, _, rfl⟩ := List.mem_map.mp hy
        exact h (Tr.node.inj e).1
theorem nat_sum {l : List Int} {f : Int → Nat} {g : Int → Int} (h : ∀ k ∈ l, g k = (f k : Int)) : (l.map g).sum = (((l.map f).sum : Nat) : Int) := by
  induction l with
  | nil => rfl
  | cons a l ih =>
    rw [List.map_cons, List.map_cons, List.sum_cons, List.sum_cons, ih fun k hk => h k (List.mem_cons_of_mem _ hk), h a List.mem_cons_self]
    omega
theorem sum_const {α : Type} (l : List α) (c : Nat) : (l.map fun _ => c).sum = l.length * c := by
  induction l with
  | nil => simp
  | cons a l ih =>
    rw [List.map_cons, List.sum_cons, ih, List.length_cons, Nat.add_mul]
    omega
theorem trees_len_node {J : Int → Int → Bool} (f : Nat) (i j : Int) (h : j ≠ i + 1) : (trees J (f + 1) i j).length = ((btw J i j).map fun k => (trees J f i k).length * (trees J f k j).length).sum := by
  rw [trees, if_neg h, List.length_flatMap]
  congr 1
  refine List.map_congr_left fun k _ => ?_
  rw [List.length_flatMap]
  have e : (trees J f i k).map (fun l => ((trees J f k j).map fun r => Tr.node k l r).length) = (trees J f i k).map fun _ => (trees J f k j).length := List.map_congr_left fun l _ => List.length_map _
  rw [e, sum_const]
theorem trees_wy {J : Int → Int → Bool} : ∀ (f : Nat) (i j : Int), j - i ≤ f → i < j → (j = i + 1 ∨ J i j = true) → ((trees J f i j).length : Int) = wy J i j
  | 0, i, j, h, h2, _ => by omega
  | f + 1, i, j, h, h2, hJ => by
    by_cases c : j = i + 1
    · rw [wy_one (by omega), trees, if_pos c]
      rfl
    · have hJ : J i j = true := hJ.resolve_left c
      rw [wy_sum (by omega) hJ, trees_len_node f i j c, nat_sum (f := fun k => (trees J f i k).length * (trees J f k j).length)]
      intro k hk
      obtain ⟨a1, a2, a3, a4⟩ := mem_btw hk
      rw [← trees_wy f i k (by omega) a1 (.inr a3), ← trees_wy f k j (by omega) a2 (.inr a4), Int.natCast_mul]
theorem sum_bdN {f : Int → Nat} {B : Nat} : ∀ l : List Int, (∀ k ∈ l, f k ≤ B) → (l.map f).sum ≤ l.length * B
  | [], _ => by simp
  | k :: l, h => by
    have ih := sum_bdN l fun q hq => h q (List.mem_cons_of_mem _ hq)
    have h1 := h k List.mem_cons_self
    rw [List.map_cons, List.sum_cons, List.length_cons, Nat.add_mul]
    omega
/-- not many for eight corners -/
theorem trees_few {J : Int → Int → Bool} : ∀ (f : Nat) (d : Nat) (i j : Int), j - i = (d : Int) + 1 → d ≤ 6 → (trees J f i j).length ≤ 6 ^ d
  | 0, d, i, j, _, _ => Nat.zero_le _
  | f + 1, d, i, j, hd, h6 => by
    by_cases c : j = i + 1
    · rw [trees, if_pos c]
      exact Nat.pow_pos (by decide)
    · rw [trees_len_node f i j c]
      have hl := btw_len (J := J) (i := i) (j := j) (by omega)
      have q := sum_bdN (f := fun k => (trees J f i k).length * (trees J f k j).length) (B := 6 ^ (d - 1)) (btw J i j) fun k hk => by
        obtain ⟨a1, a2, _, _⟩ := mem_btw hk
        have h1 := trees_few (J := J) f ((k - i).toNat - 1) i k (by omega) (by omega)
        have h2 := trees_few (J := J) f ((j - k).toNat - 1) k j (by omega) (by omega)
        have e : 6 ^ (d - 1) = 6 ^ ((k - i).toNat - 1) * 6 ^ ((j - k).toNat - 1) := by
          rw [← Nat.pow_add]
          congr 1
          omega
        rw [e]
        exact Nat.mul_le_mul h1 h2
      refine Nat.le_trans q ?_
      have e : 6 ^ d = 6 * 6 ^ (d - 1) := by
        have : d = d - 1 + 1 := by omega
        rw [this, Nat.pow_succ, Nat.mul_comm]
        simp
      rw [e]
      exact Nat.mul_le_mul_right _ (by omega)
theorem trees_sz {J : Int → Int → Bool} {f : Nat} {i j : Int} (h : i < j) (h2 : j - i ≤ 7) : (trees J f i j).length ≤ 46656 := by
  have q := trees_few (J := J) f ((j - i).toNat - 1) i j (by omega) (by omega)
  refine Nat.le_trans q ?_
  have h : (j - i).toNat - 1 ≤ 6 := by omega
  exact Nat.pow_le_pow_right (n := 6) (by decide) h
/-! ### as the program lists them -/
def af (J : Int → Int → Bool) (last : Int) : Nat → Int → Int → List (List P2)
  | 0, _, _ => []
  | f + 1, i, j => if j = i + 1 then [[]] else (btw J i j).flatMap fun k => (af J last f i k).flatMap fun a => (af J last f k j).map fun b => (if j - i < last then [(i, j)] else []) ++ a ++ b
def Tr.out (last i j : Int) (t : Tr) : List P2 := if j - i < last then t.sub i j else t.inn i j
theorem flatC {α β : Type} {f g : α → List β} : ∀ {l : List α}, (∀ x ∈ l, f x = g x) → l.flatMap f = l.flatMap g
  | [], _ => rfl
  | x :: l, h => by
    rw [List.flatMap_cons, List.flatMap_cons, h x List.mem_cons_self, flatC fun y hy => h y (List.mem_cons_of_mem _ hy)]
theorem af_trees {J : Int → Int → Bool} {last : Int} : ∀ (f : Nat) (i j : Int), j - i ≤ last → af J last f i j = (trees J f i j).map (Tr.out last i j)
  | 0, _, _, _ => rfl
  | f + 1, i, j, h => by
    unfold af trees
    split
    · unfold Tr.out Tr.sub Tr.inn
      simp
    · rw [List.map_flatMap]
      refine flatC fun k hk => ?_
      obtain ⟨a1, a2, _, _⟩ := mem_btw hk
      rw [List.map_flatMap, af_trees f i k (by omega), af_trees f k j (by omega), List.flatMap_map]
      refine flatC fun l _ => ?_
      rw [List.map_map, List.map_map]
      refine List.map_congr_left fun r _ => ?_
      simp only [Function.comp]
      unfold Tr.out
      rw [if_pos (show k - i < last by omega), if_pos (show j - k < last by omega)]
      by_cases c : j - i < last
      · rw [if_pos c, if_pos c]
        rfl
      · rw [if_neg c, if_neg c]
        rfl
theorem af_len {J : Int → Int → Bool} {last : Int} {f : Nat} {i j : Int} (h0 : i < j) (h : j - i ≤ last) (h7 : last ≤ 7) : (af J last f i j).length ≤ 46656 := by
  rw [af_trees f i j h, List.length_map]
  exact trees_sz h0 (by omega)
/-- of a room -/
def allCuts (r : List P2) : List (List P2) := (af (jnB r) ((r.length : Int) - 1) 12 0 ((r.length : Int) - 1)).map sortP
theorem allCuts_eq (r : List P2) : allCuts r = (trees (jnB r) 12 0 ((r.length : Int) - 1)).map fun t => sortP (t.inn 0 ((r.length : Int) - 1)) := by
  unfold allCuts
  rw [af_trees _ _ _ (by omega), List.map_map]
  refine List.map_congr_left fun t _ => ?_
  simp only [Function.comp]
  unfold Tr.out
  rw [if_neg (by omega)]
theorem mem_allCuts {r : List P2} (h : Room r) {ls : List P2} : ls ∈ allCuts r ↔ CutP r ls := by
  have n3 := h.lo
  have n12 := h.hi
  rw [allCuts_eq, List.mem_map]
  constructor
  · rintro ⟨t, ht, rfl⟩
    exact tree_cut h ((mem_trees (by omega) (by omega)).mp ht)
  · intro C
    obtain ⟨t, ok, pm⟩ := C.tree h
    refine ⟨t, (mem_trees (by omega) (by omega)).mpr ok, ?_⟩
    rw [← sortP_uniq pm]
    refine sortP_id (C.up.imp fun {x y} hh => ltP2_asym hh)
/-! ### a tree is told by its lines -/
theorem Tr.split {J : Int → Int → Bool} {k l r k' l' r'} {i j : Int} (h : (Tr.node k l r).ok J i j) (h' : (Tr.node k' l' r').ok J i j) (e : ∀ p, p ∈ (Tr.node k l r).sub i j ↔ p ∈ (Tr.node k' l' r').sub i j) : ¬ k < k' := by
  intro c
  obtain ⟨a1, a2, a3, a4, a5, a6⟩ := h
  obtain ⟨b1, b2, b3, b4, b5, b6⟩ := h'
  have m1 : ((k, j) : P2) ∈ (Tr.node k' l' r').sub i j := by
    rw [← e]
    unfold Tr.sub
    refine List.mem_cons_of_mem _ (List.mem_append_right _ ?_)
    rcases Tr.top_sub a6 with z | z
    · omega
    · exact z
  have m2 : ((i, k') : P2) ∈ (Tr.node k' l' r').sub i j := by
    unfold Tr.sub
    refine List.mem_cons_of_mem _ (List.mem_append_left _ ?_)
    rcases Tr.top_sub b5 with z | z
    · omega
    · exact z
  refine Tr.sub_nc (J := J) (t := .node k' l' r') ⟨b1, b2, b3, b4, b5, b6⟩ _ m2 _ m1 ?_
  unfold Tr.Crs
  dsimp only
  omega
theorem Tr.uniq {J : Int → Int → Bool} : ∀ {t u : Tr} {i j : Int}, t.ok J i j → u.ok J i j → (∀ p, p ∈ t.sub i j ↔ p ∈ u.sub i j) → t = u
  | .leaf, .leaf, _, _, _, _, _ => rfl
  | .leaf, .node k l r, i, j, h, h', _ => by
    obtain ⟨b1, b2, _⟩ := h'
    unfold Tr.ok at h
    omega
  | .node k l r, .leaf, i, j, h, h', _ => by
    obtain ⟨b1, b2, _⟩ := h
    unfold Tr.ok at h'
    omega
  | .node k l r, .node k' l' r', i, j, h, h', e => by
    have e1 := Tr.split h h' e
    have e2 := Tr.split h' h fun p => (e p).symm
    have ek : k = k' := by omega
    subst ek
    obtain ⟨a1, a2, a3, a4, a5, a6⟩ := h
    obtain ⟨b1, b2, b3, b4, b5, b6⟩ := h'
    have key : ∀ {l r l' r' : Tr}, l.ok J i k → r.ok J k j → l'.ok J i k → r'.ok J k j → (∀ p, p ∈ (Tr.node k l r).sub i j → p ∈ (Tr.node k l' r').sub i j) → (∀ p, p ∈ l.sub i k → p ∈ l'.sub i k) ∧ (∀ p, p ∈ r.sub k j → p ∈ r'.sub k j) := by
      intro l r l' r' o1 o2 o3 o4 hh
      constructor
      · intro p hp
        have q := hh p (by unfold Tr.sub; exact List.mem_cons_of_mem _ (List.mem_append_left _ hp))
        have w := Tr.sub_in o1 p hp
        unfold Tr.sub at q
        rcases List.mem_cons.mp q with z | z
        · rw [z] at w
          dsimp only at w
          omega
        · rcases List.mem_append.mp z with z | z
          · exact z
          · have := Tr.sub_in o4 p z
            omega
      · intro p hp
        have q := hh p (by unfold Tr.sub; exact List.mem_cons_of_mem _ (List.mem_append_right _ hp))
        have w := Tr.sub_in o2 p hp
        unfold Tr.sub at q
        rcases List.mem_cons.mp q with z | z
        · rw [z] at w
          dsimp only at w
          omega
        · rcases List.mem_append.mp z with z | z
          · have := Tr.sub_in o3 p z
            omega
          · exact z
    obtain ⟨k1, k2⟩ := key a5 a6 b5 b6 fun p => (e p).mp
    obtain ⟨k3, k4⟩ := key b5 b6 a5 a6 fun p => (e p).mpr
    rw [Tr.uniq a5 b5 fun p => ⟨k1 p, k3 p⟩, Tr.uniq a6 b6 fun p => ⟨k2 p, k4 p⟩]
theorem Tr.uniq_inn {J : Int → Int → Bool} {t u : Tr} {i j : Int} (h : t.ok J i j) (h' : u.ok J i j) (e : ∀ p, p ∈ t.inn i j ↔ p ∈ u.inn i j) : t = u := by
  refine Tr.uniq h h' fun p => ?_
  cases t with
  | leaf =>
    cases u with
    | leaf => exact Iff.rfl
    | node k l r =>
      obtain ⟨b1, b2, _⟩ := h'
      unfold Tr.ok at h
      omega
  | node k l r =>
    cases u with
    | leaf =>
      obtain ⟨b1, b2, _⟩ := h
      unfold Tr.ok at h'
      omega
    | node k' l' r' =>
      have e' := e p
      unfold Tr.inn at e'
      unfold Tr.sub
      rw [List.mem_cons, List.mem_cons, e']
theorem allCuts_nd {r : List P2} (h : Room r) : (allCuts r).Nodup := by
  have n3 := h.lo
  have n12 := h.hi
  rw [allCuts_eq]
  refine List.pairwise_map.mpr (List.Pairwise.imp_of_mem (fun {t u} ht hu hne e => hne ?_) (trees_nd 12 0 ((r.length : Int) - 1)))
  refine Tr.uniq_inn ((mem_trees (by omega) (by omega)).mp ht) ((mem_trees (by omega) (by omega)).mp hu) fun p => ?_
  rw [← mem_sortP, e, mem_sortP]
theorem allCuts_wy {r : List P2} (h : Room r) : ((allCuts r).length : Int) = wy (jnB r) 0 ((r.length : Int) - 1) := by
  have n3 := h.lo
  have n12 := h.hi
  rw [allCuts_eq, List.length_map]
  exact trees_wy 12 0 _ (by omega) (by omega) (.inr jn_all)
end MT

set_option Elab.async false
set_option linter.all false
set_option maxRecDepth 100000
set_option maxHeartbeats 4000000
/-! The law's rows of lines, one by one. -/
namespace MT
open DL
def okR (w : Int) (x : P2) (row : List P2) : Bool := decide ((row.length : Int) < w) && decide (((row.filter fun one => crossB one x).length : Int) = 0)
def addR (w : Int) (F : List (List P2)) (x : P2) : List (List P2) := (F.filter (okR w x)).map fun row => row ++ [x]
def stR (w : Int) (F : List (List P2)) (x : P2) : List (List P2) := F ++ addR w F x
def laF (w : Int) (L : List P2) : List (List P2) := L.foldl (stR w) [[]]
theorem laF_take {w : Int} {L : List P2} {t : Nat} {x : P2} (h : L[t]? = some x) : laF w (L.take (t + 1)) = stR w (laF w (L.take t)) x := by
  unfold laF
  rw [List.take_add_one, h, List.foldl_append]
  rfl
/-- what the rows are -/
structure Ch (w : Int) (pre : List P2) (F : List (List P2)) : Prop where
  mem : ∀ row, row ∈ F ↔ row.Sublist pre ∧ (row.length : Int) ≤ w ∧ row.Pairwise fun p q => ¬ Tr.Crs p q
  nd : F.Nodup
theorem okR_iff {w : Int} {x : P2} {row : List P2} : okR w x row = true ↔ (row.length : Int) < w ∧ ∀ p ∈ row, ¬ Tr.Crs p x := by
  unfold okR
  rw [Bool.and_eq_true, decide_eq_true_eq, decide_eq_true_eq]
  refine and_congr_right fun _ => ?_
  constructor
  · intro h p hp z
    have : p ∈ row.filter fun one => crossB one x := List.mem_filter.mpr ⟨hp, crossB_iff.mpr z⟩
    have := List.length_pos_of_mem this
    omega
  · intro h
    rw [List.filter_eq_nil_iff.mpr fun p hp z => h p hp (crossB_iff.mp z)]
    rfl
theorem Ch.step {w : Int} {pre : List P2} {F : List (List P2)} {x : P2} (h : Ch w pre F) (hx : x ∉ pre) : Ch w (pre ++ [x]) (stR w F x) := by
  refine ⟨fun row => ?_, ?_⟩
  · unfold stR addR
    rw [List.mem_append, h.mem]
    constructor
    · rintro (⟨a, b, c⟩ | hm)
      · exact ⟨a.trans (List.sublist_append_left _ _), b, c⟩
      · obtain ⟨r, hr, rfl⟩ := List.mem_map.mp hm
        obtain ⟨hr, ok⟩ := List.mem_filter.mp hr
        obtain ⟨a, b, c⟩ := (h.mem r).mp hr
        obtain ⟨o1, o2⟩ := okR_iff.mp ok
        refine ⟨a.append (List.Sublist.refl _), ?_, List.pairwise_append.mpr ⟨c, List.pairwise_singleton _ _, fun p hp q hq => ?_⟩⟩
        · rw [List.length_append, List.length_singleton]
          omega
        · rw [List.mem_singleton] at hq
          rw [hq]
          exact o2 p hp
    · rintro ⟨a, b, c⟩
      obtain ⟨l1, l2, rfl, s1, s2⟩ := List.sublist_append_iff.mp a
      have : l2 = [] ∨ l2 = [x] := by
        cases s2 with
        | cons _ z => cases z; exact .inl rfl
        | cons_cons _ z => cases z; exact .inr rfl
      rcases this with rfl | rfl
      · rw [List.append_nil] at b c ⊢
        exact .inl ⟨s1, b, c⟩
      · obtain ⟨c1, _, c3⟩ := List.pairwise_append.mp c
        rw [List.length_append, List.length_singleton] at b
        refine .inr (List.mem_map.mpr ⟨l1, List.mem_filter.mpr ⟨(h.mem l1).mpr ⟨s1, by omega, c1⟩, okR_iff.mpr ⟨by omega, fun p hp => c3 p hp x (by simp)⟩⟩, rfl⟩)
  · unfold stR addR
    refine List.nodup_append.mpr ⟨h.nd, List.pairwise_map.mpr ((h.nd.filter _).imp fun {a b} hne z => hne (List.append_cancel_right z)), fun a ha b hb e => ?_⟩
    subst e
    obtain ⟨r, _, rfl⟩ := List.mem_map.mp hb
    have := ((h.mem _).mp ha).1
    exact hx (this.subset (by simp))
theorem Ch.nil {w : Int} (h : 0 ≤ w) : Ch w [] (laF w []) := by
  refine ⟨fun row => ?_, List.pairwise_singleton _ _⟩
  show row ∈ [[]] ↔ _
  rw [List.mem_singleton, List.sublist_nil]
  constructor
  · rintro rfl
    exact ⟨rfl, h, List.Pairwise.nil⟩
  · exact fun z => z.1
theorem ch_take {w : Int} {L : List P2} (h : 0 ≤ w) (nd : L.Nodup) : ∀ t, t ≤ L.length → Ch w (L.take t) (laF w (L.take t))
  | 0, _ => Ch.nil h
  | t + 1, ht => by
    have e := List.getElem?_eq_getElem (l := L) (i := t) (by omega)
    rw [laF_take e]
    have ih := ch_take h nd t (by omega)
    have hx : L[t] ∉ L.take t := fun z => by
      have q : (L.take t ++ [L[t]]).Nodup := by
        have := List.take_append_getElem (l := L) (i := t) (by omega)
        rw [this]
        exact nd.sublist (List.take_sublist _ _)
      exact (List.nodup_append.mp q).2.2 _ z _ (by simp) rfl
    have q := ih.step hx
    have e2 := List.take_append_getElem (l := L) (i := t) (by omega)
    rw [e2] at q
    exact q
/-! ### how many -/
def bd : Nat → Nat → Nat
  | 0, _ => 1
  | t + 1, 0 => bd t 0
  | t + 1, v + 1 => bd t (v + 1) + bd t v
def fewR (v : Nat) (F : List (List P2)) : Nat := (F.filter fun row => decide (row.length ≤ v)).length
theorem few_step (w : Int) (F : List (List P2)) (x : P2) : fewR 0 (stR w F x) = fewR 0 F ∧ ∀ v, fewR (v + 1) (stR w F x) ≤ fewR (v + 1) F + fewR v F := by
  unfold fewR stR addR
  constructor
  · rw [List.filter_append, List.filter_map, List.length_append, List.length_map]
    have e : (F.filter (okR w x)).filter ((fun row : List P2 => decide (row.length ≤ 0)) ∘ fun row => row ++ [x]) = [] := List.filter_eq_nil_iff.mpr fun a ha => by
      simp [Function.comp]
    rw [e]
    rfl
  · intro v
    rw [List.filter_append, List.filter_map, List.length_append, List.length_map]
    refine Nat.add_le_add_left ?_ _
    have e : ((fun row : List P2 => decide (row.length ≤ v + 1)) ∘ fun row => row ++ [x]) = fun row => decide (row.length ≤ v) := funext fun row => by
      simp [Function.comp]
    rw [e]
    exact (List.Sublist.filter _ List.filter_sublist).length_le
theorem few_bd (w : Int) (L : List P2) : ∀ t v, t ≤ L.length → fewR v (laF w (L.take t)) ≤ bd t v
  | 0, v, _ => by
    show ([[]].filter fun row : List P2 => decide (row.length ≤ v)).length ≤ 1
    exact List.length_filter_le _ _
  | t + 1, v, ht => by
    rw [laF_take (List.getElem?_eq_getElem (by omega))]
    have q := few_step w (laF w (L.take t)) L[t]
    cases v with
    | zero =>
      rw [q.1]
      exact few_bd w L t 0 (by omega)
    | succ v =>
      have a := few_bd w L t (v + 1) (by omega)
      have b := few_bd w L t v (by omega)
      have := q.2 v
      show _ ≤ bd t (v + 1) + bd t v
      omega
theorem bd_sz : ∀ t ≤ 20, ∀ v ≤ 5, bd t v ≤ 21700 := by decide +kernel
theorem laF_len {w : Int} {L : List P2} (h : 0 ≤ w) (h5 : w ≤ 5) (nd : L.Nodup) (h20 : L.length ≤ 20) {t : Nat} (ht : t ≤ L.length) : (laF w (L.take t)).length ≤ 21700 := by
  have C := ch_take h nd t ht
  have e : (laF w (L.take t)).filter (fun row => decide (row.length ≤ w.toNat)) = laF w (L.take t) := by
    refine List.filter_eq_self.mpr fun row hr => ?_
    have := ((C.mem row).mp hr).2.1
    exact decide_eq_true (by omega)
  have q := few_bd w L t w.toNat ht
  unfold fewR at q
  rw [e] at q
  exact Nat.le_trans q (bd_sz t (by omega) w.toNat (by omega))
theorem row_len {w : Int} {L : List P2} (h : 0 ≤ w) (nd : L.Nodup) {t : Nat} (ht : t ≤ L.length) {row : List P2} (hr : row ∈ laF w (L.take t)) : (row.length : Int) ≤ w := (((ch_take h nd t ht).mem row).mp hr).2.1
def lawAll (L : List P2) (w : Int) : List (List P2) := sortR ((laF w L).filter fun row => decide ((row.length : Int) = w))
/-! ### the lines -/
theorem put_keys {kd : KD} {p : P2} {x : PySem.PyData} (h : (kd.map (·.1)).Nodup) : ((putD kd p x).map (·.1)).Nodup := by
  unfold putD
  split
  · rw [List.map_map]
    have e : (kd.map ((·.1) ∘ fun e : P2 × PySem.PyData => if e.1 = p then (e.1, x) else e)) = kd.map (·.1) := List.map_congr_left fun e _ => by
      simp only [Function.comp]
      split <;> rfl
    rw [e]
    exact h
  · next c =>
    rw [List.map_append]
    refine List.nodup_append.mpr ⟨h, List.pairwise_singleton _ _, fun a ha b hb e => c ?_⟩
    obtain ⟨u, hu, rfl⟩ := List.mem_map.mp ha
    have hb : b = p := by simpa using hb
    exact List.any_eq_true.mpr ⟨u, hu, decide_eq_true (e.trans hb)⟩
theorem put_mem {kd : KD} {p q : P2} {x : PySem.PyData} (h : q ∈ (putD kd p x).map (·.1)) : q ∈ kd.map (·.1) ∨ q = p := by
  unfold putD at h
  split at h
  · rw [List.map_map] at h
    obtain ⟨u, hu, e⟩ := List.mem_map.mp h
    refine .inl (List.mem_map.mpr ⟨u, hu, ?_⟩)
    rw [← e]
    simp only [Function.comp]
    split <;> rfl
  · rw [List.map_append] at h
    rcases List.mem_append.mp h with h | h
    · exact .inl h
    · exact .inr (by simpa using h)
theorem jdI_keys {J : Int → Int → Bool} {o : Nat} {kd : KD} (nd : (kd.map (·.1)).Nodup) (hk : ∀ p ∈ kd.map (·.1), 0 ≤ p.1 ∧ p.1 < p.2 ∧ p.2 < (o : Int) + 1) : ∀ i, i ≤ o → ((jdI J o kd i).map (·.1)).Nodup ∧ ∀ p ∈ (jdI J o kd i).map (·.1), 0 ≤ p.1 ∧ p.1 < p.2 ∧ p.2 < (o : Int) + 1
  | 0, _ => ⟨nd, hk⟩
  | i + 1, hi => by
    obtain ⟨a, b⟩ := jdI_keys (J := J) nd hk i (by omega)
    refine ⟨put_keys a, fun p hp => ?_⟩
    rcases put_mem hp with hp | rfl
    · exact b p hp
    · dsimp only
      omega
theorem jdO_keys {J : Int → Int → Bool} : ∀ n, ((jdO J n).map (·.1)).Nodup ∧ ∀ p ∈ (jdO J n).map (·.1), 0 ≤ p.1 ∧ p.1 < p.2 ∧ p.2 < (n : Int)
  | 0 => ⟨List.nodup_nil, fun p hp => by cases hp⟩
  | n + 1 => by
    obtain ⟨a, b⟩ := jdO_keys (J := J) n
    have := jdI_keys (J := J) (o := n) a (fun p hp => by have := b p hp; omega) n (Nat.le_refl _)
    exact ⟨this.1, fun p hp => by have := this.2 p hp; omega⟩
theorem valD_key {kd : KD} {p : P2} {x : PySem.PyData} (h : valD kd p = some x) : p ∈ kd.map (·.1) := by
  unfold valD at h
  obtain ⟨e, he, _⟩ := Option.map_eq_some_iff.mp h
  have := List.find?_some he
  exact List.mem_map.mpr ⟨e, List.mem_of_find?_eq_some he, of_decide_eq_true this⟩
theorem mem_jdO {J : Int → Int → Bool} {n : Nat} {p : P2} : p ∈ (jdO J n).map (·.1) ↔ 0 ≤ p.1 ∧ p.1 < p.2 ∧ p.2 < (n : Int) :=
  ⟨(jdO_keys n).2 p, fun h => valD_key (jdO_val (J := J) n p.1 p.2 h.1 h.2.1 h.2.2)⟩
def lnB (r : List P2) (p : P2) : Bool := lJn r p.1 p.2 && !decide (p.2 - p.1 ∈ [1, len r - 1])
def lawLns (r : List P2) : List P2 := sortP (((jdO (lJn r) r.length).map (·.1)).filter (lnB r))
theorem lawLns_up (r : List P2) : Rising (lawLns r) := rising_sort ((jdO_keys r.length).1.filter _)
theorem lawLns_nd (r : List P2) : (lawLns r).Nodup := (sortP_perm _).nodup_iff.mpr ((jdO_keys r.length).1.filter _)
theorem mem_lns {r : List P2} (h : Room r) {p : P2} : p ∈ lawLns r ↔ 0 ≤ p.1 ∧ p.2 < r.length ∧ lineBy r p.1 p.2 = true := by
  have n3 := h.lo
  unfold lawLns
  rw [mem_sortP, List.mem_filter, mem_jdO]
  unfold lnB lJn
  rw [lLine_eq n3]
  constructor
  · rintro ⟨⟨a, b, c⟩, d⟩
    rw [Bool.and_eq_true, Bool.not_eq_true'] at d
    obtain ⟨d1, d2⟩ := d
    rw [d2, Bool.false_or] at d1
    refine ⟨a, c, ?_⟩
    unfold isLine at d1
    split at d1
    · cases d1
    · exact d1
  · rintro ⟨a, b, c⟩
    have lt : p.1 < p.2 ∧ ¬ p.2 - p.1 ∈ [1, len r - 1] := by
      unfold lineBy at c
      split at c
      · cases c
      · next g =>
        simp only [Bool.or_eq_true, decide_eq_true_eq, not_or] at g
        obtain ⟨g1, g2, g3⟩ := g
        unfold len at *
        have h1 : p.1 < p.2 := by omega
        rw [nx_of ⟨a, by omega⟩] at g2
        rw [nx_of ⟨by omega, b⟩] at g3
        refine ⟨h1, ?_⟩
        simp only [List.mem_cons, List.not_mem_nil, or_false]
        split at g2 <;> split at g3 <;> omega
    refine ⟨⟨a, lt.1, b⟩, ?_⟩
    have e : isLine r p.1 p.2 = true := by
      unfold isLine
      rw [if_neg]
      · exact c
      · simp only [Bool.or_eq_true, decide_eq_true_eq]
        unfold len
        omega
    rw [e, decide_eq_false lt.2]
    rfl
theorem nd_len {α : Type} [BEq α] [LawfulBEq α] : ∀ {l m : List α}, l.Nodup → (∀ x ∈ l, x ∈ m) → l.length ≤ m.length
  | [], m, _, _ => Nat.zero_le _
  | x :: l, m, h, s => by
    obtain ⟨h1, h2⟩ := List.nodup_cons.mp h
    have hx := s x List.mem_cons_self
    have ih := nd_len (l := l) (m := m.erase x) h2 fun y hy => (List.mem_erase_of_ne fun e => h1 (by rw [← e]; exact hy)).mpr (s y (List.mem_cons_of_mem _ hy))
    have := List.length_erase_of_mem hx
    have := List.length_pos_of_mem hx
    rw [List.length_cons]
    omega
def dgs (n : Nat) : List P2 := ((List.range n).flatMap fun (o : Nat) => (List.range n).map fun (i : Nat) => ((i : Int), (o : Int))).filter fun p => decide (p.1 < p.2) && !decide (p.2 - p.1 ∈ [1, (n : Int) - 1])
theorem dgs_len : ∀ n ≤ 8, (dgs n).length ≤ 20 := by decide +kernel
theorem lns_len {r : List P2} (h : Room r) (h8 : r.length ≤ 8) : (lawLns r).length ≤ 20 := by
  refine Nat.le_trans (nd_len (m := dgs r.length) (lawLns_nd r) fun p hp => ?_) (dgs_len _ h8)
  unfold lawLns at hp
  rw [mem_sortP, List.mem_filter, mem_jdO] at hp
  obtain ⟨⟨a, b, c⟩, d⟩ := hp
  unfold lnB at d
  rw [Bool.and_eq_true] at d
  unfold dgs
  rw [List.mem_filter, List.mem_flatMap]
  refine ⟨⟨p.2.toNat, List.mem_range.mpr (by omega), List.mem_map.mpr ⟨p.1.toNat, List.mem_range.mpr (by omega), Prod.ext (by dsimp only; omega) (by dsimp only; omega)⟩⟩, ?_⟩
  rw [decide_eq_true b, Bool.true_and]
  exact d.2
/-! ### the same cuts -/
theorem rise_sub : ∀ {L l : List P2}, Rising l → Rising L → (∀ x ∈ l, x ∈ L) → l.Sublist L
  | L, [], _, _, _ => List.nil_sublist _
  | [], x :: l, _, _, h => by cases h x List.mem_cons_self
  | y :: L, x :: l, h1, h2, h => by
    obtain ⟨a1, a2⟩ := List.pairwise_cons.mp h1
    obtain ⟨b1, b2⟩ := List.pairwise_cons.mp h2
    by_cases c : x = y
    · subst c
      refine (rise_sub a2 b2 fun z hz => ?_).cons_cons _
      rcases List.mem_cons.mp (h z (List.mem_cons_of_mem _ hz)) with e | e
      · have := a1 z hz
        rw [e, ltP2_irr] at this
        cases this
      · exact e
    · refine List.Sublist.cons _ (rise_sub h1 b2 fun z hz => ?_)
      have hx : x ∈ L := (List.mem_cons.mp (h x List.mem_cons_self)).resolve_left c
      have hyx := b1 x hx
      rcases List.mem_cons.mp (h z hz) with e | e
      · subst e
        rcases List.mem_cons.mp hz with e | hz
        · exact absurd e.symm c
        · have := ltP2_asym (a1 z hz)
          rw [hyx] at this
          cases this
      · exact e
theorem crs_sym {p q : P2} (h : Tr.Crs p q) : Tr.Crs q p := by
  unfold Tr.Crs at *
  omega
theorem crs_irr {p : P2} : ¬ Tr.Crs p p := by
  unfold Tr.Crs
  omega
theorem nc_all : ∀ {l : List P2}, (l.Pairwise fun p q => ¬ Tr.Crs p q) → ∀ p ∈ l, ∀ q ∈ l, ¬ Tr.Crs p q
  | [], _, p, hp, _, _ => by cases hp
  | x :: l, h, p, hp, q, hq => by
    obtain ⟨h1, h2⟩ := List.pairwise_cons.mp h
    rcases List.mem_cons.mp hp with e | hp'
    · rcases List.mem_cons.mp hq with e2 | hq'
      · rw [e, e2]; exact crs_irr
      · rw [e]; exact h1 q hq'
    · rcases List.mem_cons.mp hq with e2 | hq'
      · rw [e2]; exact fun z => h1 p hp' (crs_sym z)
      · exact nc_all h2 p hp' q hq'
theorem nc_pair : ∀ {l : List P2}, (∀ p ∈ l, ∀ q ∈ l, ¬ Tr.Crs p q) → l.Pairwise fun p q => ¬ Tr.Crs p q
  | [], _ => List.Pairwise.nil
  | x :: l, h => List.pairwise_cons.mpr ⟨fun q hq => h x List.mem_cons_self q (List.mem_cons_of_mem _ hq), nc_pair fun p hp q hq => h p (List.mem_cons_of_mem _ hp) q (List.mem_cons_of_mem _ hq)⟩
theorem mem_law {r : List P2} (h : Room r) {ls : List P2} : ls ∈ (laF ((r.length : Int) - 3) (lawLns r)).filter (fun row => decide ((row.length : Int) = (r.length : Int) - 3)) ↔ CutP r ls := by
  have n3 := h.lo
  have C := ch_take (w := (r.length : Int) - 3) (L := lawLns r) (by omega) (lawLns_nd r) (lawLns r).length (Nat.le_refl _)
  rw [List.take_length] at C
  rw [List.mem_filter, C.mem, decide_eq_true_eq]
  constructor
  · rintro ⟨⟨a, b, c⟩, d⟩
    exact ⟨by omega, fun p hp => (mem_lns h).mp (a.subset hp), (lawLns_up r).sublist a, nc_all c⟩
  · intro C
    have := C.ln
    exact ⟨⟨rise_sub C.up (lawLns_up r) fun p hp => (mem_lns h).mpr (C.line p hp), by omega, nc_pair C.nc⟩, by omega⟩
theorem all_law {r : List P2} (h : Room r) : sortR (allCuts r) = lawAll (lawLns r) ((r.length : Int) - 3) := by
  have n3 := h.lo
  have C := ch_take (w := (r.length : Int) - 3) (L := lawLns r) (by omega) (lawLns_nd r) (lawLns r).length (Nat.le_refl _)
  rw [List.take_length] at C
  refine sortR_uniq ((List.perm_ext_iff_of_nodup (allCuts_nd h) (C.nd.filter _)).mpr fun ls => ?_)
  rw [mem_allCuts h, mem_law h]
theorem all_len {r : List P2} (h : Room r) : wy (jnB r) 0 ((r.length : Int) - 1) = ((lawAll (lawLns r) ((r.length : Int) - 3)).length : Int) := by
  rw [← all_law h, sortR_len, allCuts_wy h]
theorem all_pos {r : List P2} (h : Room r) : 0 < (sortR (allCuts r)).length := by
  rw [sortR_len]
  exact List.length_pos_of_mem ((mem_allCuts h).mpr (pCut_ok h))
theorem all_sz {r : List P2} (h : Room r) (h8 : r.length ≤ 8) : (allCuts r).length ≤ 46656 := by
  have n3 := h.lo
  unfold allCuts
  rw [List.length_map]
  exact af_len (by omega) (by omega) (by omega)
end MT

set_option Elab.async false
set_option linter.all false
set_option maxRecDepth 100000
set_option maxHeartbeats 4000000
/-! All cuts listed: the loops. -/
namespace MT
open DL
theorem take_fm {α β : Type} {l : List α} {f : α → List β} {i : Nat} {x : α} (h : l[i]? = some x) : (l.take (i + 1)).flatMap f = (l.take i).flatMap f ++ f x := by
  rw [List.take_add_one, h]
  simp
theorem take_fm_len {α β : Type} {l : List α} {f : α → List β} {i : Nat} {x : α} (h : l[i]? = some x) : ((l.take i).flatMap f).length + (f x).length ≤ (l.flatMap f).length := by
  have e := take_fm (f := f) h
  have e2 : l.flatMap f = (l.take (i + 1)).flatMap f ++ (l.drop (i + 1)).flatMap f := by
    rw [← List.flatMap_append, List.take_append_drop]
  rw [e2, e, List.length_append, List.length_append]
  omega
theorem take_mp {α β : Type} {l : List α} {f : α → β} {i : Nat} {x : α} (h : l[i]? = some x) : (l.take (i + 1)).map f = (l.take i).map f ++ [f x] := by
  rw [List.take_add_one, h]
  simp
theorem snoc_map {α β γ : Type} {A : List β} {l : List α} {f : α → β} {g : β → γ} {i : Nat} {x : α} (h : l[i]? = some x) : (A ++ (l.take (i + 1)).map f).map g = (A ++ (l.take i).map f).map g ++ [g (f x)] := by
  rw [take_mp h, ← List.append_assoc, List.map_append (l₁ := A ++ (l.take i).map f)]
  rfl
theorem snoc_fm {α β γ : Type} {A : List β} {l : List α} {f : α → List β} {g : β → γ} {i : Nat} {x : α} (h : l[i]? = some x) : (A ++ (l.take (i + 1)).flatMap f).map g = (A ++ (l.take i).flatMap f ++ f x).map g := by
  rw [take_fm h, List.append_assoc]
def rowA (J : Int → Int → Bool) (last : Int) (f : Nat) (k j : Int) (h a : List P2) : List (List P2) := (af J last f k j).map fun b => h ++ a ++ b
def rowK (J : Int → Int → Bool) (last : Int) (f : Nat) (i j : Int) (h : List P2) (k : Int) : List (List P2) := (af J last f i k).flatMap (rowA J last f k j h)
def hereP (last i j : Int) : List P2 := if j - i < last then [(i, j)] else []
theorem af_node {J : Int → Int → Bool} {last : Int} {f : Nat} {i j : Int} (h : ¬ j = i + 1) : af J last (f + 1) i j = (btw J i j).flatMap (rowK J last f i j (hereP last i j)) := by
  rw [af, if_neg h]
  rfl
theorem af_leaf {J : Int → Int → Bool} {last : Int} {f : Nat} {i j : Int} (h : j = i + 1) : af J last (f + 1) i j = [[]] := by
  rw [af, if_pos h]
/-- one more is still few -/
theorem af_room {J : Int → Int → Bool} {last : Int} {f : Nat} {i j k : Int} {t u v : Nat} {a b : List P2} (h : ¬ j = i + 1) (hij : i < j) (hl : j - i ≤ last) (h7 : last ≤ 7) (ht : (btw J i j)[t]? = some k) (hu : (af J last f i k)[u]? = some a) (hv : (af J last f k j)[v]? = some b) :
    (((btw J i j).take t).flatMap (rowK J last f i j (hereP last i j))).length + (((af J last f i k).take u).flatMap (rowA J last f k j (hereP last i j))).length + v < 50000 := by
  have h0 := af_len (J := J) (f := f + 1) hij hl h7
  rw [af_node h] at h0
  have h1 := take_fm_len (f := rowK J last f i j (hereP last i j)) ht
  have h2 := take_fm_len (f := rowA J last f k j (hereP last i j)) hu
  have h3 : (rowA J last f k j (hereP last i j) a).length = (af J last f k j).length := by unfold rowA; rw [List.length_map]
  have h4 : (rowK J last f i j (hereP last i j) k).length = ((af J last f i k).flatMap (rowA J last f k j (hereP last i j))).length := rfl
  have h5 := (List.getElem?_eq_some_iff.mp hv).1
  omega
theorem af_rows {J : Int → Int → Bool} {last : Int} {f : Nat} {i j : Int} (h : j - i ≤ last) (hij : i < j) (hf : j - i ≤ f) (h7 : last ≤ 7) {row : List P2} (hr : row ∈ af J last f i j) : row.length ≤ 7 := by
  rw [af_trees f i j h] at hr
  obtain ⟨t, ht, rfl⟩ := List.mem_map.mp hr
  have ok := (mem_trees hf hij).mp ht
  have e := Tr.ok_nodes ok
  have e2 := Tr.sub_len t i j
  have e3 : (t.inn i j).length ≤ (t.sub i j).length := by
    cases t with
    | leaf => exact Nat.le_refl _
    | node k l r => exact Nat.le_succ _
  unfold Tr.out
  split <;> omega
theorem here_len {last i j : Int} : (hereP last i j).length ≤ 1 := by
  unfold hereP
  split <;> simp
def room13 (ns : List Int) : List P2 := if decide (cell ns 20 % 5 = 1) = true then lawRoom ns 0 8 else lawRoom ns 0 7
theorem room13_ok (ns : List Int) : Room (room13 ns) ∧ (room13 ns).length ≤ 8 := by
  unfold room13
  split
  · refine ⟨lawRoom_room (by decide) (by decide), ?_⟩
    rw [lawRoom_len (by decide) (by decide)]
    have := rmA_len (ns := ns) (k := 0) (most := 8) (by decide) (by decide)
    omega
  · refine ⟨lawRoom_room (by decide) (by decide), ?_⟩
    rw [lawRoom_len (by decide) (by decide)]
    have := rmA_len (ns := ns) (k := 0) (most := 7) (by decide) (by decide)
    omega
theorem all_split {r : List P2} (h : Room r) : ∃ r0 rest, sortR (allCuts r) = r0 :: rest := by
  have := all_pos h
  cases e : sortR (allCuts r) with
  | nil => rw [e] at this; cases this
  | cons a l => exact ⟨a, l, rfl⟩
theorem all_nd {r : List P2} (h : Room r) : (sortR (allCuts r)).Nodup := (sortR_perm _).nodup_iff.mpr (allCuts_nd h)
theorem all_rows {r ls : List P2} (h : Room r) (hm : ls ∈ sortR (allCuts r)) : ls.length ≤ 12 := by
  have C := (mem_allCuts h).mp (mem_sortR.mp hm)
  have := C.ln
  have := h.hi
  omega
end MT

set_option Elab.async false
set_option linter.all false
set_option maxRecDepth 100000
set_option maxHeartbeats 4000000
/-! The sum of a tuple; a pair of a thing and a new list handed back. -/
namespace DL
open PySem PySem.Spec PyProof.Rows L2
section
variable {prog : Program} {w : World} {A : Around} {E : Value → Shared → Prop} {s : Shared} {l : Addr} {xs : Array (Int × Tok)}
theorem sum_tupG {Q : Value → Shared → Prop} (hh : A.handled = none) (hl : s.heap.IsTuple l (intItems xs))
    (h : ∀ h' tk t', (∀ b o, s.heap.get? b = some o → h'.get? b = some o) → Q (.int (preSum (numAt xs) xs.size) t') { s with heap := h', toks := tk }) :
    wpAny (model prog w) A (call (.builtin "sum") [.ref l]) Q E s := by
  have hlt : l < s.heap.objs.size := by obtain ⟨_, e, _⟩ := hl; exact Heap.lt_size e
  refine call_sum_walkG (wpAny_pyIter_tuple hl ?_)
  refine ⟨_, [s.heap.objs.size, l], [s.heap.objs.size], _, _, _, numAt xs, rfl, Walks.tuple (A := A.in1) hh s.heap.objs.size l (Nat.ne_of_lt hlt) (intItems xs), ⟨⟨_, Heap.get?_push_size _ rfl, rfl, rfl⟩, hl.push _⟩, fun b hb => ?_, (fun _ _ => intItems_at), fun h' tk t' hk => ?_⟩
  · show b < (s.heap.push _).objs.size
    rw [Heap.size_push]
    rcases List.mem_cons.mp hb with rfl | hb
    · exact Nat.lt_succ_self _
    · rcases List.mem_cons.mp hb with rfl | hb
      · exact Nat.lt_succ_of_lt hlt
      · cases hb
  · have := h h' tk t' fun b o e => hk b o (fun hm => by
      rcases List.mem_cons.mp hm with e1 | hm
      · have := Heap.lt_size e
        rw [e1] at this
        exact Nat.lt_irrefl _ this
      · cases hm) (Heap.get?_push_of_some _ e)
    simpa [intItems] using this
theorem sum_rawT {its : List Value} {ns : List Int} {Q : Value → Shared → Prop} (hh : A.handled = none) (hl : s.heap.IsTuple l its.toArray) (hi : IntsAre its ns)
    (h : ∀ h' tk t', (∀ b o, s.heap.get? b = some o → h'.get? b = some o) → Q (.int ns.sum t') { s with heap := h', toks := tk }) : wpAny (model prog w) A (call (.builtin "sum") [.ref l]) Q E s := by
  obtain ⟨xs, e⟩ := hi.allInts.items
  have hn : numsOf (intItems xs).toList = ns := by rw [← e]; exact hi.numsOf
  rw [nums_intItems] at hn
  rw [e] at hl
  refine sum_tupG hh hl fun h' tk t' hk => ?_
  have := h h' tk t' hk
  rw [preSum_eq, List.take_of_length_le (by simp), hn]; exact this
end
def rSumT (K : PySem.W.Frag) : List V → Hp → VK → Prop := fun vs H Q => ∃ (a : Addr) (ns : List Int), vs = [V.ref a] ∧ SqT K H a (ns.map V.int) ∧ Q (.int ns.sum) H
section
variable {X : Cx} {E : L2.WX} {G : Gs} {D : DE} {st : Stmt} {a b c e i tg iter : Expr} {es : List Expr} {pos : Pos} {x y u : PyData} {ds xs : List PyData} {m n : Int} {p q : Bool} {z w : Str}
theorem cr_sumT (hc : X.calm = true) : CallR X (.builtin "sum") (rSumT X.K) := by
  intro pins s σ H vs us Q I r h
  obtain ⟨a, ns, rfl, hs, q⟩ := h
  obtain ⟨its, rv, hl, _⟩ := I.tuple hs
  rw [Vals.ref1 r]
  exact sum_rawT (I.ok.hd hc) hl rv.ints fun h' tk t' hk => ⟨.int _, H, I.kept hk, ⟨_, rfl⟩, q⟩
theorem ed_sumT {q1 : Pos} {ns : List Int} (hm : X.mg "sum" = none) (ha : ED X G e (.tuple (ns.map PyData.int))) (hc : X.calm = true := by rfl) (hg : Gl X "sum" := by rfl) (he : starEach [e] X.env = (false, eval e X.env) :: starEach [] X.env := by rfl) (hpl : (backTo pos (starEach [] X.env)).any (·.1) = false := by rfl) : ED X G (.Call (.Name "sum" q1) [e] [] pos) (.int ns.sum) :=
  ed_callB (cr_sumT hc) hm (ea_cons ha ea_nil he) (fun vs S H sh r Q q => by
    obtain ⟨v, rfl, r1⟩ := rpa1 r
    cases r1 with
    | tup h1 r1 => exact ⟨_, ns, rfl, by rw [r1.ints] at h1; exact SqT.of (sh _ _ h1), q _ S H (Gr.refl sh) (.int _)⟩) hg (by decide +kernel) (by decide) (by decide) he hpl
/-- return x, l -/
theorem sd_ret2 {kt} {pt q1 : Pos} {l : Addr} {ce : List (Option Sv)} {post : List (Addr × Ow)} (k : Nat) (pre : List (Addr × Ow)) (h : ED X { c := ce, o := pre ++ (l, .lst ds) :: post } e x) (hk : ce[k]? = some (some (.v (.ref l)))) (hr : D.rt (.nw2 x ds)) (hN : X.N[k]? = some z := by rfl) (hv : Vis X.env.scope z := by first | exact Or.inl rfl | exact Or.inr (Or.inl rfl) | exact Or.inr (Or.inr rfl)) (hd : (z == ("__debug__" : Str)) = false := by decide)
    (hcd : (z == ("__classdict__" : Str)) = false := by decide) (hg : D.rg (.nw2 x ds) { c := ce, o := pre ++ (l, .lst ds) :: post } := by first | exact True.intro | assumption) (hs1 : starEach (e :: [.Name z q1]) X.env = (false, eval e X.env) :: starEach [.Name z q1] X.env := by rfl) (hs2 : starEach (.Name z q1 :: []) X.env = (false, eval (.Name z q1) X.env) :: starEach [] X.env := by rfl) :
    SD X E { c := ce, o := pre ++ (l, .lst ds) :: post } (.Return (some (.Tuple [e, .Name z q1] kt pt)) pos) D := ⟨fun S0 H0 _ σ S H g k' f =>
  wS_of (ps_ret (pe_tup (pa_cons pe_w (pa_cons (pv k hN hv hd hcd) pa_nil hs2) hs1))) (h σ S H k' _ fun v S1 H1 g1 r1 => by
    have k1 := k'.mono g1
    obtain ⟨s, h1, h2⟩ := k1.sl.get hk
    have h2' : s = some (.ref l) := h2
    refine ⟨.ref l, by rw [h1, h2'], small1000 (n := 2) (by decide) |> Nat.le_of_lt, fun p hp => ?_⟩
    have g2 : Gr S1 H1 (upd S1 p (.tup [v, .ref l])) (upd H1 p (.tup [v, .ref l])) := (Gr.refl k1.sh).lay hp
    have k2 := k1.mono g2
    obtain ⟨n1, vs, e3, r3⟩ := k2.ow (l, .lst ds) (by simp)
    exact ⟨_, .nw2 x ds, g.trans (g1.trans g2), ⟨p, l, vs, v, rfl, f (l, .lst ds) (by simp), n1, e3, r3, r1.mono g2.s, upd_same⟩, hr, σ, _, k2, f, hg⟩)⟩
/-- z, w = def(..), w a new list -/
theorem sd_un2 {px py pt q1 q2 : Pos} {kt} {f : Str} {cx : CXT} {lv : Nat} {R : Rl} (j k : Nat) (F : FD X.prog X.w X.K X.mg X.base cx f lv R) (hr : Room lv X.A) (hx0 : Passes cx X EF0) (ha : EA X G (e :: es) xs) (h : R xs (.nw2 x ds)) (hn : ∀ l, (∀ p ∈ G.o, p.1 ≠ l) → D.nx { c := (G.c.set j (some (.d x))).set k (some (.v (.ref l))), o := (l, .lst ds) :: G.o })
    (hg : Gl X f := by rfl) (hdb : (f == ("__debug__" : Str)) = false := by decide) (he : starEach (e :: es) X.env = (false, eval e X.env) :: starEach es X.env := by rfl) (hpl : (backTo q2 (starEach es X.env)).any (·.1) = false := by rfl)
    (hi : X.N[j]? = some z := by rfl) (hj : X.N[k]? = some w := by rfl) (hN : X.N.Nodup := by assumption) (hc : X.calm = true := by rfl)
    (hx : Loc X.env.scope z := by first | exact Or.inl rfl | exact Or.inr rfl) (hy : Loc X.env.scope w := by first | exact Or.inl rfl | exact Or.inr rfl) (fx : X.fn z = true ∨ X.env.scope.names.lookup z = some .local := by first | exact .inl rfl | exact .inr rfl | assumption) (fy : X.fn w = true ∨ X.env.scope.names.lookup w = some .local := by first | exact .inl rfl | exact .inr rfl | assumption)
    (hs : swapsWithSole [.Tuple [.Name z px, .Name w py] kt pt] (.Call (.Name f q1) (e :: es) [] q2) pos.line X.env = pure false := by rfl) (hw : swappedStores [.Tuple [.Name z px, .Name w py] kt pt] (.Call (.Name f q1) (e :: es) [] q2) X.env = pure none := by rfl) (h1 : (assignEach [.Tuple [.Name z px, .Name w py] kt pt] X.env).map (·.2) = [assign (.Tuple [.Name z px, .Name w py] kt pt) X.env] := by rfl) (hl : (assignEach [.Name z px, .Name w py] X.env).length = 2 := by rfl) (hst : (assignEach [.Name z px, .Name w py] X.env).findIdx? (·.1) = none := by rfl)
    (hs1 : (assignEach (.Name z px :: [.Name w py]) X.env).map (·.2) = assign (.Name z px) X.env :: (assignEach [.Name w py] X.env).map (·.2) := by rfl) (hs2 : (assignEach (.Name w py :: []) X.env).map (·.2) = assign (.Name w py) X.env :: (assignEach [] X.env).map (·.2) := by rfl) :
    SD X E G (.Assign [.Tuple [.Name z px, .Name w py] kt pt] (.Call (.Name f q1) (e :: es) [] q2) pos) D := ⟨fun S0 H0 _ σ S H g k' fo => by
  obtain ⟨fa, fd, ps, f1, f2, f3, f4⟩ := F.ex
  exact wS_of (ps_asg (pe_call f1 hr hg f2 f3 f4 .nil hx0 pa_w hdb he hpl) (pg_tup hc (pgs_cons (pg_name hN hi hx fx) (pgs_cons (pg_name hN hj hy fy) pgs_nil hs2) hs1) hl hst) hs hw h1) (ha σ S H k' _ fun vs S1 H1 g1 r1 => by
    refine ⟨S1, xs, _, g1.sh, by rw [List.append_nil]; exact r1, h, fun v S2 H2 g2 r2 => ?_, fun C z => by cases z⟩
    obtain ⟨t, l, ws, u, rfl, n1, n2, e1, e2, e3, e4⟩ := r2
    have gg := g1.trans g2
    have k1 := k'.mono gg
    have nl : H l = none := g1.h.free n1
    have ne : ∀ p ∈ G.o, p.1 ≠ l := fun p hp z => by
      obtain ⟨o, ho⟩ := (k'.ow p hp).2.there
      rw [z, nl] at ho
      cases ho
    refine ⟨t, [u, .ref l], rfl, SqT.of (g2.sh _ _ e4), rfl, u, [.ref l], rfl, .ref l, [], rfl, rfl, ?_⟩
    refine at_of (G := { c := (G.c.set j (some (.d x))).set k (some (.v (.ref l))), o := (l, .lst ds) :: G.o }) (g.trans gg) ⟨k1.sh, Sl.set (g := some (.v (.ref l))) rfl k (Sl.set (g := some (.d x)) ⟨u, rfl, e3⟩ j k1.sl), fun p hp => ?_, ?_⟩ (fun p hp => ?_) (hn l ne)
    · rcases List.mem_cons.mp hp with rfl | hp
      · exact ⟨n2, ws, e1, e2⟩
      · exact k1.ow p hp
    · refine List.nodup_cons.mpr ⟨fun hm => ?_, k1.nd⟩
      obtain ⟨p, hp, z⟩ := List.mem_map.mp hm
      exact ne p hp z
    · rcases List.mem_cons.mp hp with rfl | hp
      · exact g.h.free nl
      · exact fo p hp)⟩
def noneY : PyData → Bool
  | .none => true
  | _ => false
theorem cd_isN : CD X .Is x .none (noneY x) := ⟨_, op_isN, fun v u S H sh r1 r2 Q q' => by
  cases r2
  cases r1 <;> exact ⟨rfl, q'⟩⟩
theorem cd_notN : CD X .IsNot x .none (!noneY x) := ⟨_, op_notN, fun v u S H sh r1 r2 Q q' => by
  cases r2
  cases r1 <;> exact ⟨rfl, q'⟩⟩
/-- a word over an owned list, read as data -/
theorem ET.thaw {ce : List (Option Sv)} {post : List (Addr × Ow)} {l : Addr} {t : Bool} (k : Nat) (pre : List (Addr × Ow)) (h : ET X { c := ce.set k (some (.d (.list ds))), o := pre ++ post } e t) (hk : ce[k]? = some (some (.v (.ref l)))) : ET X { c := ce, o := pre ++ (l, .lst ds) :: post } e t := ⟨fun σ S H k' Q q => by
  obtain ⟨n1, vs, e1, r1⟩ := k'.ow (l, .lst ds) (by simp)
  obtain ⟨s, h1, h2⟩ := k'.sl.get hk
  have hs : s = some (.ref l) := h2
  have nl : ∀ p ∈ pre ++ post, p.1 ≠ l := fun p hp z => by
    have q := k'.nd
    simp only [List.map_append, List.map_cons] at q
    have q2 := List.nodup_append.mp q
    rcases List.mem_append.mp hp with hp | hp
    · exact q2.2.2 p.1 (List.mem_map_of_mem hp) l (by simp) z
    · have q3 := List.nodup_cons.mp q2.2.1
      exact q3.1 (by rw [← z]; exact List.mem_map_of_mem hp)
  have sub : ∀ p ∈ pre ++ post, p ∈ pre ++ (l, Ow.lst ds) :: post := fun p hp => by
    rcases List.mem_append.mp hp with hp | hp
    · exact List.mem_append_left _ hp
    · exact List.mem_append_right _ (List.mem_cons_of_mem _ hp)
  have kf : Ok X.K (upd S l (.lst vs)) H σ { c := ce.set k (some (.d (.list ds))), o := pre ++ post } := by
    refine ⟨fun b u q => ?_, ?_, fun p hp => ?_, ?_⟩
    · by_cases hb : b = l
      · subst hb
        rw [upd_same] at q
        rw [e1]
        exact q
      · rw [upd_ne hb] at q
        exact k'.sh b u q
    · have q := Sl.set (K := X.K) (S := upd S l (.lst vs)) (s := s) (g := some (.d (.list ds))) ⟨.ref l, hs, .lst upd_same (r1.mono (same_new n1 _))⟩ k (k'.sl.mono (same_new n1 (.lst vs)))
      have e2 : σ.set k s = σ := by
        obtain ⟨hl, hk2⟩ := List.getElem?_eq_some_iff.mp h1
        subst hk2
        exact List.set_getElem_self hl
      rw [e2] at q
      exact q
    · obtain ⟨q1, q2⟩ := k'.ow p (sub p hp)
      exact ⟨by rw [upd_ne (nl p hp)]; exact q1, q2.mono (same_new n1 _) (Same.refl H)⟩
    · have q := k'.nd
      simp only [List.map_append, List.map_cons] at q ⊢
      exact (List.nodup_cons.mp (List.perm_middle.nodup_iff.mp q)).2
  refine h σ (upd S l (.lst vs)) H kf Q fun S' H' g => q (fun b => if b = l then none else S' b) H' ⟨fun b u e => ?_, g.h, fun b u e => ?_, fun b u e m n => ?_⟩
  · have hb : b ≠ l := fun z => by rw [z, n1] at e; cases e
    show (if b = l then none else S' b) = _
    rw [if_neg hb]
    exact g.s b u (by rw [upd_ne hb]; exact e)
  · by_cases hb : b = l
    · rw [if_pos hb] at e
      cases e
    · rw [if_neg hb] at e
      exact g.sh b u e
  · show (if b = l then none else S' b) = _
    by_cases hb : b = l
    · rw [if_pos hb]
    · rw [if_neg hb]
      exact g.new b u e m (by rw [upd_ne hb]; exact n)⟩
end
end DL

set_option Elab.async false
set_option linter.all false
set_option maxRecDepth 100000
set_option maxHeartbeats 4000000
/-! A comprehension over a dict's keys; a told list of new lists, its first one written into. -/
namespace DL
open PySem PySem.Spec PyProof.Rows L2
/-! ### a dict locked | unlocked, the rest as it was -/
structure Sw (S S' : Hp) (d : Addr) (kvs : List (List Key × V)) : Prop where
  a : Rd S d (.dT kvs)
  b : Rd S' d (.dT kvs)
  ne : ∀ c, c ≠ d → S' c = S c
theorem Sw.symm {S S' : Hp} {d : Addr} {kvs : List (List Key × V)} (w : Sw S S' d kvs) : Sw S' S d kvs := ⟨w.b, w.a, fun c h => (w.ne c h).symm⟩
theorem rd_one {S : Hp} {d : Addr} {k1 k2 : List (List Key × V)} (h : Rd S d (.dT k1)) (g : Rd S d (.dT k2)) : k1 = k2 := by
  rcases h with h | ⟨o, h⟩ <;> rcases g with g | ⟨o', g⟩ <;> rw [h] at g <;> cases g <;> rfl
theorem rd_ne {S : Hp} {d c : Addr} {k1 : List (List Key × V)} {u : HO} (h : Rd S d (.dT k1)) (g : S c = some u) (hu : u ≠ .dT k1) (hf : ∀ o, u ≠ .frz o (.dT k1)) : c ≠ d := fun e => by
  subst e
  rcases h with h | ⟨o, h⟩ <;> rw [g] at h <;> cases h
  · exact hu rfl
  · exact hf o rfl
section
variable {K : Fg} {S S' : Hp} {d : Addr} {kvs : List (List Key × V)}
mutual
theorem Rp.sw (w : Sw S S' d kvs) : ∀ {v : V} {x : PyData}, Rp K S v x → Rp K S' v x
  | _, _, .non => .non
  | _, _, .bl b => .bl b
  | _, _, .int i => .int i
  | _, _, .str x => .str x
  | _, _, .lst (a := a) h r => .lst (by rw [w.ne a (rd_ne w.a h (fun z => nomatch z) fun o z => nomatch z)]; exact h) (RpA.sw w r)
  | _, _, .tup (a := a) h r => .tup (by rw [w.ne a (rd_ne w.a h (fun z => nomatch z) fun o z => nomatch z)]; exact h) (RpA.sw w r)
  | _, _, .scr (a := a) h => .scr (by
    rcases h with (h | ⟨o, h⟩) | h
    · exact .inl (.inl (by rw [w.ne a (rd_ne w.a h (fun z => nomatch z) fun o z => nomatch z)]; exact h))
    · exact .inl (.inr ⟨o, by rw [w.ne a (rd_ne w.a h (fun z => nomatch z) fun o z => nomatch z)]; exact h⟩)
    · exact .inr h)
  | _, _, .dic (a := a) (kvs := k2) h r => .dic (by
    by_cases c : a = d
    · subst c
      rw [rd_one h w.a]
      exact w.b
    · unfold Rd
      rw [w.ne a c]
      exact h) (RpK.sw w r)
  | _, _, .adr a => .adr a
theorem RpA.sw (w : Sw S S' d kvs) : ∀ {vs : List V} {ds : List PyData}, RpA K S vs ds → RpA K S' vs ds
  | _, _, .nil => .nil
  | _, _, .cons h r => .cons (Rp.sw w h) (RpA.sw w r)
theorem RpK.sw (w : Sw S S' d kvs) : ∀ {vs : List (List Key × V)} {ds : List (PyData × PyData)}, RpK K S vs ds → RpK K S' vs ds
  | _, _, .nil => .nil
  | _, _, .cons h r => .cons (Rp.sw w h) (RpK.sw w r)
end
theorem Sl.sw (w : Sw S S' d kvs) : ∀ {σ : L2.St} {Γ : List (Option Sv)}, Sl K S σ Γ → Sl K S' σ Γ
  | [], [], _ => trivial
  | s :: σ, none :: Γ, h => ⟨trivial, Sl.sw w h.2⟩
  | s :: σ, some (.v u) :: Γ, h => ⟨h.1, Sl.sw w h.2⟩
  | s :: σ, some (.d x) :: Γ, h => ⟨(by obtain ⟨u, h1, h2⟩ := h.1; exact ⟨u, h1, h2.sw w⟩), Sl.sw w h.2⟩
  | [], _ :: _, h => h.elim
  | _ :: _, [], h => h.elim
end
/-- locked -/
theorem Ok.lock {K : Fg} {S H : Hp} {σ : L2.St} {G : Gs} {d : Addr} {kvs : List (List Key × V)} (k : Ok K S H σ G) (hs : S d = some (.dT kvs)) (o : Obj) : Ok K (upd S d (.frz o (.dT kvs))) (upd H d (.frz o (.dT kvs))) σ G := by
  have w : Sw S (upd S d (.frz o (.dT kvs))) d kvs := ⟨.inl hs, .inr ⟨o, upd_same⟩, fun c h => upd_ne h⟩
  refine ⟨fun b u q => ?_, k.sl.sw w, fun p hp => ?_, k.nd⟩
  · by_cases hb : b = d
    · subst hb
      rw [upd_same] at q ⊢
      exact q
    · rw [upd_ne hb] at q ⊢
      exact k.sh b u q
  · obtain ⟨h1, h2⟩ := k.ow p hp
    have np : p.1 ≠ d := fun z => by
      rw [z, hs] at h1
      cases h1
    refine ⟨by rw [upd_ne np]; exact h1, ?_⟩
    cases e : p.2 with
    | lst ds =>
      rw [e] at h2
      obtain ⟨vs, q1, q2⟩ := h2
      exact ⟨vs, by rw [upd_ne np]; exact q1, q2.sw w⟩
    | dct ds =>
      rw [e] at h2
      obtain ⟨vs, q1, q2⟩ := h2
      exact ⟨vs, by rw [upd_ne np]; exact q1, q2.sw w⟩
/-- unlocked again -/
theorem Gr.unlock {S H S' H' : Hp} {d : Addr} {kvs : List (List Key × V)} {o : Obj} (hs : S d = some (.dT kvs)) (hh : H d = some (.dT kvs)) (g : Gr (upd S d (.frz o (.dT kvs))) (upd H d (.frz o (.dT kvs))) S' H') : Gr S H (upd S' d (.dT kvs)) (upd H' d (.dT kvs)) := by
  refine ⟨fun b u q => ?_, fun b u q => ?_, fun b u q => ?_, fun b u q m n => ?_⟩
  · by_cases hb : b = d
    · subst hb
      rw [upd_same, ← q, hs]
    · rw [upd_ne hb]
      exact g.s b u (by rw [upd_ne hb]; exact q)
  · by_cases hb : b = d
    · subst hb
      rw [upd_same, ← q, hh]
    · rw [upd_ne hb]
      exact g.h b u (by rw [upd_ne hb]; exact q)
  · by_cases hb : b = d
    · subst hb
      rw [upd_same] at q ⊢
      exact q
    · rw [upd_ne hb] at q ⊢
      exact g.sh b u q
  · have hb : b ≠ d := fun z => by
      rw [z, hs] at n
      cases n
    rw [upd_ne hb]
    exact g.new b u (by rw [upd_ne hb]; exact q) m (by rw [upd_ne hb]; exact n)
/-- a tuple that is there is steady -/
theorem Gr.tup {S H S' H' : Hp} {q : Addr} {xs : List V} (g : Gr S H S' H') (e : H' q = some (.tup xs)) : Gr S H (upd S' q (.tup xs)) H' := by
  refine ⟨fun b u h => ?_, g.h, fun b u h => ?_, fun b u h m n => ?_⟩
  · by_cases hb : b = q
    · subst hb
      have := g.sh _ _ (g.s _ _ h)
      rw [e] at this
      rw [upd_same]
      exact this
    · rw [upd_ne hb]
      exact g.s b u h
  · by_cases hb : b = q
    · subst hb
      rw [upd_same] at h
      rw [e, ← h]
    · rw [upd_ne hb] at h
      exact g.sh b u h
  · have hb : b ≠ q := fun z => by
      subst z
      have := g.h _ _ h
      rw [e] at this
      cases this
      exact m
    rw [upd_ne hb]
    exact g.new b u h m n
section
variable {X : Cx} {E : L2.WX} {G : Gs} {D : DE} {a b c e i tg iter elt : Expr} {es : List Expr} {pos : Pos} {x y : PyData} {ds xs : List PyData} {m n : Int} {z w : Str} {scope : Scope}
theorem lc_turn2 {σ : L2.St} {G' : Gs} {S1 H1 S H : Hp} {vs : List V} {A d : Addr} {u : HO} {acc : List PyData} {tt : TT} {t : Bool} (hl : acc.length < 100000) (h1 : H1 A = none) (hu : H1 d = some u) (g : Gr S1 H1 S H) (hs : S A = none) (ha : H A = some (.lst vs)) (r : RpA X.K S vs acc) (hok : Ok X.K S H σ G')
    (ht : ∀ Q : Bool → Hp → Prop, (∀ S' H', Gr S H S' H' → Q t H') → tt σ H Q) (he : t = true → ∀ X', Blk X X' scope → X'.K = X.K → ED X' G' elt x) :
    tt σ H fun b H3 => if b = true then teB X scope elt σ H3 fun y H4 => ∃ acc', H4 A = some (.lst acc') ∧ acc'.length < sizeLine ∧ (upd H4 A (.lst (acc' ++ [y])) d = some u ∧ LcAt X.K S1 H1 A (if t then acc ++ [x] else acc) (upd H4 A (.lst (acc' ++ [y])))) else H3 d = some u ∧ LcAt X.K S1 H1 A (if t then acc ++ [x] else acc) H3 := by
  refine ht _ fun S2 H2 g2 => ?_
  have hs2 : S2 A = none := g2.new A _ ha trivial hs
  have nd : d ≠ A := fun z => by
    rw [z, h1] at hu
    cases hu
  cases t with
  | false => exact iteF ⟨g2.h _ _ (g.h _ _ hu), S2, vs, g.trans g2, hs2, g2.h _ _ ha, r.mono g2.s⟩
  | true =>
    refine iteT fun X' hX' => ?_
    have k2 := hok.mono g2
    rw [← blk_K hX'] at k2
    refine he rfl X' hX' (blk_K hX') σ S2 H2 k2 _ fun v S3 H3 g3 r3 => ?_
    rw [blk_K hX'] at r3
    have g4 := g.trans (g2.trans g3)
    refine ⟨vs, g3.h _ _ (g2.h _ _ ha), by rw [r.length]; exact Nat.lt_of_lt_of_le hl (by decide), by rw [upd_ne nd]; exact g4.h _ _ hu, ?_⟩
    exact LcAt.more h1 g4 (g3.new A _ (g2.h _ _ ha) trivial hs2) (g3.h _ _ (g2.h _ _ ha)) (r.mono (g2.s.trans g3.s)) r3
theorem rpk_at {K : Fg} {S : Hp} : ∀ {kvs : List (List Key × V)} {kd : List (P2 × PyData)} {i : Nat} {k : List Key} {v : V}, RpK K S kvs (encK kd) → kvs[i]? = some (k, v) → ∃ e, kd[i]? = some e ∧ k = ky e.1
  | kvs, [], i, k, v, r, h => by
    cases r
    simp at h
  | kvs, e :: kd, 0, k, v, r, h => by
    obtain ⟨u, kvs', rfl, _, t⟩ := rpk_cons r
    simp at h
    exact ⟨e, rfl, h.1.symm⟩
  | kvs, e :: kd, i + 1, k, v, r, h => by
    obtain ⟨u, kvs', rfl, _, t⟩ := rpk_cons r
    obtain ⟨e2, h1, h2⟩ := rpk_at (i := i) t (by simpa using h)
    exact ⟨e2, by simpa using h1, h2⟩
theorem rp_ky {K : Fg} {S : Hp} {q : Addr} {p : P2} (h : S q = some (.tup ((ky p).map kV))) : Rp K S (.ref q) (dP p) := .tup h (.cons (.int _) (.cons (.int _) .nil))
/-- the turns over the keys of a locked dict -/
theorem keys_core {f : P2 → PyData} {t : P2 → Bool} {σ : L2.St} {S1 H1 : Hp} {d : Addr} {o : Obj} {kvs : List (List Key × V)} {kd : List (P2 × PyData)} (k j : Nat) (k1 : Ok X.K S1 H1 σ G) (hd : S1 d = some (.frz o (.dT kvs))) (hr : RpK X.K S1 kvs (encK kd)) (hlen : kd.length < 100000)
    (ht : ∀ v ∈ kd.map (·.1), ∀ X', Blk X X' scope → X'.K = X.K → ET X' { G with c := (G.c.set k none).set k (some (.d (dP v))) } c (t v))
    (he : ∀ v ∈ kd.map (·.1), t v = true → ∀ X', Blk X X' scope → X'.K = X.K → ED X' { G with c := (G.c.set k none).set k (some (.d (dP v))) } elt (f v))
    (hj : σ[j]? = some (some (.ref d))) (Q : VK) (q : ∀ a vs S' H', Gr S1 H1 S' H' → H1 a = none → S' a = none → H' a = some (.lst vs) → RpA X.K S' vs (((kd.map (·.1)).filter t).map f) → Q (.ref a) H') :
    tLc (iKeys (tVar j)) (gName k) (ttB X scope c) (teB X scope elt) [k] σ H1 Q := by
  have hd' := k1.sh _ _ hd
  refine ⟨.ref d, hj, d, o, rfl, .inr ⟨kvs, hd', fun A hA => ?_⟩⟩
  have hl : kvs.length = kd.length := by rw [hr.len]; unfold encK; rw [List.length_map]
  refine lc_it walk_keysT (fun i H => H d = some (.frz o (.dT kvs)) ∧ LcAt X.K S1 H1 A (accF t f ((kd.map (·.1)).take i)) H) ⟨by rw [upd_ne (fun z => by rw [z, hA] at hd'; cases hd')]; exact hd', S1, [], (Gr.refl k1.sh).raw hA, k1.sh.free hA, upd_same, .nil⟩ (fun i H' _ h => h.1) (fun i v H H' hi hat y => ?_) fun H' hat => ?_
  · obtain ⟨hdH, S', ws, g', hs', ha', r'⟩ := hat
    obtain ⟨rfl, kk, u, qa, e1, rfl, e2⟩ := y
    obtain ⟨e, e3, rfl⟩ := rpk_at hr e1
    have e4 : (kd.map (·.1))[i]? = some e.1 := by rw [List.getElem?_map, e3]; rfl
    have hm := List.mem_of_getElem? e4
    have g2 := g'.tup e2
    have hq : qa ≠ A := fun z => by
      rw [z, ha'] at e2
      cases e2
    have hs2 : (upd S' qa (.tup ((ky e.1).map kV))) A = none := by rw [upd_ne (Ne.symm hq)]; exact hs'
    have k2 := k1.mono g2
    have r2 : RpA X.K (upd S' qa (.tup ((ky e.1).map kV))) ws _ := r'.mono fun b u h => by
      by_cases hb : b = qa
      · subst hb
        have := g'.sh _ _ h
        rw [e2] at this
        rw [upd_same]
        exact this
      · rw [upd_ne hb]
        exact h
    refine ⟨wipe_set1 σ k _, ?_⟩
    have k3 : Ok X.K (upd S' qa (.tup ((ky e.1).map kV))) H' ((L2.wipe σ [k]).set k (some (.ref qa))) { G with c := (G.c.set k none).set k (some (.d (dP e.1))) } :=
      ⟨k2.sh, Sl.set (g := some (.d (dP e.1))) ⟨.ref qa, rfl, rp_ky upd_same⟩ k (Sl.set (g := none) trivial k k2.sl), k2.ow, k2.nd⟩
    have turn := lc_turn2 (X := X) (scope := scope) (elt := elt) (tt := ttB X scope c) (t := t e.1) (x := f e.1) (acc := accF t f ((kd.map (·.1)).take i)) (Nat.lt_of_le_of_lt accF_le (by rw [List.length_map]; exact hlen)) hA hd' g2 hs2 ha' r2 k3
      (fun Q q X' hX' => ht _ hm X' hX' (blk_K hX') _ _ _ (by rw [blk_K hX']; exact k3) Q q) (he _ hm)
    rw [← accF_more e4] at turn
    exact turn
  · obtain ⟨_, S', ws, g', hs', ha', r'⟩ := hat
    rw [hl, show kd.length = (kd.map (·.1)).length by rw [List.length_map], List.take_length] at r'
    exact q _ ws S' H' g' hA hs' ha' r'
theorem rp_dct {K : Fg} {S : Hp} {v : V} {kd : List (P2 × PyData)} (r : Rp K S v (dD kd)) : ∃ d kvs, v = .ref d ∧ Rd S d (.dT kvs) ∧ RpK K S kvs (encK kd) := by
  generalize hz : dD kd = d at r
  cases r with
  | scr h1 => exact absurd hz encK_int
  | @dic a kvs ds h1 h2 =>
    have e1 : encK kd = ds := PyData.dict.inj hz
    subst e1
    exact ⟨_, _, rfl, h1, h2⟩
  | adr b => exact absurd hz encK_adr
  | _ => cases hz
/-- [elt for z in dict if c] -/
theorem ef_keys {dn : Str} {pz q1 : Pos} {f : P2 → PyData} {kd : List (P2 × PyData)} (k j : Nat) (t : P2 → Bool) (hj : G.c[j]? = some (some (.d (dD kd)))) (hlen : kd.length < 100000)
    (ht : ∀ v ∈ kd.map (·.1), ∀ X', Blk X X' scope → X'.K = X.K → ET X' { G with c := (G.c.set k none).set k (some (.d (dP v))) } c (t v))
    (he : ∀ v ∈ kd.map (·.1), t v = true → ∀ X', Blk X X' scope → X'.K = X.K → ED X' { G with c := (G.c.set k none).set k (some (.d (dP v))) } elt (f v))
    (ok : BlkOk X.N X.env.scope scope [(z, k)] := by exact blkOk_by (by decide +kernel)) (hN : X.N.Nodup := by assumption) (hc : X.calm = true := by rfl)
    (hNj : X.N[j]? = some dn := by rfl) (hv : Vis X.env.scope dn := by first | exact Or.inl rfl | exact Or.inr (Or.inl rfl) | exact Or.inr (Or.inr rfl)) (hdb : (dn == ("__debug__" : Str)) = false := by decide) (hcd : (dn == ("__classdict__" : Str)) = false := by decide)
    (hg : ∀ (s : Shared) (H : Hp) (C : Addr) (cl : List (Str × Addr)) (fp : List Addr), PG (X.blk s H scope (compEnvC scope cl C X.env) fp) (.Name z pz) (gName k) := by exact fun _ _ _ _ _ => pg_name (by assumption) rfl (by first | exact Or.inl rfl | exact Or.inr rfl))
    (hs : ∀ x, foldedSetIterable (.Name dn q1) X.env x = pure x := by intro _; rfl) :
    EF X G (.ListComp elt [⟨.Name z pz, .Name dn q1, [c], 0⟩] scope pos) (((kd.map (·.1)).filter t).map f) := ⟨fun σ S H k' Q q => by
  obtain ⟨s, h1, h2⟩ := k'.sl.get hj
  obtain ⟨v, rfl, r⟩ := h2
  obtain ⟨d, kvs, rfl, hd, hr⟩ := rp_dct r
  have pe : PE X (.ListComp elt [⟨.Name z pz, .Name dn q1, [c], 0⟩] scope pos) (tLc (iKeys (tVar j)) (gName k) (ttB X scope c) (teB X scope elt) [k]) := pe_lc (own := [(z, k)]) hc hN (pi_keys (pv j hNj hv hdb hcd)) ok hg (fun s H C cl fp => pts_one (pt_blk s H C cl fp)) (fun s H C cl fp => pe_blk s H C cl fp) hs
  rcases hd with hd | ⟨o, hd⟩
  · refine wE_of (pe_lock pe) ⟨d, .dT kvs, k'.sh _ _ hd, trivial, fun od => ?_⟩
    have k1 := k'.lock hd od
    refine keys_core k j k1 upd_same (hr.sw ⟨.inl hd, .inr ⟨od, upd_same⟩, fun c h => upd_ne h⟩) hlen ht he h1 _ fun a vs S' H' g n1 n2 e r => ?_
    have g2 := g.unlock hd (k'.sh _ _ hd)
    have na : a ≠ d := fun z => by
      rw [z, upd_same] at n1
      cases n1
    exact ⟨g.h _ _ upd_same, q a vs _ _ g2 (by rw [upd_ne na] at n1; exact n1) (by rw [upd_ne na]; exact n2) (by rw [upd_ne na]; exact e) (r.sw ⟨.inr ⟨od, g.s _ _ upd_same⟩, .inl upd_same, fun c h => upd_ne h⟩)⟩
  · exact wE_of pe (keys_core k j k' hd hr hlen ht he h1 _ q)⟩
end
end DL

set_option Elab.async false
set_option linter.all false
set_option maxRecDepth 100000
set_option maxHeartbeats 4000000
/-! A told list of new lists; its first one written into. -/
namespace DL
open PySem PySem.Spec PyProof.Rows L2
abbrev dAdr (b : Addr) : PyData := .dict [(.bool true, .int (b : Int))]
theorem rp_adr {K : Fg} {S : Hp} {v : V} {b : Addr} (r : Rp K S v (dAdr b)) : v = .ref b := by
  generalize hz : dAdr b = d at r
  cases r with
  | scr h1 => cases hz
  | dic h1 h2 => cases h2 <;> cases hz
  | adr c =>
    have e : (b : Int) = (c : Int) := by
      have := congrArg (fun d => match d with | PyData.dict [(_, PyData.int i)] => i | _ => 0) hz
      exact this
    rw [Int.ofNat_inj.mp e]
  | _ => cases hz
/-- new lists within -/
def NewIn (H : Hp) (vs : List V) : Prop := ∀ v ∈ vs, ∃ b, v = .ref b ∧ H b = none
structure EFN (X : Cx) (G : Gs) (e : Expr) (rows : List (List P2)) : Prop where
  run : ∀ (σ : L2.St) (S H : Hp), Ok X.K S H σ G → ∀ Q : VK, (∀ a vs S' H', Gr S H S' H' → H a = none → S' a = none → H' a = some (.lst vs) → RpA X.K S' vs (rows.map dPs) → NewIn H vs → Q (.ref a) H') → wE X e σ H Q
def LcAtN (K : Fg) (S1 H1 : Hp) (A : Addr) (acc : List PyData) (H : Hp) : Prop := ∃ S vs, Gr S1 H1 S H ∧ S A = none ∧ H A = some (.lst vs) ∧ RpA K S vs acc ∧ NewIn H1 vs
section
variable {X : Cx} {E : L2.WX} {G : Gs} {D : DE} {a b c e i tg iter elt : Expr} {es : List Expr} {pos pz q1 q5 : Pos} {x y : PyData} {ds xs : List PyData} {m n : Int} {z w : Str} {scope : Scope}
/-- [elt for z in iter], elt a new list each time -/
theorem lc_new {fs : List P2 → List P2} {zs : List (List P2)} {pz : Pos} (k : Nat) (ha : EL X G iter (zs.map dPs)) (hlen : zs.length < 100000)
    (he : ∀ v ∈ zs, ∀ X', Blk X X' scope → X'.K = X.K → EF X' { G with c := (G.c.set k none).set k (some (.d (dPs v))) } elt ((fs v).map dP))
    (ok : BlkOk X.N X.env.scope scope [(z, k)] := by exact blkOk_by (by decide +kernel)) (hN : X.N.Nodup := by assumption) (hc : X.calm = true := by rfl)
    (hg : ∀ (s : Shared) (H : Hp) (C : Addr) (cl : List (Str × Addr)) (fp : List Addr), PG (X.blk s H scope (compEnvC scope cl C X.env) fp) (.Name z pz) (gName k) := by exact fun _ _ _ _ _ => pg_name (by assumption) rfl (by first | exact Or.inl rfl | exact Or.inr rfl))
    (hs : ∀ x, foldedSetIterable iter X.env x = pure x := by intro _; rfl) :
    EFN X G (.ListComp elt [⟨.Name z pz, iter, [], 0⟩] scope pos) (zs.map fs) := ⟨fun σ S H k' Q q => by
  have pe : PE X (.ListComp elt [⟨.Name z pz, iter, [], 0⟩] scope pos) (tLc (iList X.K (wE X iter)) (gName k) tYes (teB X scope elt) [k]) := pe_lc (own := [(z, k)]) hc hN (pi_list pe_w) ok hg (fun _ _ _ _ _ => pts_nil) (fun s H C cl fp => pe_blk s H C cl fp) hs
  refine wE_of pe (ha σ S H k' _ fun l vs S1 H1 g1 e1 r1 => ?_)
  have k1 := k'.mono g1
  refine ⟨l, rfl, ⟨vs, SqL.of e1⟩, fun A hA => ?_⟩
  refine lc_list (K := X.K) (a := l) (xs := vs) (fun i => LcAtN X.K S1 H1 A (((zs.take i).map fs).map dPs)) ⟨S1, [], (Gr.refl g1.sh).raw hA, g1.sh.free hA, upd_same, .nil, fun v hv => (by cases hv)⟩ (fun i H' _ ⟨S', ws, g', _⟩ => SqL.of (g'.h _ _ e1)) (fun i w H' hw hat => ?_) fun H' hat => ?_
  · have hlen' := r1.length
    rw [List.length_map] at hlen'
    have hi : i < zs.length := by
      rw [← hlen']
      exact (List.getElem?_eq_some_iff.mp hw).1
    obtain ⟨w', e2, r2⟩ := r1.get (i := i) (d := dPs zs[i]) (by rw [List.getElem?_map, List.getElem?_eq_getElem hi]; rfl)
    rw [hw] at e2
    cases e2
    obtain ⟨S', ws, g', hs', ha', r', nw⟩ := hat
    refine ⟨wipe_set1 σ k _, ?_⟩
    refine iteT (B := LcAtN X.K S1 H1 A (((zs.take (i + 1)).map fs).map dPs) H') fun X' hX' => ?_
    have k2 := k1.mono g'
    have k3 : Ok X.K S' H' ((L2.wipe σ [k]).set k (some w)) { G with c := (G.c.set k none).set k (some (.d (dPs zs[i]))) } :=
      ⟨k2.sh, Sl.set (g := some (.d (dPs zs[i]))) ⟨w, rfl, r2.mono g'.s⟩ k (Sl.set (g := none) trivial k k2.sl), k2.ow, k2.nd⟩
    rw [← blk_K hX'] at k3
    refine (he zs[i] (List.getElem_mem hi) X' hX' (blk_K hX')).run _ S' H' k3 _ fun p us S3 H3 g3 n3 n4 e3 r3 => ?_
    rw [blk_K hX'] at r3
    have g4 := g3.freeze n3 n4 e3
    have hAp : A ≠ p := fun z => by
      rw [z, n3] at ha'
      cases ha'
    have hA3 : (upd S3 p (.lst us)) A = none := by
      rw [upd_ne hAp]
      exact g3.new A _ ha' trivial hs'
    refine ⟨ws, g3.h _ _ ha', ?_, ?_⟩
    · rw [r'.length]
      simp only [List.length_map, List.length_take]
      exact Nat.lt_of_lt_of_le (Nat.lt_of_le_of_lt (Nat.min_le_right _ _) hlen) (by decide)
    · refine ⟨upd S3 p (.lst us), ws ++ [.ref p], (g'.trans g4).write hA hA3, hA3, upd_same, ?_, fun v hv => ?_⟩
      · rw [List.take_add_one, List.getElem?_eq_getElem hi, List.map_append, List.map_append]
        exact (r'.mono g4.s).append (.cons (.lst upd_same (r3.mono (same_new n4 _))) .nil)
      · rcases List.mem_append.mp hv with hv | hv
        · exact nw v hv
        · rw [List.mem_singleton] at hv
          exact ⟨p, hv, g'.h.free n3⟩
  · obtain ⟨S', ws, g', hs', ha', r', nw⟩ := hat
    rw [show vs.length = zs.length by rw [r1.length, List.length_map], List.take_length] at r'
    exact q _ ws S' H' (g1.trans g') (g1.h.free hA) hs' ha' r' fun v hv => (by obtain ⟨b, h1, h2⟩ := nw v hv; exact ⟨b, h1, g1.h.free h2⟩)⟩
theorem EFN.is {p q : List (List P2)} (h : EFN X G e p) (E : p = q) : EFN X G e q := E ▸ h
/-- sorted -/
theorem efn_sorted {q1 : Pos} {rows : List (List P2)} (hm : X.mg "sorted" = none) (ha : EFN X G e rows) (hu : X.A.units + 4 < cLine) (hg : Gl X "sorted" := by rfl) (he : starEach [e] X.env = (false, eval e X.env) :: starEach [] X.env := by rfl) (hpl : (backTo pos (starEach [] X.env)).any (·.1) = false := by rfl) :
    EFN X G (.Call (.Name "sorted" q1) [e] [] pos) (sortR rows) := ⟨fun σ S H k Q q =>
  wE_of (pe_callB (cr_sortedR hu) hg hm (by decide +kernel) (pa_cons pe_w pa_nil he) (by decide) (by decide) he hpl) (ha.run σ S H k _ fun a vs S1 H1 g1 n1 n2 h1 r1 nw => by
    have hl : vs.length = rows.length := by rw [r1.length, List.length_map]
    refine ⟨a, vs, rows, rfl, SqL.of h1, RpA.dp _ _ (pna_map pn_Ps rows).lay (r1.mono g1.sh), hl, fun zs p pm es hp => ?_⟩
    have rb := rpa_of (zs := zs) (K := X.K) (S := S1) (f := dPs) fun z hz => rpa_zip r1 z (pm.mem_iff.mp hz)
    rw [es] at rb
    refine q p _ S1 _ (g1.raw hp) (g1.h.free hp) (g1.sh.free hp) upd_same rb fun v hv => ?_
    obtain ⟨z, hz, rfl⟩ := List.mem_map.mp hv
    exact nw _ (List.of_mem_zip (pm.mem_iff.mp hz)).1)⟩
/-- the first one let loose -/
theorem rps_hide {K : Fg} {S : Hp} {b : Addr} {us : List V} (hb : S b = some (.lst us)) : ∀ {vs : List V} {ps : List P2}, RpA K S vs (ps.map dP) → RpA K (hide S b) vs (ps.map dP)
  | _, [], .nil => .nil
  | _, p :: ps, .cons h r => .cons (by
    obtain ⟨_, t, rfl, e⟩ := kP_of h
    have nt : t ≠ b := fun z => by
      rw [z, hb] at e
      cases e
    exact .tup (by rw [hide_ne nt]; exact e) (.cons (.int _) (.cons (.int _) .nil))) (rps_hide hb r)
theorem rp_row {K : Fg} {S : Hp} {v : V} {r : List P2} (h : Rp K S v (dPs r)) : ∃ a us, v = .ref a ∧ S a = some (.lst us) ∧ RpA K S us (r.map dP) := by
  cases h with
  | lst h r => exact ⟨_, _, rfl, h, r⟩
theorem rows_hide {K : Fg} {S : Hp} {b : Addr} {us : List V} {r0 : List P2} (hb : S b = some (.lst us)) (h0 : RpA K S us (r0.map dP)) : ∀ {vs : List V} {rows : List (List P2)}, r0 ∉ rows → RpA K S vs (rows.map dPs) → RpA K (hide S b) vs (rows.map dPs)
  | _, [], _, .nil => .nil
  | _, r :: rows, hn, .cons h t => .cons (by
    obtain ⟨a, ws, rfl, e1, e2⟩ := rp_row h
    have na : a ≠ b := fun z => by
      subst z
      rw [hb] at e1
      cases e1
      have q1 := kP_map h0
      have q2 := kP_map e2
      rw [q1] at q2
      exact hn (by rw [q2]; exact List.mem_cons_self)
    exact .lst (by rw [hide_ne na]; exact e1) (rps_hide hb e2)) (rows_hide hb h0 (fun z => hn (List.mem_cons_of_mem _ z)) t)
/-- return of a list of new lists -/
theorem sd_retR {rows : List (List P2)} {r0 : List P2} (h : EFN X G e (r0 :: rows)) (hn : r0 ∉ rows) (hr : D.rt (.nwR (r0.map dP) (rows.map dPs))) (hg : D.rg (.nwR (r0.map dP) (rows.map dPs)) G := by first | exact True.intro | assumption) : SD X E G (.Return (some e) pos) D := ⟨fun S0 H0 _ σ S H g k f =>
  wS_of (ps_ret pe_w) (h.run σ S H k _ fun l vs S1 H1 g1 n1 n2 e1 r1 nw => by
    cases r1 with
    | @cons v vs' _ _ h1 t1 =>
    obtain ⟨b, us, rfl, e2, r2⟩ := rp_row h1
    obtain ⟨b', eb, nb⟩ := nw _ List.mem_cons_self
    cases eb
    have g2 : Gr S H (hide S1 b) H1 := by
      refine ⟨fun c u q => ?_, g1.h, fun c u q => ?_, fun c u q m n => ?_⟩
      · have nc : c ≠ b := fun z => by
          have := g.sh
          have q2 := k.sh _ _ q
          rw [z, nb] at q2
          cases q2
        rw [hide_ne nc]
        exact g1.s c u q
      · by_cases hc : c = b
        · rw [hc, hide_at] at q
          cases q
        · rw [hide_ne hc] at q
          exact g1.sh c u q
      · by_cases hc : c = b
        · rw [hc, hide_at]
        · rw [hide_ne hc]
          exact g1.new c u q m n
    have nl : l ≠ b := fun z => by
      have := g1.sh _ _ e2
      rw [← z, e1] at this
      cases this
      rw [z] at n2
      rw [n2] at e2
      cases e2
    exact ⟨hide S1 b, .nwR (r0.map dP) (rows.map dPs), g.trans g2, ⟨l, b, vs', us, rfl, nl, g.h.free n1, g.h.free nb, by rw [hide_ne nl]; exact n2, hide_at, e1, g1.sh _ _ e2, rows_hide e2 r2 hn t1, rps_hide e2 r2⟩, hr, σ, G, k.mono g2, f, hg⟩)⟩
/-- z = def(..), a list of new lists -/
theorem sd_setR {q1 q2 : Pos} {f : Str} {cx : CXT} {lv : Nat} {R : Rl} {d : List PyData} (k : Nat) (F : FD X.prog X.w X.K X.mg X.base cx f lv R) (hr : Room lv X.A) (hx0 : Passes cx X EF0) (ha : EA X G (e :: es) xs) (h : R xs (.nwR d ds)) (hn : ∀ l b, (∀ p ∈ G.o, p.1 ≠ l ∧ p.1 ≠ b) → D.nx { c := G.c.set k (some (.v (.ref l))), o := (l, .lst (dAdr b :: ds)) :: (b, .lst d) :: G.o })
    (hg : Gl X f := by rfl) (hdb : (f == ("__debug__" : Str)) = false := by decide) (he : starEach (e :: es) X.env = (false, eval e X.env) :: starEach es X.env := by rfl) (hpl : (backTo q2 (starEach es X.env)).any (·.1) = false := by rfl)
    (hi : X.N[k]? = some z := by rfl) (hN : X.N.Nodup := by assumption) (hx : Loc X.env.scope z := by first | exact Or.inl rfl | exact Or.inr rfl) (hs : swapsWith (.Call (.Name f q1) (e :: es) [] q2) (some (.Name z pz)) pos.line X.env = pure false := by rfl) (hf : X.fn z = true ∨ X.env.scope.names.lookup z = some .local := by first | exact .inl rfl | exact .inr rfl | assumption) :
    SD X E G (.Assign [.Name z pz] (.Call (.Name f q1) (e :: es) [] q2) pos) D := ⟨fun S0 H0 _ σ S H g k' fo => by
  obtain ⟨fa, fd, ps, f1, f2, f3, f4⟩ := F.ex
  exact wS_of (ps_set hN hi hx (pe_call f1 hr hg f2 f3 f4 .nil hx0 pa_w hdb he hpl) hs hf) (ha σ S H k' _ fun vs S1 H1 g1 r1 => by
    refine ⟨S1, xs, _, g1.sh, by rw [List.append_nil]; exact r1, h, fun v S2 H2 g2 r2 => ?_, fun C z => by cases z⟩
    obtain ⟨l, b, ws, us, rfl, nlb, n1, n2, n3, n4, e1, e2, r3, r4⟩ := r2
    have gg := g1.trans g2
    have k1 := k'.mono gg
    have nl : H l = none := g1.h.free n1
    have nb : H b = none := g1.h.free n2
    have ne : ∀ p ∈ G.o, p.1 ≠ l ∧ p.1 ≠ b := fun p hp => by
      obtain ⟨o, ho⟩ := (k'.ow p hp).2.there
      refine ⟨fun z => ?_, fun z => ?_⟩
      · rw [z, nl] at ho
        cases ho
      · rw [z, nb] at ho
        cases ho
    refine at_of (G := { c := G.c.set k (some (.v (.ref l))), o := (l, .lst (dAdr b :: ds)) :: (b, .lst d) :: G.o }) (g.trans gg) ⟨k1.sh, Sl.set (g := some (.v (.ref l))) rfl k k1.sl, fun p hp => ?_, ?_⟩ (fun p hp => ?_) (hn l b ne)
    · rcases List.mem_cons.mp hp with rfl | hp
      · exact ⟨n3, _, e1, .cons (.adr b) r3⟩
      · rcases List.mem_cons.mp hp with rfl | hp
        · exact ⟨n4, _, e2, r4⟩
        · exact k1.ow p hp
    · refine List.nodup_cons.mpr ⟨fun hm => ?_, List.nodup_cons.mpr ⟨fun hm => ?_, k1.nd⟩⟩
      · rcases List.mem_cons.mp hm with z | hm
        · exact nlb z
        · obtain ⟨p, hp, z⟩ := List.mem_map.mp hm
          exact (ne p hp).1 z
      · obtain ⟨p, hp, z⟩ := List.mem_map.mp hm
        exact (ne p hp).2 z
    · rcases List.mem_cons.mp hp with rfl | hp
      · exact g.h.free nl
      · rcases List.mem_cons.mp hp with rfl | hp
        · exact g.h.free nb
        · exact fo p hp)⟩
/-- .. as a value -/
theorem ed_callR {f : Str} {q1 : Pos} {cx : CXT} {lv : Nat} {R : Rl} {d : List PyData} (F : FD X.prog X.w X.K X.mg X.base cx f lv R) (hr : Room lv X.A) (hx : Passes cx X EF0) (ha : EA X G (e :: es) xs) (h : R xs (.nwR d ds)) (hg : Gl X f := by rfl) (hdb : (f == ("__debug__" : Str)) = false := by decide)
    (he : starEach (e :: es) X.env = (false, eval e X.env) :: starEach es X.env := by rfl) (hpl : (backTo pos (starEach es X.env)).any (·.1) = false := by rfl) : ED X G (.Call (.Name f q1) (e :: es) [] pos) (.list (.list d :: ds)) := ⟨fun σ S H k' Q q => by
  obtain ⟨fa, fd, ps, h1, h2, h3, h4⟩ := F.ex
  exact wE_of (pe_call h1 hr hg h2 h3 h4 .nil hx pa_w hdb he hpl) (ha σ S H k' _ fun vs S1 H1 g1 r1 => by
    refine ⟨S1, xs, _, g1.sh, by rw [List.append_nil]; exact r1, h, fun v S2 H2 g2 r2 => ?_, fun C z => by cases z⟩
    obtain ⟨l, b, ws, us, rfl, nlb, n1, n2, n3, n4, e1, e2, r3, r4⟩ := r2
    have g3 := g2.freeze n2 n4 e2
    have n5 : (upd S2 b (.lst us)) l = none := by rw [upd_ne nlb]; exact n3
    have g4 := g3.freeze n1 n5 e1
    refine q _ _ _ (g1.trans g4) (.lst upd_same (.cons (.lst (by rw [upd_ne (Ne.symm nlb)]; exact upd_same) ?_) ?_))
    · exact (r4.mono (same_new n4 _)).mono (same_new n5 _)
    · exact (r3.mono (same_new n4 _)).mono (same_new n5 _))⟩
/-- the list of lists read as data -/
theorem ET.thawR {ce : List (Option Sv)} {post : List (Addr × Ow)} {l b : Addr} {d : List PyData} {t : Bool} (k : Nat) (h : ET X { c := ce.set k (some (.d (.list (.list d :: ds)))), o := post } e t) (hk : ce[k]? = some (some (.v (.ref l)))) : ET X { c := ce, o := (l, .lst (dAdr b :: ds)) :: (b, .lst d) :: post } e t := ⟨fun σ S H k' Q q => by
  obtain ⟨n1, vs, e1, r1⟩ := k'.ow (l, .lst (dAdr b :: ds)) (by simp)
  obtain ⟨n2, ws, e2, r2⟩ := k'.ow (b, .lst d) (by simp)
  obtain ⟨s, h1, h2⟩ := k'.sl.get hk
  have hs : s = some (.ref l) := h2
  have n1 : S l = none := n1
  have n2 : S b = none := n2
  have e1 : H l = some (.lst vs) := e1
  have e2 : H b = some (.lst ws) := e2
  have nd := k'.nd
  simp only [List.map_cons] at nd
  obtain ⟨nd1, nd2⟩ := List.nodup_cons.mp nd
  obtain ⟨nd3, nd4⟩ := List.nodup_cons.mp nd2
  have nlb : l ≠ b := fun z => nd1 (by rw [z]; exact List.mem_cons_self)
  have ne : ∀ p ∈ post, p.1 ≠ l ∧ p.1 ≠ b := fun p hp => ⟨fun z => nd1 (by rw [← z]; exact List.mem_cons_of_mem _ (List.mem_map_of_mem hp)), fun z => nd3 (by rw [← z]; exact List.mem_map_of_mem hp)⟩
  have n3 : (upd S b (.lst ws)) l = none := by rw [upd_ne nlb]; exact n1
  have sm : Same S (upd (upd S b (.lst ws)) l (.lst vs)) := (same_new n2 _).trans (same_new n3 _)
  cases r1 with
  | @cons v vs' _ _ q1 r1 =>
  have ev := rp_adr q1
  subst ev
  have kf : Ok X.K (upd (upd S b (.lst ws)) l (.lst (.ref b :: vs'))) H σ { c := ce.set k (some (.d (.list (.list d :: ds)))), o := post } := by
    refine ⟨fun c u q => ?_, ?_, fun p hp => ?_, nd4⟩
    · by_cases hc : c = l
      · subst hc
        rw [upd_same] at q
        rw [e1]
        exact q
      · rw [upd_ne hc] at q
        by_cases hc2 : c = b
        · subst hc2
          rw [upd_same] at q
          rw [e2]
          exact q
        · rw [upd_ne hc2] at q
          exact k'.sh c u q
    · have q := Sl.set (K := X.K) (S := upd (upd S b (.lst ws)) l (.lst (.ref b :: vs'))) (s := s) (g := some (.d (.list (.list d :: ds)))) ⟨.ref l, hs, .lst upd_same (.cons (.lst (by rw [upd_ne (Ne.symm nlb)]; exact upd_same) (r2.mono sm)) (r1.mono sm))⟩ k (k'.sl.mono sm)
      have e2 : σ.set k s = σ := by
        obtain ⟨hl, hk2⟩ := List.getElem?_eq_some_iff.mp h1
        subst hk2
        exact List.set_getElem_self hl
      rw [e2] at q
      exact q
    · obtain ⟨q1, q2⟩ := k'.ow p (by simp [hp])
      exact ⟨by rw [upd_ne (ne p hp).1, upd_ne (ne p hp).2]; exact q1, q2.mono sm (Same.refl H)⟩
  refine h σ _ H kf Q fun S' H' g => q (fun c => if c = l ∨ c = b then none else S' c) H' ⟨fun c u e => ?_, g.h, fun c u e => ?_, fun c u e m n => ?_⟩
  · have hc : ¬ (c = l ∨ c = b) := fun z => by
      rcases z with z | z
      · rw [z, n1] at e; cases e
      · rw [z, n2] at e; cases e
    show (if c = l ∨ c = b then none else S' c) = _
    rw [if_neg hc]
    exact g.s c u (sm _ _ e)
  · by_cases hc : c = l ∨ c = b
    · rw [if_pos hc] at e
      cases e
    · rw [if_neg hc] at e
      exact g.sh c u e
  · show (if c = l ∨ c = b then none else S' c) = _
    by_cases hc : c = l ∨ c = b
    · rw [if_pos hc]
    · rw [if_neg hc]
      rw [not_or] at hc
      exact g.new c u e m (by rw [upd_ne hc.1, upd_ne hc.2]; exact n)⟩
/-- z[0].append(e), z's first one owned -/
theorem sd_app0 {q2 q3 q4 : Pos} {kt} {ce : List (Option Sv)} {post : List (Addr × Ow)} {l b : Addr} {d : List PyData} (k : Nat) (hk : ce[k]? = some (some (.v (.ref l)))) (ha : ED X { c := ce, o := (l, .lst (dAdr b :: ds)) :: (b, .lst d) :: post } e x) (hl : d.length < 100000) (hn : D.nx { c := ce, o := (l, .lst (dAdr b :: ds)) :: (b, .lst (d ++ [x])) :: post })
    (hNk : X.N[k]? = some z := by rfl) (hv : Vis X.env.scope z := by first | exact Or.inl rfl | exact Or.inr (Or.inl rfl) | exact Or.inr (Or.inr rfl)) (hd : (z == ("__debug__" : Str)) = false := by decide) (hcd : (z == ("__classdict__" : Str)) = false := by decide)
    (hbase : attributeBase (.Subscript (.Name z q1) (.Constant (.int 0) kt q5) q4) "append" X.env (eval (.Subscript (.Name z q1) (.Constant (.int 0) kt q5) q4) X.env) = eval (.Subscript (.Name z q1) (.Constant (.int 0) kt q5) q4) X.env := by rfl)
    (hfew : ((backTo q3 (starEach [e] X.env)).all (fun x => !x.1) && (backToKw q3 (keywordEach [] X.env)).all (fun x => x.1.isSome)
      && decide ([e].length + ([] : List Keyword).length + (if ([] : List Keyword).isEmpty then 0 else 1) < 30)) = true := by rfl)
    (hline : (q2.endLine == q3.line) = true := by rfl) (hst : starEach [e] X.env = (false, eval e X.env) :: starEach [] X.env := by rfl) (hplain : (backTo q3 (starEach [] X.env)).any (·.1) = false := by rfl)
    (hs : swapsWith (.Call (.Attribute (.Subscript (.Name z q1) (.Constant (.int 0) kt q5) q4) "append" q2) [e] [] q3) none pos.line X.env = pure false := by rfl) :
    SD X E { c := ce, o := (l, .lst (dAdr b :: ds)) :: (b, .lst d) :: post } (.Expr (.Call (.Attribute (.Subscript (.Name z q1) (.Constant (.int 0) kt q5) q4) "append" q2) [e] [] q3) pos) D := ⟨fun S0 H0 _ σ S H g k' f => by
  have base : ED X { c := ce, o := (l, .lst (dAdr b :: ds)) :: (b, .lst d) :: post } (.Subscript (.Name z q1) (.Constant (.int 0) kt q5) q4) (dAdr b) := ed_ixL (m := 0) (el_ownP k [] hk rfl hNk hv hd hcd) ed_int (by unfold atI ixN; rw [if_pos (by decide), if_pos (by simp only [List.length_cons]; omega)]; rfl)
  refine wS_of (ps_expr (pe_bm PySem.F.plainAttrs_list PySem.F.slot_list_append PySem.F.type_list_append mt_append pe_w (pa_cons pe_w pa_nil hst) hbase hfew hline hst hplain) hs) (base σ S H k' _ fun v S1 H1 g1 r1 => ?_)
  have ev := rp_adr r1
  subst ev
  have k1 := k'.mono g1
  obtain ⟨n2, ws, e2, r2⟩ := k1.ow (b, .lst d) (by simp)
  refine ⟨.inl ⟨rfl, _, .inl (.inl e2)⟩, ha σ S1 H1 k1 _ fun u S2 H2 g2 r3 => ?_⟩
  have k2 := k1.mono g2
  obtain ⟨n3, us, e3, r4⟩ := k2.ow (b, .lst d) (by simp)
  refine ⟨b, us, u, rfl, rfl, e3, by rw [r4.length]; exact Nat.lt_of_lt_of_le hl (by decide), ?_⟩
  exact at_of (G := { c := ce, o := [(l, .lst (dAdr b :: ds))] ++ (b, .lst (d ++ [x])) :: post }) ((g.trans (g1.trans g2)).write (f (b, .lst d) (by simp)) n3) (Ok.write (pre := [(l, .lst (dAdr b :: ds))]) (w := .lst d) k2 (w' := .lst (d ++ [x])) ⟨_, upd_same, r4.append (.cons r3 .nil)⟩) (Fo.write (pre := [(l, .lst (dAdr b :: ds))]) (w := .lst d) f) hn⟩
end
end DL

set_option Elab.async false
set_option linter.all false
set_option maxRecDepth 100000
set_option maxHeartbeats 4000000
namespace Wk
open PySem PySem.Spec PyProof.Rows L2 DL MT
def topS (i : Nat) : Stmt := PySem.Challenge.pw_threewards_k13_whole_all_cuts.main.body.getD i (.Pass ⟨0, 0, 0, 0⟩)
structure Bl (mg : Str → Option Value) : Prop where
  range : mg "range" = none
  len : mg "len" = none
  abs : mg "abs" = none
  min : mg "min" = none
  max : mg "max" = none
  int : mg "int" = none
  list : mg "list" = none
  set : mg "set" = none
  isinstance : mg "isinstance" = none
  sorted : mg "sorted" = none
  sum : mg "sum" = none
  all : mg "all" = none
  ty_list : mg "list" = none
  ty_tuple : mg "tuple" = none
  ty_int : mg "int" = none
  ty_bool : mg "bool" = none
  most : ∃ t, mg "MOST" = some (.int 12 t)
  far : ∃ t, mg "FAR" = some (.int 100 t)
  listed : ∃ t, mg "MOST_LISTED" = some (.int 8 t)
theorem un1 {k : Nat} {A : Around} (hr : L2.Room k A) : A.units + 1 < cLine := by
  have := hr.units
  omega
theorem un65 {k : Nat} {A : Around} (hr : L2.Room k A) : A.units + 65 < cLine := by
  have := hr.un
  omega
theorem un4 {k : Nat} {A : Around} (hr : L2.Room k A) : A.units + 4 < cLine := by
  have := hr.units
  omega
def Bd (p : P2) : Prop := p.1.natAbs < 2 ^ 110 ∧ p.2.natAbs < 2 ^ 110
theorem cm_bd {i j : Int} (h1 : i.natAbs < 2 ^ 128) (h2 : j.natAbs < 2 ^ 128) : CMulW i j := wide_mul (a := 128) (b := 128) h1 h2 (by decide) (by decide) (by decide)
theorem cm_sgn (a b : Int) : CMulW (sgn a) (sgn b) := by
  have h : ∀ n, (sgn n).natAbs ≤ 1 := fun n => by
    unfold sgn
    rcases b2n_cases (decide (0 < n)) with ⟨_, h⟩ | ⟨_, h⟩ <;> rcases b2n_cases (decide (n < 0)) with ⟨_, h'⟩ | ⟨_, h'⟩ <;> rw [h, h'] <;> decide
  have := h a
  have := h b
  exact cm_bd (by omega) (by omega)
theorem cm_side {p q t : P2} (hp : Bd p) (hq : Bd q) (ht : Bd t) : CMulW (q.1 - p.1) (t.2 - p.2) ∧ CMulW (q.2 - p.2) (t.1 - p.1) := by
  obtain ⟨h1, h2⟩ := hp
  obtain ⟨h3, h4⟩ := hq
  obtain ⟨h5, h6⟩ := ht
  exact ⟨cm_bd (by omega) (by omega), cm_bd (by omega) (by omega)⟩
def Bds (r : List P2) : Prop := ∀ p ∈ r, Bd p
theorem Bds.gz {r : List P2} {k : Int} (h : Bds r) (hk : -(r.length : Int) ≤ k ∧ k < r.length) : Bd (gz r k) := h _ (gz_mem hk)
theorem nx_ix {r : List P2} {k : Int} (h : 3 ≤ r.length) : -(r.length : Int) ≤ nx (r.length : Int) k ∧ nx (r.length : Int) k < r.length := by
  have h1 : 0 ≤ nx (r.length : Int) k := Int.emod_nonneg _ (by omega)
  have h2 : nx (r.length : Int) k < (r.length : Int) := Int.emod_lt_of_pos _ (by omega)
  omega
theorem cm_gz {r : List P2} {k j : Int} (h : Bds r) (hk : -(r.length : Int) ≤ k ∧ k < r.length) (hj : -(r.length : Int) ≤ j ∧ j < r.length) : CMulW (gz r k).1 (gz r j).2 ∧ CMulW (gz r k).2 (gz r j).1 := by
  obtain ⟨h1, h2⟩ := h.gz hk
  obtain ⟨h3, h4⟩ := h.gz hj
  exact ⟨cm_bd (by omega) (by omega), cm_bd (by omega) (by omega)⟩
theorem _root_.MT.Sm.bds {B : Nat} {r : List P2} (h : Sm B r) (hB : B < 2 ^ 110 := by decide) : Bds r := fun p hp => ⟨Nat.lt_of_le_of_lt (h p hp).1 hB, Nat.lt_of_le_of_lt (h p hp).2 hB⟩
theorem cm_slant {B : Nat} {ns : List Int} {k : Int} {r : List P2} {v : P2} (h : Rm B r) (hv : v ∈ r) (hB : B < 2 ^ 110 := by decide) : CMulW (slant ns k) v.2 := by
  have h1 := (h.sm v hv).2
  have h2 := slant_bd ns k
  exact cm_bd (by omega) (by omega)
theorem _root_.MT.Room.bds {r : List P2} (h : Room r) : Bds r := fun p hp => by
  have := h.inb p hp
  exact ⟨by omega, by omega⟩
theorem plan_x {v : P2} {xs : List Int} (h : v ∈ plan) (hx : xs.length = 5 + 1) : -(xs.length : Int) ≤ v.1 ∧ v.1 < xs.length := by
  have := plan_bd v h
  omega
theorem plan_y {v : P2} {xs : List Int} (h : v ∈ plan) (hx : xs.length = 5 + 1) : -(xs.length : Int) ≤ v.2 ∧ v.2 < xs.length := by
  have := plan_bd v h
  omega
local macro_rules
  | `(tactic| walk_at "spn") => `(tactic| (simp only [List.map_append, List.map_take, List.map_drop, List.map_set, List.map_reverse, List.map_cons, List.map_nil, map_erase]; try rfl))
local macro_rules
  | `(tactic| walk_at "ix") => `(tactic| first | omega | (refine nx_ix ?_ <;> omega))
local macro_rules
  | `(tactic| walk_at "sd") => `(tactic| first | omega | assumption | (refine MT.Room.bds ?_ <;> assumption) | (refine Bds.gz ?_ ?_ <;> first | assumption | walk_at "ix") | (refine nx_ix ?_ <;> omega) | (refine (cm_side ?_ ?_ ?_).1 <;> assumption) | (refine (cm_side ?_ ?_ ?_).2 <;> assumption) | (refine (cm_gz ?_ ?_ ?_).1 <;> first | assumption | omega) | (refine (cm_gz ?_ ?_ ?_).2 <;> first | assumption | omega) | exact cm_sgn _ _ | (refine cm_bd ?_ ?_ <;> omega) | (refine ⟨?_, ?_⟩ <;> omega) | (simp only [List.length_append, List.length_map, List.length_reverse, List.length_take, List.length_drop, List.length_cons, List.length_nil, List.length_set]; omega) | decide | rfl | (simp only [decide_eq_true_eq, decide_eq_false_iff_not, Bool.not_eq_true', Bool.not_eq_false'] at *; omega))
section
variable {P : Program} {w : World} {K : Fg} {mg : Str → Option Value} {base : Heap} {f : Addr} {fd : FuncData}
def R_side : Rl := fun xs r => ∃ p q t : P2, Bd p ∧ Bd q ∧ Bd t ∧ xs = [dP p, dP q, dP t] ∧ r = .dat (.int (side p q t))
theorem sc_side : FnScope ["one", "two", "point"] ["one", "two", "point"] (defScope (topS 7)) := ⟨rfl, rfl, rfl, by decide +kernel, rfl, by decide +kernel, by decide +kernel⟩
theorem ok_side (B : Bl mg) (F : Fun K "side" "side" (topS 7) f fd) : FnOk P w K mg base CX0 1 f fd ["one", "two", "point"] (spD K R_side) := by
  refine fn_D F sc_side (fun xs r h => ?_) (fun X xs r hX hr h => ?_)
  · obtain ⟨p, q, t, hp, hq, ht, rfl, rfl⟩ := h
    rfl
  · obtain ⟨cdv, A, outer, s, H, E, rfl⟩ := hX
    have hN := sc_side.nd
    obtain ⟨p, q, t, hp, hq, ht, rfl, rfl⟩ := h
    refine sb_one (sd_ret (ed_sub (ed_mul (ed_sub (ed_ixT (ed_var 1 rfl) ed_int rfl) (ed_ixT (ed_var 0 rfl) ed_int rfl)) (ed_sub (ed_ixT (ed_var 2 rfl) ed_int rfl) (ed_ixT (ed_var 0 rfl) ed_int rfl)) (by walk_at "sd")) (ed_mul (ed_sub (ed_ixT (ed_var 1 rfl) ed_int rfl) (ed_ixT (ed_var 0 rfl) ed_int rfl)) (ed_sub (ed_ixT (ed_var 2 rfl) ed_int rfl) (ed_ixT (ed_var 0 rfl) ed_int rfl)) (by walk_at "sd"))) ?_)
    -- L0
    exact rfl

def R_sign : Rl := fun xs r => ∃ n : Int, xs = [.int n] ∧ r = .dat (.int (sgn n))
theorem sc_sign : FnScope ["number"] ["number"] (defScope (topS 8)) := ⟨rfl, rfl, rfl, by decide +kernel, rfl, by decide +kernel, by decide +kernel⟩
theorem ok_sign (B : Bl mg) (F : Fun K "sign" "sign" (topS 8) f fd) : FnOk P w K mg base CX0 1 f fd ["number"] (spD K R_sign) := by
  refine fn_D F sc_sign (fun xs r h => ?_) (fun X xs r hX hr h => ?_)
  · obtain ⟨n, rfl, rfl⟩ := h
    rfl
  · obtain ⟨cdv, A, outer, s, H, E, rfl⟩ := hX
    have hN := sc_sign.nd
    obtain ⟨n, rfl, rfl⟩ := h
    refine sb_one (sd_ret (ed_sub (ed_intB B.int (ed_cmp (ed_var 0 rfl) ed_int cd_gt)) (ed_intB B.int (ed_cmp (ed_var 0 rfl) ed_int cd_lt))) ?_)
    -- L0
    exact rfl

def R_within : Rl := fun xs r => ∃ p q t : P2, Bd p ∧ Bd q ∧ Bd t ∧ xs = [dP p, dP q, dP t] ∧ r = .dat (.bool (within p q t))
theorem sc_within : FnScope ["one", "two", "point"] ["one", "two", "point"] (defScope (topS 9)) := ⟨rfl, rfl, rfl, by decide +kernel, rfl, by decide +kernel, by decide +kernel⟩
theorem ok_within (B : Bl mg) (F : Fun K "within" "within" (topS 9) f fd) : FnOk P w K mg base CX0 1 f fd ["one", "two", "point"] (spD K R_within) := by
  refine fn_D F sc_within (fun xs r h => ?_) (fun X xs r hX hr h => ?_)
  · obtain ⟨p, q, t, hp, hq, ht, rfl, rfl⟩ := h
    rfl
  · obtain ⟨cdv, A, outer, s, H, E, rfl⟩ := hX
    have hN := sc_within.nd
    obtain ⟨p, q, t, hp, hq, ht, rfl, rfl⟩ := h
    refine sb_cons (sd_if (EW.et (ew_or (et_cmp (ed_min2 B.min (ed_ixT (ed_var 0 rfl) ed_int rfl) (ed_ixT (ed_var 1 rfl) ed_int rfl)) (ed_ixT (ed_var 2 rfl) ed_int rfl) cd_gt) (fun hb1 => (ew_or1 (et_cmp (ed_max2 B.max (ed_ixT (ed_var 0 rfl) ed_int rfl) (ed_ixT (ed_var 1 rfl) ed_int rfl)) (ed_ixT (ed_var 2 rfl) ed_int rfl) cd_lt))))) (fun hc1 => ?_) (fun hc1 => ?_))
    · skip
      refine sb_one (sd_ret ed_bl ?_)
      -- L0
      rw [within, if_pos hc1]
    refine sb_nil ?_
    refine sb_one (sd_ret (ed_and (ed_cmp (ed_min2 B.min (ed_ixT (ed_var 0 rfl) ed_int rfl) (ed_ixT (ed_var 1 rfl) ed_int rfl)) (ed_ixT (ed_var 2 rfl) ed_int rfl) cd_le) (fun hb2 => (ed_one (ed_cmp (ed_ixT (ed_var 2 rfl) ed_int rfl) (ed_max2 B.max (ed_ixT (ed_var 0 rfl) ed_int rfl) (ed_ixT (ed_var 1 rfl) ed_int rfl)) cd_le)))) ?_)
    -- L1
    rw [within, if_neg (Bool.eq_false_iff.mp hc1)]

def R_lies_on : Rl := fun xs r => ∃ p q t : P2, Bd p ∧ Bd q ∧ Bd t ∧ xs = [dP p, dP q, dP t] ∧ r = .dat (.bool (liesOn p q t))
theorem sc_lies_on : FnScope ["one", "two", "point"] ["one", "two", "point"] (defScope (topS 10)) := ⟨rfl, rfl, rfl, by decide +kernel, rfl, by decide +kernel, by decide +kernel⟩
theorem ok_lies_on (B : Bl mg) (F_side : FD P w K mg base CX0 "side" 1 R_side) (F_within : FD P w K mg base CX0 "within" 1 R_within) (F : Fun K "lies_on" "lies_on" (topS 10) f fd) : FnOk P w K mg base CX0 2 f fd ["one", "two", "point"] (spD K R_lies_on) := by
  refine fn_D F sc_lies_on (fun xs r h => ?_) (fun X xs r hX hr h => ?_)
  · obtain ⟨p, q, t, hp, hq, ht, rfl, rfl⟩ := h
    rfl
  · obtain ⟨cdv, A, outer, s, H, E, rfl⟩ := hX
    have hN := sc_lies_on.nd
    obtain ⟨p, q, t, hp, hq, ht, rfl, rfl⟩ := h
    refine sb_one (sd_ret (ed_and (ed_cmp (ed_call F_side (hr.mono (by decide)) p0 (ea_cons (ed_var 0 rfl) (ea_cons (ed_var 1 rfl) (ea_cons (ed_var 2 rfl) ea_nil))) ⟨_, _, _, by walk_at "sd", by walk_at "sd", by walk_at "sd", rfl, rfl⟩) ed_int cd_eqI) (fun hb1 => (ed_one (ed_call F_within (hr.mono (by decide)) p0 (ea_cons (ed_var 0 rfl) (ea_cons (ed_var 1 rfl) (ea_cons (ed_var 2 rfl) ea_nil))) ⟨_, _, _, by walk_at "sd", by walk_at "sd", by walk_at "sd", rfl, rfl⟩)))) ?_)
    -- L0
    exact rfl

def R_meet : Rl := fun xs r => ∃ a b c d : P2, Bd a ∧ Bd b ∧ Bd c ∧ Bd d ∧ xs = [dP a, dP b, dP c, dP d] ∧ r = .dat (.bool (meet a b c d))
theorem sc_meet : FnScope ["one", "two", "three", "four"] ["one", "two", "three", "four"] (defScope (topS 11)) := ⟨rfl, rfl, rfl, by decide +kernel, rfl, by decide +kernel, by decide +kernel⟩
theorem ok_meet (B : Bl mg) (F_side : FD P w K mg base CX0 "side" 1 R_side) (F_sign : FD P w K mg base CX0 "sign" 1 R_sign) (F_lies_on : FD P w K mg base CX0 "lies_on" 2 R_lies_on) (F : Fun K "meet" "meet" (topS 11) f fd) : FnOk P w K mg base CX0 3 f fd ["one", "two", "three", "four"] (spD K R_meet) := by
  refine fn_D F sc_meet (fun xs r h => ?_) (fun X xs r hX hr h => ?_)
  · obtain ⟨a, b, c, d, ha, hb, hc, hd, rfl, rfl⟩ := h
    rfl
  · obtain ⟨cdv, A, outer, s, H, E, rfl⟩ := hX
    have hN := sc_meet.nd
    obtain ⟨a, b, c, d, ha, hb, hc, hd, rfl, rfl⟩ := h
    refine sb_cons (sd_if (EW.et (ew_or (et_val (ed_call F_lies_on (hr.mono (by decide)) p0 (ea_cons (ed_var 0 rfl) (ea_cons (ed_var 1 rfl) (ea_cons (ed_var 2 rfl) ea_nil))) ⟨_, _, _, by walk_at "sd", by walk_at "sd", by walk_at "sd", rfl, rfl⟩)) (fun hb1 => (ew_or1 (et_val (ed_call F_lies_on (hr.mono (by decide)) p0 (ea_cons (ed_var 0 rfl) (ea_cons (ed_var 1 rfl) (ea_cons (ed_var 3 rfl) ea_nil))) ⟨_, _, _, by walk_at "sd", by walk_at "sd", by walk_at "sd", rfl, rfl⟩)))))) (fun hc1 => ?_) (fun hc1 => ?_))
    · skip
      refine sb_one (sd_ret ed_bl ?_)
      -- L0
      rw [meet, if_pos hc1]
    refine sb_nil ?_
    refine sb_cons (sd_if (EW.et (ew_or (et_val (ed_call F_lies_on (hr.mono (by decide)) p0 (ea_cons (ed_var 2 rfl) (ea_cons (ed_var 3 rfl) (ea_cons (ed_var 0 rfl) ea_nil))) ⟨_, _, _, by walk_at "sd", by walk_at "sd", by walk_at "sd", rfl, rfl⟩)) (fun hb2 => (ew_or1 (et_val (ed_call F_lies_on (hr.mono (by decide)) p0 (ea_cons (ed_var 2 rfl) (ea_cons (ed_var 3 rfl) (ea_cons (ed_var 1 rfl) ea_nil))) ⟨_, _, _, by walk_at "sd", by walk_at "sd", by walk_at "sd", rfl, rfl⟩)))))) (fun hc2 => ?_) (fun hc2 => ?_))
    · skip
      refine sb_one (sd_ret ed_bl ?_)
      -- L1
      rw [meet, if_neg (Bool.eq_false_iff.mp hc1), if_pos hc2]
    refine sb_nil ?_
    refine sb_cons (sd_if (et_cmp (ed_mul (ed_call F_sign (hr.mono (by decide)) p0 (ea_cons (ed_call F_side (hr.mono (by decide)) p0 (ea_cons (ed_var 0 rfl) (ea_cons (ed_var 1 rfl) (ea_cons (ed_var 2 rfl) ea_nil))) ⟨_, _, _, by walk_at "sd", by walk_at "sd", by walk_at "sd", rfl, rfl⟩) ea_nil) ⟨_, rfl, rfl⟩) (ed_call F_sign (hr.mono (by decide)) p0 (ea_cons (ed_call F_side (hr.mono (by decide)) p0 (ea_cons (ed_var 0 rfl) (ea_cons (ed_var 1 rfl) (ea_cons (ed_var 3 rfl) ea_nil))) ⟨_, _, _, by walk_at "sd", by walk_at "sd", by walk_at "sd", rfl, rfl⟩) ea_nil) ⟨_, rfl, rfl⟩) (by walk_at "sd")) (ed_neg ed_int) cd_neI) (fun hc3 => ?_) (fun hc3 => ?_))
    · skip
      refine sb_one (sd_ret ed_bl ?_)
      -- L2
      rw [meet, if_neg (Bool.eq_false_iff.mp hc1), if_neg (Bool.eq_false_iff.mp hc2), if_pos hc3]
    refine sb_nil ?_
    refine sb_one (sd_ret (ed_cmp (ed_mul (ed_call F_sign (hr.mono (by decide)) p0 (ea_cons (ed_call F_side (hr.mono (by decide)) p0 (ea_cons (ed_var 2 rfl) (ea_cons (ed_var 3 rfl) (ea_cons (ed_var 0 rfl) ea_nil))) ⟨_, _, _, by walk_at "sd", by walk_at "sd", by walk_at "sd", rfl, rfl⟩) ea_nil) ⟨_, rfl, rfl⟩) (ed_call F_sign (hr.mono (by decide)) p0 (ea_cons (ed_call F_side (hr.mono (by decide)) p0 (ea_cons (ed_var 2 rfl) (ea_cons (ed_var 3 rfl) (ea_cons (ed_var 1 rfl) ea_nil))) ⟨_, _, _, by walk_at "sd", by walk_at "sd", by walk_at "sd", rfl, rfl⟩) ea_nil) ⟨_, rfl, rfl⟩) (by walk_at "sd")) (ed_neg ed_int) cd_eqI) ?_)
    -- L3
    rw [meet, if_neg (Bool.eq_false_iff.mp hc1), if_neg (Bool.eq_false_iff.mp hc2), if_neg (Bool.eq_false_iff.mp hc3)]

def R_next_to : Rl := fun xs r => ∃ n a : Int, 0 < n ∧ xs = [.int n, .int a] ∧ r = .dat (.int (nx n a))
theorem sc_next_to : FnScope ["count", "at"] ["count", "at"] (defScope (topS 12)) := ⟨rfl, rfl, rfl, by decide +kernel, rfl, by decide +kernel, by decide +kernel⟩
theorem ok_next_to (B : Bl mg) (F : Fun K "next_to" "next_to" (topS 12) f fd) : FnOk P w K mg base CX0 1 f fd ["count", "at"] (spD K R_next_to) := by
  refine fn_D F sc_next_to (fun xs r h => ?_) (fun X xs r hX hr h => ?_)
  · obtain ⟨n, a, hn, rfl, rfl⟩ := h
    rfl
  · obtain ⟨cdv, A, outer, s, H, E, rfl⟩ := hX
    have hN := sc_next_to.nd
    obtain ⟨n, a, hn, rfl, rfl⟩ := h
    refine sb_one (sd_ret (ed_mod (ed_add (ed_var 1 rfl) ed_int) (ed_var 0 rfl) (by walk_at "sd")) ?_)
    -- L0
    exact rfl

def R_walls_apart : Rl := fun xs r => ∃ rm : List P2, Bds rm ∧ 3 ≤ rm.length ∧ rm.length ≤ 100 ∧ xs = [dPs rm] ∧ r = .dat (.bool (wallsApart rm))
theorem sc_walls_apart : FnScope ["room", "count", "k", "j"] ["room"] (defScope (topS 13)) := ⟨rfl, rfl, rfl, by decide +kernel, rfl, by decide +kernel, by decide +kernel⟩
theorem ok_walls_apart (B : Bl mg) (F_next_to : FD P w K mg base CX0 "next_to" 1 R_next_to) (F_meet : FD P w K mg base CX0 "meet" 3 R_meet) (F : Fun K "walls_apart" "walls_apart" (topS 13) f fd) : FnOk P w K mg base CX0 4 f fd ["room"] (spD K R_walls_apart) := by
  refine fn_D F sc_walls_apart (fun xs r h => ?_) (fun X xs r hX hr h => ?_)
  · obtain ⟨rm, hB, h3, hl, rfl, rfl⟩ := h
    rfl
  · obtain ⟨cdv, A, outer, s, H, E, rfl⟩ := hX
    have hN := sc_walls_apart.nd
    obtain ⟨rm, hB, h3, hl, rfl, rfl⟩ := h
    refine sb_cons (sd_set 1 (ed_lenM B.len (ED.el (ed_var 0 rfl))) ?_)
    refine sb_cons (sd_for1 2 (fun i G => (∀ k : Nat, k < i → ∀ j : Nat, j < k → wm rm k j = false) ∧ ∃ g2 g3, G = { c := [some (.d (dPs rm)), some (.d (.int (rm.length : Int))), g2, g3] }) B.range (ed_var 1 rfl) (by walk_at "sd") (by walk_at "sd") ?_ (fun i0 G0 hi0 hp0 => ?_) (fun G0 hp0 => ?_))
    · skip
      exact ⟨no_less, none, none, rfl⟩
    · skip
      obtain ⟨w0, g2, g3, rfl⟩ := hp0
      refine sb_one (sd_for1 3 (fun i G => (∀ j : Nat, j < i → wm rm i0 j = false) ∧ ∃ g3, G = { c := [some (.d (dPs rm)), some (.d (.int (rm.length : Int))), some (.d (.int i0)), g3] }) B.range (ed_var 2 rfl) (by walk_at "sd") (by walk_at "sd") ?_ (fun i1 G1 hi1 hp1 => ?_) (fun G1 hp1 => ?_))
      · skip
        exact ⟨no_less, _, rfl⟩
      · skip
        obtain ⟨w1, g3, rfl⟩ := hp1
        refine sb_one (sd_if (EW.et (ew_and (et_cmp (ed_call F_next_to (hr.mono (by decide)) p0 (ea_cons (ed_var 1 rfl) (ea_cons (ed_var 2 rfl) ea_nil)) ⟨_, _, by walk_at "sd", rfl, rfl⟩) (ed_var 3 rfl) cd_neI) (fun hb1 => (ew_and1 (et_cmp (ed_call F_next_to (hr.mono (by decide)) p0 (ea_cons (ed_var 1 rfl) (ea_cons (ed_var 3 rfl) ea_nil)) ⟨_, _, by walk_at "sd", rfl, rfl⟩) (ed_var 2 rfl) cd_neI))))) (fun hc1 => ?_) (fun hc1 => ?_))
        · skip
          refine sb_one (sd_if (et_val (ed_call F_meet (hr.mono (by decide)) p0 (ea_cons (ed_ix (f := dP) (ED.el (ed_var 0 rfl)) (ed_var 2 rfl) (by walk_at "sd")) (ea_cons (ed_ix (f := dP) (ED.el (ed_var 0 rfl)) (ed_call F_next_to (hr.mono (by decide)) p0 (ea_cons (ed_var 1 rfl) (ea_cons (ed_var 2 rfl) ea_nil)) ⟨_, _, by walk_at "sd", rfl, rfl⟩) (by walk_at "sd")) (ea_cons (ed_ix (f := dP) (ED.el (ed_var 0 rfl)) (ed_var 3 rfl) (by walk_at "sd")) (ea_cons (ed_ix (f := dP) (ED.el (ed_var 0 rfl)) (ed_call F_next_to (hr.mono (by decide)) p0 (ea_cons (ed_var 1 rfl) (ea_cons (ed_var 3 rfl) ea_nil)) ⟨_, _, by walk_at "sd", rfl, rfl⟩) (by walk_at "sd")) ea_nil)))) ⟨_, _, _, _, by walk_at "sd", by walk_at "sd", by walk_at "sd", by walk_at "sd", rfl, rfl⟩)) (fun hc2 => ?_) (fun hc2 => ?_))
          · skip
            refine sb_one (sd_ret ed_bl ?_)
            -- L0
            rw [wallsApart_f (k := i0) (j := i1) (by omega) (by omega) (by rw [wm, hc1, hc2]; rfl)]
          refine sb_nil ?_
          -- L1
          exact ⟨lt_more w1 (by rw [wm, hc1, hc2]; rfl), _, rfl⟩
        refine sb_nil ?_
        -- L2
        exact ⟨lt_more w1 (by rw [wm, hc1]; rfl), _, rfl⟩
      obtain ⟨w1, g3, rfl⟩ := hp1
      -- L3
      exact ⟨lt_more w0 w1, _, _, rfl⟩
    obtain ⟨w0, g2, g3, rfl⟩ := hp0
    refine sb_one (sd_ret ed_bl ?_)
    -- L4
    rw [wallsApart_t w0]

def R_corners_right : Rl := fun xs r => ∃ rm : List P2, Bds rm ∧ 3 ≤ rm.length ∧ rm.length ≤ 100 ∧ xs = [dPs rm] ∧ r = .dat (.bool (cornersRight rm))
theorem sc_corners_right : FnScope ["room", "count", "x", "y", "k"] ["room"] (defScope (topS 14)) := ⟨rfl, rfl, rfl, by decide +kernel, rfl, by decide +kernel, by decide +kernel⟩
theorem ok_corners_right (B : Bl mg) (F_side : FD P w K mg base CX0 "side" 1 R_side) (F : Fun K "corners_right" "corners_right" (topS 14) f fd) : FnOk P w K mg base CX0 2 f fd ["room"] (spD K R_corners_right) := by
  refine fn_D F sc_corners_right (fun xs r h => ?_) (fun X xs r hX hr h => ?_)
  · obtain ⟨rm, hB, h3, hl, rfl, rfl⟩ := h
    rfl
  · obtain ⟨cdv, A, outer, s, H, E, rfl⟩ := hX
    have hN := sc_corners_right.nd
    obtain ⟨rm, hB, h3, hl, rfl, rfl⟩ := h
    obtain ⟨tF, hFar⟩ := B.far
    refine sb_cons (sd_set 1 (ed_lenM B.len (ED.el (ed_var 0 rfl))) ?_)
    refine sb_cons (sd_forL2 2 3 (fun i G => (∀ k : Nat, k < i → ∀ t, rm[k]? = some t → farOut t = false) ∧ ∃ g2 g3, G = { c := [some (.d (dPs rm)), some (.d (.int (rm.length : Int))), g2, g3, none] }) (ed_var 0 rfl) ?_ (fun i0 t0 G0 hi0 hp0 => ?_) (fun G0 hp0 => ?_))
    · skip
      exact ⟨no_less, none, none, rfl⟩
    · skip
      obtain ⟨w0, g2, g3, rfl⟩ := hp0
      refine sb_one (sd_if (EW.et (ew_or (et_cmp (ed_abs B.abs (ed_var 2 rfl)) (ed_glob hFar) cd_gt) (fun hb1 => (ew_or1 (et_cmp (ed_abs B.abs (ed_var 3 rfl)) (ed_glob hFar) cd_gt))))) (fun hc1 => ?_) (fun hc1 => ?_))
      · skip
        refine sb_one (sd_ret ed_bl ?_)
        -- L0
        rw [cright_far hi0 (by exact hc1)]
      refine sb_nil ?_
      -- L1
      exact ⟨lt_more w0 (get_once hi0 (by exact hc1)), _, _, rfl⟩
    obtain ⟨w0, g2, g3, rfl⟩ := hp0
    refine sb_cons (sd_for1 4 (fun i G => (∀ k : Nat, k < i → flatAt rm k = false) ∧ ∃ g4, G = { c := [some (.d (dPs rm)), some (.d (.int (rm.length : Int))), g2, g3, g4] }) B.range (ed_var 1 rfl) (by walk_at "sd") (by walk_at "sd") ?_ (fun i1 G1 hi1 hp1 => ?_) (fun G1 hp1 => ?_))
    · skip
      exact ⟨no_less, _, rfl⟩
    · skip
      obtain ⟨w1, g4, rfl⟩ := hp1
      refine sb_one (sd_if (et_cmp (ed_call F_side (hr.mono (by decide)) p0 (ea_cons (ed_ix (f := dP) (ED.el (ed_var 0 rfl)) (ed_sub (ed_var 4 rfl) ed_int) (by walk_at "sd")) (ea_cons (ed_ix (f := dP) (ED.el (ed_var 0 rfl)) (ed_sub (ed_var 4 rfl) ed_int) (by walk_at "sd")) (ea_cons (ed_ix (f := dP) (ED.el (ed_var 0 rfl)) (ed_var 4 rfl) (by walk_at "sd")) ea_nil))) ⟨_, _, _, by walk_at "sd", by walk_at "sd", by walk_at "sd", rfl, rfl⟩) ed_int cd_eqI) (fun hc2 => ?_) (fun hc2 => ?_))
      · skip
        refine sb_one (sd_ret ed_bl ?_)
        -- L2
        rw [cright_flat (k := i1) (by omega) (by exact hc2)]
      refine sb_nil ?_
      -- L3
      exact ⟨lt_more w1 (by exact hc2), _, rfl⟩
    obtain ⟨w1, g4, rfl⟩ := hp1
    refine sb_one (sd_ret ed_bl ?_)
    -- L4
    rw [cright_t w0 w1]

def R_area_by : Rl := fun xs r => ∃ rm : List P2, Bds rm ∧ 3 ≤ rm.length ∧ rm.length ≤ 100 ∧ xs = [dPs rm] ∧ r = .dat (.int (areaBy rm))
theorem sc_area_by : FnScope ["room", "total", "k"] ["room"] (defScope (topS 15)) := ⟨rfl, rfl, rfl, by decide +kernel, rfl, by decide +kernel, by decide +kernel⟩
theorem ok_area_by (B : Bl mg) (F : Fun K "area_by" "area_by" (topS 15) f fd) : FnOk P w K mg base CX0 1 f fd ["room"] (spD K R_area_by) := by
  refine fn_D F sc_area_by (fun xs r h => ?_) (fun X xs r hX hr h => ?_)
  · obtain ⟨rm, hB, h3, hl, rfl, rfl⟩ := h
    rfl
  · obtain ⟨cdv, A, outer, s, H, E, rfl⟩ := hX
    have hN := sc_area_by.nd
    obtain ⟨rm, hB, h3, hl, rfl, rfl⟩ := h
    refine sb_cons (sd_set 1 ed_int ?_)
    refine sb_cons (sd_for1 2 (fun i G => ∃ g2, G = { c := [some (.d (dPs rm)), some (.d (.int (areaTo rm i))), g2] }) B.range (ed_lenM B.len (ED.el (ed_var 0 rfl))) (by walk_at "sd") (by walk_at "sd") ?_ (fun i0 G0 hi0 hp0 => ?_) (fun G0 hp0 => ?_))
    · skip
      exact ⟨none, rfl⟩
    · skip
      obtain ⟨g2, rfl⟩ := hp0
      refine sb_one (sd_set 1 (ed_sub (ed_add (ed_var 1 rfl) (ed_mul (ed_ixT (ed_ix (f := dP) (ED.el (ed_var 0 rfl)) (ed_sub (ed_var 2 rfl) ed_int) (by walk_at "sd")) ed_int rfl) (ed_ixT (ed_ix (f := dP) (ED.el (ed_var 0 rfl)) (ed_var 2 rfl) (by walk_at "sd")) ed_int rfl) (by walk_at "sd"))) (ed_mul (ed_ixT (ed_ix (f := dP) (ED.el (ed_var 0 rfl)) (ed_sub (ed_var 2 rfl) ed_int) (by walk_at "sd")) ed_int rfl) (ed_ixT (ed_ix (f := dP) (ED.el (ed_var 0 rfl)) (ed_var 2 rfl) (by walk_at "sd")) ed_int rfl) (by walk_at "sd"))) ?_)
      -- L0
      exact ⟨_, rfl⟩
    obtain ⟨g2, rfl⟩ := hp0
    refine sb_one (sd_ret (ed_var 1 rfl) ?_)
    -- L1
    exact rfl

def R_is_room : Rl := fun xs r => ∃ rm : List P2, Bds rm ∧ rm.length ≤ 100 ∧ xs = [dPs rm] ∧ r = .dat (.bool (isRoom rm))
theorem sc_is_room : FnScope ["room"] ["room"] (defScope (topS 16)) := ⟨rfl, rfl, rfl, by decide +kernel, rfl, by decide +kernel, by decide +kernel⟩
theorem ok_is_room (B : Bl mg) (F_corners_right : FD P w K mg base CX0 "corners_right" 2 R_corners_right) (F_walls_apart : FD P w K mg base CX0 "walls_apart" 4 R_walls_apart) (F_area_by : FD P w K mg base CX0 "area_by" 1 R_area_by) (F : Fun K "is_room" "is_room" (topS 16) f fd) : FnOk P w K mg base CX0 5 f fd ["room"] (spD K R_is_room) := by
  refine fn_D F sc_is_room (fun xs r h => ?_) (fun X xs r hX hr h => ?_)
  · obtain ⟨rm, hB, hl, rfl, rfl⟩ := h
    rfl
  · obtain ⟨cdv, A, outer, s, H, E, rfl⟩ := hX
    have hN := sc_is_room.nd
    obtain ⟨rm, hB, hl, rfl, rfl⟩ := h
    obtain ⟨tM, hMost⟩ := B.most
    refine sb_cons (sd_if (EW.et (ew_or (et_cmp (ed_lenM B.len (ED.el (ed_var 0 rfl))) ed_int cd_lt) (fun hb1 => (ew_or1 (et_cmp (ed_lenM B.len (ED.el (ed_var 0 rfl))) (ed_glob hMost) cd_gt))))) (fun hc1 => ?_) (fun hc1 => ?_))
    · skip
      refine sb_one (sd_ret ed_bl ?_)
      -- L0
      rw [isRoom, if_pos hc1]
    have h3 : 3 ≤ rm.length := by
      have h := hc1
      simp only [Bool.or_eq_false_iff, decide_eq_false_iff_not] at h
      omega
    refine sb_nil ?_
    refine sb_one (sd_ret (ed_and (ed_call F_corners_right (hr.mono (by decide)) p0 (ea_cons (ed_var 0 rfl) ea_nil) ⟨_, by walk_at "sd", by walk_at "sd", by walk_at "sd", rfl, rfl⟩) (fun hb2 => (ed_and (ed_call F_walls_apart (hr.mono (by decide)) p0 (ea_cons (ed_var 0 rfl) ea_nil) ⟨_, by walk_at "sd", by walk_at "sd", by walk_at "sd", rfl, rfl⟩) (fun hb3 => (ed_one (ed_cmp (ed_call F_area_by (hr.mono (by decide)) p0 (ea_cons (ed_var 0 rfl) ea_nil) ⟨_, by walk_at "sd", by walk_at "sd", by walk_at "sd", rfl, rfl⟩) ed_int cd_gt)))))) ?_)
    -- L1
    rw [isRoom, if_neg (Bool.eq_false_iff.mp hc1)]

def R_law_cell : Rl := fun xs r => ∃ (ns : List Int) (k : Int), ns.length ≤ 63 ∧ (0 ≤ k ∧ k ≤ 1000) ∧ xs = [dScr ns, .int k] ∧ r = .dat (.int (cell ns k))
theorem sc_law_cell : FnScope ["script", "k", "base"] ["script", "k"] (defScope (topS 29)) := ⟨rfl, rfl, rfl, by decide +kernel, rfl, by decide +kernel, by decide +kernel⟩
theorem ok_law_cell (B : Bl mg) (F : Fun K "_law_cell" "_law_cell" (topS 29) f fd) : FnOk P w K mg base CX0 1 f fd ["script", "k"] (spD K R_law_cell) := by
  refine fn_D F sc_law_cell (fun xs r h => ?_) (fun X xs r hX hr h => ?_)
  · obtain ⟨ns, k, hn, hk, rfl, rfl⟩ := h
    rfl
  · obtain ⟨cdv, A, outer, s, H, E, rfl⟩ := hX
    have hN := sc_law_cell.nd
    obtain ⟨ns, k, hn, hk, rfl, rfl⟩ := h
    refine sb_cons (sd_if (et_cmp (ed_var 1 rfl) (ed_lenS (ed_var 0 rfl) B.len) cd_lt) (fun hc1 => ?_) (fun hc1 => ?_))
    · skip
      have hc1' := of_decide_eq_true hc1
      refine sb_one (sd_ret (ed_ixS (ed_var 0 rfl) (ed_var 1 rfl) (by walk_at "sd")) ?_)
      -- L0
      rw [cell, if_pos hc1]
    refine sb_nil ?_
    refine sb_cons (sd_set 2 ed_int ?_)
    refine sb_consP (fun G' => G' = { c := [some (.d (dScr ns)), some (.d (.int (k))), some (.d (.int (base0 ns)))] }) ?_ (fun GJ hJ => ?_)
    · skip
      refine sd_if (et_cmp (ed_lenS (ed_var 0 rfl) B.len) ed_int cd_gt) (fun hc2 => ?_) (fun hc2 => ?_)
      · skip
        have hc2' := of_decide_eq_true hc2
        refine sb_one (sd_set 2 (ed_ixS (ed_var 0 rfl) ed_int (by walk_at "sd")) ?_)
        -- L1
        show _ = _
        rw [base0, if_pos hc2]
        rfl
      · skip
        refine sb_nil ?_
        -- L2
        show _ = _
        rw [base0, if_neg (Bool.eq_false_iff.mp hc2)]
        rfl
    subst hJ
    refine sb_one (sd_ret (ed_mod (ed_add (ed_mul (ed_mod (ed_var 2 rfl) ed_int (by walk_at "sd")) ed_int (by walk_at "sd")) (ed_mul (ed_var 1 rfl) ed_int (by walk_at "sd"))) ed_int (by walk_at "sd")) ?_)
    -- L3
    rw [cell, if_neg (Bool.eq_false_iff.mp hc1)]

def R_law_side : Rl := fun xs r => ∃ p q t : P2, Bd p ∧ Bd q ∧ Bd t ∧ xs = [dP p, dP q, dP t] ∧ r = .dat (.int (side p q t))
theorem sc_law_side : FnScope ["one", "two", "point", "across", "up"] ["one", "two", "point"] (defScope (topS 31)) := ⟨rfl, rfl, rfl, by decide +kernel, rfl, by decide +kernel, by decide +kernel⟩
theorem ok_law_side (B : Bl mg) (F : Fun K "_law_side" "_law_side" (topS 31) f fd) : FnOk P w K mg base CX0 1 f fd ["one", "two", "point"] (spD K R_law_side) := by
  refine fn_D F sc_law_side (fun xs r h => ?_) (fun X xs r hX hr h => ?_)
  · obtain ⟨p, q, t, hp, hq, ht, rfl, rfl⟩ := h
    rfl
  · obtain ⟨cdv, A, outer, s, H, E, rfl⟩ := hX
    have hN := sc_law_side.nd
    obtain ⟨p, q, t, hp, hq, ht, rfl, rfl⟩ := h
    refine sb_cons (sd_par 3 4 (ea_cons (ed_sub (ed_ixT (ed_var 1 rfl) ed_int rfl) (ed_ixT (ed_var 0 rfl) ed_int rfl)) (ea_cons (ed_sub (ed_ixT (ed_var 1 rfl) ed_int rfl) (ed_ixT (ed_var 0 rfl) ed_int rfl)) ea_nil)) ?_)
    refine sb_one (sd_ret (ed_sub (ed_mul (ed_var 3 rfl) (ed_sub (ed_ixT (ed_var 2 rfl) ed_int rfl) (ed_ixT (ed_var 0 rfl) ed_int rfl)) (by walk_at "sd")) (ed_mul (ed_var 4 rfl) (ed_sub (ed_ixT (ed_var 2 rfl) ed_int rfl) (ed_ixT (ed_var 0 rfl) ed_int rfl)) (by walk_at "sd"))) ?_)
    -- L0
    exact rfl

def R_law_flat : Rl := fun xs r => ∃ rm : List P2, Bds rm ∧ 3 ≤ rm.length ∧ rm.length ≤ 100 ∧ xs = [dPs rm] ∧ r = .dat (.bool (lFlat rm))
theorem sc_law_flat : FnScope ["room", "k"] ["room"] (defScope (topS 32)) := ⟨rfl, rfl, rfl, by decide +kernel, rfl, by decide +kernel, by decide +kernel⟩
theorem ok_law_flat (B : Bl mg) (F_law_side : FD P w K mg base CX0 "_law_side" 1 R_law_side) (F : Fun K "_law_flat" "_law_flat" (topS 32) f fd) : FnOk P w K mg base CX0 2 f fd ["room"] (spD K R_law_flat) := by
  refine fn_D F sc_law_flat (fun xs r h => ?_) (fun X xs r hX hr h => ?_)
  · obtain ⟨rm, hB, h3, hl, rfl, rfl⟩ := h
    rfl
  · obtain ⟨cdv, A, outer, s, H, E, rfl⟩ := hX
    have hN := sc_law_flat.nd
    obtain ⟨rm, hB, h3, hl, rfl, rfl⟩ := h
    refine sb_cons (sd_for1 1 (fun i G => (∀ k : Nat, k < i → flatAt rm k = false) ∧ ∃ g, G = { c := [some (.d (dPs rm)), g] }) B.range (ed_lenM B.len (ED.el (ed_var 0 rfl))) (by walk_at "sd") (by walk_at "sd") ?_ (fun i0 G0 hi0 hp0 => ?_) (fun G0 hp0 => ?_))
    · skip
      exact ⟨no_less, _, rfl⟩
    · skip
      obtain ⟨w1, g, rfl⟩ := hp0
      refine sb_one (sd_if (et_cmp (ed_call F_law_side (hr.mono (by decide)) p0 (ea_cons (ed_ix (f := dP) (ED.el (ed_var 0 rfl)) (ed_sub (ed_var 1 rfl) ed_int) (by walk_at "sd")) (ea_cons (ed_ix (f := dP) (ED.el (ed_var 0 rfl)) (ed_sub (ed_var 1 rfl) ed_int) (by walk_at "sd")) (ea_cons (ed_ix (f := dP) (ED.el (ed_var 0 rfl)) (ed_var 1 rfl) (by walk_at "sd")) ea_nil))) ⟨_, _, _, by walk_at "sd", by walk_at "sd", by walk_at "sd", rfl, rfl⟩) ed_int cd_eqI) (fun hc1 => ?_) (fun hc1 => ?_))
      · skip
        refine sb_one (sd_ret ed_bl ?_)
        -- L0
        rw [show lFlat rm = true from any_t (k := i0) (by omega) (by exact hc1)]
      refine sb_nil ?_
      -- L1
      exact ⟨lt_more w1 (by exact hc1), _, rfl⟩
    obtain ⟨w1, g, rfl⟩ := hp0
    refine sb_one (sd_ret ed_bl ?_)
    -- L2
    rw [show lFlat rm = false from any_f w1]

def R_plain : Rl := fun xs r => ∃ (ns : List Int) (k count : Int), ns.length ≤ 63 ∧ (0 ≤ k ∧ k ≤ 100) ∧ (3 ≤ count ∧ count ≤ 12) ∧ xs = [dScr ns, .int k, .int count] ∧ r = .dat (dPs (plRoom ns k count))
theorem sc_law_plain_room : FnScope ["script", "k", "count", "mode", "x", "low", "high", "j", "cell", "y", "room"] ["script", "k", "count"] (defScope (topS 33)) := ⟨rfl, rfl, rfl, by decide +kernel, rfl, by decide +kernel, by decide +kernel⟩
theorem ok_law_plain_room (B : Bl mg) (F_law_cell : FD P w K mg base CX0 "_law_cell" 1 R_law_cell) (F_law_flat : FD P w K mg base CX0 "_law_flat" 2 R_law_flat) (F : Fun K "_law_plain_room" "_law_plain_room" (topS 33) f fd) : FnOk P w K mg base CX0 3 f fd ["script", "k", "count"] (spD K R_plain) := by
  refine fn_D F sc_law_plain_room (fun xs r h => ?_) (fun X xs r hX hr h => ?_)
  · obtain ⟨ns, k, count, hn, hk, hc, rfl, rfl⟩ := h
    rfl
  · obtain ⟨cdv, A, outer, s, H, E, rfl⟩ := hX
    have hN := sc_law_plain_room.nd
    obtain ⟨ns, k, count, hn, hk, hc, rfl, rfl⟩ := h
    refine sb_cons (sd_set 3 (ed_mod (ed_call F_law_cell (hr.mono (by decide)) p0 (ea_cons (ed_var 0 rfl) (ea_cons (ed_add (ed_var 1 rfl) ed_int) ea_nil)) ⟨_, _, by walk_at "sd", by walk_at "sd", rfl, rfl⟩) ed_int (by walk_at "sd")) ?_)
    refine sb_cons (sd_set 4 ed_int ?_)
    refine sb_cons (sd_setO 5 (ef_lst ea_nil) (fun llow hllow => ?_))
    refine sb_cons (sd_setO 6 (ef_lst ea_nil) (fun lhigh hlhigh => ?_))
    refine sb_cons (sd_for2 7 (fun i G => ∃ gj gc gy, G = { c := [some (.d (dScr ns)), some (.d (.int (k))), some (.d (.int (count))), some (.d (.int ((cell ns (k + 1) % 4)))), some (.d (.int ((plTo ns k count (cell ns (k + 1) % 4) i).x))), some (.v (.ref llow)), some (.v (.ref lhigh)), gj, gc, gy, none], o := [(lhigh, .lst ((plTo ns k count (cell ns (k + 1) % 4) i).hi.map dP)), (llow, .lst ((plTo ns k count (cell ns (k + 1) % 4) i).lo.map dP))] }) B.range ed_int (ed_sub (ed_var 2 rfl) ed_int) (by walk_at "sd") ?_ (fun i0 G0 hi0 hp0 => ?_) (fun G0 hp0 => ?_))
    · skip
      exact ⟨none, none, none, rfl⟩
    · skip
      obtain ⟨gj, gc, gy, rfl⟩ := hp0
      have hok := plTo_ok (ns := ns) (k := k) (mode := (cell ns (k + 1) % 4)) hc.2 i0 (by omega)
      have hnn := hok.n
      refine sb_cons (sd_set 8 (ed_call F_law_cell (hr.mono (by decide)) p0 (ea_cons (ed_var 0 rfl) (ea_cons (ed_add (ed_add (ed_var 1 rfl) ed_int) (ed_var 7 rfl)) ea_nil)) ⟨_, _, by walk_at "sd", by walk_at "sd", rfl, rfl⟩) ?_)
      refine sb_cons (sd_set 4 (ed_add (ed_add (ed_var 4 rfl) ed_int) (ed_mod (ed_fdiv (ed_var 8 rfl) ed_int (by walk_at "sd")) ed_int (by walk_at "sd"))) ?_)
      refine sb_cons (sd_set 9 (ed_add ed_int (ed_mod (ed_fdiv (ed_var 8 rfl) ed_int (by walk_at "sd")) ed_int (by walk_at "sd"))) ?_)
      refine sb_consP (fun G' => G' = { c := [some (.d (dScr ns)), some (.d (.int (k))), some (.d (.int (count))), some (.d (.int ((cell ns (k + 1) % 4)))), some (.d (.int (plX ns k (cell ns (k + 1) % 4) (plTo ns k count (cell ns (k + 1) % 4) i0).x i0))), some (.v (.ref llow)), some (.v (.ref lhigh)), some (.d (.int (1 + (i0 : Int)))), some (.d (.int (plC ns k i0))), some (.d (.int (plY ns k count (cell ns (k + 1) % 4) i0))), none], o := [(lhigh, .lst ((plTo ns k count (cell ns (k + 1) % 4) i0).hi.map dP)), (llow, .lst ((plTo ns k count (cell ns (k + 1) % 4) i0).lo.map dP))] }) ?_ (fun GJ hJ => ?_)
      · skip
        refine sd_if (et_cmp (ed_var 3 rfl) ed_int cd_eqI) (fun hc1 => ?_) (fun hc1 => ?_)
        · skip
          refine sb_cons (sd_set 4 (ed_var 7 rfl) ?_)
          refine sb_one (sd_set 9 (ed_mul (ed_var 7 rfl) (ed_sub (ed_sub (ed_var 2 rfl) ed_int) (ed_var 7 rfl)) (by walk_at "sd")) ?_)
          -- L0
          show _ = _
          rw [show plX ns k (cell ns (k + 1) % 4) (plTo ns k count (cell ns (k + 1) % 4) i0).x i0 = _ from if_pos hc1, show plY ns k count (cell ns (k + 1) % 4) i0 = _ from if_pos hc1]
          rfl
        · skip
          refine sb_nil ?_
          -- L1
          show _ = _
          rw [show plX ns k (cell ns (k + 1) % 4) (plTo ns k count (cell ns (k + 1) % 4) i0).x i0 = _ from if_neg (Bool.eq_false_iff.mp hc1), show plY ns k count (cell ns (k + 1) % 4) i0 = _ from if_neg (Bool.eq_false_iff.mp hc1)]
          rfl
      subst hJ
      refine sb_one (sd_if (et_cmp (ed_mod (ed_var 8 rfl) ed_int (by walk_at "sd")) ed_int cd_eqI) (fun hc2 => ?_) (fun hc2 => ?_))
      · skip
        refine sb_one (sd_append 5 [_] rfl (ed_tup (ea_cons (ed_var 4 rfl) (ea_cons (ed_sub ed_int (ed_var 9 rfl)) ea_nil))) (by walk_at "sd") ?_)
        -- L2
        dsimp only
        rw [show (plTo ns k count (cell ns (k + 1) % 4) (i0 + 1)) = _ from if_pos hc2]
        dsimp only
        rw [List.map_append]
        exact ⟨_, _, _, rfl⟩
      · skip
        refine sb_one (sd_append 6 [] rfl (ed_tup (ea_cons (ed_var 4 rfl) (ea_cons (ed_var 9 rfl) ea_nil))) (by walk_at "sd") ?_)
        -- L3
        dsimp only
        rw [show (plTo ns k count (cell ns (k + 1) % 4) (i0 + 1)) = _ from if_neg (Bool.eq_false_iff.mp hc2)]
        dsimp only
        rw [List.map_append]
        exact ⟨_, _, _, rfl⟩
    obtain ⟨gj, gc, gy, rfl⟩ := hp0
    have hok : PlOk _ (plEnd ns k count) := plTo_ok hc.2 (count - 1 - 1).toNat (by omega)
    have hnn := hok.n
    have hrl := (plRaw_ok hok (by omega)).2
    have hrs := (plRaw_ok hok (by omega)).1.bds
    have epl : (plTo ns k count (cell ns (k + 1) % 4) (count - 1 - 1).toNat) = plEnd ns k count := rfl
    rw [epl]
    refine sb_cons (sd_set 10 (EF.ed (EF.is (ef_cat (EF.el (ef_cat (EF.el (ef_cat (EF.el (ef_lst (ea_cons (ed_tup (ea_cons ed_int (ea_cons ed_int ea_nil))) ea_nil))) (el_ownP 5 [_] rfl rfl) (by walk_at "sd"))) (EF.el (ef_lst (ea_cons (ed_tup (ea_cons (ed_add (ed_var 4 rfl) ed_int) (ea_cons ed_int ea_nil))) ea_nil))) (by walk_at "sd"))) (EF.el (ef_rev (el_ownP 6 [] rfl rfl))) (by walk_at "sd")) (y := (plRaw (plEnd ns k count)).map dP) (by unfold plRaw; rw [List.map_append, List.map_append, List.map_append, List.map_reverse]; rfl))) ?_)
    refine sb_consP (fun G' => ∃ gj gc gy gx gl gh, G' = { c := [some (.d (dScr ns)), some (.d (.int (k))), some (.d (.int (count))), some (.d (.int ((cell ns (k + 1) % 4)))), gx, gl, gh, gj, gc, gy, some (.d (dPs (plRoom ns k count)))], o := [(lhigh, .lst ((plEnd ns k count).hi.map dP)), (llow, .lst ((plEnd ns k count).lo.map dP))] }) ?_ (fun GJ hJ => ?_)
    · skip
      refine sd_if (et_val (ed_call F_law_flat (hr.mono (by decide)) p0 (ea_cons (ed_var 10 rfl) ea_nil) ⟨_, by walk_at "sd", by walk_at "sd", by walk_at "sd", rfl, rfl⟩)) (fun hc3 => ?_) (fun hc3 => ?_)
      · skip
        refine sb_one (sd_setC 10 (LC.is (lc_cR1 7 B.range (ed_var 2 rfl) (by walk_at "sd") (by walk_at "sd") (fun v1 hv1 X1 hX1 hK1 => by obtain ⟨bs1, bH1, bC1, bcl1, bfp1, rfl⟩ := hX1; exact (ed_tup (ea_cons (ed_var 7 rfl) (ea_cons (ed_sub ed_int (ed_mul (ed_var 7 rfl) (ed_sub (ed_sub (ed_var 2 rfl) ed_int) (ed_var 7 rfl)) (by walk_at "sd"))) ea_nil)))) (ok := blkOk_by (show blkC ["script", "k", "count", "mode", "x", "low", "high", "j", "cell", "y", "room"] (defScope (topS 33)) _ [("j", 7)] = true from by decide +kernel))) (y := (bow count).map dP) (by rw [bow, List.map_map]; rfl)) ?_)
        -- L4
        dsimp only
        rw [show plRoom ns k count = _ from if_pos hc3]
        exact ⟨_, _, _, _, _, _, rfl⟩
      · skip
        refine sb_nil ?_
        -- L5
        dsimp only
        rw [show plRoom ns k count = _ from if_neg (Bool.eq_false_iff.mp hc3)]
        exact ⟨_, _, _, _, _, _, rfl⟩
    obtain ⟨gj, gc, gy, gx, gl, gh, rfl⟩ := hJ
    refine sb_one (sd_ret (ed_var 10 rfl) ?_)
    -- L6
    exact rfl

def R_winding : Rl := fun xs r => ∃ (ns : List Int) (k : Int), ns.length ≤ 63 ∧ (0 ≤ k ∧ k ≤ 100) ∧ xs = [dScr ns, .int k] ∧ r = .dat (dPs (wind ns k))
theorem sc_law_winding : FnScope ["script", "k", "xs", "ys", "j", "cell", "plan", "a", "b"] ["script", "k"] (defScope (topS 34)) := ⟨rfl, rfl, rfl, by decide +kernel, rfl, by decide +kernel, by decide +kernel⟩
theorem ok_law_winding (B : Bl mg) (F_law_cell : FD P w K mg base CX0 "_law_cell" 1 R_law_cell) (F : Fun K "_law_winding" "_law_winding" (topS 34) f fd) : FnOk P w K mg base CX0 2 f fd ["script", "k"] (spD K R_winding) := by
  refine fn_D F sc_law_winding (fun xs r h => ?_) (fun X xs r hX hr h => ?_)
  · obtain ⟨ns, k, hn, hk, rfl, rfl⟩ := h
    rfl
  · obtain ⟨cdv, A, outer, s, H, E, rfl⟩ := hX
    have hN := sc_law_winding.nd
    obtain ⟨ns, k, hn, hk, rfl, rfl⟩ := h
    refine sb_cons (sd_setO 2 (ef_lst (ea_cons ed_int ea_nil)) (fun lxs hlxs => ?_))
    refine sb_cons (sd_setO 3 (ef_lst (ea_cons ed_int ea_nil)) (fun lys hlys => ?_))
    refine sb_cons (sd_for1 4 (fun i G => ∃ gj gc, G = { c := [some (.d (dScr ns)), some (.d (.int (k))), some (.v (.ref lxs)), some (.v (.ref lys)), gj, gc, none, none, none], o := [(lys, .lst ((wnTo ns k i).2.map dI)), (lxs, .lst ((wnTo ns k i).1.map dI))] }) B.range ed_int (by walk_at "sd") (by walk_at "sd") ?_ (fun i0 G0 hi0 hp0 => ?_) (fun G0 hp0 => ?_))
    · skip
      exact ⟨none, none, rfl⟩
    · skip
      obtain ⟨gj, gc, rfl⟩ := hp0
      have hw := wn_ok ns k i0
      have hx := hw.1.1
      have hy := hw.2.1
      refine sb_cons (sd_set 5 (ed_call F_law_cell (hr.mono (by decide)) p0 (ea_cons (ed_var 0 rfl) (ea_cons (ed_add (ed_add (ed_var 1 rfl) ed_int) (ed_var 4 rfl)) ea_nil)) ⟨_, _, by walk_at "sd", by walk_at "sd", rfl, rfl⟩) ?_)
      refine sb_cons (sd_append 2 [_] rfl (ed_add (ed_add (ed_ix (f := dI) (el_ownP 2 [_] rfl rfl) (ed_neg ed_int) (by walk_at "sd")) ed_int) (ed_mod (ed_var 5 rfl) ed_int (by walk_at "sd"))) (by walk_at "sd") ?_)
      refine sb_one (sd_append 3 [] rfl (ed_add (ed_add (ed_ix (f := dI) (el_ownP 3 [] rfl rfl) (ed_neg ed_int) (by walk_at "sd")) ed_int) (ed_mod (ed_fdiv (ed_var 5 rfl) ed_int (by walk_at "sd")) ed_int (by walk_at "sd"))) (by walk_at "sd") ?_)
      -- L0
      dsimp only
      rw [show wnTo ns k (i0 + 1) = (_, _) from rfl]
      dsimp only
      rw [List.map_append, List.map_append]
      exact ⟨_, _, rfl⟩
    obtain ⟨gj, gc, rfl⟩ := hp0
    have hw := wn_ok ns k 5
    have hx := hw.1.1
    have hy := hw.2.1
    refine sb_cons (sd_set 6 (ED.is (EF.ed (ef_lst (ea_cons (ed_tup (ea_cons ed_int (ea_cons ed_int ea_nil))) (ea_cons (ed_tup (ea_cons ed_int (ea_cons ed_int ea_nil))) (ea_cons (ed_tup (ea_cons ed_int (ea_cons ed_int ea_nil))) (ea_cons (ed_tup (ea_cons ed_int (ea_cons ed_int ea_nil))) (ea_cons (ed_tup (ea_cons ed_int (ea_cons ed_int ea_nil))) (ea_cons (ed_tup (ea_cons ed_int (ea_cons ed_int ea_nil))) (ea_cons (ed_tup (ea_cons ed_int (ea_cons ed_int ea_nil))) (ea_cons (ed_tup (ea_cons ed_int (ea_cons ed_int ea_nil))) (ea_cons (ed_tup (ea_cons ed_int (ea_cons ed_int ea_nil))) (ea_cons (ed_tup (ea_cons ed_int (ea_cons ed_int ea_nil))) (ea_cons (ed_tup (ea_cons ed_int (ea_cons ed_int ea_nil))) (ea_cons (ed_tup (ea_cons ed_int (ea_cons ed_int ea_nil))) ea_nil)))))))))))))) (y := dPs plan) rfl) ?_)
    refine sb_one (sd_ret (EF.ed (LC.ef (lc_c2 7 8 (ED.el (ed_var 6 rfl)) (by walk_at "sd") (fun v1 hv1 X1 hX1 hK1 => by obtain ⟨bs1, bH1, bC1, bcl1, bfp1, rfl⟩ := hX1; exact (ed_tup (ea_cons (ed_ix (f := dI) (el_ownP 2 [_] rfl rfl) (ed_var 7 rfl) (plan_x hv1 hx)) (ea_cons (ed_ix (f := dI) (el_ownP 3 [] rfl rfl) (ed_var 8 rfl) (plan_y hv1 hy)) ea_nil)))) (ok := blkOk_by (show blkC ["script", "k", "xs", "ys", "j", "cell", "plan", "a", "b"] (defScope (topS 34)) _ [("a", 7), ("b", 8)] = true from by decide +kernel))))) ?_)
    -- L1
    exact congrArg (fun z => Rs.dat (.list z)) (by rw [wind, List.map_map]; rfl)

def R_law_on : Rl := fun xs r => ∃ p q t : P2, Bd p ∧ Bd q ∧ Bd t ∧ xs = [dP p, dP q, dP t] ∧ r = .dat (.bool (lOn p q t))
theorem sc_law_on : FnScope ["one", "two", "point", "low", "high"] ["one", "two", "point"] (defScope (topS 37)) := ⟨rfl, rfl, rfl, by decide +kernel, rfl, by decide +kernel, by decide +kernel⟩
theorem ok_law_on (B : Bl mg) (F_law_side : FD P w K mg base CX0 "_law_side" 1 R_law_side) (F : Fun K "_law_on" "_law_on" (topS 37) f fd) : FnOk P w K mg base CX0 2 f fd ["one", "two", "point"] (spD K R_law_on) := by
  refine fn_D F sc_law_on (fun xs r h => ?_) (fun X xs r hX hr h => ?_)
  · obtain ⟨p, q, t, hp, hq, ht, rfl, rfl⟩ := h
    rfl
  · obtain ⟨cdv, A, outer, s, H, E, rfl⟩ := hX
    have hN := sc_law_on.nd
    obtain ⟨p, q, t, hp, hq, ht, rfl, rfl⟩ := h
    refine sb_cons (sd_if (et_cmp (ed_call F_law_side (hr.mono (by decide)) p0 (ea_cons (ed_var 0 rfl) (ea_cons (ed_var 1 rfl) (ea_cons (ed_var 2 rfl) ea_nil))) ⟨_, _, _, by walk_at "sd", by walk_at "sd", by walk_at "sd", rfl, rfl⟩) ed_int cd_neI) (fun hc1 => ?_) (fun hc1 => ?_))
    · skip
      refine sb_one (sd_ret ed_bl ?_)
      -- L0
      rw [lOn, if_pos hc1]
    refine sb_nil ?_
    refine sb_cons (sd_set 3 (ed_tup (ea_cons (ed_min2 B.min (ed_ixT (ed_var 0 rfl) ed_int rfl) (ed_ixT (ed_var 1 rfl) ed_int rfl)) (ea_cons (ed_min2 B.min (ed_ixT (ed_var 0 rfl) ed_int rfl) (ed_ixT (ed_var 1 rfl) ed_int rfl)) ea_nil))) ?_)
    refine sb_cons (sd_set 4 (ed_tup (ea_cons (ed_max2 B.max (ed_ixT (ed_var 0 rfl) ed_int rfl) (ed_ixT (ed_var 1 rfl) ed_int rfl)) (ea_cons (ed_max2 B.max (ed_ixT (ed_var 0 rfl) ed_int rfl) (ed_ixT (ed_var 1 rfl) ed_int rfl)) ea_nil))) ?_)
    refine sb_one (sd_ret (ed_and (ed_chain (ed_ixT (ed_var 3 rfl) ed_int rfl) (ed_ixT (ed_var 2 rfl) ed_int rfl) (ed_ixT (ed_var 4 rfl) ed_int rfl) cd_le cd_le) (fun hb1 => (ed_one (ed_chain (ed_ixT (ed_var 3 rfl) ed_int rfl) (ed_ixT (ed_var 2 rfl) ed_int rfl) (ed_ixT (ed_var 4 rfl) ed_int rfl) cd_le cd_le)))) ?_)
    -- L1
    rw [lOn, if_neg (Bool.eq_false_iff.mp hc1)]

def R_law_meet : Rl := fun xs r => ∃ a b c d : P2, Bd a ∧ Bd b ∧ Bd c ∧ Bd d ∧ xs = [dP a, dP b, dP c, dP d] ∧ r = .dat (.bool (lMeet a b c d))
theorem sc_law_meet : FnScope ["one", "two", "three", "four", "some", "a", "b", "point", "first"] ["one", "two", "three", "four"] (defScope (topS 38)) := ⟨rfl, rfl, rfl, by decide +kernel, rfl, by decide +kernel, by decide +kernel⟩
theorem ok_law_meet (B : Bl mg) (F_law_side : FD P w K mg base CX0 "_law_side" 1 R_law_side) (F_law_on : FD P w K mg base CX0 "_law_on" 2 R_law_on) (F : Fun K "_law_meet" "_law_meet" (topS 38) f fd) : FnOk P w K mg base CX0 3 f fd ["one", "two", "three", "four"] (spD K R_law_meet) := by
  refine fn_D F sc_law_meet (fun xs r h => ?_) (fun X xs r hX hr h => ?_)
  · obtain ⟨a, b, c, d, ha, hb, hc, hd, rfl, rfl⟩ := h
    rfl
  · obtain ⟨cdv, A, outer, s, H, E, rfl⟩ := hX
    have hN := sc_law_meet.nd
    obtain ⟨a, b, c, d, ha, hb, hc, hd, rfl, rfl⟩ := h
    refine sb_cons (sd_set 4 (EF.ed (ef_lst (ea_cons (ed_tup (ea_cons (ed_var 0 rfl) (ea_cons (ed_var 1 rfl) (ea_cons (ed_var 2 rfl) ea_nil)))) (ea_cons (ed_tup (ea_cons (ed_var 0 rfl) (ea_cons (ed_var 1 rfl) (ea_cons (ed_var 3 rfl) ea_nil)))) ea_nil)))) ?_)
    refine sb_cons (sd_set 4 (ED.is (EF.ed (ef_cat (ED.el (ed_var 4 rfl)) (EF.el (ef_lst (ea_cons (ed_tup (ea_cons (ed_var 2 rfl) (ea_cons (ed_var 3 rfl) (ea_cons (ed_var 0 rfl) ea_nil)))) (ea_cons (ed_tup (ea_cons (ed_var 2 rfl) (ea_cons (ed_var 3 rfl) (ea_cons (ed_var 1 rfl) ea_nil)))) ea_nil)))) (by walk_at "sd"))) (y := .list (([(a, b, c), (a, b, d), (c, d, a), (c, d, b)] : List (P2 × P2 × P2)).map fun t => .tuple [dP t.1, dP t.2.1, dP t.2.2])) rfl) ?_)
    refine sb_cons (sd_forL3 5 6 7 (fun i G => (∀ k : Nat, k < i → ∀ t : P2 × P2 × P2, ([(a, b, c), (a, b, d), (c, d, a), (c, d, b)] : List (P2 × P2 × P2))[k]? = some t → lOn t.1 t.2.1 t.2.2 = false) ∧ ∃ g1 g2 g3, G = { c := [some (.d (dP a)), some (.d (dP b)), some (.d (dP c)), some (.d (dP d)), some (.d (.list (([(a, b, c), (a, b, d), (c, d, a), (c, d, b)] : List (P2 × P2 × P2)).map fun t => .tuple [dP t.1, dP t.2.1, dP t.2.2]))), g1, g2, g3, none] }) (ed_var 4 rfl) ?_ (fun i0 t0 G0 hi0 hp0 => ?_) (fun G0 hp0 => ?_))
    · skip
      exact ⟨no_less, none, none, none, rfl⟩
    · skip
      obtain ⟨w1, g1, g2, g3, rfl⟩ := hp0
      have hb3 : Bd t0.1 ∧ Bd t0.2.1 ∧ Bd t0.2.2 := by
        have h := List.mem_of_getElem? hi0
        simp only [List.mem_cons, List.not_mem_nil, or_false] at h
        rcases h with rfl | rfl | rfl | rfl
        · exact ⟨ha, hb, hc⟩
        · exact ⟨ha, hb, hd⟩
        · exact ⟨hc, hd, ha⟩
        · exact ⟨hc, hd, hb⟩
      obtain ⟨hb31, hb32, hb33⟩ := hb3
      refine sb_one (sd_if (et_val (ed_call F_law_on (hr.mono (by decide)) p0 (ea_cons (ed_var 5 rfl) (ea_cons (ed_var 6 rfl) (ea_cons (ed_var 7 rfl) ea_nil))) ⟨_, _, _, by walk_at "sd", by walk_at "sd", by walk_at "sd", rfl, rfl⟩)) (fun hc1 => ?_) (fun hc1 => ?_))
      · skip
        refine sb_one (sd_ret ed_bl ?_)
        -- L0
        rw [show lMeet a b c d = true from if_pos (any_get_t hi0 hc1)]
      refine sb_nil ?_
      -- L1
      exact ⟨lt_more w1 (get_once hi0 hc1), _, _, _, rfl⟩
    obtain ⟨w1, g1, g2, g3, rfl⟩ := hp0
    refine sb_cons (sd_set 8 (ed_cmp (ed_cmp (ed_call F_law_side (hr.mono (by decide)) p0 (ea_cons (ed_var 0 rfl) (ea_cons (ed_var 1 rfl) (ea_cons (ed_var 2 rfl) ea_nil))) ⟨_, _, _, by walk_at "sd", by walk_at "sd", by walk_at "sd", rfl, rfl⟩) ed_int cd_gt) (ed_cmp (ed_call F_law_side (hr.mono (by decide)) p0 (ea_cons (ed_var 0 rfl) (ea_cons (ed_var 1 rfl) (ea_cons (ed_var 3 rfl) ea_nil))) ⟨_, _, _, by walk_at "sd", by walk_at "sd", by walk_at "sd", rfl, rfl⟩) ed_int cd_gt) cd_neB) ?_)
    refine sb_one (sd_ret (ed_and (ed_var 8 rfl) (fun hb1 => (ed_one (ed_cmp (ed_cmp (ed_call F_law_side (hr.mono (by decide)) p0 (ea_cons (ed_var 2 rfl) (ea_cons (ed_var 3 rfl) (ea_cons (ed_var 0 rfl) ea_nil))) ⟨_, _, _, by walk_at "sd", by walk_at "sd", by walk_at "sd", rfl, rfl⟩) ed_int cd_gt) (ed_cmp (ed_call F_law_side (hr.mono (by decide)) p0 (ea_cons (ed_var 2 rfl) (ea_cons (ed_var 3 rfl) (ea_cons (ed_var 1 rfl) ea_nil))) ⟨_, _, _, by walk_at "sd", by walk_at "sd", by walk_at "sd", rfl, rfl⟩) ed_int cd_gt) cd_neB)))) ?_)
    -- L2
    rw [show lMeet a b c d = _ from if_neg (Bool.eq_false_iff.mp (any_get_f w1))]

def R_law_area : Rl := fun xs r => ∃ rm : List P2, Bds rm ∧ 3 ≤ rm.length ∧ rm.length ≤ 100 ∧ xs = [dPs rm] ∧ r = .dat (.int (areaBy rm))
theorem sc_law_area : FnScope ["room", "total", "k", "one", "two"] ["room"] (defScope (topS 39)) := ⟨rfl, rfl, rfl, by decide +kernel, rfl, by decide +kernel, by decide +kernel⟩
theorem ok_law_area (B : Bl mg) (F : Fun K "_law_area" "_law_area" (topS 39) f fd) : FnOk P w K mg base CX0 1 f fd ["room"] (spD K R_law_area) := by
  refine fn_D F sc_law_area (fun xs r h => ?_) (fun X xs r hX hr h => ?_)
  · obtain ⟨rm, hB, h3, hl, rfl, rfl⟩ := h
    rfl
  · obtain ⟨cdv, A, outer, s, H, E, rfl⟩ := hX
    have hN := sc_law_area.nd
    obtain ⟨rm, hB, h3, hl, rfl, rfl⟩ := h
    refine sb_cons (sd_set 1 ed_int ?_)
    refine sb_cons (sd_for1 2 (fun i G => ∃ g2 g3 g4, G = { c := [some (.d (dPs rm)), some (.d (.int (areaTo rm i))), g2, g3, g4] }) B.range (ed_lenM B.len (ED.el (ed_var 0 rfl))) (by walk_at "sd") (by walk_at "sd") ?_ (fun i0 G0 hi0 hp0 => ?_) (fun G0 hp0 => ?_))
    · skip
      exact ⟨none, none, none, rfl⟩
    · skip
      obtain ⟨g2, g3, g4, rfl⟩ := hp0
      refine sb_cons (sd_par 3 4 (ea_cons (ed_ix (f := dP) (ED.el (ed_var 0 rfl)) (ed_sub (ed_var 2 rfl) ed_int) (by walk_at "sd")) (ea_cons (ed_ix (f := dP) (ED.el (ed_var 0 rfl)) (ed_var 2 rfl) (by walk_at "sd")) ea_nil)) ?_)
      refine sb_one (sd_set 1 (ed_sub (ed_add (ed_var 1 rfl) (ed_mul (ed_ixT (ed_var 3 rfl) ed_int rfl) (ed_ixT (ed_var 4 rfl) ed_int rfl) (by walk_at "sd"))) (ed_mul (ed_ixT (ed_var 3 rfl) ed_int rfl) (ed_ixT (ed_var 4 rfl) ed_int rfl) (by walk_at "sd"))) ?_)
      -- L0
      exact ⟨_, _, _, rfl⟩
    obtain ⟨g2, g3, g4, rfl⟩ := hp0
    refine sb_one (sd_ret (ed_var 1 rfl) ?_)
    -- L1
    exact rfl

def R_law_good : Rl := fun xs r => ∃ rm : List P2, Bds rm ∧ rm.length ≤ 60 ∧ xs = [dPs rm] ∧ r = .dat (.bool (lGood rm))
theorem sc_law_good : FnScope ["room", "count", "x", "y", "k", "j"] ["room"] (defScope (topS 40)) := ⟨rfl, rfl, rfl, by decide +kernel, rfl, by decide +kernel, by decide +kernel⟩
theorem ok_law_good (B : Bl mg) (F_law_flat : FD P w K mg base CX0 "_law_flat" 2 R_law_flat) (F_law_area : FD P w K mg base CX0 "_law_area" 1 R_law_area) (F_law_meet : FD P w K mg base CX0 "_law_meet" 3 R_law_meet) (F : Fun K "_law_good" "_law_good" (topS 40) f fd) : FnOk P w K mg base CX0 4 f fd ["room"] (spD K R_law_good) := by
  refine fn_D F sc_law_good (fun xs r h => ?_) (fun X xs r hX hr h => ?_)
  · obtain ⟨rm, hB, hl, rfl, rfl⟩ := h
    rfl
  · obtain ⟨cdv, A, outer, s, H, E, rfl⟩ := hX
    have hN := sc_law_good.nd
    obtain ⟨rm, hB, hl, rfl, rfl⟩ := h
    refine sb_cons (sd_set 1 (ed_lenM B.len (ED.el (ed_var 0 rfl))) ?_)
    refine sb_cons (sd_if (EW.et (ew_or (et_not (et_chain ed_int (ed_var 1 rfl) ed_int cd_le cd_le)) (fun hb1 => (ew_or1 (et_cmp (ed_lenM B.len (EF.el (LC.ef (lc_c2If 2 3 _ (ED.el (ed_var 0 rfl)) (by walk_at "sd") (fun v2 hv2 X2 hX2 hK2 => by obtain ⟨bs2, bH2, bC2, bcl2, bfp2, rfl⟩ := hX2; exact (et_cmp (ed_max2 B.max (ed_abs B.abs (ed_var 2 rfl)) (ed_abs B.abs (ed_var 3 rfl))) ed_int cd_gt)) (fun v2 hv2 ht2 X2 hX2 hK2 => by obtain ⟨bs2, bH2, bC2, bcl2, bfp2, rfl⟩ := hX2; exact ed_int) (ok := blkOk_by (show blkC ["room", "count", "x", "y", "k", "j"] (defScope (topS 40)) _ [("x", 2), ("y", 3)] = true from by decide +kernel)))))) ed_int cd_gt))))) (fun hc1 => ?_) (fun hc1 => ?_))
    · skip
      refine sb_one (sd_ret ed_bl ?_)
      -- L0
      rw [show lGood rm = false from if_pos hc1]
    have h3 : 3 ≤ rm.length := by
      have h := hc1
      simp only [Bool.or_eq_false_iff, Bool.not_eq_false', Bool.and_eq_true, decide_eq_true_eq] at h
      omega
    refine sb_nil ?_
    refine sb_cons (sd_if (EW.et (ew_or (et_cmp (ed_lenSet hr.units B.len B.set (ED.el (ed_var 0 rfl)) (by walk_at "sd")) (ed_var 1 rfl) cd_neI) (fun hb2 => (ew_or (et_val (ed_call F_law_flat (hr.mono (by decide)) p0 (ea_cons (ed_var 0 rfl) ea_nil) ⟨_, by walk_at "sd", by walk_at "sd", by walk_at "sd", rfl, rfl⟩)) (fun hb3 => (ew_or1 (et_cmp (ed_call F_law_area (hr.mono (by decide)) p0 (ea_cons (ed_var 0 rfl) ea_nil) ⟨_, by walk_at "sd", by walk_at "sd", by walk_at "sd", rfl, rfl⟩) ed_int cd_le))))))) (fun hc2 => ?_) (fun hc2 => ?_))
    · skip
      refine sb_one (sd_ret ed_bl ?_)
      -- L1
      rw [show lGood rm = false from (if_neg (Bool.eq_false_iff.mp hc1)).trans (if_pos hc2)]
    refine sb_nil ?_
    refine sb_cons (sd_for1 4 (fun i G => (∀ k : Nat, k < i → ∀ j : Nat, j < k → lwm rm k j = false) ∧ ∃ g1 g2, G = { c := [some (.d (dPs rm)), some (.d (.int (rm.length : Int))), none, none, g1, g2] }) B.range (ed_var 1 rfl) (by walk_at "sd") (by walk_at "sd") ?_ (fun i0 G0 hi0 hp0 => ?_) (fun G0 hp0 => ?_))
    · skip
      exact ⟨no_less, none, none, rfl⟩
    · skip
      obtain ⟨w0, g1, g2, rfl⟩ := hp0
      refine sb_one (sd_for1 5 (fun i G => (∀ j : Nat, j < i → lwm rm i0 j = false) ∧ ∃ g2, G = { c := [some (.d (dPs rm)), some (.d (.int (rm.length : Int))), none, none, some (.d (.int i0)), g2] }) B.range (ed_var 4 rfl) (by walk_at "sd") (by walk_at "sd") ?_ (fun i1 G1 hi1 hp1 => ?_) (fun G1 hp1 => ?_))
      · skip
        exact ⟨no_less, _, rfl⟩
      · skip
        obtain ⟨w1, g2, rfl⟩ := hp1
        refine sb_one (sd_if (et_cmp (ed_mod (ed_sub (ed_var 4 rfl) (ed_var 5 rfl)) (ed_var 1 rfl) (by walk_at "sd")) (EF.ed (ef_lst (ea_cons ed_int (ea_cons (ed_sub (ed_var 1 rfl) ed_int) ea_nil)))) (cd_niL (ns := [_, _]) rfl)) (fun hc3 => ?_) (fun hc3 => ?_))
        · skip
          refine sb_one (sd_if (et_val (ed_call F_law_meet (hr.mono (by decide)) p0 (ea_cons (ed_ix (f := dP) (ED.el (ed_var 0 rfl)) (ed_sub (ed_var 4 rfl) ed_int) (by walk_at "sd")) (ea_cons (ed_ix (f := dP) (ED.el (ed_var 0 rfl)) (ed_var 4 rfl) (by walk_at "sd")) (ea_cons (ed_ix (f := dP) (ED.el (ed_var 0 rfl)) (ed_sub (ed_var 5 rfl) ed_int) (by walk_at "sd")) (ea_cons (ed_ix (f := dP) (ED.el (ed_var 0 rfl)) (ed_var 5 rfl) (by walk_at "sd")) ea_nil)))) ⟨_, _, _, _, by walk_at "sd", by walk_at "sd", by walk_at "sd", by walk_at "sd", rfl, rfl⟩)) (fun hc4 => ?_) (fun hc4 => ?_))
          · skip
            refine sb_one (sd_ret ed_bl ?_)
            -- L2
            rw [show lGood rm = false from ((if_neg (Bool.eq_false_iff.mp hc1)).trans (if_neg (Bool.eq_false_iff.mp hc2))).trans (lApart_f (k := i0) (j := i1) (by omega) (by omega) (by rw [lwm, hc3, hc4]; rfl))]
          refine sb_nil ?_
          -- L3
          exact ⟨lt_more w1 (by rw [lwm, hc3, hc4]; rfl), _, rfl⟩
        refine sb_nil ?_
        -- L4
        exact ⟨lt_more w1 (by rw [lwm, hc3]; rfl), _, rfl⟩
      obtain ⟨w1, g2, rfl⟩ := hp1
      -- L5
      exact ⟨lt_more w0 w1, _, _, rfl⟩
    obtain ⟨w0, g1, g2, rfl⟩ := hp0
    refine sb_one (sd_ret ed_bl ?_)
    -- L6
    rw [show lGood rm = true from ((if_neg (Bool.eq_false_iff.mp hc1)).trans (if_neg (Bool.eq_false_iff.mp hc2))).trans (lApart_t w0)]

def R_pushed : Rl := fun xs r => ∃ (ns : List Int) (k : Int) (rm : List P2), ns.length ≤ 63 ∧ (0 ≤ k ∧ k ≤ 100) ∧ Rm 90 rm ∧ xs = [dScr ns, .int k, dPs rm] ∧ r = .dat (dPs (pushed ns k rm))
theorem sc_law_pushed : FnScope ["script", "k", "room", "j", "cell", "at", "x", "y", "tried"] ["script", "k", "room"] (defScope (topS 35)) := ⟨rfl, rfl, rfl, by decide +kernel, rfl, by decide +kernel, by decide +kernel⟩
theorem ok_law_pushed (B : Bl mg) (F_law_cell : FD P w K mg base CX0 "_law_cell" 1 R_law_cell) (F_law_good : FD P w K mg base CX0 "_law_good" 4 R_law_good) (F : Fun K "_law_pushed" "_law_pushed" (topS 35) f fd) : FnOk P w K mg base CX0 5 f fd ["script", "k", "room"] (spD K R_pushed) := by
  refine fn_D F sc_law_pushed (fun xs r h => ?_) (fun X xs r hX hr h => ?_)
  · obtain ⟨ns, k, rm, hn, hk, hR, rfl, rfl⟩ := h
    rfl
  · obtain ⟨cdv, A, outer, s, H, E, rfl⟩ := hX
    have hN := sc_law_pushed.nd
    obtain ⟨ns, k, rm, hn, hk, hR, rfl, rfl⟩ := h
    have hlo := hR.lo
    have hhi := hR.hi
    refine sb_cons (sd_for1 3 (fun i G => ∃ g3 g4 g5 g6 g7 g8, G = { c := [some (.d (dScr ns)), some (.d (.int (k))), some (.d (dPs (psTo ns k rm i))), g3, g4, g5, g6, g7, g8] }) B.range (ed_mod (ed_fdiv (ed_call F_law_cell (hr.mono (by decide)) p0 (ea_cons (ed_var 0 rfl) (ea_cons (ed_add (ed_var 1 rfl) ed_int) ea_nil)) ⟨_, _, by walk_at "sd", by walk_at "sd", rfl, rfl⟩) ed_int (by walk_at "sd")) ed_int (by walk_at "sd")) (by walk_at "sd") (by walk_at "sd") ?_ (fun i0 G0 hi0 hp0 => ?_) (fun G0 hp0 => ?_))
    · skip
      exact ⟨none, none, none, none, none, none, rfl⟩
    · skip
      obtain ⟨g3, g4, g5, g6, g7, g8, rfl⟩ := hp0
      have hps := psTo_ok (ns := ns) (k := k) hlo hR.sm (by omega) i0
      have hpl := hps.2
      have hat := psAt_bd (ns := ns) (k := k) (j := (i0 : Int)) (r := psTo ns k rm i0) (by omega)
      have htl := psTry_len (ns := ns) (k := k) (j := (i0 : Int)) (r := psTo ns k rm i0) (by omega)
      have hts : Bds (psTry ns k (psTo ns k rm i0) (i0 : Int)) := (psTry_sm (by omega) hps.1).bds
      refine sb_cons (sd_set 4 (ed_call F_law_cell (hr.mono (by decide)) p0 (ea_cons (ed_var 0 rfl) (ea_cons (ed_add (ed_add (ed_var 1 rfl) ed_int) (ed_var 3 rfl)) ea_nil)) ⟨_, _, by walk_at "sd", by walk_at "sd", rfl, rfl⟩) ?_)
      refine sb_cons (sd_set 5 (ED.is (ed_mod (ed_var 4 rfl) (ed_lenM B.len (ED.el (ed_var 2 rfl))) (by walk_at "sd")) (y := .int (psAt ns k (psTo ns k rm i0) i0)) rfl) ?_)
      refine sb_cons (sd_set 6 (ED.is (ed_sub (ed_add (ed_ixT (ed_ix (f := dP) (ED.el (ed_var 2 rfl)) (ed_var 5 rfl) (by walk_at "sd")) ed_int rfl) (ed_mod (ed_fdiv (ed_var 4 rfl) ed_int (by walk_at "sd")) ed_int (by walk_at "sd"))) ed_int) (y := .int (psX ns k (psTo ns k rm i0) i0)) rfl) ?_)
      refine sb_cons (sd_set 7 (ED.is (ed_sub (ed_add (ed_ixT (ed_ix (f := dP) (ED.el (ed_var 2 rfl)) (ed_var 5 rfl) (by walk_at "sd")) ed_int rfl) (ed_mod (ed_fdiv (ed_var 4 rfl) ed_int (by walk_at "sd")) ed_int (by walk_at "sd"))) ed_int) (y := .int (psY ns k (psTo ns k rm i0) i0)) rfl) ?_)
      refine sb_cons (sd_set 8 (ED.is (EF.ed (ef_cat (EF.el (ef_cat (EF.el (ef_to (ED.el (ed_var 2 rfl)) (ed_var 5 rfl) (by walk_at "sd"))) (EF.el (ef_lst (ea_cons (ed_tup (ea_cons (ed_var 6 rfl) (ea_cons (ed_var 7 rfl) ea_nil))) ea_nil))) (by walk_at "sd"))) (EF.el (ef_from (ED.el (ed_var 2 rfl)) (ed_add (ed_var 5 rfl) ed_int) (by walk_at "sd"))) (by walk_at "sd"))) (y := dPs (psTry ns k (psTo ns k rm i0) i0)) (by rw [psTry, dPs, List.map_append, List.map_append, List.map_take, List.map_drop]; rfl)) ?_)
      refine sb_one (sd_if (EW.et (ew_and (et_cmp (ed_max2 B.max (ed_abs B.abs (ed_var 6 rfl)) (ed_abs B.abs (ed_var 7 rfl))) ed_int cd_lt) (fun hb1 => (ew_and1 (et_val (ed_call F_law_good (hr.mono (by decide)) p0 (ea_cons (ed_var 8 rfl) ea_nil) ⟨_, by walk_at "sd", by walk_at "sd", rfl, rfl⟩)))))) (fun hc1 => ?_) (fun hc1 => ?_))
      · skip
        refine sb_one (sd_set 2 (ed_var 8 rfl) ?_)
        -- L0
        dsimp only
        rw [show psTo ns k rm (i0 + 1) = _ from if_pos hc1]
        exact ⟨_, _, _, _, _, _, rfl⟩
      refine sb_nil ?_
      -- L1
      dsimp only
      rw [show psTo ns k rm (i0 + 1) = _ from if_neg (Bool.eq_false_iff.mp hc1)]
      exact ⟨_, _, _, _, _, _, rfl⟩
    obtain ⟨g3, g4, g5, g6, g7, g8, rfl⟩ := hp0
    refine sb_one (sd_ret (ed_var 2 rfl) ?_)
    -- L2
    exact rfl

def R_room : Rl := fun xs r => ∃ (ns : List Int) (k most : Int), ns.length ≤ 63 ∧ (0 ≤ k ∧ k ≤ 80) ∧ (3 ≤ most ∧ most ≤ 12) ∧ xs = [dScr ns, .int k, .int most] ∧ r = .dat (dPs (lawRoom ns k most))
theorem sc_law_room : FnScope ["script", "k", "most", "cell", "room", "slant", "x", "y", "turn", "first", "a", "b"] ["script", "k", "most"] (defScope (topS 36)) := ⟨rfl, rfl, rfl, by decide +kernel, rfl, by decide +kernel, by decide +kernel⟩
theorem ok_law_room (B : Bl mg) (F_law_cell : FD P w K mg base CX0 "_law_cell" 1 R_law_cell) (F_law_plain_room : FD P w K mg base CX0 "_law_plain_room" 3 R_plain) (F_law_winding : FD P w K mg base CX0 "_law_winding" 2 R_winding) (F_law_pushed : FD P w K mg base CX0 "_law_pushed" 5 R_pushed) (F : Fun K "_law_room" "_law_room" (topS 36) f fd) : FnOk P w K mg base CX0 6 f fd ["script", "k", "most"] (spD K R_room) := by
  refine fn_D F sc_law_room (fun xs r h => ?_) (fun X xs r hX hr h => ?_)
  · obtain ⟨ns, k, most, hn, hk, hm, rfl, rfl⟩ := h
    rfl
  · obtain ⟨cdv, A, outer, s, H, E, rfl⟩ := hX
    have hN := sc_law_room.nd
    obtain ⟨ns, k, most, hn, hk, hm, rfl, rfl⟩ := h
    have hA := rmA_ok (ns := ns) (k := k) hm.1 hm.2
    have hAl := hA.hi
    have hSh := shear_ok hA (slant_bd ns k)
    have hB := rmB_ok (ns := ns) (k := k) hm.1 hm.2
    have hBl := hB.hi
    have hC := rmC_ok (ns := ns) (k := k) hm.1 hm.2
    have hCl := hC.hi
    have hD := rmD_ok (ns := ns) (k := k) hm.1 hm.2
    have hDl := hD.hi
    have hE := rmE_ok (ns := ns) (k := k) hm.1 hm.2
    have hEl := hE.lo
    have hEh := hE.hi
    have hmo := md (a := cell ns k) (m := most - 2) (by omega)
    have hfi := md (a := cell ns (k + 3)) (m := ((rmE ns k most).length : Int)) (by omega)
    have hrl := rotD_len (r := rmE ns k most) (f := cell ns (k + 3) % ((rmE ns k most).length : Int)) (by omega)
    refine sb_cons (sd_set 3 (ed_call F_law_cell (hr.mono (by decide)) p0 (ea_cons (ed_var 0 rfl) (ea_cons (ed_var 1 rfl) ea_nil)) ⟨_, _, by walk_at "sd", by walk_at "sd", rfl, rfl⟩) ?_)
    refine sb_cons (sd_set 4 (ed_call F_law_plain_room (hr.mono (by decide)) p0 (ea_cons (ed_var 0 rfl) (ea_cons (ed_var 1 rfl) (ea_cons (ed_add ed_int (ed_mod (ed_var 3 rfl) (ed_sub (ed_var 2 rfl) ed_int) (by walk_at "sd"))) ea_nil))) ⟨_, _, _, by walk_at "sd", by walk_at "sd", by walk_at "sd", rfl, rfl⟩) ?_)
    refine sb_consP (fun G' => G' = { c := [some (.d (dScr ns)), some (.d (.int (k))), some (.d (.int (most))), some (.d (.int (cell ns k))), some (.d (dPs (rmA ns k most))), none, none, none, none, none, none, none] }) ?_ (fun GJ hJ => ?_)
    · skip
      refine sd_if (EW.et (ew_and (et_cmp (ed_var 2 rfl) ed_int cd_eqI) (fun hb1 => (ew_and1 (et_cmp (ed_mod (ed_fdiv (ed_call F_law_cell (hr.mono (by decide)) p0 (ea_cons (ed_var 0 rfl) (ea_cons (ed_add (ed_var 1 rfl) ed_int) ea_nil)) ⟨_, _, by walk_at "sd", by walk_at "sd", rfl, rfl⟩) ed_int (by walk_at "sd")) ed_int (by walk_at "sd")) ed_int cd_eqI))))) (fun hc1 => ?_) (fun hc1 => ?_)
      · skip
        refine sb_one (sd_set 4 (ed_call F_law_winding (hr.mono (by decide)) p0 (ea_cons (ed_var 0 rfl) (ea_cons (ed_var 1 rfl) ea_nil)) ⟨_, _, by walk_at "sd", by walk_at "sd", rfl, rfl⟩) ?_)
        -- L0
        show _ = _
        rw [show rmA ns k most = _ from if_pos hc1]
        try rfl
      · skip
        refine sb_nil ?_
        -- L1
        show _ = _
        rw [show rmA ns k most = _ from if_neg (Bool.eq_false_iff.mp hc1)]
        try rfl
    subst hJ
    refine sb_cons (sd_set 5 (ED.is (ed_sub (ed_mod (ed_fdiv (ed_call F_law_cell (hr.mono (by decide)) p0 (ea_cons (ed_var 0 rfl) (ea_cons (ed_add (ed_var 1 rfl) ed_int) ea_nil)) ⟨_, _, by walk_at "sd", by walk_at "sd", rfl, rfl⟩) ed_int (by walk_at "sd")) ed_int (by walk_at "sd")) ed_int) (y := .int (slant ns k)) rfl) ?_)
    refine sb_cons (sd_set 4 (ED.is (ed_call F_law_pushed (hr.mono (by decide)) p0 (ea_cons (ed_var 0 rfl) (ea_cons (ed_var 1 rfl) (ea_cons (EF.ed (LC.ef (LC.is (lc_c2 6 7 (ED.el (ed_var 4 rfl)) (by walk_at "sd") (fun v1 hv1 X1 hX1 hK1 => by obtain ⟨bs1, bH1, bC1, bcl1, bfp1, rfl⟩ := hX1; exact (ed_tup (ea_cons (ed_add (ed_var 6 rfl) (ed_mul (ed_var 5 rfl) (ed_var 7 rfl) (cm_slant (by assumption) hv1))) (ea_cons (ed_var 7 rfl) ea_nil)))) (ok := blkOk_by (show blkC ["script", "k", "most", "cell", "room", "slant", "x", "y", "turn", "first", "a", "b"] (defScope (topS 36)) _ [("x", 6), ("y", 7)] = true from by decide +kernel))) (y := (shear (slant ns k) (rmA ns k most)).map dP) (by rw [shear, List.map_map]; rfl)))) ea_nil))) ⟨_, _, _, by walk_at "sd", by walk_at "sd", by walk_at "sd", rfl, rfl⟩) (y := dPs (rmB ns k most)) rfl) ?_)
    refine sb_cons (sd_set 8 (ED.is (ed_mod (ed_call F_law_cell (hr.mono (by decide)) p0 (ea_cons (ed_var 0 rfl) (ea_cons (ed_add (ed_var 1 rfl) ed_int) ea_nil)) ⟨_, _, by walk_at "sd", by walk_at "sd", rfl, rfl⟩) ed_int (by walk_at "sd")) (y := .int (turn8 ns k)) rfl) ?_)
    refine sb_consP (fun G' => G' = { c := [some (.d (dScr ns)), some (.d (.int (k))), some (.d (.int (most))), some (.d (.int (cell ns k))), some (.d (dPs (rmC ns k most))), some (.d (.int (slant ns k))), none, none, some (.d (.int (turn8 ns k))), none, none, none] }) ?_ (fun GJ hJ => ?_)
    · skip
      refine sd_if (et_cmp (ed_mod (ed_var 8 rfl) ed_int (by walk_at "sd")) ed_int cd_eqI) (fun hc2 => ?_) (fun hc2 => ?_)
      · skip
        refine sb_one (sd_set 4 (EF.ed (EF.is (ef_rev (EF.el (LC.ef (lc_c2 6 7 (ED.el (ed_var 4 rfl)) (by walk_at "sd") (fun v2 hv2 X2 hX2 hK2 => by obtain ⟨bs2, bH2, bC2, bcl2, bfp2, rfl⟩ := hX2; exact (ed_tup (ea_cons (ed_sub ed_int (ed_var 6 rfl)) (ea_cons (ed_var 7 rfl) ea_nil)))) (ok := blkOk_by (show blkC ["script", "k", "most", "cell", "room", "slant", "x", "y", "turn", "first", "a", "b"] (defScope (topS 36)) _ [("x", 6), ("y", 7)] = true from by decide +kernel)))))) (y := (mirX (rmB ns k most)).map dP) (by rw [mirX, List.map_reverse, List.map_map]; rfl))) ?_)
        -- L2
        show _ = _
        rw [show rmC ns k most = _ from if_pos hc2]
        try rfl
      · skip
        refine sb_nil ?_
        -- L3
        show _ = _
        rw [show rmC ns k most = _ from if_neg (Bool.eq_false_iff.mp hc2)]
        try rfl
    subst hJ
    refine sb_consP (fun G' => G' = { c := [some (.d (dScr ns)), some (.d (.int (k))), some (.d (.int (most))), some (.d (.int (cell ns k))), some (.d (dPs (rmD ns k most))), some (.d (.int (slant ns k))), none, none, some (.d (.int (turn8 ns k))), none, none, none] }) ?_ (fun GJ hJ => ?_)
    · skip
      refine sd_if (et_cmp (ed_mod (ed_fdiv (ed_var 8 rfl) ed_int (by walk_at "sd")) ed_int (by walk_at "sd")) ed_int cd_eqI) (fun hc3 => ?_) (fun hc3 => ?_)
      · skip
        refine sb_one (sd_set 4 (EF.ed (EF.is (ef_rev (EF.el (LC.ef (lc_c2 6 7 (ED.el (ed_var 4 rfl)) (by walk_at "sd") (fun v3 hv3 X3 hX3 hK3 => by obtain ⟨bs3, bH3, bC3, bcl3, bfp3, rfl⟩ := hX3; exact (ed_tup (ea_cons (ed_var 6 rfl) (ea_cons (ed_sub ed_int (ed_var 7 rfl)) ea_nil)))) (ok := blkOk_by (show blkC ["script", "k", "most", "cell", "room", "slant", "x", "y", "turn", "first", "a", "b"] (defScope (topS 36)) _ [("x", 6), ("y", 7)] = true from by decide +kernel)))))) (y := (mirY (rmC ns k most)).map dP) (by rw [mirY, List.map_reverse, List.map_map]; rfl))) ?_)
        -- L4
        show _ = _
        rw [show rmD ns k most = _ from if_pos hc3]
        try rfl
      · skip
        refine sb_nil ?_
        -- L5
        show _ = _
        rw [show rmD ns k most = _ from if_neg (Bool.eq_false_iff.mp hc3)]
        try rfl
    subst hJ
    refine sb_consP (fun G' => G' = { c := [some (.d (dScr ns)), some (.d (.int (k))), some (.d (.int (most))), some (.d (.int (cell ns k))), some (.d (dPs (rmE ns k most))), some (.d (.int (slant ns k))), none, none, some (.d (.int (turn8 ns k))), none, none, none] }) ?_ (fun GJ hJ => ?_)
    · skip
      refine sd_if (et_cmp (ed_fdiv (ed_var 8 rfl) ed_int (by walk_at "sd")) ed_int cd_eqI) (fun hc4 => ?_) (fun hc4 => ?_)
      · skip
        refine sb_one (sd_set 4 (EF.ed (EF.is (ef_rev (EF.el (LC.ef (lc_c2 6 7 (ED.el (ed_var 4 rfl)) (by walk_at "sd") (fun v4 hv4 X4 hX4 hK4 => by obtain ⟨bs4, bH4, bC4, bcl4, bfp4, rfl⟩ := hX4; exact (ed_tup (ea_cons (ed_var 7 rfl) (ea_cons (ed_var 6 rfl) ea_nil)))) (ok := blkOk_by (show blkC ["script", "k", "most", "cell", "room", "slant", "x", "y", "turn", "first", "a", "b"] (defScope (topS 36)) _ [("x", 6), ("y", 7)] = true from by decide +kernel)))))) (y := (swp (rmD ns k most)).map dP) (by rw [swp, List.map_reverse, List.map_map]; rfl))) ?_)
        -- L6
        show _ = _
        rw [show rmE ns k most = _ from if_pos hc4]
        try rfl
      · skip
        refine sb_nil ?_
        -- L7
        show _ = _
        rw [show rmE ns k most = _ from if_neg (Bool.eq_false_iff.mp hc4)]
        try rfl
    subst hJ
    refine sb_cons (sd_set 9 (ed_mod (ed_call F_law_cell (hr.mono (by decide)) p0 (ea_cons (ed_var 0 rfl) (ea_cons (ed_add (ed_var 1 rfl) ed_int) ea_nil)) ⟨_, _, by walk_at "sd", by walk_at "sd", rfl, rfl⟩) (ed_lenM B.len (ED.el (ed_var 4 rfl))) (by walk_at "sd")) ?_)
    refine sb_cons (sd_set 6 (ed_sub (ed_mod (ed_fdiv (ed_call F_law_cell (hr.mono (by decide)) p0 (ea_cons (ed_var 0 rfl) (ea_cons (ed_add (ed_var 1 rfl) ed_int) ea_nil)) ⟨_, _, by walk_at "sd", by walk_at "sd", rfl, rfl⟩) ed_int (by walk_at "sd")) ed_int (by walk_at "sd")) ed_int) ?_)
    refine sb_cons (sd_set 7 (ed_sub (ed_mod (ed_call F_law_cell (hr.mono (by decide)) p0 (ea_cons (ed_var 0 rfl) (ea_cons (ed_add (ed_var 1 rfl) ed_int) ea_nil)) ⟨_, _, by walk_at "sd", by walk_at "sd", rfl, rfl⟩) ed_int (by walk_at "sd")) ed_int) ?_)
    refine sb_one (sd_ret (EF.ed (LC.ef (lc_c2 10 11 (EF.el (EF.is (ef_cat (EF.el (ef_from (ED.el (ed_var 4 rfl)) (ed_var 9 rfl) (by walk_at "sd"))) (EF.el (ef_to (ED.el (ed_var 4 rfl)) (ed_var 9 rfl) (by walk_at "sd"))) (by walk_at "sd")) (y := (rotD (rmE ns k most) (cell ns (k + 3) % ((rmE ns k most).length : Int))).map dP) (by rw [rotD, List.map_append, List.map_drop, List.map_take]))) (by walk_at "sd") (fun v5 hv5 X5 hX5 hK5 => by obtain ⟨bs5, bH5, bC5, bcl5, bfp5, rfl⟩ := hX5; exact (ed_tup (ea_cons (ed_add (ed_var 10 rfl) (ed_var 6 rfl)) (ea_cons (ed_add (ed_var 11 rfl) (ed_var 7 rfl)) ea_nil)))) (ok := blkOk_by (show blkC ["script", "k", "most", "cell", "room", "slant", "x", "y", "turn", "first", "a", "b"] (defScope (topS 36)) _ [("a", 10), ("b", 11)] = true from by decide +kernel))))) ?_)
    -- L8
    exact congrArg (fun z => Rs.dat (.list z)) (by rw [lawRoom, shift, List.map_map]; rfl)

def R_must_room : Rl := fun xs r => ∃ rm : List P2, Room rm ∧ xs = [dPs rm] ∧ r = .dat .none
theorem sc_must_room : FnScope ["room"] ["room"] (defScope (topS 17)) := ⟨rfl, rfl, rfl, by decide +kernel, rfl, by decide +kernel, by decide +kernel⟩
theorem ok_must_room (B : Bl mg) (F_is_room : FD P w K mg base CX0 "is_room" 5 R_is_room) (F : Fun K "must_room" "must_room" (topS 17) f fd) : FnOk P w K mg base CX0 6 f fd ["room"] (spD K R_must_room) := by
  refine fn_D F sc_must_room (fun xs r h => ?_) (fun X xs r hX hr h => ?_)
  · obtain ⟨rm, hR, rfl, rfl⟩ := h
    rfl
  · obtain ⟨cdv, A, outer, s, H, E, rfl⟩ := hX
    have hN := sc_must_room.nd
    obtain ⟨rm, hR, rfl, rfl⟩ := h
    have hB := hR.bds
    have h3 := hR.lo
    have h12 := hR.hi
    refine sb_one (sd_if (et_not (et_val (ed_call F_is_room (hr.mono (by decide)) p0 (ea_cons (ed_var 0 rfl) ea_nil) ⟨_, by walk_at "sd", by walk_at "sd", rfl, rfl⟩))) (fun hc1 => ?_) (fun hc1 => ?_))
    · exact absurd hc1 (by rw [isRoom_iff.mpr hR]; decide)
    refine sb_nil ?_
    -- L0
    exact rfl

def R_law_whole : Rl := fun xs r => ∃ i : Int, xs = [.int i] ∧ r = .dat (.bool true)
theorem sc_law_whole : FnScope ["found"] ["found"] (defScope (topS 30)) := ⟨rfl, rfl, rfl, by decide +kernel, rfl, by decide +kernel, by decide +kernel⟩
theorem ok_law_whole (B : Bl mg) (F : Fun K "_law_whole" "_law_whole" (topS 30) f fd) : FnOk P w K mg base CX0 1 f fd ["found"] (spD K R_law_whole) := by
  refine fn_D F sc_law_whole (fun xs r h => ?_) (fun X xs r hX hr h => ?_)
  · obtain ⟨i, rfl, rfl⟩ := h
    rfl
  · obtain ⟨cdv, A, outer, s, H, E, rfl⟩ := hX
    have hN := sc_law_whole.nd
    obtain ⟨i, rfl, rfl⟩ := h
    refine sb_one (sd_ret (ed_and (ed_isi (T := "int") (d := "int") (r := true) B.isinstance B.ty_int (ed_var 0 rfl)) (fun hb1 => (ed_one (ed_not (ed_isi (T := "bool") (d := "int") (r := false) B.isinstance B.ty_bool (ed_var 0 rfl)))))) ?_)
    -- L0
    exact rfl

def R_opens : Rl := fun xs r => ∃ (rm : List P2) (one other : Int), Room rm ∧ (0 ≤ one ∧ one < rm.length) ∧ (0 ≤ other ∧ other < rm.length) ∧ xs = [dPs rm, .int one, .int other] ∧ r = .dat (.bool (opens rm one other))
theorem sc_opens : FnScope ["room", "one", "other", "here", "ahead", "behind", "there"] ["room", "one", "other"] (defScope (topS 18)) := ⟨rfl, rfl, rfl, by decide +kernel, rfl, by decide +kernel, by decide +kernel⟩
theorem ok_opens (B : Bl mg) (F_next_to : FD P w K mg base CX0 "next_to" 1 R_next_to) (F_side : FD P w K mg base CX0 "side" 1 R_side) (F : Fun K "opens" "opens" (topS 18) f fd) : FnOk P w K mg base CX0 2 f fd ["room", "one", "other"] (spD K R_opens) := by
  refine fn_D F sc_opens (fun xs r h => ?_) (fun X xs r hX hr h => ?_)
  · obtain ⟨rm, one, other, hR, ho, hu, rfl, rfl⟩ := h
    rfl
  · obtain ⟨cdv, A, outer, s, H, E, rfl⟩ := hX
    have hN := sc_opens.nd
    obtain ⟨rm, one, other, hR, ho, hu, rfl, rfl⟩ := h
    have hB := hR.bds
    have h3 := hR.lo
    have h12 := hR.hi
    refine sb_cons (sd_set 3 (ed_ix (f := dP) (ED.el (ed_var 0 rfl)) (ed_var 1 rfl) (by walk_at "sd")) ?_)
    refine sb_cons (sd_set 4 (ed_ix (f := dP) (ED.el (ed_var 0 rfl)) (ed_sub (ed_var 1 rfl) ed_int) (by walk_at "sd")) ?_)
    refine sb_cons (sd_set 5 (ed_ix (f := dP) (ED.el (ed_var 0 rfl)) (ed_call F_next_to (hr.mono (by decide)) p0 (ea_cons (ed_lenM B.len (ED.el (ed_var 0 rfl))) (ea_cons (ed_var 1 rfl) ea_nil)) ⟨_, _, by walk_at "sd", rfl, rfl⟩) (by walk_at "sd")) ?_)
    refine sb_cons (sd_set 6 (ed_ix (f := dP) (ED.el (ed_var 0 rfl)) (ed_var 2 rfl) (by walk_at "sd")) ?_)
    refine sb_cons (sd_if (et_cmp (ed_call F_side (hr.mono (by decide)) p0 (ea_cons (ed_var 4 rfl) (ea_cons (ed_var 3 rfl) (ea_cons (ed_var 5 rfl) ea_nil))) ⟨_, _, _, by walk_at "sd", by walk_at "sd", by walk_at "sd", rfl, rfl⟩) ed_int cd_gt) (fun hc1 => ?_) (fun hc1 => ?_))
    · skip
      refine sb_one (sd_ret (ed_and (ed_cmp (ed_call F_side (hr.mono (by decide)) p0 (ea_cons (ed_var 3 rfl) (ea_cons (ed_var 5 rfl) (ea_cons (ed_var 6 rfl) ea_nil))) ⟨_, _, _, by walk_at "sd", by walk_at "sd", by walk_at "sd", rfl, rfl⟩) ed_int cd_gt) (fun hb1 => (ed_one (ed_cmp (ed_call F_side (hr.mono (by decide)) p0 (ea_cons (ed_var 4 rfl) (ea_cons (ed_var 3 rfl) (ea_cons (ed_var 6 rfl) ea_nil))) ⟨_, _, _, by walk_at "sd", by walk_at "sd", by walk_at "sd", rfl, rfl⟩) ed_int cd_gt)))) ?_)
      -- L0
      rw [show opens rm one other = _ from if_pos hc1]
    refine sb_nil ?_
    refine sb_one (sd_ret (ed_or (ed_cmp (ed_call F_side (hr.mono (by decide)) p0 (ea_cons (ed_var 3 rfl) (ea_cons (ed_var 5 rfl) (ea_cons (ed_var 6 rfl) ea_nil))) ⟨_, _, _, by walk_at "sd", by walk_at "sd", by walk_at "sd", rfl, rfl⟩) ed_int cd_gt) (fun hb2 => (ed_one (ed_cmp (ed_call F_side (hr.mono (by decide)) p0 (ea_cons (ed_var 4 rfl) (ea_cons (ed_var 3 rfl) (ea_cons (ed_var 6 rfl) ea_nil))) ⟨_, _, _, by walk_at "sd", by walk_at "sd", by walk_at "sd", rfl, rfl⟩) ed_int cd_gt)))) ?_)
    -- L1
    rw [show opens rm one other = _ from if_neg (Bool.eq_false_iff.mp hc1)]

def R_line_by : Rl := fun xs r => ∃ (rm : List P2) (one other : Int), Room rm ∧ (0 ≤ one ∧ other < rm.length) ∧ xs = [dPs rm, .int one, .int other] ∧ r = .dat (.bool (lineBy rm one other))
theorem sc_line_by : FnScope ["room", "one", "other", "count", "k", "later"] ["room", "one", "other"] (defScope (topS 19)) := ⟨rfl, rfl, rfl, by decide +kernel, rfl, by decide +kernel, by decide +kernel⟩
theorem ok_line_by (B : Bl mg) (F_next_to : FD P w K mg base CX0 "next_to" 1 R_next_to) (F_lies_on : FD P w K mg base CX0 "lies_on" 2 R_lies_on) (F_meet : FD P w K mg base CX0 "meet" 3 R_meet) (F_opens : FD P w K mg base CX0 "opens" 2 R_opens) (F : Fun K "line_by" "line_by" (topS 19) f fd) : FnOk P w K mg base CX0 4 f fd ["room", "one", "other"] (spD K R_line_by) := by
  refine fn_D F sc_line_by (fun xs r h => ?_) (fun X xs r hX hr h => ?_)
  · obtain ⟨rm, one, other, hR, ho, rfl, rfl⟩ := h
    rfl
  · obtain ⟨cdv, A, outer, s, H, E, rfl⟩ := hX
    have hN := sc_line_by.nd
    obtain ⟨rm, one, other, hR, ho, rfl, rfl⟩ := h
    have hB := hR.bds
    have h3 := hR.lo
    have h12 := hR.hi
    refine sb_cons (sd_set 3 (ed_lenM B.len (ED.el (ed_var 0 rfl))) ?_)
    refine sb_cons (sd_if (EW.et (ew_or (et_cmp (ed_var 1 rfl) (ed_var 2 rfl) cd_ge) (fun hb1 => (ew_or (et_cmp (ed_call F_next_to (hr.mono (by decide)) p0 (ea_cons (ed_var 3 rfl) (ea_cons (ed_var 1 rfl) ea_nil)) ⟨_, _, by walk_at "sd", rfl, rfl⟩) (ed_var 2 rfl) cd_eqI) (fun hb2 => (ew_or1 (et_cmp (ed_call F_next_to (hr.mono (by decide)) p0 (ea_cons (ed_var 3 rfl) (ea_cons (ed_var 2 rfl) ea_nil)) ⟨_, _, by walk_at "sd", rfl, rfl⟩) (ed_var 1 rfl) cd_eqI))))))) (fun hc1 => ?_) (fun hc1 => ?_))
    · skip
      refine sb_one (sd_ret ed_bl ?_)
      -- L0
      rw [show lineBy rm one other = false from if_pos hc1]
    have hlt : one < other := by
      have h := hc1
      simp only [Bool.or_eq_false_iff, decide_eq_false_iff_not] at h
      omega
    refine sb_nil ?_
    refine sb_cons (sd_for1 4 (fun i G => (∀ k : Nat, k < i → (blk1 rm one other k || blk2 rm one other k) = false) ∧ ∃ g1 g2, G = { c := [some (.d (dPs rm)), some (.d (.int one)), some (.d (.int other)), some (.d (.int (rm.length : Int))), g1, g2] }) B.range (ed_var 3 rfl) (by walk_at "sd") (by walk_at "sd") ?_ (fun i0 G0 hi0 hp0 => ?_) (fun G0 hp0 => ?_))
    · skip
      exact ⟨no_less, none, none, rfl⟩
    · skip
      obtain ⟨w0, g1, g2, rfl⟩ := hp0
      refine sb_cons (sd_set 5 (ed_call F_next_to (hr.mono (by decide)) p0 (ea_cons (ed_var 3 rfl) (ea_cons (ed_var 4 rfl) ea_nil)) ⟨_, _, by walk_at "sd", rfl, rfl⟩) ?_)
      refine sb_cons (sd_if (EW.et (ew_and (et_cmp (ed_var 4 rfl) (EF.ed (ef_lst (ea_cons (ed_var 1 rfl) (ea_cons (ed_var 2 rfl) ea_nil)))) (cd_niL (ns := [_, _]) rfl)) (fun hb3 => (ew_and1 (et_val (ed_call F_lies_on (hr.mono (by decide)) p0 (ea_cons (ed_ix (f := dP) (ED.el (ed_var 0 rfl)) (ed_var 1 rfl) (by walk_at "sd")) (ea_cons (ed_ix (f := dP) (ED.el (ed_var 0 rfl)) (ed_var 2 rfl) (by walk_at "sd")) (ea_cons (ed_ix (f := dP) (ED.el (ed_var 0 rfl)) (ed_var 4 rfl) (by walk_at "sd")) ea_nil))) ⟨_, _, _, by walk_at "sd", by walk_at "sd", by walk_at "sd", rfl, rfl⟩)))))) (fun hc2 => ?_) (fun hc2 => ?_))
      · skip
        refine sb_one (sd_ret ed_bl ?_)
        -- L1
        rw [line_f (k := i0) (Bool.eq_false_iff.mp hc1) (by omega) (by rw [show blk1 rm one other i0 = true from hc2]; rfl)]
      refine sb_nil ?_
      refine sb_one (sd_if (EW.et (ew_and (et_cmp (ed_var 4 rfl) (EF.ed (ef_lst (ea_cons (ed_var 1 rfl) (ea_cons (ed_var 2 rfl) ea_nil)))) (cd_niL (ns := [_, _]) rfl)) (fun hb4 => (ew_and1 (et_cmp (ed_var 5 rfl) (EF.ed (ef_lst (ea_cons (ed_var 1 rfl) (ea_cons (ed_var 2 rfl) ea_nil)))) (cd_niL (ns := [_, _]) rfl)))))) (fun hc3 => ?_) (fun hc3 => ?_))
      · skip
        refine sb_one (sd_if (et_val (ed_call F_meet (hr.mono (by decide)) p0 (ea_cons (ed_ix (f := dP) (ED.el (ed_var 0 rfl)) (ed_var 1 rfl) (by walk_at "sd")) (ea_cons (ed_ix (f := dP) (ED.el (ed_var 0 rfl)) (ed_var 2 rfl) (by walk_at "sd")) (ea_cons (ed_ix (f := dP) (ED.el (ed_var 0 rfl)) (ed_var 4 rfl) (by walk_at "sd")) (ea_cons (ed_ix (f := dP) (ED.el (ed_var 0 rfl)) (ed_var 5 rfl) (by walk_at "sd")) ea_nil)))) ⟨_, _, _, _, by walk_at "sd", by walk_at "sd", by walk_at "sd", by walk_at "sd", rfl, rfl⟩)) (fun hc4 => ?_) (fun hc4 => ?_))
        · skip
          refine sb_one (sd_ret ed_bl ?_)
          -- L2
          rw [line_f (k := i0) (Bool.eq_false_iff.mp hc1) (by omega) (by rw [show blk2 rm one other i0 = true from by rw [blk2, hc3, hc4]; rfl, Bool.or_true])]
        refine sb_nil ?_
        -- L3
        exact ⟨lt_more w0 (by rw [show blk1 rm one other i0 = false from hc2, show blk2 rm one other i0 = false from by rw [blk2, hc3, hc4]; rfl]; rfl), _, _, rfl⟩
      refine sb_nil ?_
      -- L4
      exact ⟨lt_more w0 (by rw [show blk1 rm one other i0 = false from hc2, show blk2 rm one other i0 = false from by rw [blk2, hc3]; rfl]; rfl), _, _, rfl⟩
    obtain ⟨w0, g1, g2, rfl⟩ := hp0
    refine sb_one (sd_ret (ed_call F_opens (hr.mono (by decide)) p0 (ea_cons (ed_var 0 rfl) (ea_cons (ed_var 1 rfl) (ea_cons (ed_var 2 rfl) ea_nil))) ⟨_, _, _, by walk_at "sd", by walk_at "sd", by walk_at "sd", rfl, rfl⟩) ?_)
    -- L5
    rw [line_t (Bool.eq_false_iff.mp hc1) w0]

def R_law_line : Rl := fun xs r => ∃ (rm : List P2) (one other : Int), Room rm ∧ xs = [dPs rm, .int one, .int other] ∧ r = .dat (.bool (lLine rm one other))
theorem sc_law_line : FnScope ["room", "one", "other", "count", "here", "there", "k", "later", "left", "right"] ["room", "one", "other"] (defScope (topS 41)) := ⟨rfl, rfl, rfl, by decide +kernel, rfl, by decide +kernel, by decide +kernel⟩
theorem ok_law_line (B : Bl mg) (F_law_on : FD P w K mg base CX0 "_law_on" 2 R_law_on) (F_law_meet : FD P w K mg base CX0 "_law_meet" 3 R_law_meet) (F_law_side : FD P w K mg base CX0 "_law_side" 1 R_law_side) (F : Fun K "_law_line" "_law_line" (topS 41) f fd) : FnOk P w K mg base CX0 4 f fd ["room", "one", "other"] (spD K R_law_line) := by
  refine fn_D F sc_law_line (fun xs r h => ?_) (fun X xs r hX hr h => ?_)
  · obtain ⟨rm, one, other, hR, rfl, rfl⟩ := h
    rfl
  · obtain ⟨cdv, A, outer, s, H, E, rfl⟩ := hX
    have hN := sc_law_line.nd
    obtain ⟨rm, one, other, hR, rfl, rfl⟩ := h
    have hB := hR.bds
    have h3 := hR.lo
    have h12 := hR.hi
    refine sb_cons (sd_set 3 (ed_lenM B.len (ED.el (ed_var 0 rfl))) ?_)
    refine sb_cons (sd_if (EW.et (ew_or (et_not (et_chain3 ed_int (ed_var 1 rfl) (ed_var 2 rfl) (ed_var 3 rfl) cd_le cd_lt cd_lt)) (fun hb1 => (ew_or1 (et_cmp (ed_sub (ed_var 2 rfl) (ed_var 1 rfl)) (EF.ed (ef_lst (ea_cons ed_int (ea_cons (ed_sub (ed_var 3 rfl) ed_int) ea_nil)))) (cd_inL (ns := [_, _]) rfl)))))) (fun hc1 => ?_) (fun hc1 => ?_))
    · skip
      refine sb_one (sd_ret ed_bl ?_)
      -- L0
      rw [show lLine rm one other = false from if_pos hc1]
    have hlt : 0 ≤ one ∧ one < other ∧ other < rm.length := by
      have h := hc1
      simp only [Bool.or_eq_false_iff, Bool.not_eq_false', Bool.and_eq_true, decide_eq_true_eq] at h
      omega
    refine sb_nil ?_
    refine sb_cons (sd_par 4 5 (ea_cons (ed_ix (f := dP) (ED.el (ed_var 0 rfl)) (ed_var 1 rfl) (by walk_at "sd")) (ea_cons (ed_ix (f := dP) (ED.el (ed_var 0 rfl)) (ed_var 2 rfl) (by walk_at "sd")) ea_nil)) ?_)
    refine sb_cons (sd_for1 6 (fun i G => (∀ k : Nat, k < i → (lblk1 rm one other k || lblk2 rm one other k) = false) ∧ ∃ g1 g2, G = { c := [some (.d (dPs rm)), some (.d (.int one)), some (.d (.int other)), some (.d (.int (rm.length : Int))), some (.d (dP (gz rm one))), some (.d (dP (gz rm other))), g1, g2, none, none] }) B.range (ed_var 3 rfl) (by walk_at "sd") (by walk_at "sd") ?_ (fun i0 G0 hi0 hp0 => ?_) (fun G0 hp0 => ?_))
    · skip
      exact ⟨no_less, none, none, rfl⟩
    · skip
      obtain ⟨w0, g1, g2, rfl⟩ := hp0
      have hkm := nx_ix (r := rm) (k := (i0 : Int)) (by omega)
      unfold nx at hkm
      refine sb_cons (sd_if (EW.et (ew_and (et_cmp (ed_var 6 rfl) (EF.ed (ef_lst (ea_cons (ed_var 1 rfl) (ea_cons (ed_var 2 rfl) ea_nil)))) (cd_niL (ns := [_, _]) rfl)) (fun hb2 => (ew_and1 (et_val (ed_call F_law_on (hr.mono (by decide)) p0 (ea_cons (ed_var 4 rfl) (ea_cons (ed_var 5 rfl) (ea_cons (ed_ix (f := dP) (ED.el (ed_var 0 rfl)) (ed_var 6 rfl) (by walk_at "sd")) ea_nil))) ⟨_, _, _, by walk_at "sd", by walk_at "sd", by walk_at "sd", rfl, rfl⟩)))))) (fun hc2 => ?_) (fun hc2 => ?_))
      · skip
        refine sb_one (sd_ret ed_bl ?_)
        -- L1
        rw [show lLine rm one other = false from (if_neg (Bool.eq_false_iff.mp hc1)).trans (if_pos (any_t (k := i0) (f := fun k => lblk1 rm one other k || lblk2 rm one other k) (by omega) (by rw [show lblk1 rm one other i0 = true from hc2]; rfl)))]
      refine sb_nil ?_
      refine sb_cons (sd_set 7 (ed_mod (ed_add (ed_var 6 rfl) ed_int) (ed_var 3 rfl) (by walk_at "sd")) ?_)
      refine sb_one (sd_if (EW.et (ew_and (et_cmp (ed_var 6 rfl) (EF.ed (ef_lst (ea_cons (ed_var 1 rfl) (ea_cons (ed_var 2 rfl) ea_nil)))) (cd_niL (ns := [_, _]) rfl)) (fun hb3 => (ew_and1 (et_cmp (ed_var 7 rfl) (EF.ed (ef_lst (ea_cons (ed_var 1 rfl) (ea_cons (ed_var 2 rfl) ea_nil)))) (cd_niL (ns := [_, _]) rfl)))))) (fun hc3 => ?_) (fun hc3 => ?_))
      · skip
        refine sb_one (sd_if (et_val (ed_call F_law_meet (hr.mono (by decide)) p0 (ea_cons (ed_var 4 rfl) (ea_cons (ed_var 5 rfl) (ea_cons (ed_ix (f := dP) (ED.el (ed_var 0 rfl)) (ed_var 6 rfl) (by walk_at "sd")) (ea_cons (ed_ix (f := dP) (ED.el (ed_var 0 rfl)) (ed_var 7 rfl) (by walk_at "sd")) ea_nil)))) ⟨_, _, _, _, by walk_at "sd", by walk_at "sd", by walk_at "sd", by walk_at "sd", rfl, rfl⟩)) (fun hc4 => ?_) (fun hc4 => ?_))
        · skip
          refine sb_one (sd_ret ed_bl ?_)
          -- L2
          rw [show lLine rm one other = false from (if_neg (Bool.eq_false_iff.mp hc1)).trans (if_pos (any_t (k := i0) (f := fun k => lblk1 rm one other k || lblk2 rm one other k) (by omega) (by rw [show lblk2 rm one other i0 = true from by rw [lblk2, hc3, hc4]; rfl, Bool.or_true])))]
        refine sb_nil ?_
        -- L3
        exact ⟨lt_more w0 (by rw [show lblk1 rm one other i0 = false from hc2, show lblk2 rm one other i0 = false from by rw [lblk2, hc3, hc4]; rfl]; rfl), _, _, rfl⟩
      refine sb_nil ?_
      -- L4
      exact ⟨lt_more w0 (by rw [show lblk1 rm one other i0 = false from hc2, show lblk2 rm one other i0 = false from by rw [lblk2, hc3]; rfl]; rfl), _, _, rfl⟩
    obtain ⟨w0, g1, g2, rfl⟩ := hp0
    have hkm := nx_ix (r := rm) (k := one) (by omega)
    unfold nx at hkm
    refine sb_cons (sd_set 8 (ed_cmp (ed_call F_law_side (hr.mono (by decide)) p0 (ea_cons (ed_var 4 rfl) (ea_cons (ed_ix (f := dP) (ED.el (ed_var 0 rfl)) (ed_mod (ed_add (ed_var 1 rfl) ed_int) (ed_var 3 rfl) (by walk_at "sd")) (by walk_at "sd")) (ea_cons (ed_var 5 rfl) ea_nil))) ⟨_, _, _, by walk_at "sd", by walk_at "sd", by walk_at "sd", rfl, rfl⟩) ed_int cd_gt) ?_)
    refine sb_cons (sd_set 9 (ed_cmp (ed_call F_law_side (hr.mono (by decide)) p0 (ea_cons (ed_ix (f := dP) (ED.el (ed_var 0 rfl)) (ed_sub (ed_var 1 rfl) ed_int) (by walk_at "sd")) (ea_cons (ed_var 4 rfl) (ea_cons (ed_var 5 rfl) ea_nil))) ⟨_, _, _, by walk_at "sd", by walk_at "sd", by walk_at "sd", rfl, rfl⟩) ed_int cd_gt) ?_)
    refine sb_cons (sd_if (et_cmp (ed_call F_law_side (hr.mono (by decide)) p0 (ea_cons (ed_ix (f := dP) (ED.el (ed_var 0 rfl)) (ed_sub (ed_var 1 rfl) ed_int) (by walk_at "sd")) (ea_cons (ed_var 4 rfl) (ea_cons (ed_ix (f := dP) (ED.el (ed_var 0 rfl)) (ed_mod (ed_add (ed_var 1 rfl) ed_int) (ed_var 3 rfl) (by walk_at "sd")) (by walk_at "sd")) ea_nil))) ⟨_, _, _, by walk_at "sd", by walk_at "sd", by walk_at "sd", rfl, rfl⟩) ed_int cd_gt) (fun hc5 => ?_) (fun hc5 => ?_))
    · skip
      refine sb_one (sd_ret (ed_and (ed_var 8 rfl) (fun hb4 => (ed_one (ed_var 9 rfl)))) ?_)
      -- L5
      rw [show lLine rm one other = _ from ((if_neg (Bool.eq_false_iff.mp hc1)).trans (if_neg (Bool.eq_false_iff.mp (any_f (f := fun k => lblk1 rm one other k || lblk2 rm one other k) w0)))).trans (if_pos hc5)]
    refine sb_nil ?_
    refine sb_one (sd_ret (ed_or (ed_var 8 rfl) (fun hb5 => (ed_one (ed_var 9 rfl)))) ?_)
    -- L6
    rw [show lLine rm one other = _ from ((if_neg (Bool.eq_false_iff.mp hc1)).trans (if_neg (Bool.eq_false_iff.mp (any_f (f := fun k => lblk1 rm one other k || lblk2 rm one other k) w0)))).trans (if_neg (Bool.eq_false_iff.mp hc5))]

def R_joined_all : Rl := fun xs r => ∃ rm : List P2, Room rm ∧ xs = [dPs rm] ∧ r = .dat (dD (jdO (jnB rm) rm.length))
theorem sc_joined_all : FnScope ["room", "count", "found", "other", "one"] ["room"] (defScope (topS 22)) := ⟨rfl, rfl, rfl, by decide +kernel, rfl, by decide +kernel, by decide +kernel⟩
theorem ok_joined_all (B : Bl mg) (F_line_by : FD P w K mg base CX0 "line_by" 4 R_line_by) (F : Fun K "joined_all" "joined_all" (topS 22) f fd) : FnOk P w K mg base CX0 5 f fd ["room"] (spD K R_joined_all) := by
  refine fn_D F sc_joined_all (fun xs r h => ?_) (fun X xs r hX hr h => ?_)
  · obtain ⟨rm, hR, rfl, rfl⟩ := h
    rfl
  · obtain ⟨cdv, A, outer, s, H, E, rfl⟩ := hX
    have hN := sc_joined_all.nd
    obtain ⟨rm, hR, rfl, rfl⟩ := h
    have hB := hR.bds
    have h3 := hR.lo
    have h12 := hR.hi
    refine sb_cons (sd_set 1 (ed_lenM B.len (ED.el (ed_var 0 rfl))) ?_)
    refine sb_cons (sd_newD 2 (fun lfound hlfound => ?_))
    refine sb_cons (sd_for1 3 (fun i G => ∃ g3 g4, G = { c := [some (.d (dPs rm)), some (.d (.int (rm.length : Int))), some (.v (.ref lfound)), g3, g4], o := [(lfound, .dct (encK (jdO (jnB rm) i)))] }) B.range (ed_var 1 rfl) (by walk_at "sd") (by walk_at "sd") ?_ (fun i0 G0 hi0 hp0 => ?_) (fun G0 hp0 => ?_))
    · skip
      exact ⟨none, none, rfl⟩
    · skip
      obtain ⟨g3, g4, rfl⟩ := hp0
      have hl0 := jdO_len (J := jnB rm) i0 (by omega)
      refine sb_one (sd_for1 4 (fun i G => ∃ g4, G = { c := [some (.d (dPs rm)), some (.d (.int (rm.length : Int))), some (.v (.ref lfound)), some (.d (.int i0)), g4], o := [(lfound, .dct (encK (jdI (jnB rm) i0 (jdO (jnB rm) i0) i)))] }) B.range (ed_var 3 rfl) (by walk_at "sd") (by walk_at "sd") ?_ (fun i1 G1 hi1 hp1 => ?_) (fun G1 hp1 => ?_))
      · skip
        exact ⟨_, rfl⟩
      · skip
        obtain ⟨g4, rfl⟩ := hp1
        have hl1 := jdI_len (J := jnB rm) (o := i0) (kd := jdO (jnB rm) i0) i1
        refine sb_one (sd_putP 2 [] (un1 hr) rfl (ed_or (ed_cmp (ed_var 3 rfl) (ed_add (ed_var 4 rfl) ed_int) cd_eqI) (fun hb1 => (ed_or (ed_and (ed_cmp (ed_var 4 rfl) ed_int cd_eqI) (fun hb2 => (ed_one (ed_cmp (ed_var 3 rfl) (ed_sub (ed_var 1 rfl) ed_int) cd_eqI)))) (fun hb3 => (ed_one (ed_call F_line_by (hr.mono (by decide)) p0 (ea_cons (ed_var 0 rfl) (ea_cons (ed_var 4 rfl) (ea_cons (ed_var 3 rfl) ea_nil))) ⟨_, _, _, by walk_at "sd", by walk_at "sd", rfl, rfl⟩)))))) (ed_tup (ea_cons (ed_var 4 rfl) (ea_cons (ed_var 3 rfl) ea_nil))) (by walk_at "sd") ?_)
        -- L0
        exact ⟨_, rfl⟩
      obtain ⟨g4, rfl⟩ := hp1
      -- L1
      exact ⟨_, _, rfl⟩
    obtain ⟨g3, g4, rfl⟩ := hp0
    refine SB.frzD (pre := []) 2 ?_ rfl
    refine sb_one (sd_ret (ed_var 2 rfl) ?_)
    -- L2
    exact rfl

def R_law_joined : Rl := fun xs r => ∃ rm : List P2, Room rm ∧ xs = [dPs rm] ∧ r = .dat (dD (jdO (lJn rm) rm.length))
theorem sc_law_joined : FnScope ["room", "count", "joined", "other", "one"] ["room"] (defScope (topS 45)) := ⟨rfl, rfl, rfl, by decide +kernel, rfl, by decide +kernel, by decide +kernel⟩
theorem ok_law_joined (B : Bl mg) (F_law_line : FD P w K mg base CX0 "_law_line" 4 R_law_line) (F : Fun K "_law_joined" "_law_joined" (topS 45) f fd) : FnOk P w K mg base CX0 5 f fd ["room"] (spD K R_law_joined) := by
  refine fn_D F sc_law_joined (fun xs r h => ?_) (fun X xs r hX hr h => ?_)
  · obtain ⟨rm, hR, rfl, rfl⟩ := h
    rfl
  · obtain ⟨cdv, A, outer, s, H, E, rfl⟩ := hX
    have hN := sc_law_joined.nd
    obtain ⟨rm, hR, rfl, rfl⟩ := h
    have hB := hR.bds
    have h3 := hR.lo
    have h12 := hR.hi
    refine sb_cons (sd_set 1 (ed_lenM B.len (ED.el (ed_var 0 rfl))) ?_)
    refine sb_cons (sd_newD 2 (fun ljoined hljoined => ?_))
    refine sb_cons (sd_for1 3 (fun i G => ∃ g3 g4, G = { c := [some (.d (dPs rm)), some (.d (.int (rm.length : Int))), some (.v (.ref ljoined)), g3, g4], o := [(ljoined, .dct (encK (jdO (lJn rm) i)))] }) B.range (ed_var 1 rfl) (by walk_at "sd") (by walk_at "sd") ?_ (fun i0 G0 hi0 hp0 => ?_) (fun G0 hp0 => ?_))
    · skip
      exact ⟨none, none, rfl⟩
    · skip
      obtain ⟨g3, g4, rfl⟩ := hp0
      have hl0 := jdO_len (J := lJn rm) i0 (by omega)
      refine sb_one (sd_for1 4 (fun i G => ∃ g4, G = { c := [some (.d (dPs rm)), some (.d (.int (rm.length : Int))), some (.v (.ref ljoined)), some (.d (.int i0)), g4], o := [(ljoined, .dct (encK (jdI (lJn rm) i0 (jdO (lJn rm) i0) i)))] }) B.range (ed_var 3 rfl) (by walk_at "sd") (by walk_at "sd") ?_ (fun i1 G1 hi1 hp1 => ?_) (fun G1 hp1 => ?_))
      · skip
        exact ⟨_, rfl⟩
      · skip
        obtain ⟨g4, rfl⟩ := hp1
        have hl1 := jdI_len (J := lJn rm) (o := i0) (kd := jdO (lJn rm) i0) i1
        refine sb_one (sd_putP 2 [] (un1 hr) rfl (ed_or (ed_cmp (ed_sub (ed_var 3 rfl) (ed_var 4 rfl)) (EF.ed (ef_lst (ea_cons ed_int (ea_cons (ed_sub (ed_var 1 rfl) ed_int) ea_nil)))) (cd_inL (ns := [_, _]) rfl)) (fun hb1 => (ed_one (ed_call F_law_line (hr.mono (by decide)) p0 (ea_cons (ed_var 0 rfl) (ea_cons (ed_var 4 rfl) (ea_cons (ed_var 3 rfl) ea_nil))) ⟨_, _, _, by walk_at "sd", rfl, rfl⟩)))) (ed_tup (ea_cons (ed_var 4 rfl) (ea_cons (ed_var 3 rfl) ea_nil))) (by walk_at "sd") ?_)
        -- L0
        exact ⟨_, rfl⟩
      obtain ⟨g4, rfl⟩ := hp1
      -- L1
      exact ⟨_, _, rfl⟩
    obtain ⟨g3, g4, rfl⟩ := hp0
    refine SB.frzD (pre := []) 2 ?_ rfl
    refine sb_one (sd_ret (ed_var 2 rfl) ?_)
    -- L2
    exact rfl

def R_between : Rl := fun xs r => ∃ (J : Int → Int → Bool) (n : Int) (kd : KD) (one other : Int), JdOk J n kd ∧ (0 ≤ one ∧ one < other ∧ other < n ∧ n ≤ 12) ∧ xs = [dD kd, .int one, .int other] ∧ r = .new ((btw J one other).map PyData.int)
theorem sc_between : FnScope ["joined", "one", "other", "k"] ["joined", "one", "other"] (defScope (topS 23)) := ⟨rfl, rfl, rfl, by decide +kernel, rfl, by decide +kernel, by decide +kernel⟩
theorem ok_between (B : Bl mg) (F : Fun K "between" "between" (topS 23) f fd) : FnOk P w K mg base CX0 1 f fd ["joined", "one", "other"] (spD K R_between) := by
  refine fn_D F sc_between (fun xs r h => ?_) (fun X xs r hX hr h => ?_)
  · obtain ⟨J, n, kd, one, other, hJ, hh, rfl, rfl⟩ := h
    rfl
  · obtain ⟨cdv, A, outer, s, H, E, rfl⟩ := hX
    have hN := sc_between.nd
    obtain ⟨J, n, kd, one, other, hJ, hh, rfl, rfl⟩ := h
    refine sb_one (sd_retF (LC.ef (lc_cR2If 3 _ B.range (ed_add (ed_var 1 rfl) ed_int) (ed_var 2 rfl) (by walk_at "sd") (by walk_at "sd") (fun v1 hv1 X1 hX1 hK1 => by obtain ⟨bs1, bH1, bC1, bcl1, bfp1, rfl⟩ := hX1; exact (EW.et (ew_and (et_val (ed_dgetP (un1 hr) (ED.dc (ed_var 0 rfl)) (ed_tup (ea_cons (ed_var 1 rfl) (ea_cons (ed_var 3 rfl) ea_nil))) (hJ _ _ (by omega) (by omega) (by omega)))) (fun hb1 => (ew_and1 (et_val (ed_dgetP (un1 hr) (ED.dc (ed_var 0 rfl)) (ed_tup (ea_cons (ed_var 3 rfl) (ea_cons (ed_var 2 rfl) ea_nil))) (hJ _ _ (by omega) (by omega) (by omega))))))))) (fun v1 hv1 ht1 X1 hX1 hK1 => by obtain ⟨bs1, bH1, bC1, bcl1, bfp1, rfl⟩ := hX1; exact (ed_var 3 rfl)) (ok := blkOk_by (show blkC ["joined", "one", "other", "k"] (defScope (topS 23)) _ [("k", 3)] = true from by decide +kernel)))) ?_)
    -- L0
    exact rfl

def R_law_cross : Rl := fun xs r => ∃ p q : P2, xs = [dP p, dP q] ∧ r = .dat (.bool (crossB p q))
theorem sc_law_cross : FnScope ["line", "other"] ["line", "other"] (defScope (topS 42)) := ⟨rfl, rfl, rfl, by decide +kernel, rfl, by decide +kernel, by decide +kernel⟩
theorem ok_law_cross (B : Bl mg) (F : Fun K "_law_cross" "_law_cross" (topS 42) f fd) : FnOk P w K mg base CX0 1 f fd ["line", "other"] (spD K R_law_cross) := by
  refine fn_D F sc_law_cross (fun xs r h => ?_) (fun X xs r hX hr h => ?_)
  · obtain ⟨p, q, rfl, rfl⟩ := h
    rfl
  · obtain ⟨cdv, A, outer, s, H, E, rfl⟩ := hX
    have hN := sc_law_cross.nd
    obtain ⟨p, q, rfl, rfl⟩ := h
    refine sb_one (sd_ret (ed_or (ed_chain3 (ed_ixT (ed_var 0 rfl) ed_int rfl) (ed_ixT (ed_var 1 rfl) ed_int rfl) (ed_ixT (ed_var 0 rfl) ed_int rfl) (ed_ixT (ed_var 1 rfl) ed_int rfl) cd_lt cd_lt cd_lt) (fun hb1 => (ed_one (ed_chain3 (ed_ixT (ed_var 1 rfl) ed_int rfl) (ed_ixT (ed_var 0 rfl) ed_int rfl) (ed_ixT (ed_var 1 rfl) ed_int rfl) (ed_ixT (ed_var 0 rfl) ed_int rfl) cd_lt cd_lt cd_lt)))) ?_)
    -- L0
    exact rfl

def R_law_is_cut : Rl := fun xs r => ∃ (rm ls : List P2), Room rm ∧ ls.length ≤ 100 ∧ xs = [dPs rm, dPs ls] ∧ r = .dat (.bool (lCut rm ls))
def R_law_lines_told : Rl := fun xs r => ∃ ls : List P2, ls.length ≤ 100 ∧ xs = [dPs ls] ∧ r = .dat (.bool true)
theorem sc_law_lines_told : FnScope ["lines", "line"] ["lines"] (defScope (topS 43)) := ⟨rfl, rfl, rfl, by decide +kernel, rfl, by decide +kernel, by decide +kernel⟩
theorem ok_law_lines_told (B : Bl mg) (F_law_whole : FD P w K mg base CX0 "_law_whole" 1 R_law_whole) (F : Fun K "_law_lines_told" "_law_lines_told" (topS 43) f fd) : FnOk P w K mg base CX0 2 f fd ["lines"] (spD K R_law_lines_told) := by
  refine fn_D F sc_law_lines_told (fun xs r h => ?_) (fun X xs r hX hr h => ?_)
  · obtain ⟨ls, hL, rfl, rfl⟩ := h
    rfl
  · obtain ⟨cdv, A, outer, s, H, E, rfl⟩ := hX
    have hN := sc_law_lines_told.nd
    obtain ⟨ls, hL, rfl, rfl⟩ := h
    refine sb_cons (sd_if (et_not (et_val (ed_isi (T := "list") (d := "list") (r := true) B.isinstance B.ty_list (ed_var 0 rfl)))) (fun hc1 => ?_) (fun hc1 => ?_))
    · skip
      refine sb_one (sd_ret ed_bl ?_)
      -- L0
      exact absurd hc1 (by decide)
    refine sb_nil ?_
    refine sb_cons (sd_forLm 1 (fun i G => ∃ g, G = { c := [some (.d (dPs ls)), g] }) (ed_var 0 rfl) ?_ (fun i0 t0 G0 hi0 hp0 => ?_) (fun G0 hp0 => ?_))
    · skip
      exact ⟨none, rfl⟩
    · skip
      obtain ⟨g, rfl⟩ := hp0
      refine sb_one (sd_if (EW.et (ew_or (et_not (et_val (ed_isi (T := "tuple") (d := "tuple") (r := true) B.isinstance B.ty_tuple (ed_var 1 rfl)))) (fun hb1 => (ew_or (et_cmp (ed_lenT B.len (ed_var 1 rfl)) ed_int cd_neI) (fun hb2 => (ew_or (et_not (et_val (ed_call F_law_whole (hr.mono (by decide)) p0 (ea_cons (ed_ixT (ed_var 1 rfl) ed_int rfl) ea_nil) ⟨_, rfl, rfl⟩))) (fun hb3 => (ew_or1 (et_not (et_val (ed_call F_law_whole (hr.mono (by decide)) p0 (ea_cons (ed_ixT (ed_var 1 rfl) ed_int rfl) ea_nil) ⟨_, rfl, rfl⟩))))))))))) (fun hc2 => ?_) (fun hc2 => ?_))
      · skip
        refine sb_one (sd_ret ed_bl ?_)
        -- L1
        exact absurd hc2 (by simp)
      refine sb_nil ?_
      -- L2
      exact ⟨_, rfl⟩
    obtain ⟨g, rfl⟩ := hp0
    refine sb_one (sd_ret ed_bl ?_)
    -- L3
    exact rfl

def R_law_drawn_cut : Rl := fun xs r => ∃ (ns : List Int) (k : Int) (rm : List P2), ns.length ≤ 63 ∧ (0 ≤ k ∧ k ≤ 80) ∧ Room rm ∧ xs = [dScr ns, .int k, dPs rm] ∧ r = .new ((dCut ns k rm).map dP)
def R_law_parts : Rl := fun xs r => ∃ rm ls : List P2, Room rm ∧ ls.length ≤ 12 ∧ xs = [dPs rm, dPs ls] ∧ r = .new ((parts rm ls).map dT)
theorem many_put0 {J : Int → Int → Bool} {n i f : Int} {kd : KD} {x : PyData} (h : ∀ a b : Int, 0 ≤ a → a < b → b < n → (b - a < f ∨ (b - a = f ∧ a < i)) → valD kd (a, b) = some (.int (wy J a b))) : ∀ a b : Int, 0 ≤ a → a < b → b < n → (b - a < f ∨ (b - a = f ∧ a < i)) → valD (putD kd (i, i + f) x) (a, b) = some (.int (wy J a b)) := fun a b h1 h2 h3 h4 => by
  rw [valD_put, if_neg]
  · exact h a b h1 h2 h3 h4
  · intro z
    have := (Prod.mk.inj z)
    omega
theorem many_put {J : Int → Int → Bool} {n i f : Int} {kd : KD} {x : PyData} (h : ∀ a b : Int, 0 ≤ a → a < b → b < n → (b - a < f ∨ (b - a = f ∧ a < i)) → valD kd (a, b) = some (.int (wy J a b))) : ∀ a b : Int, 0 ≤ a → a < b → b < n → (b - a < f ∨ (b - a = f ∧ a < i)) → valD (putD kd (i, i + f) x) (a, b) = some (.int (wy J a b)) := many_put0 h
theorem many_next {J : Int → Int → Bool} {n f : Int} {i : Nat} {kd : KD} (h : ∀ a b : Int, 0 ≤ a → a < b → b < n → (b - a < f ∨ (b - a = f ∧ a < i)) → valD kd (a, b) = some (.int (wy J a b))) (hx : valD kd ((i : Int), (i : Int) + f) = some (.int (wy J i (i + f)))) : ∀ a b : Int, 0 ≤ a → a < b → b < n → (b - a < f ∨ (b - a = f ∧ a < ((i + 1 : Nat) : Int))) → valD kd (a, b) = some (.int (wy J a b)) := fun a b h1 h2 h3 h4 => by
  by_cases c : a = i ∧ b = i + f
  · obtain ⟨rfl, rfl⟩ := c
    exact hx
  · exact h a b h1 h2 h3 (by omega)
theorem take_sum {l : List Int} {f : Int → Int} {i : Nat} {t : Int} (h : l[i]? = some t) : PyData.int (((l.take i).map f).sum + f t) = .int (((l.take (i + 1)).map f).sum) := by
  rw [List.take_add_one, h]
  simp
theorem many_else {J : Int → Int → Bool} {i : Int} {f : Nat} (h1 : (0 : Int) ≤ f) (h2 : i = i) (h : (decide ((1 : Int) < 1 + f) && J i (i + (1 + f))) = false) : some (PyData.int (b2n (decide ((1 : Int) + f = 1)))) = some (.int (wy J i (i + (1 + f)))) := by
  by_cases c : (1 : Int) + f = 1
  · rw [decide_eq_true c, wy_one (by omega)]
    rfl
  · rw [decide_eq_false c]
    have hJ : J i (i + (1 + f)) = false := by
      rw [decide_eq_true (by omega)] at h
      exact h
    rw [wy_none (by omega) hJ]
    rfl

def R_many : Rl := fun xs r => ∃ rm : List P2, Room rm ∧ xs = [dPs rm] ∧ r = .dat (.int (wy (jnB rm) 0 ((rm.length : Int) - 1)))
theorem sc_many : FnScope ["room", "joined", "ways", "far", "one", "other", "k"] ["room"] (defScope (topS 24)) := ⟨rfl, rfl, rfl, by decide +kernel, rfl, by decide +kernel, by decide +kernel⟩
theorem ok_many (B : Bl mg) (F_must_room : FD P w K mg base CX0 "must_room" 6 R_must_room) (F_joined_all : FD P w K mg base CX0 "joined_all" 5 R_joined_all) (F_between : FD P w K mg base CX0 "between" 1 R_between) (F : Fun K "many" "many" (topS 24) f fd) : FnOk P w K mg base CX0 7 f fd ["room"] (spD K R_many) := by
  refine fn_D F sc_many (fun xs r h => ?_) (fun X xs r hX hr h => ?_)
  · obtain ⟨rm, hR, rfl, rfl⟩ := h
    rfl
  · obtain ⟨cdv, A, outer, s, H, E, rfl⟩ := hX
    have hN := sc_many.nd
    obtain ⟨rm, hR, rfl, rfl⟩ := h
    have hB := hR.bds
    have h3 := hR.lo
    have h12 := hR.hi
    have hJ : JdOk (jnB rm) (rm.length : Int) (jdO (jnB rm) rm.length) := jdO_ok
    refine sb_cons (sd_expr (ed_call F_must_room (hr.mono (by decide)) p0 (ea_cons (ed_var 0 rfl) ea_nil) ⟨_, by walk_at "sd", rfl, rfl⟩) ?_)
    refine sb_cons (sd_set 1 (ed_call F_joined_all (hr.mono (by decide)) p0 (ea_cons (ed_var 0 rfl) ea_nil) ⟨_, by walk_at "sd", rfl, rfl⟩) ?_)
    refine sb_cons (sd_newD 2 (fun lways hlways => ?_))
    refine sb_cons (sd_for2 3 (fun i G => ∃ g3 g4 g5 g6 kd, (∀ a b : Int, 0 ≤ a → a < b → b < rm.length → (b - a < 1 + i) → valD kd (a, b) = some (.int (wy (jnB rm) a b))) ∧ kd.length ≤ 200 * i ∧ G = { c := [some (.d (dPs rm)), some (.d (dD ((jdO (jnB rm) rm.length)))), some (.v (.ref lways)), g3, g4, g5, g6], o := [(lways, .dct (encK kd))] }) B.range ed_int (ed_lenM B.len (ED.el (ed_var 0 rfl))) (by walk_at "sd") ?_ (fun i0 G0 hi0 hp0 => ?_) (fun G0 hp0 => ?_))
    · skip
      exact ⟨none, none, none, none, [], fun a b h1 h2 h3 h4 => by omega, Nat.zero_le _, rfl⟩
    · skip
      obtain ⟨g3, g4, g5, g6, kd, hv, hlk, rfl⟩ := hp0
      refine sb_one (sd_for1 4 (fun i G => ∃ g4 g5 g6 kd, (∀ a b : Int, 0 ≤ a → a < b → b < rm.length → (b - a < 1 + i0 ∨ (b - a = 1 + i0 ∧ a < i)) → valD kd (a, b) = some (.int (wy (jnB rm) a b))) ∧ kd.length ≤ 200 * i0 + 15 * i ∧ G = { c := [some (.d (dPs rm)), some (.d (dD ((jdO (jnB rm) rm.length)))), some (.v (.ref lways)), some (.d (.int (1 + i0))), g4, g5, g6], o := [(lways, .dct (encK kd))] }) B.range (ed_sub (ed_lenM B.len (ED.el (ed_var 0 rfl))) (ed_var 3 rfl)) (by walk_at "sd") (by walk_at "sd") ?_ (fun i1 G1 hi1 hp1 => ?_) (fun G1 hp1 => ?_))
      · skip
        exact ⟨_, _, _, kd, fun a b h1 h2 h3 h4 => hv a b h1 h2 h3 (by omega), by omega, rfl⟩
      · skip
        obtain ⟨g4, g5, g6, kd, hv, hlk, rfl⟩ := hp1
        refine sb_cons (sd_set 5 (ed_add (ed_var 4 rfl) (ed_var 3 rfl)) ?_)
        refine sb_cons (sd_putP 2 [] (un1 hr) rfl (ed_intB B.int (ed_cmp (ed_var 3 rfl) ed_int cd_eqI)) (ed_tup (ea_cons (ed_var 4 rfl) (ea_cons (ed_var 5 rfl) ea_nil))) (by walk_at "sd") ?_)
        refine sb_one (sd_if (EW.et (ew_and (et_cmp (ed_var 3 rfl) ed_int cd_gt) (fun hb1 => (ew_and1 (et_val (ed_dgetP (un1 hr) (ED.dc (ed_var 1 rfl)) (ed_tup (ea_cons (ed_var 4 rfl) (ea_cons (ed_var 5 rfl) ea_nil))) (hJ _ _ (by omega) (by omega) (by omega)))))))) (fun hc1 => ?_) (fun hc1 => ?_))
        · skip
          have hfar : (1 : Int) < 1 + i0 := by
            have h := hc1
            rw [Bool.and_eq_true, decide_eq_true_eq] at h
            exact h.1
          have hjj : jnB rm i1 (i1 + (1 + i0)) = true := by
            have h := hc1
            rw [Bool.and_eq_true] at h
            exact h.2
          refine sb_one (sd_forLm 6 (fun i G => ∃ g6 kd, (∀ a b : Int, 0 ≤ a → a < b → b < rm.length → (b - a < 1 + i0 ∨ (b - a = 1 + i0 ∧ a < i1)) → valD kd (a, b) = some (.int (wy (jnB rm) a b))) ∧ valD kd ((i1 : Int), (i1 : Int) + (1 + i0)) = some (.int (((btw (jnB rm) i1 (i1 + (1 + i0))).take i).map fun k => wy (jnB rm) i1 k * wy (jnB rm) k (i1 + (1 + i0))).sum) ∧ kd.length ≤ 200 * i0 + 15 * i1 + 1 + i ∧ G = { c := [some (.d (dPs rm)), some (.d (dD ((jdO (jnB rm) rm.length)))), some (.v (.ref lways)), some (.d (.int (1 + i0))), some (.d (.int i1)), some (.d (.int (i1 + (1 + i0)))), g6], o := [(lways, .dct (encK kd))] }) (EF.ed (ef_call F_between (hr.mono (by decide)) p0 (ea_cons (ed_var 1 rfl) (ea_cons (ed_var 4 rfl) (ea_cons (ed_var 5 rfl) ea_nil))) ⟨_, _, _, _, _, by assumption, by walk_at "sd", rfl, rfl⟩)) ?_ (fun i2 t2 G2 hi2 hp2 => ?_) (fun G2 hp2 => ?_))
          · skip
            refine ⟨_, _, many_put0 hv, ?_, ?_, rfl⟩
            · rw [valD_put, if_pos rfl, List.take_zero]
              rw [show decide ((1 : Int) + i0 = 1) = false from decide_eq_false (by have := hfar; omega)]
              rfl
            · have := putD_len kd ((i1 : Int), (i1 : Int) + (1 + i0)) (.int (b2n (decide ((1 : Int) + i0 = 1))))
              omega
          · skip
            obtain ⟨g6, kd, hv, hsum, hlk, rfl⟩ := hp2
            have hm2 := mem_btw (List.mem_of_getElem? hi2)
            have hbl := btw_len (J := jnB rm) (i := (i1 : Int)) (j := (i1 : Int) + (1 + i0)) (by omega)
            have hlt := (List.getElem?_eq_some_iff.mp hi2).1
            have w1 := wy_sz (J := jnB rm) (i := (i1 : Int)) (j := t2) (by omega) (by omega)
            have w2 := wy_sz (J := jnB rm) (i := t2) (j := (i1 : Int) + (1 + i0)) (by omega) (by omega)
            refine sb_one (sd_putP 2 [] (un1 hr) rfl (ed_add (ed_dgetP (un1 hr) (dc_own 2 [] rfl rfl) (ed_tup (ea_cons (ed_var 4 rfl) (ea_cons (ed_var 5 rfl) ea_nil))) hsum) (ed_mul (ed_dgetP (un1 hr) (dc_own 2 [] rfl rfl) (ed_tup (ea_cons (ed_var 4 rfl) (ea_cons (ed_var 6 rfl) ea_nil))) (hv _ _ (by omega) (by omega) (by omega) (by omega))) (ed_dgetP (un1 hr) (dc_own 2 [] rfl rfl) (ed_tup (ea_cons (ed_var 6 rfl) (ea_cons (ed_var 5 rfl) ea_nil))) (hv _ _ (by omega) (by omega) (by omega) (by omega))) (by walk_at "sd"))) (ed_tup (ea_cons (ed_var 4 rfl) (ea_cons (ed_var 5 rfl) ea_nil))) (by walk_at "sd") ?_)
            -- L0
            refine ⟨_, _, many_put hv, ?_, ?_, rfl⟩
            · rw [valD_put, if_pos rfl, take_sum hi2]
            · have := putD_len kd ((i1 : Int), (i1 : Int) + (1 + i0)) (.int ((((btw (jnB rm) i1 (i1 + (1 + i0))).take i2).map fun k => wy (jnB rm) i1 k * wy (jnB rm) k (i1 + (1 + i0))).sum + wy (jnB rm) i1 t2 * wy (jnB rm) t2 (i1 + (1 + i0))))
              omega
          obtain ⟨g6, kd, hv, hsum, hlk, rfl⟩ := hp2
          -- L1
          rw [List.take_length] at hsum
          have hbl := btw_len (J := jnB rm) (i := (i1 : Int)) (j := (i1 : Int) + (1 + i0)) (by omega)
          refine ⟨_, _, _, kd, many_next hv (by rw [hsum, wy_sum (by omega) hjj]), by omega, rfl⟩
        refine sb_nil ?_
        -- L2
        refine ⟨_, _, _, _, many_next (many_put0 hv) ?_, ?_, rfl⟩
        · rw [valD_put, if_pos rfl, many_else (by omega) (by omega) hc1]
        · have := putD_len kd ((i1 : Int), (i1 : Int) + (1 + i0)) (.int (b2n (decide ((1 : Int) + i0 = 1))))
          omega
      obtain ⟨g4, g5, g6, kd, hv, hlk, rfl⟩ := hp1
      -- L3
      refine ⟨_, _, _, _, kd, fun a b h1 h2 h3 h4 => hv a b h1 h2 h3 (by omega), by omega, rfl⟩
    obtain ⟨g3, g4, g5, g6, kd, hv, hlk, rfl⟩ := hp0
    refine sb_one (sd_ret (ed_dgetP (un1 hr) (dc_own 2 [] rfl rfl) (ed_tup (ea_cons ed_int (ea_cons (ed_sub (ed_lenM B.len (ED.el (ed_var 0 rfl))) ed_int) ea_nil))) (hv _ _ (by omega) (by omega) (by omega) (by omega))) ?_)
    -- L4
    exact rfl

theorem pn_Pss (xs : List (List P2)) : Pn 3 (.list (xs.map dPs)) := pn_lst (pna_map pn_Ps xs)
theorem eqv_Pss (xs ys : List (List P2)) : PyData.eqv (.list (xs.map dPs)) (.list (ys.map dPs)) = decide (xs = ys) := eqvAll_map eqv_Ps xs ys

def R_all_from (f : Nat) : Rl := fun xs r => ∃ (J : Int → Int → Bool) (n : Int) (kd : KD) (one other last : Int), JdOk J n kd ∧ (0 ≤ one ∧ one < other ∧ other < n ∧ n ≤ 12 ∧ other - one ≤ f ∧ other - one ≤ last ∧ last ≤ 7) ∧ xs = [dD kd, .int one, .int other, .int last] ∧ r = .new ((af J last f one other).map dPs)
theorem sc_all_from : FnScope ["joined", "one", "other", "last", "here", "found", "k", "first", "second"] ["joined", "one", "other", "last"] (defScope (topS 25)) := ⟨rfl, rfl, rfl, by decide +kernel, rfl, by decide +kernel, by decide +kernel⟩
theorem ok_all_from {lv : Nat} (B : Bl mg) (F_between : FD P w K mg base CX0 "between" 1 R_between) (prev : FD P w K mg base CX0 "all_from" (lv + 1) (R_all_from lv)) (F : Fun K "all_from" "all_from" (topS 25) f fd) : FnOk P w K mg base CX0 (lv + 2) f fd ["joined", "one", "other", "last"] (spD K (R_all_from (lv + 1))) := by
  refine fn_D F sc_all_from (fun xs r h => ?_) (fun X xs r hX hr h => ?_)
  · obtain ⟨J, n, kd, one, other, last, hJ, hh, rfl, rfl⟩ := h
    rfl
  · obtain ⟨cdv, A, outer, s, H, E, rfl⟩ := hX
    have hN := sc_all_from.nd
    obtain ⟨J, n, kd, one, other, last, hJ, hh, rfl, rfl⟩ := h
    have hhl := here_len (last := last) (i := one) (j := other)
    refine sb_cons (sd_if (et_cmp (ed_var 2 rfl) (ed_add (ed_var 1 rfl) ed_int) cd_eqI) (fun hc1 => ?_) (fun hc1 => ?_))
    · skip
      refine sb_one (sd_retF (EF.is (ef_lst (ea_cons (EF.ed (ef_lst ea_nil)) ea_nil)) (y := ([[]] : List (List P2)).map dPs) rfl) ?_)
      -- L0
      rw [af_leaf (of_decide_eq_true hc1)]
    refine sb_nil ?_
    refine sb_cons (sd_set 4 (EF.ed (ef_lst ea_nil)) ?_)
    refine sb_consP (fun G' => G' = { c := [some (.d (dD kd)), some (.d (.int one)), some (.d (.int other)), some (.d (.int last)), some (.d (dPs (hereP last one other))), none, none, none, none] }) ?_ (fun GJ hJ => ?_)
    · skip
      refine sd_if (et_cmp (ed_sub (ed_var 2 rfl) (ed_var 1 rfl)) (ed_var 3 rfl) cd_lt) (fun hc2 => ?_) (fun hc2 => ?_)
      · skip
        refine sb_one (sd_set 4 (EF.ed (ef_lst (ea_cons (ed_tup (ea_cons (ed_var 1 rfl) (ea_cons (ed_var 2 rfl) ea_nil))) ea_nil))) ?_)
        -- L1
        show _ = _
        rw [show (hereP last one other) = _ from if_pos (of_decide_eq_true hc2)]
        rfl
      · skip
        refine sb_nil ?_
        -- L2
        show _ = _
        rw [show (hereP last one other) = _ from if_neg (of_decide_eq_false hc2)]
        rfl
    subst hJ
    have hne := of_decide_eq_false hc1
    refine sb_cons (sd_setO 5 (ef_lst ea_nil) (fun lfound hlfound => ?_))
    refine sb_cons (sd_forLm 6 (fun t G => ∃ g6 g7 g8, G = { c := [some (.d (dD kd)), some (.d (.int one)), some (.d (.int other)), some (.d (.int last)), some (.d (dPs (hereP last one other))), some (.v (.ref lfound)), g6, g7, g8], o := [(lfound, .lst ((((btw J one other).take t).flatMap (rowK J last lv one other (hereP last one other))).map dPs))] }) (EF.ed (ef_call F_between (hr.mono (by omega)) p0 (ea_cons (ed_var 0 rfl) (ea_cons (ed_var 1 rfl) (ea_cons (ed_var 2 rfl) ea_nil))) ⟨J, n, kd, _, _, hJ, by walk_at "sd", rfl, rfl⟩)) ?_ (fun i0 t0 G0 hi0 hp0 => ?_) (fun G0 hp0 => ?_))
    · skip
      exact ⟨none, none, none, rfl⟩
    · skip
      obtain ⟨g6, g7, g8, rfl⟩ := hp0
      have hm0 := mem_btw (List.mem_of_getElem? hi0)
      refine sb_one (sd_forLm 7 (fun u G => ∃ g7 g8, G = { c := [some (.d (dD kd)), some (.d (.int one)), some (.d (.int other)), some (.d (.int last)), some (.d (dPs (hereP last one other))), some (.v (.ref lfound)), some (.d (.int t0)), g7, g8], o := [(lfound, .lst ((((btw J one other).take i0).flatMap (rowK J last lv one other (hereP last one other)) ++ ((af J last lv one t0).take u).flatMap (rowA J last lv t0 other (hereP last one other))).map dPs))] }) (EF.ed (ef_call prev (hr.mono (by omega)) p0 (ea_cons (ed_var 0 rfl) (ea_cons (ed_var 1 rfl) (ea_cons (ed_var 6 rfl) (ea_cons (ed_var 3 rfl) ea_nil)))) ⟨J, n, kd, _, _, _, hJ, by walk_at "sd", rfl, rfl⟩)) ?_ (fun i1 t1 G1 hi1 hp1 => ?_) (fun G1 hp1 => ?_))
      · skip
        exact ⟨g7, g8, by simp⟩
      · skip
        obtain ⟨g7, g8, rfl⟩ := hp1
        have hm1 := af_rows (J := J) (last := last) (f := lv) (i := one) (j := t0) (by omega) (by omega) (by omega) (by omega) (List.mem_of_getElem? hi1)
        refine sb_one (sd_forLm 8 (fun v G => ∃ g8, G = { c := [some (.d (dD kd)), some (.d (.int one)), some (.d (.int other)), some (.d (.int last)), some (.d (dPs (hereP last one other))), some (.v (.ref lfound)), some (.d (.int t0)), some (.d (dPs t1)), g8], o := [(lfound, .lst ((((btw J one other).take i0).flatMap (rowK J last lv one other (hereP last one other)) ++ ((af J last lv one t0).take i1).flatMap (rowA J last lv t0 other (hereP last one other)) ++ ((af J last lv t0 other).take v).map fun b => (hereP last one other) ++ t1 ++ b).map dPs))] }) (EF.ed (ef_call prev (hr.mono (by omega)) p0 (ea_cons (ed_var 0 rfl) (ea_cons (ed_var 6 rfl) (ea_cons (ed_var 2 rfl) (ea_cons (ed_var 3 rfl) ea_nil)))) ⟨J, n, kd, _, _, _, hJ, by walk_at "sd", rfl, rfl⟩)) ?_ (fun i2 t2 G2 hi2 hp2 => ?_) (fun G2 hp2 => ?_))
        · skip
          exact ⟨g8, by simp⟩
        · skip
          obtain ⟨g8, rfl⟩ := hp2
          have hm2 := af_rows (J := J) (last := last) (f := lv) (i := t0) (j := other) (by omega) (by omega) (by omega) (by omega) (List.mem_of_getElem? hi2)
          have hrm := af_room hne hh.2.1 (by omega) (by omega) hi0 hi1 hi2
          refine sb_one (sd_append 5 [] rfl (EF.ed (EF.is (ef_cat (EF.el (EF.is (ef_cat (ED.el (ed_var 4 rfl)) (ED.el (ed_var 7 rfl)) (by walk_at "sd")) (y := ((hereP last one other) ++ t1).map dP) (by rw [List.map_append]))) (ED.el (ed_var 8 rfl)) (by walk_at "sd")) (y := ((hereP last one other) ++ t1 ++ t2).map dP) (by rw [List.map_append (l₁ := (hereP last one other) ++ t1)]))) (by walk_at "sd") ?_)
          -- L3
          exact ⟨_, by rw [snoc_map hi2]; rfl⟩
        obtain ⟨g8, rfl⟩ := hp2
        -- L4
        refine ⟨some (.d (dPs t1)), g8, ?_⟩
        rw [List.take_length, snoc_fm hi1]
        rfl
      obtain ⟨g7, g8, rfl⟩ := hp1
      -- L5
      refine ⟨some (.d (.int t0)), g7, g8, ?_⟩
      rw [List.take_length, take_fm hi0]
      rfl
    obtain ⟨g6, g7, g8, rfl⟩ := hp0
    refine sb_one (sd_retOP 5 [] rfl rfl ?_)
    -- L6
    rw [af_node hne, List.take_length]

theorem all_froms (B : Bl mg) (F_between : FD P w K mg base CX0 "between" 1 R_between) (F : Fun K "all_from" "all_from" (topS 25) f fd) (hm : mg "all_from" = some (.ref f)) (hb : Binds K fd ["joined", "one", "other", "last"] []) : ∀ lv : Nat, FD P w K mg base CX0 "all_from" (lv + 1) (R_all_from lv)
  | 0 => fd_of F (fn_D0 fun xs r h => by
    obtain ⟨J, n, kd, i, j, last, _, h1, _⟩ := h
    omega) hm hb
  | lv + 1 => fd_of F (ok_all_from B F_between (all_froms B F_between F hm hb lv) F) hm hb

def R_must_be_few : Rl := fun xs r => ∃ rm : List P2, rm.length ≤ 8 ∧ xs = [dPs rm] ∧ r = .dat .none
theorem sc_must_be_few : FnScope ["room"] ["room"] (defScope (topS 26)) := ⟨rfl, rfl, rfl, by decide +kernel, rfl, by decide +kernel, by decide +kernel⟩
theorem ok_must_be_few (B : Bl mg) (F : Fun K "must_be_few" "must_be_few" (topS 26) f fd) : FnOk P w K mg base CX0 1 f fd ["room"] (spD K R_must_be_few) := by
  refine fn_D F sc_must_be_few (fun xs r h => ?_) (fun X xs r hX hr h => ?_)
  · obtain ⟨rm, h8, rfl, rfl⟩ := h
    rfl
  · obtain ⟨cdv, A, outer, s, H, E, rfl⟩ := hX
    have hN := sc_must_be_few.nd
    obtain ⟨rm, h8, rfl, rfl⟩ := h
    obtain ⟨tL, hL⟩ := B.listed
    refine sb_one (sd_if (et_cmp (ed_lenM B.len (ED.el (ed_var 0 rfl))) (ed_glob hL) cd_gt) (fun hc1 => ?_) (fun hc1 => ?_))
    · exact absurd hc1 (by simp; omega)
    refine sb_nil ?_
    -- L0
    exact rfl

def R_cuts : Rl := fun xs r => ∃ (rm r0 : List P2) (rest : List (List P2)), Room rm ∧ rm.length ≤ 8 ∧ sortR (allCuts rm) = r0 :: rest ∧ xs = [dPs rm] ∧ r = .nwR (r0.map dP) (rest.map dPs)
theorem sc_cuts : FnScope ["room", "last", "lines"] ["room"] (defScope (topS 27)) := ⟨rfl, rfl, rfl, by decide +kernel, rfl, by decide +kernel, by decide +kernel⟩
theorem ok_cuts (B : Bl mg) (F_must_room : FD P w K mg base CX0 "must_room" 6 R_must_room) (F_must_be_few : FD P w K mg base CX0 "must_be_few" 1 R_must_be_few) (F_joined_all : FD P w K mg base CX0 "joined_all" 5 R_joined_all) (F_all_from : FD P w K mg base CX0 "all_from" 13 (R_all_from 12)) (F : Fun K "cuts" "cuts" (topS 27) f fd) : FnOk P w K mg base CX0 15 f fd ["room"] (spD K R_cuts) := by
  refine fn_D F sc_cuts (fun xs r h => ?_) (fun X xs r hX hr h => ?_)
  · obtain ⟨rm, r0, rest, hR, h8, hs, rfl, rfl⟩ := h
    rfl
  · obtain ⟨cdv, A, outer, s, H, E, rfl⟩ := hX
    have hN := sc_cuts.nd
    obtain ⟨rm, r0, rest, hR, h8, hs, rfl, rfl⟩ := h
    have hB := hR.bds
    have h3 := hR.lo
    have h12 := hR.hi
    refine sb_cons (sd_expr (ed_call F_must_room (hr.mono (by decide)) p0 (ea_cons (ed_var 0 rfl) ea_nil) ⟨_, by walk_at "sd", rfl, rfl⟩) ?_)
    refine sb_cons (sd_expr (ed_call F_must_be_few (hr.mono (by decide)) p0 (ea_cons (ed_var 0 rfl) ea_nil) ⟨_, by walk_at "sd", rfl, rfl⟩) ?_)
    refine sb_cons (sd_set 1 (ed_sub (ed_lenM B.len (ED.el (ed_var 0 rfl))) ed_int) ?_)
    have hnd := all_nd hR
    rw [hs] at hnd
    have hsz := af_len (J := jnB rm) (last := (rm.length : Int) - 1) (f := 12) (i := 0) (j := (rm.length : Int) - 1) (by omega) (by omega) (by omega)
    refine sb_one (sd_retR (EFN.is (efn_sorted B.sorted (lc_new (fs := sortP) 2 (EF.el (ef_call F_all_from (hr.mono (by decide)) p0 (ea_cons (ed_call F_joined_all (hr.mono (by decide)) p0 (ea_cons (ed_var 0 rfl) ea_nil) ⟨_, by walk_at "sd", rfl, rfl⟩) (ea_cons ed_int (ea_cons (ed_var 1 rfl) (ea_cons (ed_var 1 rfl) ea_nil)))) ⟨_, _, _, _, _, _, jdO_ok, by walk_at "sd", rfl, rfl⟩)) (Nat.lt_of_le_of_lt hsz (by decide)) (fun v1 hv1 X1 hX1 hK1 => by obtain ⟨bs1, bH1, bC1, bcl1, bfp1, rfl⟩ := hX1; exact (ef_sortedP B.sorted (ED.el (ed_var 2 rfl)))) (ok := blkOk_by (show blkC ["room", "last", "lines"] (defScope (topS 27)) _ [("lines", 2)] = true from by decide +kernel))) (by exact un4 hr)) hs) (List.nodup_cons.mp hnd).1 rfl)

def R_law_all : Rl := fun xs r => ∃ (L : List P2) (wn : Int), (0 ≤ wn ∧ wn ≤ 5) ∧ L.Nodup ∧ L.length ≤ 20 ∧ xs = [dPs L, .int wn] ∧ r = .new ((lawAll L wn).map dPs)
theorem addR_len (w : Int) (x : P2) (F : List (List P2)) (u : Nat) : (addR w (F.take u) x).length ≤ F.length := by
  unfold addR
  rw [List.length_map]
  have := List.length_filter_le (okR w x) (F.take u)
  rw [List.length_take] at this
  omega
theorem addR_t {w : Int} {x : P2} {F : List (List P2)} {u : Nat} {row : List P2} (h : F[u]? = some row) (hc : okR w x row = true) : addR w (F.take (u + 1)) x = addR w (F.take u) x ++ [row ++ [x]] := by
  unfold addR
  rw [List.take_add_one, h]
  simp [hc]
theorem addR_tm {w : Int} {x : P2} {F : List (List P2)} {u : Nat} {row : List P2} (h : F[u]? = some row) (hc : okR w x row = true) : (addR w (F.take (u + 1)) x).map dPs = (addR w (F.take u) x).map dPs ++ [dPs (row ++ [x])] := by
  rw [addR_t h hc, List.map_append (l₁ := addR w (F.take u) x)]
  rfl
theorem addR_f {w : Int} {x : P2} {F : List (List P2)} {u : Nat} {row : List P2} (h : F[u]? = some row) (hc : okR w x row = false) : addR w (F.take (u + 1)) x = addR w (F.take u) x := by
  unfold addR
  rw [List.take_add_one, h]
  simp [hc]

theorem sc_law_all : FnScope ["lines", "wanted", "found", "line", "longer", "row", "one"] ["lines", "wanted"] (defScope (topS 48)) := ⟨rfl, rfl, rfl, by decide +kernel, rfl, by decide +kernel, by decide +kernel⟩
theorem ok_law_all (B : Bl mg) (F_law_cross : FD P w K mg base CX0 "_law_cross" 1 R_law_cross) (F : Fun K "_law_all" "_law_all" (topS 48) f fd) : FnOk P w K mg base CX0 3 f fd ["lines", "wanted"] (spD K R_law_all) := by
  refine fn_D F sc_law_all (fun xs r h => ?_) (fun X xs r hX hr h => ?_)
  · obtain ⟨L, wn, hw, nd, h20, rfl, rfl⟩ := h
    rfl
  · obtain ⟨cdv, A, outer, s, H, E, rfl⟩ := hX
    have hN := sc_law_all.nd
    obtain ⟨L, wn, hw, nd, h20, rfl, rfl⟩ := h
    refine sb_cons (sd_set 2 (ED.is (EF.ed (ef_lst (ea_cons (EF.ed (ef_lst ea_nil)) ea_nil))) (y := .list ((laF wn (L.take 0)).map dPs)) rfl) ?_)
    refine sb_cons (sd_forLm 3 (fun t G => ∃ g3 g4 g5 g6 o, G = { c := [some (.d (dPs L)), some (.d (.int wn)), some (.d (.list ((laF wn (L.take t)).map dPs))), g3, g4, g5, g6], o := o }) (ed_var 0 rfl) ?_ (fun i0 t0 G0 hi0 hp0 => ?_) (fun G0 hp0 => ?_))
    · skip
      exact ⟨none, none, none, none, _, rfl⟩
    · skip
      obtain ⟨g3, g4, g5, g6, o, rfl⟩ := hp0
      have ht0 := (List.getElem?_eq_some_iff.mp hi0).1
      have hfl := laF_len hw.1 hw.2 nd h20 (t := i0) (by omega)
      have hfl2 := laF_len hw.1 hw.2 nd h20 (t := i0 + 1) (by omega)
      refine sb_cons (sd_setO 4 (ef_lst ea_nil) (fun llonger hllonger => ?_))
      refine sb_cons (sd_forLm 5 (fun u G => ∃ g5 g6, G = { c := [some (.d (dPs L)), some (.d (.int wn)), some (.d (.list ((laF wn (L.take i0)).map dPs))), some (.d (dP t0)), some (.v (.ref llonger)), g5, g6], o := (llonger, .lst ((addR wn ((laF wn (L.take i0)).take u) t0).map dPs)) :: o }) (ed_var 2 rfl) ?_ (fun i1 t1 G1 hi1 hp1 => ?_) (fun G1 hp1 => ?_))
      · skip
        exact ⟨_, _, rfl⟩
      · skip
        obtain ⟨g5, g6, rfl⟩ := hp1
        have hrl := row_len hw.1 nd (t := i0) (by omega) (List.mem_of_getElem? hi1)
        have hff := List.length_filter_le (fun one => crossB one t0) t1
        have hal := addR_len wn t0 (laF wn (L.take i0)) i1
        refine sb_one (sd_if (EW.et (ew_and (et_cmp (ed_lenM B.len (ED.el (ed_var 5 rfl))) (ed_var 1 rfl) cd_lt) (fun hb1 => (ew_and1 (et_cmp (ed_lenM B.len (EF.el (LC.ef (LC.is (lc_cIf 6 _ (ED.el (ed_var 5 rfl)) (by walk_at "sd") (fun v2 hv2 X2 hX2 hK2 => by obtain ⟨bs2, bH2, bC2, bcl2, bfp2, rfl⟩ := hX2; exact (et_val (ed_call F_law_cross (hr.mono (by decide)) p0 (ea_cons (ed_var 6 rfl) (ea_cons (ed_var 3 rfl) ea_nil)) ⟨_, _, rfl, rfl⟩))) (fun v2 hv2 ht2 X2 hX2 hK2 => by obtain ⟨bs2, bH2, bC2, bcl2, bfp2, rfl⟩ := hX2; exact (ed_var 6 rfl)) (ok := blkOk_by (show blkC ["lines", "wanted", "found", "line", "longer", "row", "one"] (defScope (topS 48)) _ [("one", 6)] = true from by decide +kernel))) (y := (t1.filter fun one => crossB one t0).map dP) rfl)))) ed_int cd_eqI))))) (fun hc1 => ?_) (fun hc1 => ?_))
        · skip
          refine sb_one (sd_append 4 [] rfl (EF.ed (EF.is (ef_cat (ED.el (ed_var 5 rfl)) (EF.el (ef_lst (ea_cons (ed_var 3 rfl) ea_nil))) (by walk_at "sd")) (y := (t1 ++ [t0]).map dP) (by rw [List.map_append]; rfl))) (by walk_at "sd") ?_)
          -- L0
          exact ⟨some (.d (dPs t1)), g6, by rw [addR_tm hi1 hc1]; rfl⟩
        refine sb_nil ?_
        -- L1
        exact ⟨some (.d (dPs t1)), g6, by rw [addR_f hi1 hc1]; rfl⟩
      obtain ⟨g5, g6, rfl⟩ := hp1
      have hal := addR_len wn t0 (laF wn (L.take i0)) ((laF wn (L.take i0))).length
      rw [List.take_length] at hal ⊢
      refine sb_one (sd_set 2 (ED.is (EF.ed (ef_cat (ED.el (ed_var 2 rfl)) (el_ownP 4 [] rfl rfl) (by walk_at "sd"))) (y := .list ((laF wn (L.take (i0 + 1))).map dPs)) (by rw [laF_take hi0]; unfold stR; rw [List.map_append])) ?_)
      -- L2
      exact ⟨_, _, _, _, _, rfl⟩
    obtain ⟨g3, g4, g5, g6, o, rfl⟩ := hp0
    have hfl := laF_len hw.1 hw.2 nd h20 (t := L.length) (by omega)
    refine sb_one (sd_retF (ef_sortedR B.sorted (EF.el (LC.ef (LC.is (lc_cIf 5 _ (ED.el (ed_var 2 rfl)) (by walk_at "sd") (fun v5 hv5 X5 hX5 hK5 => by obtain ⟨bs5, bH5, bC5, bcl5, bfp5, rfl⟩ := hX5; exact (et_cmp (ed_lenM B.len (ED.el (ed_var 5 rfl))) (ed_var 1 rfl) cd_eqI)) (fun v5 hv5 ht5 X5 hX5 hK5 => by obtain ⟨bs5, bH5, bC5, bcl5, bfp5, rfl⟩ := hX5; exact (ed_var 5 rfl)) (ok := blkOk_by (show blkC ["lines", "wanted", "found", "line", "longer", "row", "one"] (defScope (topS 48)) _ [("row", 5)] = true from by decide +kernel))) (y := ((laF wn (L.take L.length)).filter fun row => decide ((row.length : Int) = wn)).map dPs) rfl))) (by exact un4 hr)) ?_)
    -- L3
    rw [List.take_length]
    rfl

def R_law_told : Rl := fun xs r => ∃ rows : List (List P2), rows.length ≤ 50000 ∧ (∀ l ∈ rows, l.length ≤ 100) ∧ xs = [.list (rows.map dPs), .list (rows.map dPs)] ∧ r = .dat (.bool true)
theorem sc_law_told : FnScope ["found", "due", "lines"] ["found", "due"] (defScope (topS 49)) := ⟨rfl, rfl, rfl, by decide +kernel, rfl, by decide +kernel, by decide +kernel⟩
theorem ok_law_told (B : Bl mg) (F_law_lines_told : FD P w K mg base CX0 "_law_lines_told" 2 R_law_lines_told) (F : Fun K "_law_told" "_law_told" (topS 49) f fd) : FnOk P w K mg base CX0 4 f fd ["found", "due"] (spD K R_law_told) := by
  refine fn_D F sc_law_told (fun xs r h => ?_) (fun X xs r hX hr h => ?_)
  · obtain ⟨rows, hl, hrl, rfl, rfl⟩ := h
    rfl
  · obtain ⟨cdv, A, outer, s, H, E, rfl⟩ := hX
    have hN := sc_law_told.nd
    obtain ⟨rows, hl, hrl, rfl, rfl⟩ := h
    refine sb_cons (sd_if (EW.et (ew_or (et_not (et_val (ed_isi (T := "list") (d := "list") (r := true) B.isinstance B.ty_list (ed_var 0 rfl)))) (fun hb1 => (ew_or1 (et_cmp (ed_var 0 rfl) (ed_var 1 rfl) (cd_neD (by exact hr.units) (pn_Pss _) (pn_Pss _))))))) (fun hc1 => ?_) (fun hc1 => ?_))
    · skip
      refine sb_one (sd_ret ed_bl ?_)
      -- L0
      exact absurd hc1 (by rw [eqv_Pss]; simp)
    refine sb_nil ?_
    refine sb_one (sd_ret (ed_all B.all (EF.el (LC.ef (LC.is (lc_c 2 (ED.el (ed_var 0 rfl)) (by walk_at "sd") (fun v1 hv1 X1 hX1 hK1 => by obtain ⟨bs1, bH1, bC1, bcl1, bfp1, rfl⟩ := hX1; exact (ed_call F_law_lines_told (hr.mono (by decide)) p0 (ea_cons (ed_var 2 rfl) ea_nil) ⟨v1, hrl v1 hv1, rfl, rfl⟩)) (ok := blkOk_by (show blkC ["found", "due", "lines"] (defScope (topS 49)) _ [("lines", 2)] = true from by decide +kernel))) (y := (rows.map fun _ => true).map PyData.bool) (by rw [List.map_map]; rfl))))) ?_)
    -- L1
    rw [show (rows.map fun _ => true).all id = true from by rw [List.all_eq_true]; intro b hb; obtain ⟨_, _, rfl⟩ := List.mem_map.mp hb; rfl]

def R_law : Rl := fun xs r => ∃ ns : List Int, ns.length ≤ 63 ∧ xs = [dScr ns] ∧ r = .dat (.bool true)
theorem sc_law : FnScope ["script", "room", "joined", "lines", "pair", "due", "handed", "found", "total"] ["script"] (defScope (topS 50)) := ⟨rfl, rfl, rfl, by decide +kernel, rfl, by decide +kernel, by decide +kernel⟩
theorem ok_law (B : Bl mg) (F_law_cell : FD P w K mg base CX0 "_law_cell" 1 R_law_cell) (F_law_room : FD P w K mg base CX0 "_law_room" 6 R_room) (F_law_joined : FD P w K mg base CX0 "_law_joined" 5 R_law_joined) (F_law_all : FD P w K mg base CX0 "_law_all" 3 R_law_all) (F_cuts : FD P w K mg base CX0 "cuts" 15 R_cuts) (F_many : FD P w K mg base CX0 "many" 7 R_many) (F_law_told : FD P w K mg base CX0 "_law_told" 4 R_law_told) (F_law_whole : FD P w K mg base CX0 "_law_whole" 1 R_law_whole) (F : Fun K "law" "law" (topS 50) f fd) : FnOk P w K mg base CX0 16 f fd ["script"] (spD K R_law) := by
  refine fn_D F sc_law (fun xs r h => ?_) (fun X xs r hX hr h => ?_)
  · obtain ⟨ns, hn, rfl, rfl⟩ := h
    rfl
  · obtain ⟨cdv, A, outer, s, H, E, rfl⟩ := hX
    have hN := sc_law.nd
    obtain ⟨ns, hn, rfl, rfl⟩ := h
    obtain ⟨hR, h8⟩ := room13_ok ns
    have hB := hR.bds
    have h3 := hR.lo
    have h12 := hR.hi
    obtain ⟨r0, rest, hs⟩ := all_split hR
    have hD := all_law hR
    rw [hs] at hD
    have hfl : (r0 :: rest).length ≤ 50000 := by
      rw [← hs, sortR_len]
      exact Nat.le_trans (all_sz hR h8) (by decide)
    have hrows : ∀ l ∈ r0 :: rest, l.length ≤ 100 := fun l hl => by
      rw [← hs] at hl
      exact Nat.le_trans (all_rows hR hl) (by decide)
    have hnd := lawLns_nd (room13 ns)
    have h20 := lns_len hR h8
    have hdl := jdO_len (J := lJn (room13 ns)) (room13 ns).length (by omega)
    refine sb_cons (sd_set 1 (ed_call F_law_room (hr.mono (by decide)) p0 (ea_cons (ed_var 0 rfl) (ea_cons ed_int (ea_cons ed_int ea_nil))) ⟨_, _, _, by walk_at "sd", by walk_at "sd", by walk_at "sd", rfl, rfl⟩) ?_)
    refine sb_consP (fun G' => G' = { c := [some (.d (dScr ns)), some (.d (dPs (room13 ns))), none, none, none, none, none, none, none] }) ?_ (fun GJ hJ => ?_)
    · skip
      refine sd_if (et_cmp (ed_mod (ed_call F_law_cell (hr.mono (by decide)) p0 (ea_cons (ed_var 0 rfl) (ea_cons ed_int ea_nil)) ⟨_, _, by walk_at "sd", by walk_at "sd", rfl, rfl⟩) ed_int (by walk_at "sd")) ed_int cd_eqI) (fun hc1 => ?_) (fun hc1 => ?_)
      · skip
        refine sb_one (sd_set 1 (ed_call F_law_room (hr.mono (by decide)) p0 (ea_cons (ed_var 0 rfl) (ea_cons ed_int (ea_cons ed_int ea_nil))) ⟨_, _, _, by walk_at "sd", by walk_at "sd", by walk_at "sd", rfl, rfl⟩) ?_)
        -- L0
        show _ = _
        rw [show (room13 ns) = _ from if_pos hc1]
        rfl
      · skip
        refine sb_nil ?_
        -- L1
        show _ = _
        rw [show (room13 ns) = _ from if_neg (Bool.eq_false_iff.mp hc1)]
        rfl
    subst hJ
    refine sb_cons (sd_set 2 (ed_call F_law_joined (hr.mono (by decide)) p0 (ea_cons (ed_var 1 rfl) ea_nil) ⟨_, by walk_at "sd", rfl, rfl⟩) ?_)
    refine sb_cons (sd_set 3 (ED.is (EF.ed (ef_sortedP B.sorted (EF.el (ef_keys 4 2 (lnB (room13 ns)) rfl (by walk_at "sd") (fun v4 hv4 X4 hX4 hK4 => by obtain ⟨bs4, bH4, bC4, bcl4, bfp4, rfl⟩ := hX4; have hmk := mem_jdO.mp hv4; exact (EW.et (ew_and (et_val (ed_dgetP (un1 hr) (ED.dc (ed_var 2 rfl)) (ed_var 4 rfl) (jdO_val _ _ _ hmk.1 hmk.2.1 hmk.2.2))) (fun hb4 => (ew_and1 (et_cmp (ed_sub (ed_ixT (ed_var 4 rfl) ed_int rfl) (ed_ixT (ed_var 4 rfl) ed_int rfl)) (EF.ed (ef_lst (ea_cons ed_int (ea_cons (ed_sub (ed_lenM B.len (ED.el (ed_var 1 rfl))) ed_int) ea_nil)))) (cd_niL (ns := [_, _]) rfl))))))) (fun v4 hv4 ht4 X4 hX4 hK4 => by obtain ⟨bs4, bH4, bC4, bcl4, bfp4, rfl⟩ := hX4; exact (ed_var 4 rfl)) (ok := blkOk_by (show blkC ["script", "room", "joined", "lines", "pair", "due", "handed", "found", "total"] (defScope (topS 50)) _ [("pair", 4)] = true from by decide +kernel)))))) (y := dPs (lawLns (room13 ns))) rfl) ?_)
    refine sb_cons (sd_set 5 (ED.is (EF.ed (ef_call F_law_all (hr.mono (by decide)) p0 (ea_cons (ed_var 3 rfl) (ea_cons (ed_sub (ed_lenM B.len (ED.el (ed_var 1 rfl))) ed_int) ea_nil)) ⟨_, _, by walk_at "sd", by assumption, by assumption, rfl, rfl⟩)) (y := .list ((r0 :: rest).map dPs)) (by rw [hD])) ?_)
    refine sb_cons (sd_set 6 (EF.ed (ef_list B.list (ED.el (ed_var 1 rfl)))) ?_)
    refine sb_cons (sd_setR 7 F_cuts (hr.mono (by decide)) p0 (ea_cons (ed_var 6 rfl) ea_nil) ⟨_, r0, rest, hR, h8, hs, rfl, rfl⟩ (fun lf lb hlb => ?_))
    refine sb_cons (sd_set 8 (ed_call F_many (hr.mono (by decide)) p0 (ea_cons (ed_var 6 rfl) ea_nil) ⟨_, by walk_at "sd", rfl, rfl⟩) ?_)
    refine sb_cons (sd_if (ET.thawR 7 (EW.et (ew_or (et_not (et_val (ed_call F_law_told (hr.mono (by decide)) p0 (ea_cons (ed_var 7 rfl) (ea_cons (ed_var 5 rfl) ea_nil)) ⟨r0 :: rest, hfl, hrows, rfl, rfl⟩))) (fun hb5 => (ew_or (et_not (et_val (ed_call F_law_whole (hr.mono (by decide)) p0 (ea_cons (ed_var 8 rfl) ea_nil) ⟨_, rfl, rfl⟩))) (fun hb6 => (ew_or (et_cmp (ed_var 8 rfl) (ed_lenM B.len (ED.el (ed_var 5 rfl))) cd_neI) (fun hb7 => (ew_or1 (et_cmp (ed_var 6 rfl) (ed_var 1 rfl) (cd_neD (by exact hr.units) (pn_Ps _) (pn_Ps _))))))))))) rfl) (fun hc1 => ?_) (fun hc1 => ?_))
    · exact absurd hc1 (by rw [eqv_Ps, all_len hR, ← hD]; simp)
    refine sb_nil ?_
    refine sb_cons (sd_app0 7 rfl (ed_tup (ea_cons ed_int (ea_cons ed_int ea_nil))) (by rw [List.length_map]; have := hrows r0 List.mem_cons_self; omega) ?_)
    refine sb_cons (sd_if (et_not (et_val (ed_call F_law_told (hr.mono (by decide)) p0 (ea_cons (EF.ed (ef_from (el_ownP 7 [] rfl rfl) ed_int (by decide))) (ea_cons (EF.ed (ef_from (ED.el (ed_var 5 rfl)) ed_int (by walk_at "sd"))) ea_nil)) ⟨rest, by rw [List.length_cons] at hfl; omega, fun l hl => hrows l (List.mem_cons_of_mem _ hl), rfl, rfl⟩))) (fun hc2 => ?_) (fun hc2 => ?_))
    · exact absurd hc2 (by decide)
    refine sb_nil ?_
    refine sb_cons (sd_clear 7 [] rfl ?_)
    exact sb_one (sd_ret (ed_call F_law_told (hr.mono (by decide)) p0 (ea_cons (ed_callR F_cuts (hr.mono (by decide)) p0 (ea_cons (ed_var 6 rfl) ea_nil) ⟨_, r0, rest, hR, h8, hs, rfl, rfl⟩) (ea_cons (ed_var 5 rfl) ea_nil)) ⟨r0 :: rest, hfl, hrows, rfl, rfl⟩) rfl)
theorem all_mk {l : PySem.W.OpenLaw} {w : World} {K : Fg} {h : Heap} {mg : Str → Option Value} {fa f0 f1 f2 f3 f4 f5 f6 f7 f8 f9 f10 f11 f12 f13 f14 f15 f16 f17 f18 f19 f20 f21 f22 f23 f24 f25 f26 f27 f28 f29 f30 f31 f32 f33 f34 f35 f36 f37 : Addr} (X : K.In h) (G : h.Ns mainGlobals mg) (hfa : mg "law" = some (.ref fa))
    {od0 an0 : Option Addr} {sl0 : Array (Option Value)} {oc0 kV0 dc0 pm0 cd0 ct0 : Value}
    {od1 an1 : Option Addr} {sl1 : Array (Option Value)} {oc1 kV1 dc1 pm1 cd1 ct1 : Value}
    {od2 an2 : Option Addr} {sl2 : Array (Option Value)} {oc2 kV2 dc2 pm2 cd2 ct2 : Value}
    {od3 an3 : Option Addr} {sl3 : Array (Option Value)} {oc3 kV3 dc3 pm3 cd3 ct3 : Value}
    {od4 an4 : Option Addr} {sl4 : Array (Option Value)} {oc4 kV4 dc4 pm4 cd4 ct4 : Value}
    {od5 an5 : Option Addr} {sl5 : Array (Option Value)} {oc5 kV5 dc5 pm5 cd5 ct5 : Value}
    {od6 an6 : Option Addr} {sl6 : Array (Option Value)} {oc6 kV6 dc6 pm6 cd6 ct6 : Value}
    {od7 an7 : Option Addr} {sl7 : Array (Option Value)} {oc7 kV7 dc7 pm7 cd7 ct7 : Value}
    {od8 an8 : Option Addr} {sl8 : Array (Option Value)} {oc8 kV8 dc8 pm8 cd8 ct8 : Value}
    {od9 an9 : Option Addr} {sl9 : Array (Option Value)} {oc9 kV9 dc9 pm9 cd9 ct9 : Value}
    {od10 an10 : Option Addr} {sl10 : Array (Option Value)} {oc10 kV10 dc10 pm10 cd10 ct10 : Value}
    {od11 an11 : Option Addr} {sl11 : Array (Option Value)} {oc11 kV11 dc11 pm11 cd11 ct11 : Value}
    {od12 an12 : Option Addr} {sl12 : Array (Option Value)} {oc12 kV12 dc12 pm12 cd12 ct12 : Value}
    {od13 an13 : Option Addr} {sl13 : Array (Option Value)} {oc13 kV13 dc13 pm13 cd13 ct13 : Value}
    {od14 an14 : Option Addr} {sl14 : Array (Option Value)} {oc14 kV14 dc14 pm14 cd14 ct14 : Value}
    {od15 an15 : Option Addr} {sl15 : Array (Option Value)} {oc15 kV15 dc15 pm15 cd15 ct15 : Value}
    {od16 an16 : Option Addr} {sl16 : Array (Option Value)} {oc16 kV16 dc16 pm16 cd16 ct16 : Value}
    {od17 an17 : Option Addr} {sl17 : Array (Option Value)} {oc17 kV17 dc17 pm17 cd17 ct17 : Value}
    {od18 an18 : Option Addr} {sl18 : Array (Option Value)} {oc18 kV18 dc18 pm18 cd18 ct18 : Value}
    {od19 an19 : Option Addr} {sl19 : Array (Option Value)} {oc19 kV19 dc19 pm19 cd19 ct19 : Value}
    {od20 an20 : Option Addr} {sl20 : Array (Option Value)} {oc20 kV20 dc20 pm20 cd20 ct20 : Value}
    {od21 an21 : Option Addr} {sl21 : Array (Option Value)} {oc21 kV21 dc21 pm21 cd21 ct21 : Value}
    {od22 an22 : Option Addr} {sl22 : Array (Option Value)} {oc22 kV22 dc22 pm22 cd22 ct22 : Value}
    {od23 an23 : Option Addr} {sl23 : Array (Option Value)} {oc23 kV23 dc23 pm23 cd23 ct23 : Value}
    {od24 an24 : Option Addr} {sl24 : Array (Option Value)} {oc24 kV24 dc24 pm24 cd24 ct24 : Value}
    {od25 an25 : Option Addr} {sl25 : Array (Option Value)} {oc25 kV25 dc25 pm25 cd25 ct25 : Value}
    {od26 an26 : Option Addr} {sl26 : Array (Option Value)} {oc26 kV26 dc26 pm26 cd26 ct26 : Value}
    {od27 an27 : Option Addr} {sl27 : Array (Option Value)} {oc27 kV27 dc27 pm27 cd27 ct27 : Value}
    {od28 an28 : Option Addr} {sl28 : Array (Option Value)} {oc28 kV28 dc28 pm28 cd28 ct28 : Value}
    {od29 an29 : Option Addr} {sl29 : Array (Option Value)} {oc29 kV29 dc29 pm29 cd29 ct29 : Value}
    {od30 an30 : Option Addr} {sl30 : Array (Option Value)} {oc30 kV30 dc30 pm30 cd30 ct30 : Value}
    {od31 an31 : Option Addr} {sl31 : Array (Option Value)} {oc31 kV31 dc31 pm31 cd31 ct31 : Value}
    {od32 an32 : Option Addr} {sl32 : Array (Option Value)} {oc32 kV32 dc32 pm32 cd32 ct32 : Value}
    {od33 an33 : Option Addr} {sl33 : Array (Option Value)} {oc33 kV33 dc33 pm33 cd33 ct33 : Value}
    {od34 an34 : Option Addr} {sl34 : Array (Option Value)} {oc34 kV34 dc34 pm34 cd34 ct34 : Value}
    {od35 an35 : Option Addr} {sl35 : Array (Option Value)} {oc35 kV35 dc35 pm35 cd35 ct35 : Value}
    {od36 an36 : Option Addr} {sl36 : Array (Option Value)} {oc36 kV36 dc36 pm36 cd36 ct36 : Value}
    {od37 an37 : Option Addr} {sl37 : Array (Option Value)} {oc37 kV37 dc37 pm37 cd37 ct37 : Value}
    {t_most : Tok}
    {t_far : Tok}
    {t_listed : Tok}
    (a0 : PySem.W.nsIn K mainGlobals "side" = some (some (.ref f0))) (l0 : K.lookup f0 = some ⟨oc0, od0, .func (PySem.W.fnOf "side" "side" (defArgs (topS 7)) (defBody (topS 7)) (defScope (topS 7)) .none kV0 dc0 pm0 an0 cd0 ct0), sl0⟩) (c0 : PySem.W.codeIn K cd0 "side" = true) (k0 : PySem.W.keepIn K (.ref f0) = true)
    (a1 : PySem.W.nsIn K mainGlobals "sign" = some (some (.ref f1))) (l1 : K.lookup f1 = some ⟨oc1, od1, .func (PySem.W.fnOf "sign" "sign" (defArgs (topS 8)) (defBody (topS 8)) (defScope (topS 8)) .none kV1 dc1 pm1 an1 cd1 ct1), sl1⟩) (c1 : PySem.W.codeIn K cd1 "sign" = true) (k1 : PySem.W.keepIn K (.ref f1) = true)
    (a2 : PySem.W.nsIn K mainGlobals "within" = some (some (.ref f2))) (l2 : K.lookup f2 = some ⟨oc2, od2, .func (PySem.W.fnOf "within" "within" (defArgs (topS 9)) (defBody (topS 9)) (defScope (topS 9)) .none kV2 dc2 pm2 an2 cd2 ct2), sl2⟩) (c2 : PySem.W.codeIn K cd2 "within" = true) (k2 : PySem.W.keepIn K (.ref f2) = true)
    (a3 : PySem.W.nsIn K mainGlobals "lies_on" = some (some (.ref f3))) (l3 : K.lookup f3 = some ⟨oc3, od3, .func (PySem.W.fnOf "lies_on" "lies_on" (defArgs (topS 10)) (defBody (topS 10)) (defScope (topS 10)) .none kV3 dc3 pm3 an3 cd3 ct3), sl3⟩) (c3 : PySem.W.codeIn K cd3 "lies_on" = true) (k3 : PySem.W.keepIn K (.ref f3) = true)
    (a4 : PySem.W.nsIn K mainGlobals "meet" = some (some (.ref f4))) (l4 : K.lookup f4 = some ⟨oc4, od4, .func (PySem.W.fnOf "meet" "meet" (defArgs (topS 11)) (defBody (topS 11)) (defScope (topS 11)) .none kV4 dc4 pm4 an4 cd4 ct4), sl4⟩) (c4 : PySem.W.codeIn K cd4 "meet" = true) (k4 : PySem.W.keepIn K (.ref f4) = true)
    (a5 : PySem.W.nsIn K mainGlobals "next_to" = some (some (.ref f5))) (l5 : K.lookup f5 = some ⟨oc5, od5, .func (PySem.W.fnOf "next_to" "next_to" (defArgs (topS 12)) (defBody (topS 12)) (defScope (topS 12)) .none kV5 dc5 pm5 an5 cd5 ct5), sl5⟩) (c5 : PySem.W.codeIn K cd5 "next_to" = true) (k5 : PySem.W.keepIn K (.ref f5) = true)
    (a6 : PySem.W.nsIn K mainGlobals "walls_apart" = some (some (.ref f6))) (l6 : K.lookup f6 = some ⟨oc6, od6, .func (PySem.W.fnOf "walls_apart" "walls_apart" (defArgs (topS 13)) (defBody (topS 13)) (defScope (topS 13)) .none kV6 dc6 pm6 an6 cd6 ct6), sl6⟩) (c6 : PySem.W.codeIn K cd6 "walls_apart" = true) (k6 : PySem.W.keepIn K (.ref f6) = true)
    (a7 : PySem.W.nsIn K mainGlobals "corners_right" = some (some (.ref f7))) (l7 : K.lookup f7 = some ⟨oc7, od7, .func (PySem.W.fnOf "corners_right" "corners_right" (defArgs (topS 14)) (defBody (topS 14)) (defScope (topS 14)) .none kV7 dc7 pm7 an7 cd7 ct7), sl7⟩) (c7 : PySem.W.codeIn K cd7 "corners_right" = true) (k7 : PySem.W.keepIn K (.ref f7) = true)
    (a8 : PySem.W.nsIn K mainGlobals "area_by" = some (some (.ref f8))) (l8 : K.lookup f8 = some ⟨oc8, od8, .func (PySem.W.fnOf "area_by" "area_by" (defArgs (topS 15)) (defBody (topS 15)) (defScope (topS 15)) .none kV8 dc8 pm8 an8 cd8 ct8), sl8⟩) (c8 : PySem.W.codeIn K cd8 "area_by" = true) (k8 : PySem.W.keepIn K (.ref f8) = true)
    (a9 : PySem.W.nsIn K mainGlobals "is_room" = some (some (.ref f9))) (l9 : K.lookup f9 = some ⟨oc9, od9, .func (PySem.W.fnOf "is_room" "is_room" (defArgs (topS 16)) (defBody (topS 16)) (defScope (topS 16)) .none kV9 dc9 pm9 an9 cd9 ct9), sl9⟩) (c9 : PySem.W.codeIn K cd9 "is_room" = true) (k9 : PySem.W.keepIn K (.ref f9) = true)
    (a10 : PySem.W.nsIn K mainGlobals "must_room" = some (some (.ref f10))) (l10 : K.lookup f10 = some ⟨oc10, od10, .func (PySem.W.fnOf "must_room" "must_room" (defArgs (topS 17)) (defBody (topS 17)) (defScope (topS 17)) .none kV10 dc10 pm10 an10 cd10 ct10), sl10⟩) (c10 : PySem.W.codeIn K cd10 "must_room" = true) (k10 : PySem.W.keepIn K (.ref f10) = true)
    (a11 : PySem.W.nsIn K mainGlobals "opens" = some (some (.ref f11))) (l11 : K.lookup f11 = some ⟨oc11, od11, .func (PySem.W.fnOf "opens" "opens" (defArgs (topS 18)) (defBody (topS 18)) (defScope (topS 18)) .none kV11 dc11 pm11 an11 cd11 ct11), sl11⟩) (c11 : PySem.W.codeIn K cd11 "opens" = true) (k11 : PySem.W.keepIn K (.ref f11) = true)
    (a12 : PySem.W.nsIn K mainGlobals "line_by" = some (some (.ref f12))) (l12 : K.lookup f12 = some ⟨oc12, od12, .func (PySem.W.fnOf "line_by" "line_by" (defArgs (topS 19)) (defBody (topS 19)) (defScope (topS 19)) .none kV12 dc12 pm12 an12 cd12 ct12), sl12⟩) (c12 : PySem.W.codeIn K cd12 "line_by" = true) (k12 : PySem.W.keepIn K (.ref f12) = true)
    (a13 : PySem.W.nsIn K mainGlobals "joined_all" = some (some (.ref f13))) (l13 : K.lookup f13 = some ⟨oc13, od13, .func (PySem.W.fnOf "joined_all" "joined_all" (defArgs (topS 22)) (defBody (topS 22)) (defScope (topS 22)) .none kV13 dc13 pm13 an13 cd13 ct13), sl13⟩) (c13 : PySem.W.codeIn K cd13 "joined_all" = true) (k13 : PySem.W.keepIn K (.ref f13) = true)
    (a14 : PySem.W.nsIn K mainGlobals "between" = some (some (.ref f14))) (l14 : K.lookup f14 = some ⟨oc14, od14, .func (PySem.W.fnOf "between" "between" (defArgs (topS 23)) (defBody (topS 23)) (defScope (topS 23)) .none kV14 dc14 pm14 an14 cd14 ct14), sl14⟩) (c14 : PySem.W.codeIn K cd14 "between" = true) (k14 : PySem.W.keepIn K (.ref f14) = true)
    (a15 : PySem.W.nsIn K mainGlobals "many" = some (some (.ref f15))) (l15 : K.lookup f15 = some ⟨oc15, od15, .func (PySem.W.fnOf "many" "many" (defArgs (topS 24)) (defBody (topS 24)) (defScope (topS 24)) .none kV15 dc15 pm15 an15 cd15 ct15), sl15⟩) (c15 : PySem.W.codeIn K cd15 "many" = true) (k15 : PySem.W.keepIn K (.ref f15) = true)
    (a16 : PySem.W.nsIn K mainGlobals "all_from" = some (some (.ref f16))) (l16 : K.lookup f16 = some ⟨oc16, od16, .func (PySem.W.fnOf "all_from" "all_from" (defArgs (topS 25)) (defBody (topS 25)) (defScope (topS 25)) .none kV16 dc16 pm16 an16 cd16 ct16), sl16⟩) (c16 : PySem.W.codeIn K cd16 "all_from" = true) (k16 : PySem.W.keepIn K (.ref f16) = true)
    (a17 : PySem.W.nsIn K mainGlobals "must_be_few" = some (some (.ref f17))) (l17 : K.lookup f17 = some ⟨oc17, od17, .func (PySem.W.fnOf "must_be_few" "must_be_few" (defArgs (topS 26)) (defBody (topS 26)) (defScope (topS 26)) .none kV17 dc17 pm17 an17 cd17 ct17), sl17⟩) (c17 : PySem.W.codeIn K cd17 "must_be_few" = true) (k17 : PySem.W.keepIn K (.ref f17) = true)
    (a18 : PySem.W.nsIn K mainGlobals "cuts" = some (some (.ref f18))) (l18 : K.lookup f18 = some ⟨oc18, od18, .func (PySem.W.fnOf "cuts" "cuts" (defArgs (topS 27)) (defBody (topS 27)) (defScope (topS 27)) .none kV18 dc18 pm18 an18 cd18 ct18), sl18⟩) (c18 : PySem.W.codeIn K cd18 "cuts" = true) (k18 : PySem.W.keepIn K (.ref f18) = true)
    (a19 : PySem.W.nsIn K mainGlobals "_law_cell" = some (some (.ref f19))) (l19 : K.lookup f19 = some ⟨oc19, od19, .func (PySem.W.fnOf "_law_cell" "_law_cell" (defArgs (topS 29)) (defBody (topS 29)) (defScope (topS 29)) .none kV19 dc19 pm19 an19 cd19 ct19), sl19⟩) (c19 : PySem.W.codeIn K cd19 "_law_cell" = true) (k19 : PySem.W.keepIn K (.ref f19) = true)
    (a20 : PySem.W.nsIn K mainGlobals "_law_whole" = some (some (.ref f20))) (l20 : K.lookup f20 = some ⟨oc20, od20, .func (PySem.W.fnOf "_law_whole" "_law_whole" (defArgs (topS 30)) (defBody (topS 30)) (defScope (topS 30)) .none kV20 dc20 pm20 an20 cd20 ct20), sl20⟩) (c20 : PySem.W.codeIn K cd20 "_law_whole" = true) (k20 : PySem.W.keepIn K (.ref f20) = true)
    (a21 : PySem.W.nsIn K mainGlobals "_law_side" = some (some (.ref f21))) (l21 : K.lookup f21 = some ⟨oc21, od21, .func (PySem.W.fnOf "_law_side" "_law_side" (defArgs (topS 31)) (defBody (topS 31)) (defScope (topS 31)) .none kV21 dc21 pm21 an21 cd21 ct21), sl21⟩) (c21 : PySem.W.codeIn K cd21 "_law_side" = true) (k21 : PySem.W.keepIn K (.ref f21) = true)
    (a22 : PySem.W.nsIn K mainGlobals "_law_flat" = some (some (.ref f22))) (l22 : K.lookup f22 = some ⟨oc22, od22, .func (PySem.W.fnOf "_law_flat" "_law_flat" (defArgs (topS 32)) (defBody (topS 32)) (defScope (topS 32)) .none kV22 dc22 pm22 an22 cd22 ct22), sl22⟩) (c22 : PySem.W.codeIn K cd22 "_law_flat" = true) (k22 : PySem.W.keepIn K (.ref f22) = true)
    (a23 : PySem.W.nsIn K mainGlobals "_law_plain_room" = some (some (.ref f23))) (l23 : K.lookup f23 = some ⟨oc23, od23, .func (PySem.W.fnOf "_law_plain_room" "_law_plain_room" (defArgs (topS 33)) (defBody (topS 33)) (defScope (topS 33)) .none kV23 dc23 pm23 an23 cd23 ct23), sl23⟩) (c23 : PySem.W.codeIn K cd23 "_law_plain_room" = true) (k23 : PySem.W.keepIn K (.ref f23) = true)
    (a24 : PySem.W.nsIn K mainGlobals "_law_winding" = some (some (.ref f24))) (l24 : K.lookup f24 = some ⟨oc24, od24, .func (PySem.W.fnOf "_law_winding" "_law_winding" (defArgs (topS 34)) (defBody (topS 34)) (defScope (topS 34)) .none kV24 dc24 pm24 an24 cd24 ct24), sl24⟩) (c24 : PySem.W.codeIn K cd24 "_law_winding" = true) (k24 : PySem.W.keepIn K (.ref f24) = true)
    (a25 : PySem.W.nsIn K mainGlobals "_law_pushed" = some (some (.ref f25))) (l25 : K.lookup f25 = some ⟨oc25, od25, .func (PySem.W.fnOf "_law_pushed" "_law_pushed" (defArgs (topS 35)) (defBody (topS 35)) (defScope (topS 35)) .none kV25 dc25 pm25 an25 cd25 ct25), sl25⟩) (c25 : PySem.W.codeIn K cd25 "_law_pushed" = true) (k25 : PySem.W.keepIn K (.ref f25) = true)
    (a26 : PySem.W.nsIn K mainGlobals "_law_room" = some (some (.ref f26))) (l26 : K.lookup f26 = some ⟨oc26, od26, .func (PySem.W.fnOf "_law_room" "_law_room" (defArgs (topS 36)) (defBody (topS 36)) (defScope (topS 36)) .none kV26 dc26 pm26 an26 cd26 ct26), sl26⟩) (c26 : PySem.W.codeIn K cd26 "_law_room" = true) (k26 : PySem.W.keepIn K (.ref f26) = true)
    (a27 : PySem.W.nsIn K mainGlobals "_law_on" = some (some (.ref f27))) (l27 : K.lookup f27 = some ⟨oc27, od27, .func (PySem.W.fnOf "_law_on" "_law_on" (defArgs (topS 37)) (defBody (topS 37)) (defScope (topS 37)) .none kV27 dc27 pm27 an27 cd27 ct27), sl27⟩) (c27 : PySem.W.codeIn K cd27 "_law_on" = true) (k27 : PySem.W.keepIn K (.ref f27) = true)
    (a28 : PySem.W.nsIn K mainGlobals "_law_meet" = some (some (.ref f28))) (l28 : K.lookup f28 = some ⟨oc28, od28, .func (PySem.W.fnOf "_law_meet" "_law_meet" (defArgs (topS 38)) (defBody (topS 38)) (defScope (topS 38)) .none kV28 dc28 pm28 an28 cd28 ct28), sl28⟩) (c28 : PySem.W.codeIn K cd28 "_law_meet" = true) (k28 : PySem.W.keepIn K (.ref f28) = true)
    (a29 : PySem.W.nsIn K mainGlobals "_law_area" = some (some (.ref f29))) (l29 : K.lookup f29 = some ⟨oc29, od29, .func (PySem.W.fnOf "_law_area" "_law_area" (defArgs (topS 39)) (defBody (topS 39)) (defScope (topS 39)) .none kV29 dc29 pm29 an29 cd29 ct29), sl29⟩) (c29 : PySem.W.codeIn K cd29 "_law_area" = true) (k29 : PySem.W.keepIn K (.ref f29) = true)
    (a30 : PySem.W.nsIn K mainGlobals "_law_good" = some (some (.ref f30))) (l30 : K.lookup f30 = some ⟨oc30, od30, .func (PySem.W.fnOf "_law_good" "_law_good" (defArgs (topS 40)) (defBody (topS 40)) (defScope (topS 40)) .none kV30 dc30 pm30 an30 cd30 ct30), sl30⟩) (c30 : PySem.W.codeIn K cd30 "_law_good" = true) (k30 : PySem.W.keepIn K (.ref f30) = true)
    (a31 : PySem.W.nsIn K mainGlobals "_law_line" = some (some (.ref f31))) (l31 : K.lookup f31 = some ⟨oc31, od31, .func (PySem.W.fnOf "_law_line" "_law_line" (defArgs (topS 41)) (defBody (topS 41)) (defScope (topS 41)) .none kV31 dc31 pm31 an31 cd31 ct31), sl31⟩) (c31 : PySem.W.codeIn K cd31 "_law_line" = true) (k31 : PySem.W.keepIn K (.ref f31) = true)
    (a32 : PySem.W.nsIn K mainGlobals "_law_cross" = some (some (.ref f32))) (l32 : K.lookup f32 = some ⟨oc32, od32, .func (PySem.W.fnOf "_law_cross" "_law_cross" (defArgs (topS 42)) (defBody (topS 42)) (defScope (topS 42)) .none kV32 dc32 pm32 an32 cd32 ct32), sl32⟩) (c32 : PySem.W.codeIn K cd32 "_law_cross" = true) (k32 : PySem.W.keepIn K (.ref f32) = true)
    (a33 : PySem.W.nsIn K mainGlobals "_law_lines_told" = some (some (.ref f33))) (l33 : K.lookup f33 = some ⟨oc33, od33, .func (PySem.W.fnOf "_law_lines_told" "_law_lines_told" (defArgs (topS 43)) (defBody (topS 43)) (defScope (topS 43)) .none kV33 dc33 pm33 an33 cd33 ct33), sl33⟩) (c33 : PySem.W.codeIn K cd33 "_law_lines_told" = true) (k33 : PySem.W.keepIn K (.ref f33) = true)
    (a34 : PySem.W.nsIn K mainGlobals "_law_joined" = some (some (.ref f34))) (l34 : K.lookup f34 = some ⟨oc34, od34, .func (PySem.W.fnOf "_law_joined" "_law_joined" (defArgs (topS 45)) (defBody (topS 45)) (defScope (topS 45)) .none kV34 dc34 pm34 an34 cd34 ct34), sl34⟩) (c34 : PySem.W.codeIn K cd34 "_law_joined" = true) (k34 : PySem.W.keepIn K (.ref f34) = true)
    (a35 : PySem.W.nsIn K mainGlobals "_law_all" = some (some (.ref f35))) (l35 : K.lookup f35 = some ⟨oc35, od35, .func (PySem.W.fnOf "_law_all" "_law_all" (defArgs (topS 48)) (defBody (topS 48)) (defScope (topS 48)) .none kV35 dc35 pm35 an35 cd35 ct35), sl35⟩) (c35 : PySem.W.codeIn K cd35 "_law_all" = true) (k35 : PySem.W.keepIn K (.ref f35) = true)
    (a36 : PySem.W.nsIn K mainGlobals "_law_told" = some (some (.ref f36))) (l36 : K.lookup f36 = some ⟨oc36, od36, .func (PySem.W.fnOf "_law_told" "_law_told" (defArgs (topS 49)) (defBody (topS 49)) (defScope (topS 49)) .none kV36 dc36 pm36 an36 cd36 ct36), sl36⟩) (c36 : PySem.W.codeIn K cd36 "_law_told" = true) (k36 : PySem.W.keepIn K (.ref f36) = true)
    (a37 : PySem.W.nsIn K mainGlobals "law" = some (some (.ref f37))) (l37 : K.lookup f37 = some ⟨oc37, od37, .func (PySem.W.fnOf "law" "law" (defArgs (topS 50)) (defBody (topS 50)) (defScope (topS 50)) .none kV37 dc37 pm37 an37 cd37 ct37), sl37⟩) (c37 : PySem.W.codeIn K cd37 "law" = true) (k37 : PySem.W.keepIn K (.ref f37) = true)
    (z_range : PySem.W.nsIn K mainGlobals "range" = some none)
    (z_len : PySem.W.nsIn K mainGlobals "len" = some none)
    (z_abs : PySem.W.nsIn K mainGlobals "abs" = some none)
    (z_min : PySem.W.nsIn K mainGlobals "min" = some none)
    (z_max : PySem.W.nsIn K mainGlobals "max" = some none)
    (z_int : PySem.W.nsIn K mainGlobals "int" = some none)
    (z_list : PySem.W.nsIn K mainGlobals "list" = some none)
    (z_set : PySem.W.nsIn K mainGlobals "set" = some none)
    (z_isinstance : PySem.W.nsIn K mainGlobals "isinstance" = some none)
    (z_sorted : PySem.W.nsIn K mainGlobals "sorted" = some none)
    (z_sum : PySem.W.nsIn K mainGlobals "sum" = some none)
    (z_all : PySem.W.nsIn K mainGlobals "all" = some none)
    (z_tuple : PySem.W.nsIn K mainGlobals "tuple" = some none)
    (z_bool : PySem.W.nsIn K mainGlobals "bool" = some none)
    (y_most : PySem.W.nsIn K mainGlobals "MOST" = some (some (.int 12 t_most)))
    (y_far : PySem.W.nsIn K mainGlobals "FAR" = some (some (.int 100 t_far)))
    (y_listed : PySem.W.nsIn K mainGlobals "MOST_LISTED" = some (some (.int 8 t_listed)))
    : ∃ fd : FuncData, (∀ (s : Shared) (v : Value), BindsTo s fd ⟨[v], []⟩ [("script", v)]) ∧ ∀ base : Heap, K.In base → base.Ns mainGlobals mg → FnOk l.prog w K mg base CX0 16 fa fd ["script"] (spD K R_law) := by
  have e := hfa.symm.trans (PySem.W.mg_of X G a37)
  cases e
  have F0 := fun_mk (st := topS 7) l0 c0 k0
  have b0 := F0.binds (ps := ["one", "two", "point"]) fun _ _ _ _ _ _ us hl => match us, hl with | [_, _, _], _ => rfl
  have F1 := fun_mk (st := topS 8) l1 c1 k1
  have b1 := F1.binds (ps := ["number"]) fun _ _ _ _ _ _ us hl => match us, hl with | [_], _ => rfl
  have F2 := fun_mk (st := topS 9) l2 c2 k2
  have b2 := F2.binds (ps := ["one", "two", "point"]) fun _ _ _ _ _ _ us hl => match us, hl with | [_, _, _], _ => rfl
  have F3 := fun_mk (st := topS 10) l3 c3 k3
  have b3 := F3.binds (ps := ["one", "two", "point"]) fun _ _ _ _ _ _ us hl => match us, hl with | [_, _, _], _ => rfl
  have F4 := fun_mk (st := topS 11) l4 c4 k4
  have b4 := F4.binds (ps := ["one", "two", "three", "four"]) fun _ _ _ _ _ _ us hl => match us, hl with | [_, _, _, _], _ => rfl
  have F5 := fun_mk (st := topS 12) l5 c5 k5
  have b5 := F5.binds (ps := ["count", "at"]) fun _ _ _ _ _ _ us hl => match us, hl with | [_, _], _ => rfl
  have F6 := fun_mk (st := topS 13) l6 c6 k6
  have b6 := F6.binds (ps := ["room"]) fun _ _ _ _ _ _ us hl => match us, hl with | [_], _ => rfl
  have F7 := fun_mk (st := topS 14) l7 c7 k7
  have b7 := F7.binds (ps := ["room"]) fun _ _ _ _ _ _ us hl => match us, hl with | [_], _ => rfl
  have F8 := fun_mk (st := topS 15) l8 c8 k8
  have b8 := F8.binds (ps := ["room"]) fun _ _ _ _ _ _ us hl => match us, hl with | [_], _ => rfl
  have F9 := fun_mk (st := topS 16) l9 c9 k9
  have b9 := F9.binds (ps := ["room"]) fun _ _ _ _ _ _ us hl => match us, hl with | [_], _ => rfl
  have F10 := fun_mk (st := topS 17) l10 c10 k10
  have b10 := F10.binds (ps := ["room"]) fun _ _ _ _ _ _ us hl => match us, hl with | [_], _ => rfl
  have F11 := fun_mk (st := topS 18) l11 c11 k11
  have b11 := F11.binds (ps := ["room", "one", "other"]) fun _ _ _ _ _ _ us hl => match us, hl with | [_, _, _], _ => rfl
  have F12 := fun_mk (st := topS 19) l12 c12 k12
  have b12 := F12.binds (ps := ["room", "one", "other"]) fun _ _ _ _ _ _ us hl => match us, hl with | [_, _, _], _ => rfl
  have F13 := fun_mk (st := topS 22) l13 c13 k13
  have b13 := F13.binds (ps := ["room"]) fun _ _ _ _ _ _ us hl => match us, hl with | [_], _ => rfl
  have F14 := fun_mk (st := topS 23) l14 c14 k14
  have b14 := F14.binds (ps := ["joined", "one", "other"]) fun _ _ _ _ _ _ us hl => match us, hl with | [_, _, _], _ => rfl
  have F15 := fun_mk (st := topS 24) l15 c15 k15
  have b15 := F15.binds (ps := ["room"]) fun _ _ _ _ _ _ us hl => match us, hl with | [_], _ => rfl
  have F16 := fun_mk (st := topS 25) l16 c16 k16
  have b16 := F16.binds (ps := ["joined", "one", "other", "last"]) fun _ _ _ _ _ _ us hl => match us, hl with | [_, _, _, _], _ => rfl
  have F17 := fun_mk (st := topS 26) l17 c17 k17
  have b17 := F17.binds (ps := ["room"]) fun _ _ _ _ _ _ us hl => match us, hl with | [_], _ => rfl
  have F18 := fun_mk (st := topS 27) l18 c18 k18
  have b18 := F18.binds (ps := ["room"]) fun _ _ _ _ _ _ us hl => match us, hl with | [_], _ => rfl
  have F19 := fun_mk (st := topS 29) l19 c19 k19
  have b19 := F19.binds (ps := ["script", "k"]) fun _ _ _ _ _ _ us hl => match us, hl with | [_, _], _ => rfl
  have F20 := fun_mk (st := topS 30) l20 c20 k20
  have b20 := F20.binds (ps := ["found"]) fun _ _ _ _ _ _ us hl => match us, hl with | [_], _ => rfl
  have F21 := fun_mk (st := topS 31) l21 c21 k21
  have b21 := F21.binds (ps := ["one", "two", "point"]) fun _ _ _ _ _ _ us hl => match us, hl with | [_, _, _], _ => rfl
  have F22 := fun_mk (st := topS 32) l22 c22 k22
  have b22 := F22.binds (ps := ["room"]) fun _ _ _ _ _ _ us hl => match us, hl with | [_], _ => rfl
  have F23 := fun_mk (st := topS 33) l23 c23 k23
  have b23 := F23.binds (ps := ["script", "k", "count"]) fun _ _ _ _ _ _ us hl => match us, hl with | [_, _, _], _ => rfl
  have F24 := fun_mk (st := topS 34) l24 c24 k24
  have b24 := F24.binds (ps := ["script", "k"]) fun _ _ _ _ _ _ us hl => match us, hl with | [_, _], _ => rfl
  have F25 := fun_mk (st := topS 35) l25 c25 k25
  have b25 := F25.binds (ps := ["script", "k", "room"]) fun _ _ _ _ _ _ us hl => match us, hl with | [_, _, _], _ => rfl
  have F26 := fun_mk (st := topS 36) l26 c26 k26
  have b26 := F26.binds (ps := ["script", "k", "most"]) fun _ _ _ _ _ _ us hl => match us, hl with | [_, _, _], _ => rfl
  have F27 := fun_mk (st := topS 37) l27 c27 k27
  have b27 := F27.binds (ps := ["one", "two", "point"]) fun _ _ _ _ _ _ us hl => match us, hl with | [_, _, _], _ => rfl
  have F28 := fun_mk (st := topS 38) l28 c28 k28
  have b28 := F28.binds (ps := ["one", "two", "three", "four"]) fun _ _ _ _ _ _ us hl => match us, hl with | [_, _, _, _], _ => rfl
  have F29 := fun_mk (st := topS 39) l29 c29 k29
  have b29 := F29.binds (ps := ["room"]) fun _ _ _ _ _ _ us hl => match us, hl with | [_], _ => rfl
  have F30 := fun_mk (st := topS 40) l30 c30 k30
  have b30 := F30.binds (ps := ["room"]) fun _ _ _ _ _ _ us hl => match us, hl with | [_], _ => rfl
  have F31 := fun_mk (st := topS 41) l31 c31 k31
  have b31 := F31.binds (ps := ["room", "one", "other"]) fun _ _ _ _ _ _ us hl => match us, hl with | [_, _, _], _ => rfl
  have F32 := fun_mk (st := topS 42) l32 c32 k32
  have b32 := F32.binds (ps := ["line", "other"]) fun _ _ _ _ _ _ us hl => match us, hl with | [_, _], _ => rfl
  have F33 := fun_mk (st := topS 43) l33 c33 k33
  have b33 := F33.binds (ps := ["lines"]) fun _ _ _ _ _ _ us hl => match us, hl with | [_], _ => rfl
  have F34 := fun_mk (st := topS 45) l34 c34 k34
  have b34 := F34.binds (ps := ["room"]) fun _ _ _ _ _ _ us hl => match us, hl with | [_], _ => rfl
  have F35 := fun_mk (st := topS 48) l35 c35 k35
  have b35 := F35.binds (ps := ["lines", "wanted"]) fun _ _ _ _ _ _ us hl => match us, hl with | [_, _], _ => rfl
  have F36 := fun_mk (st := topS 49) l36 c36 k36
  have b36 := F36.binds (ps := ["found", "due"]) fun _ _ _ _ _ _ us hl => match us, hl with | [_, _], _ => rfl
  have F37 := fun_mk (st := topS 50) l37 c37 k37
  have b37 := F37.binds (ps := ["script"]) fun _ _ _ _ _ _ us hl => match us, hl with | [_], _ => rfl
  have B : Bl mg := { range := PySem.W.mg_none_of X G z_range, len := PySem.W.mg_none_of X G z_len, abs := PySem.W.mg_none_of X G z_abs, min := PySem.W.mg_none_of X G z_min, max := PySem.W.mg_none_of X G z_max, int := PySem.W.mg_none_of X G z_int, list := PySem.W.mg_none_of X G z_list, set := PySem.W.mg_none_of X G z_set, isinstance := PySem.W.mg_none_of X G z_isinstance, sorted := PySem.W.mg_none_of X G z_sorted, sum := PySem.W.mg_none_of X G z_sum, all := PySem.W.mg_none_of X G z_all, ty_list := PySem.W.mg_none_of X G z_list, ty_tuple := PySem.W.mg_none_of X G z_tuple, ty_int := PySem.W.mg_none_of X G z_int, ty_bool := PySem.W.mg_none_of X G z_bool, most := ⟨_, PySem.W.mg_of X G y_most⟩, far := ⟨_, PySem.W.mg_of X G y_far⟩, listed := ⟨_, PySem.W.mg_of X G y_listed⟩ }
  refine ⟨PySem.W.fnOf "law" "law" (defArgs (topS 50)) (defBody (topS 50)) (defScope (topS 50)) .none kV37 dc37 pm37 an37 cd37 ct37, fun s v => .of_eq rfl, fun base _ _ => ?_⟩
  have D_side : FD l.prog w K mg base CX0 "side" 1 R_side := fd_of F0 (ok_side B  F0) (PySem.W.mg_of X G a0) b0
  have D_sign : FD l.prog w K mg base CX0 "sign" 1 R_sign := fd_of F1 (ok_sign B  F1) (PySem.W.mg_of X G a1) b1
  have D_within : FD l.prog w K mg base CX0 "within" 1 R_within := fd_of F2 (ok_within B  F2) (PySem.W.mg_of X G a2) b2
  have D_lies_on : FD l.prog w K mg base CX0 "lies_on" 2 R_lies_on := fd_of F3 (ok_lies_on B D_side D_within F3) (PySem.W.mg_of X G a3) b3
  have D_meet : FD l.prog w K mg base CX0 "meet" 3 R_meet := fd_of F4 (ok_meet B D_side D_sign D_lies_on F4) (PySem.W.mg_of X G a4) b4
  have D_next_to : FD l.prog w K mg base CX0 "next_to" 1 R_next_to := fd_of F5 (ok_next_to B  F5) (PySem.W.mg_of X G a5) b5
  have D_walls_apart : FD l.prog w K mg base CX0 "walls_apart" 4 R_walls_apart := fd_of F6 (ok_walls_apart B D_next_to D_meet F6) (PySem.W.mg_of X G a6) b6
  have D_corners_right : FD l.prog w K mg base CX0 "corners_right" 2 R_corners_right := fd_of F7 (ok_corners_right B D_side F7) (PySem.W.mg_of X G a7) b7
  have D_area_by : FD l.prog w K mg base CX0 "area_by" 1 R_area_by := fd_of F8 (ok_area_by B  F8) (PySem.W.mg_of X G a8) b8
  have D_is_room : FD l.prog w K mg base CX0 "is_room" 5 R_is_room := fd_of F9 (ok_is_room B D_corners_right D_walls_apart D_area_by F9) (PySem.W.mg_of X G a9) b9
  have D_law_cell : FD l.prog w K mg base CX0 "_law_cell" 1 R_law_cell := fd_of F19 (ok_law_cell B  F19) (PySem.W.mg_of X G a19) b19
  have D_law_side : FD l.prog w K mg base CX0 "_law_side" 1 R_law_side := fd_of F21 (ok_law_side B  F21) (PySem.W.mg_of X G a21) b21
  have D_law_flat : FD l.prog w K mg base CX0 "_law_flat" 2 R_law_flat := fd_of F22 (ok_law_flat B D_law_side F22) (PySem.W.mg_of X G a22) b22
  have D_law_plain_room : FD l.prog w K mg base CX0 "_law_plain_room" 3 R_plain := fd_of F23 (ok_law_plain_room B D_law_cell D_law_flat F23) (PySem.W.mg_of X G a23) b23
  have D_law_winding : FD l.prog w K mg base CX0 "_law_winding" 2 R_winding := fd_of F24 (ok_law_winding B D_law_cell F24) (PySem.W.mg_of X G a24) b24
  have D_law_on : FD l.prog w K mg base CX0 "_law_on" 2 R_law_on := fd_of F27 (ok_law_on B D_law_side F27) (PySem.W.mg_of X G a27) b27
  have D_law_meet : FD l.prog w K mg base CX0 "_law_meet" 3 R_law_meet := fd_of F28 (ok_law_meet B D_law_side D_law_on F28) (PySem.W.mg_of X G a28) b28
  have D_law_area : FD l.prog w K mg base CX0 "_law_area" 1 R_law_area := fd_of F29 (ok_law_area B  F29) (PySem.W.mg_of X G a29) b29
  have D_law_good : FD l.prog w K mg base CX0 "_law_good" 4 R_law_good := fd_of F30 (ok_law_good B D_law_flat D_law_area D_law_meet F30) (PySem.W.mg_of X G a30) b30
  have D_law_pushed : FD l.prog w K mg base CX0 "_law_pushed" 5 R_pushed := fd_of F25 (ok_law_pushed B D_law_cell D_law_good F25) (PySem.W.mg_of X G a25) b25
  have D_law_room : FD l.prog w K mg base CX0 "_law_room" 6 R_room := fd_of F26 (ok_law_room B D_law_cell D_law_plain_room D_law_winding D_law_pushed F26) (PySem.W.mg_of X G a26) b26
  have D_must_room : FD l.prog w K mg base CX0 "must_room" 6 R_must_room := fd_of F10 (ok_must_room B D_is_room F10) (PySem.W.mg_of X G a10) b10
  have D_law_whole : FD l.prog w K mg base CX0 "_law_whole" 1 R_law_whole := fd_of F20 (ok_law_whole B  F20) (PySem.W.mg_of X G a20) b20
  have D_opens : FD l.prog w K mg base CX0 "opens" 2 R_opens := fd_of F11 (ok_opens B D_next_to D_side F11) (PySem.W.mg_of X G a11) b11
  have D_line_by : FD l.prog w K mg base CX0 "line_by" 4 R_line_by := fd_of F12 (ok_line_by B D_next_to D_lies_on D_meet D_opens F12) (PySem.W.mg_of X G a12) b12
  have D_law_line : FD l.prog w K mg base CX0 "_law_line" 4 R_law_line := fd_of F31 (ok_law_line B D_law_on D_law_meet D_law_side F31) (PySem.W.mg_of X G a31) b31
  have D_joined_all : FD l.prog w K mg base CX0 "joined_all" 5 R_joined_all := fd_of F13 (ok_joined_all B D_line_by F13) (PySem.W.mg_of X G a13) b13
  have D_law_joined : FD l.prog w K mg base CX0 "_law_joined" 5 R_law_joined := fd_of F34 (ok_law_joined B D_law_line F34) (PySem.W.mg_of X G a34) b34
  have D_between : FD l.prog w K mg base CX0 "between" 1 R_between := fd_of F14 (ok_between B  F14) (PySem.W.mg_of X G a14) b14
  have D_law_cross : FD l.prog w K mg base CX0 "_law_cross" 1 R_law_cross := fd_of F32 (ok_law_cross B  F32) (PySem.W.mg_of X G a32) b32
  have D_law_lines_told : FD l.prog w K mg base CX0 "_law_lines_told" 2 R_law_lines_told := fd_of F33 (ok_law_lines_told B D_law_whole F33) (PySem.W.mg_of X G a33) b33
  have D_many : FD l.prog w K mg base CX0 "many" 7 R_many := fd_of F15 (ok_many B D_must_room D_joined_all D_between F15) (PySem.W.mg_of X G a15) b15
  have D_all_from : FD l.prog w K mg base CX0 "all_from" 13 (R_all_from 12) := all_froms B D_between F16 (PySem.W.mg_of X G a16) b16 12
  have D_must_be_few : FD l.prog w K mg base CX0 "must_be_few" 1 R_must_be_few := fd_of F17 (ok_must_be_few B  F17) (PySem.W.mg_of X G a17) b17
  have D_cuts : FD l.prog w K mg base CX0 "cuts" 15 R_cuts := fd_of F18 (ok_cuts B D_must_room D_must_be_few D_joined_all D_all_from F18) (PySem.W.mg_of X G a18) b18
  have D_law_all : FD l.prog w K mg base CX0 "_law_all" 3 R_law_all := fd_of F35 (ok_law_all B D_law_cross F35) (PySem.W.mg_of X G a35) b35
  have D_law_told : FD l.prog w K mg base CX0 "_law_told" 4 R_law_told := fd_of F36 (ok_law_told B D_law_lines_told F36) (PySem.W.mg_of X G a36) b36
  exact ok_law B D_law_cell D_law_room D_law_joined D_law_all D_cuts D_many D_law_told D_law_whole F37
theorem walk {l : PySem.W.OpenLaw} {q : Program} {loose : List Str} {XP : (Str → Option Value) → Heap → Prop} {YP : World → Heap → Prop} {d : DefRec} {K : Params → Fg} (hn : l.most = some 63) (hdf : d.params.defaults = [])
    (hY : ∀ (w : World) (h : Heap), YP w h → (K w.params).In h)
    (F : ∀ (w : World) (mg : Str → Option Value) (fa : Addr) (h : Heap), (K w.params).In h → h.Ns mainGlobals mg → mg d.name = some (.ref fa) →
      ∃ fd : FuncData, (∀ (s : Shared) (u : Value), BindsTo s fd ⟨[u], []⟩ [("script", u)]) ∧ ∀ base : Heap, (K w.params).In base → base.Ns mainGlobals mg → FnOk l.prog w (K w.params) mg base CX0 16 fa fd ["script"] (spD (K w.params) R_law)) :
    PySem.W.WalkO q loose XP YP l.row.toRowW d [] (fun f vs => PySem.call f vs) :=
  L2.walk_of (n := 63) (k := 16) (x := "script") (CX := fun _ => CX0) (sp := fun w => spD (K w.params) R_law) hn (by decide) hdf ⟨rfl, by decide, by decide⟩ hY F (fun _ H a ns hl _ hS => ⟨H, [dScr ns], _, Same.refl H, .cons (.scr hS) .nil, ⟨ns, hl, rfl, rfl⟩, fun v S' H' g r => (by
    cases r
    rfl), fun C z => nomatch z⟩) fun _ _ _ _ _ z => z
end
end Wk
open PySem PySem.W PyProof.Rows
set_option maxRecDepth 100000 in
set_option maxHeartbeats 0 in
theorem PySem.Challenge.cw_threewards_k13_whole_all_cuts_holds : PySem.Challenge.rw_threewards_k13_whole_all_cuts.Holds := by
  w_on; o_law; k_head; (case hw => w_witness2)
  k_fill
  refine Wk.walk (l := PySem.Challenge.rw_threewards_k13_whole_all_cuts) rfl rfl (fun w h Y => PySem.W.kIn_of Y) ?F
  case F =>
    intro w mg fa h KX G hmg
    refine' Wk.all_mk KX G hmg ?a0 ?l0 ?c0 ?k0 ?a1 ?l1 ?c1 ?k1 ?a2 ?l2 ?c2 ?k2 ?a3 ?l3 ?c3 ?k3 ?a4 ?l4 ?c4 ?k4 ?a5 ?l5 ?c5 ?k5 ?a6 ?l6 ?c6 ?k6 ?a7 ?l7 ?c7 ?k7 ?a8 ?l8 ?c8 ?k8 ?a9 ?l9 ?c9 ?k9 ?a10 ?l10 ?c10 ?k10 ?a11 ?l11 ?c11 ?k11 ?a12 ?l12 ?c12 ?k12 ?a13 ?l13 ?c13 ?k13 ?a14 ?l14 ?c14 ?k14 ?a15 ?l15 ?c15 ?k15 ?a16 ?l16 ?c16 ?k16 ?a17 ?l17 ?c17 ?k17 ?a18 ?l18 ?c18 ?k18 ?a19 ?l19 ?c19 ?k19 ?a20 ?l20 ?c20 ?k20 ?a21 ?l21 ?c21 ?k21 ?a22 ?l22 ?c22 ?k22 ?a23 ?l23 ?c23 ?k23 ?a24 ?l24 ?c24 ?k24 ?a25 ?l25 ?c25 ?k25 ?a26 ?l26 ?c26 ?k26 ?a27 ?l27 ?c27 ?k27 ?a28 ?l28 ?c28 ?k28 ?a29 ?l29 ?c29 ?k29 ?a30 ?l30 ?c30 ?k30 ?a31 ?l31 ?c31 ?k31 ?a32 ?l32 ?c32 ?k32 ?a33 ?l33 ?c33 ?k33 ?a34 ?l34 ?c34 ?k34 ?a35 ?l35 ?c35 ?k35 ?a36 ?l36 ?c36 ?k36 ?a37 ?l37 ?c37 ?k37 ?z_range ?z_len ?z_abs ?z_min ?z_max ?z_int ?z_list ?z_set ?z_isinstance ?z_sorted ?z_sum ?z_all ?z_tuple ?z_bool ?y_most ?y_far ?y_listed
    (case a0 => k_is)
    (case l0 => k_is)
    (case c0 => k_is)
    (case k0 => k_is)
    (case a1 => k_is)
    (case l1 => k_is)
    (case c1 => k_is)
    (case k1 => k_is)
    (case a2 => k_is)
    (case l2 => k_is)
    (case c2 => k_is)
    (case k2 => k_is)
    (case a3 => k_is)
    (case l3 => k_is)
    (case c3 => k_is)
    (case k3 => k_is)
    (case a4 => k_is)
    (case l4 => k_is)
    (case c4 => k_is)
    (case k4 => k_is)
    (case a5 => k_is)
    (case l5 => k_is)
    (case c5 => k_is)
    (case k5 => k_is)
    (case a6 => k_is)
    (case l6 => k_is)
    (case c6 => k_is)
    (case k6 => k_is)
    (case a7 => k_is)
    (case l7 => k_is)
    (case c7 => k_is)
    (case k7 => k_is)
    (case a8 => k_is)
    (case l8 => k_is)
    (case c8 => k_is)
    (case k8 => k_is)
    (case a9 => k_is)
    (case l9 => k_is)
    (case c9 => k_is)
    (case k9 => k_is)
    (case a10 => k_is)
    (case l10 => k_is)
    (case c10 => k_is)
    (case k10 => k_is)
    (case a11 => k_is)
    (case l11 => k_is)
    (case c11 => k_is)
    (case k11 => k_is)
    (case a12 => k_is)
    (case l12 => k_is)
    (case c12 => k_is)
    (case k12 => k_is)
    (case a13 => k_is)
    (case l13 => k_is)
    (case c13 => k_is)
    (case k13 => k_is)
    (case a14 => k_is)
    (case l14 => k_is)
    (case c14 => k_is)
    (case k14 => k_is)
    (case a15 => k_is)
    (case l15 => k_is)
    (case c15 => k_is)
    (case k15 => k_is)
    (case a16 => k_is)
    (case l16 => k_is)
    (case c16 => k_is)
    (case k16 => k_is)
    (case a17 => k_is)
    (case l17 => k_is)
    (case c17 => k_is)
    (case k17 => k_is)
    (case a18 => k_is)
    (case l18 => k_is)
    (case c18 => k_is)
    (case k18 => k_is)
    (case a19 => k_is)
    (case l19 => k_is)
    (case c19 => k_is)
    (case k19 => k_is)
    (case a20 => k_is)
    (case l20 => k_is)
    (case c20 => k_is)
    (case k20 => k_is)
    (case a21 => k_is)
    (case l21 => k_is)
    (case c21 => k_is)
    (case k21 => k_is)
    (case a22 => k_is)
    (case l22 => k_is)
    (case c22 => k_is)
    (case k22 => k_is)
    (case a23 => k_is)
    (case l23 => k_is)
    (case c23 => k_is)
    (case k23 => k_is)
    (case a24 => k_is)
    (case l24 => k_is)
    (case c24 => k_is)
    (case k24 => k_is)
    (case a25 => k_is)
    (case l25 => k_is)
    (case c25 => k_is)
    (case k25 => k_is)
    (case a26 => k_is)
    (case l26 => k_is)
    (case c26 => k_is)
    (case k26 => k_is)
    (case a27 => k_is)
    (case l27 => k_is)
    (case c27 => k_is)
    (case k27 => k_is)
    (case a28 => k_is)
    (case l28 => k_is)
    (case c28 => k_is)
    (case k28 => k_is)
    (case a29 => k_is)
    (case l29 => k_is)
    (case c29 => k_is)
    (case k29 => k_is)
    (case a30 => k_is)
    (case l30 => k_is)
    (case c30 => k_is)
    (case k30 => k_is)
    (case a31 => k_is)
    (case l31 => k_is)
    (case c31 => k_is)
    (case k31 => k_is)
    (case a32 => k_is)
    (case l32 => k_is)
    (case c32 => k_is)
    (case k32 => k_is)
    (case a33 => k_is)
    (case l33 => k_is)
    (case c33 => k_is)
    (case k33 => k_is)
    (case a34 => k_is)
    (case l34 => k_is)
    (case c34 => k_is)
    (case k34 => k_is)
    (case a35 => k_is)
    (case l35 => k_is)
    (case c35 => k_is)
    (case k35 => k_is)
    (case a36 => k_is)
    (case l36 => k_is)
    (case c36 => k_is)
    (case k36 => k_is)
    (case a37 => k_is)
    (case l37 => k_is)
    (case c37 => k_is)
    (case k37 => k_is)
    (case z_range => k_is)
    (case z_len => k_is)
    (case z_abs => k_is)
    (case z_min => k_is)
    (case z_max => k_is)
    (case z_int => k_is)
    (case z_list => k_is)
    (case z_set => k_is)
    (case z_isinstance => k_is)
    (case z_sorted => k_is)
    (case z_sum => k_is)
    (case z_all => k_is)
    (case z_tuple => k_is)
    (case z_bool => k_is)
    (case y_most => k_is)
    (case y_far => k_is)
    (case y_listed => k_is)
#print axioms PySem.Challenge.cw_threewards_k13_whole_all_cuts_holds
