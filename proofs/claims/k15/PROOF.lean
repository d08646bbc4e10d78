import PyProof.Rows.All
import Wide.All
import OpenK.AllK
import Wide.FinOn
import HandS.ForMost
import HandS.ForExc
import HandS.Defaults
import HandS.Flow
import HandS.Comp
import HandS.TupAny
import HandS.IsInst
import KE.SortData
import PyProof.ReprRoads
import HandS.RaiseMore
import HandS.ExcValue
import PyProof.Rows.SetFrom
import HandS.Set
import HandS.Strs
import PyProof.ListNew
import PyProof.ListCopy
import PyProof.ZipIter
import KE.KDictZip
import PyProof.Rows.ZipGen
import HandS.Deep
import HandS.Text
import HandS.Style
import KE.GoesEnumKw
import PyProof.Rows.CallKwBuiltin
import HandS.Zip0
import HandS.Zip
import KE.KCallOwn
import HandS.More
import HandS.TupMul
import HandS.Conv
import KE.GoesMore
import PyProof.StrLawsRepr
import PySem.Challenge.RW_pastlay_k15_pictures
set_option Elab.async false
set_option linter.all false
set_option maxRecDepth 100000
set_option maxHeartbeats 4000000
/-! defs with the guards known -/
namespace DL
open PySem PySem.Spec PyProof.Rows L2
/-- a def's promise where no repr runs around it -/
structure FnG (P : Program) (w : World) (K : PySem.W.Frag) (mg : Str → Option Value) (base : Heap)
    (k : Nat) (f : Addr) (fd : FuncData) (ps : List Str) (sp : Sp) : Prop where
  len : ∀ vs H Q E, sp vs H Q E → vs.length = ps.length
  run : ∀ (A : Around) (outer : List Env) (s : Shared) (H : Hp) (args : Args) (us : List Value) (vs : List V) (Q : VK) (E : XK),
    Room k A → A.guards = some [] → Env0 P w K mg base A outer s H → BindsTo s fd args (ps.zip us) → Vals vs us →
    sp vs H Q E → codeAny (model P w) A (.call (.ref f) args) (CR (L2.CX P w) outer P w H s Q E) s
section
variable {P : Program} {w : World} {K : PySem.W.Frag} {mg : Str → Option Value} {base : Heap} {k : Nat} {f : Addr}
  {fd : FuncData} {ps : List Str} {sp : Sp}
theorem FnG.mono {j : Nat} (F : FnG P w K mg base j f fd ps sp) (h : j ≤ k) : FnG P w K mg base k f fd ps sp :=
  ⟨F.len, fun A outer s H args us vs Q E hr hg => F.run A outer s H args us vs Q E (hr.mono h) hg⟩
theorem FnG.imp {sp' : Sp} (F : FnG P w K mg base k f fd ps sp) (h : ∀ vs H Q E, sp' vs H Q E → sp vs H Q E) :
    FnG P w K mg base k f fd ps sp' where
  len := fun vs H Q E q => F.len vs H Q E (h vs H Q E q)
  run := fun A outer s H args us vs Q E hr hg he hb hv q =>
    F.run A outer s H args us vs Q E hr hg he hb hv (h vs H Q E q)
/-- the end of a body, told as the end of its call -/
theorem end_of {X : Cx} {s0 s' : Shared} {H : Hp} {Q : VK} {outer : List Env} {sc : Scope} {N : List Str} {q : Str}
    {cdv : Value} {A : Around} {E : XK} {fl : Flow}
    (h : SP (cxOf (L2.CX P w) P w K mg base N q sc f cdv A outer s0 H E) [] { nx := fun _ H' => Q .non H', rt := Q } fl s') :
    ∃ u, (fl = .ret u ∨ (fl = .next ∧ u = Value.none)) ∧ CE outer P w H s0 Q u s' := by
  cases fl with
  | ret u =>
    obtain ⟨v, σ, H', J, r, z⟩ := h
    exact ⟨u, .inl rfl, v, H', J.os, J.bare, J.base, J.hok, r, z⟩
  | next =>
    obtain ⟨σ, H', J, z⟩ := h
    exact ⟨Value.none, .inr ⟨rfl, rfl⟩, V.non, H', J.os, J.bare, J.base, J.hok, rfl, z⟩
  | brk => obtain ⟨_, _, _, z⟩ := h; exact z.elim
  | cont => obtain ⟨_, _, _, z⟩ := h; exact z.elim
/-- a def that stands in the written part keeps its promise if its body does -/
theorem FunD.okG {x qual : Str} {params : Arguments} {body : List Stmt} {scope : Scope} {dvs : List V}
    {kws : List (Str × V)} {N : List Str} (F : FunD K x qual params body scope dvs kws f fd) (S : FnScope N ps scope)
    (len : ∀ vs H Q E, sp vs H Q E → vs.length = ps.length)
    (hb : ∀ (cdv : Value) (A : Around) (outer : List Env) (s : Shared) (H : Hp) (vs : List V) (Q : VK) (E : XK),
      Room k (A.deeper (envOfC qual scope s.heap.objs.size f cdv)) → A.guards = some [] → sp vs H Q E →
      ∃ t, PSs (cxOf (L2.CX P w) P w K mg base N qual scope f cdv A outer s H E) body t ∧
        t { nx := fun _ H' => Q .non H', rt := Q } (start N vs) H) : FnG P w K mg base (k + 1) f fd ps sp := by
  obtain ⟨oc, od, dV, kV, doc, pm, an, cdv, ct, osl, rfl, lk, hcd, _, _⟩ := F.ex
  refine ⟨len, fun A outer s H args us vs Q E hr hg e0 hbd r hsp => ?_⟩
  have hlen := len vs H Q E hsp
  have up : ∀ b o, base.get? b = some o → s.heap.get? b = some o := fun b o e => (e0.bs b o e).1
  have KX : K.In s.heap := e0.mod.kin.keeps up
  refine codeAny_call_function hr.depth (KX _ _ lk) rfl S.co S.gen rfl (PySem.W.codeRec_of KX hcd) (hbd _ _ _ _ ?_)
  refine wpAny_newFunctionEnv_cells S.kind ?_ fun env he s1 x => ?_
  · rintro ⟨n, v⟩ hy
    have hn := (List.of_mem_zip hy).1
    cases S.par n hn with
    | inl q => exact Or.inl q
    | inr q => exact Or.inr ⟨q, PySem.W.cellsFrom_some _ _ _ (Or.inl q)⟩
  · subst he
    have lim := e0.mod.nolimit.keeps up
    refine ⟨lim.keeps x.toInCall.keep, codeAny_func ?_⟩
    obtain ⟨t, ht, hq⟩ := hb cdv A outer s H vs Q E (hr.deeper _) hg hsp
    have I := inv_start (CX := L2.CX P w) (E := E) (qual := qual) (f := f) (cd := cdv) S hr.hd e0 hlen r x
    refine wpAny_mono (ht.run [] s1 (start N vs) H _ I hq) (fun fl s' hs => ?_) fun e s' z => z
    obtain ⟨u, hu, c⟩ := end_of (X := cxOf (L2.CX P w) P w K mg base N qual scope f cdv A outer s H E) hs
    rcases hu with rfl | ⟨rfl, rfl⟩
    · exact c
    · exact c
end
section
variable {X : Cx} {k : Nat} {f C : Addr} {fd : FuncData} {ps : List Str} {sp : Sp} {dvs : List V} {ds : List Value}
  {x m : Str} {p pos apos : Pos} {e o : Expr} {es : List Expr} {ta : TE} {t : TA} {W : WX}
/-- how a callee's end is the caller's -/
theorem back_of {pins : List (Addr × Obj)} {σ : L2.St} {H : Hp} {s s' : Shared} {Q : VK} {E : XK} (I : Inv X pins σ H s)
    (hx : ∀ e s', L2.CX X.prog X.w X.stack H s E e s' → X.xe e s') {r : Result}
    (h : CR (L2.CX X.prog X.w) X.stack X.prog X.w H s Q E r s') :
    match (generalizing := false) r with
    | .ok (.ret u) => EP X pins σ Q u s'
    | .ok _ => False
    | .error e => X.xe e s' := by
  cases r with
  | error e => exact hx e s' h
  | ok fl => cases fl with
    | ret u => exact I.after h
    | next => exact h
    | brk => exact h
    | cont => exact h
theorem run_g {pins : List (Addr × Obj)} {σ : L2.St} {H : Hp} {s : Shared} {Q : VK} {ws : List Value} {vs : List V} {args : Args}
    (F : FnG X.prog X.w X.K X.mg X.base k f fd ps sp) (hr : Room k X.A) (hgd : X.A.guards = some []) (tk : Takes X W)
    (I : Inv X pins σ H s) (hb : BindsTo s fd args (ps.zip ws)) (r : Vals vs ws) (h : sp vs H Q (WE W σ)) :
    codeAny (model X.prog X.w) X.A (.call (.ref f) args) (fun r s' => match r with
    | .ok (.ret u) => EP X pins σ Q u s'
    | .ok _ => False
    | .error e => X.xe e s') s := by
  refine codeAny_mono (F.run X.A X.stack s H args ws vs Q (WE W σ) hr hgd I.env0 hb r h) fun rr s' hq => ?_
  exact back_of I (fun e s2 c => passAt tk σ pins H s e s2 I c) hq
/-- f(e, ..), the defaults behind -/
def tCallG (sp : Sp) (dvs : List V) (W : WX) (t : TA) : TE := fun σ H Q => t σ H fun vs H1 => sp (vs ++ dvs) H1 Q (WE W σ)
theorem call_g {pins : List (Addr × Obj)} {σ : L2.St} {H : Hp} {s : Shared} {Q : VK} {us : List Value} {vs : List V}
    (F : FnG X.prog X.w X.K X.mg X.base k f fd ps sp) (hr : Room k X.A) (hgd : X.A.guards = some []) (tk : Takes X W)
    (hb : Binds X.K fd ps ds) (hd : Vals dvs ds) (I : Inv X pins σ H s) (r : Vals vs us) (h : sp (vs ++ dvs) H Q (WE W σ)) :
    wpAny (model X.prog X.w) X.A (call (.ref f) us) (EP X pins σ Q) X.xe s := by
  have r2 : Vals (vs ++ dvs) (us ++ ds) := r.append hd
  have hl := (r2.length).symm.trans (F.len _ _ _ _ h)
  refine wpAny_call (codeAny_mono (run_g F hr hgd tk I (hb s us I.kIn hl) r2 h) fun rr s' q => ?_)
  cases rr with
  | error e => exact q
  | ok fl => cases fl <;> exact q
theorem pe_callG (F : FnG X.prog X.w X.K X.mg X.base k f fd ps sp) (hr : Room k X.A) (hgd : X.A.guards = some [])
    (tk : Takes X W) (hg : Gl X x) (hm : X.mg x = some (.ref f)) (hk : PySem.W.keepIn X.K (.ref f) = true)
    (hb : Binds X.K fd ps ds) (hd : Vals dvs ds) (ha : PA X (e :: es) t) (hdb : (x == ("__debug__" : Str)) = false := by decide)
    (he : starEach (e :: es) X.env = (false, eval e X.env) :: starEach es X.env := by rfl)
    (hpl : (backTo pos (starEach es X.env)).any (·.1) = false := by rfl) :
    PE X (.Call (.Name x p) (e :: es) [] pos) (tCallG sp dvs W t) where
  run := fun pins s σ H Q I h => wpAny_Call_Name_kw <| ld_glob I hg hm
    (PySem.W.callWith_K (h₀ := X.base) I.ok.mod.kin hk
      (thn (ha.run pos pins s σ H _ I h) fun us s1 ⟨vs, H1, I1, r, q⟩ => ⟨I1.kIn, call_g F hr hgd tk hb hd I1 r q⟩) he hpl) hdb
end
end DL

/-! the data layer: what is frozen, what a slot owns, steps -/
namespace DL
open PySem PySem.Spec PyProof.Rows L2
abbrev D := PyData
abbrev Kf := PySem.W.Frag
/-! ### data that stand in a heap that is only read -/
def keyD : Key → D
  | .inl i => .int i
  | .inr x => .str x
mutual
inductive Rp (K : Kf) (F : Hp) : V → D → Prop where
  | non : Rp K F .non .none
  | bl (b : Bool) : Rp K F (.bl b) (.bool b)
  | int (i : Int) : Rp K F (.int i) (.int i)
  | str (x : Str) : Rp K F (.str x) (.str x)
  | lst {a : Addr} {xs : List V} {ds : List D} (h : F a = some (.lst xs)) (r : RpA K F xs ds) : Rp K F (.ref a) (.list ds)
  | tup {a : Addr} {xs : List V} {ds : List D} (h : SqT K F a xs) (r : RpA K F xs ds) : Rp K F (.ref a) (.tuple ds)
  | dct {a : Addr} {xs : List (Key × V)} {ds : List (D × D)} (h : F a = some (.dK xs)) (r : RpK K F xs ds) : Rp K F (.ref a) (.dict ds)
inductive RpA (K : Kf) (F : Hp) : List V → List D → Prop where
  | nil : RpA K F [] []
  | cons {v : V} {vs : List V} {d : D} {ds : List D} (h : Rp K F v d) (r : RpA K F vs ds) : RpA K F (v :: vs) (d :: ds)
inductive RpK (K : Kf) (F : Hp) : List (Key × V) → List (D × D) → Prop where
  | nil : RpK K F [] []
  | cons {k : Key} {v : V} {xs : List (Key × V)} {d : D} {ds : List (D × D)} (h : Rp K F v d) (r : RpK K F xs ds) : RpK K F ((k, v) :: xs) ((keyD k, d) :: ds)
end
theorem same_seqT {K : Kf} {H H' : Hp} {a : Addr} {xs : List V} (e : Same H H') (h : SqT K H a xs) : SqT K H' a xs := by
  rcases h with (h | ⟨o, h⟩) | h
  · exact Or.inl (Or.inl (e _ _ h))
  · exact Or.inl (Or.inr ⟨o, e _ _ h⟩)
  · exact Or.inr h
section
variable {K : Kf} {F F' : Hp}
mutual
theorem Rp.mono (s : Same F F') : ∀ {v : V} {d : D}, Rp K F v d → Rp K F' v d
  | _, _, .non => .non
  | _, _, .bl b => .bl b
  | _, _, .int i => .int i
  | _, _, .str x => .str x
  | _, _, .lst h r => .lst (s _ _ h) (RpA.mono s r)
  | _, _, .tup h r => .tup (same_seqT s h) (RpA.mono s r)
  | _, _, .dct h r => .dct (s _ _ h) (RpK.mono s r)
theorem RpA.mono (s : Same F F') : ∀ {v : List V} {d : List D}, RpA K F v d → RpA K F' v d
  | _, _, .nil => .nil
  | _, _, .cons h r => .cons (Rp.mono s h) (RpA.mono s r)
theorem RpK.mono (s : Same F F') : ∀ {v : List (Key × V)} {d : List (D × D)}, RpK K F v d → RpK K F' v d
  | _, _, .nil => .nil
  | _, _, .cons h r => .cons (Rp.mono s h) (RpK.mono s r)
end
theorem RpA.length : ∀ {xs : List V} {ds : List D}, RpA K F xs ds → xs.length = ds.length
  | _, _, .nil => rfl
  | _, _, .cons _ r => by simp [RpA.length r]
theorem RpA.get : ∀ {xs : List V} {ds : List D} {i : Nat} {v : V}, RpA K F xs ds → xs[i]? = some v → ∃ d, ds[i]? = some d ∧ Rp K F v d
  | _, _, _, _, .nil, e => by simp at e
  | _, _, 0, _, .cons h _, e => by simp at e; subst e; exact ⟨_, rfl, h⟩
  | _, _, i + 1, v, .cons _ r, e => by
    obtain ⟨d, h1, h2⟩ := RpA.get (i := i) (v := v) r (by simpa using e)
    exact ⟨d, by simpa using h1, h2⟩
theorem RpA.get' : ∀ {xs : List V} {ds : List D} {i : Nat} {d : D}, RpA K F xs ds → ds[i]? = some d → ∃ v, xs[i]? = some v ∧ Rp K F v d
  | _, _, _, _, .nil, e => by simp at e
  | _, _, 0, _, .cons h _, e => by simp at e; subst e; exact ⟨_, rfl, h⟩
  | _, _, i + 1, v, .cons _ r, e => by
    obtain ⟨d, h1, h2⟩ := RpA.get' (i := i) (d := v) r (by simpa using e)
    exact ⟨d, by simpa using h1, h2⟩
theorem RpA.append : ∀ {xs ys : List V} {ds es : List D}, RpA K F xs ds → RpA K F ys es → RpA K F (xs ++ ys) (ds ++ es)
  | _, _, _, _, .nil, s => s
  | _, _, _, _, .cons h r, s => .cons h (RpA.append r s)
theorem RpA.take : ∀ {xs : List V} {ds : List D} (n : Nat), RpA K F xs ds → RpA K F (xs.take n) (ds.take n)
  | _, _, 0, _ => by simpa using RpA.nil
  | _, _, _ + 1, .nil => by simpa using RpA.nil
  | _, _, n + 1, .cons h r => by simpa using RpA.cons h (RpA.take n r)
theorem RpA.drop : ∀ {xs : List V} {ds : List D} (n : Nat), RpA K F xs ds → RpA K F (xs.drop n) (ds.drop n)
  | _, _, 0, r => by simpa using r
  | _, _, _ + 1, .nil => by simpa using RpA.nil
  | _, _, n + 1, .cons _ r => by simpa using RpA.drop n r
theorem RpA.set {v : V} {d : D} (h : Rp K F v d) : ∀ {xs : List V} {ds : List D} (n : Nat), RpA K F xs ds → RpA K F (xs.set n v) (ds.set n d)
  | _, _, _, .nil => by simpa using RpA.nil
  | _, _, 0, .cons _ r => .cons h r
  | _, _, n + 1, .cons q r => .cons q (RpA.set h n r)
theorem RpA.erase : ∀ {xs : List V} {ds : List D} (n : Nat), RpA K F xs ds → RpA K F (xs.eraseIdx n) (ds.eraseIdx n)
  | _, _, _, .nil => by simpa using RpA.nil
  | _, _, 0, .cons _ r => by simpa using r
  | _, _, n + 1, .cons q r => by simpa using RpA.cons q (RpA.erase n r)
theorem RpA.reverse : ∀ {xs : List V} {ds : List D}, RpA K F xs ds → RpA K F xs.reverse ds.reverse
  | _, _, .nil => .nil
  | _, _, .cons h r => by
    simp only [List.reverse_cons]
    exact (RpA.reverse r).append (.cons h .nil)
theorem RpA.at {xs : List V} {ds : List D} {i : Int} {d : D} (r : RpA K F xs ds) (e : atI ds i = some d) : ∃ v, atI xs i = some v ∧ Rp K F v d := by
  unfold atI at e ⊢
  rw [r.length]
  cases q : ixN ds.length i with
  | none => rw [q] at e; cases e
  | some j =>
    rw [q] at e
    exact r.get' e
end
/-! ### slots -/
structure Exn where
  cls : String
  spot : Option Int
/-- what a slot holds: nothing, data, a list of its own, a book of its own, an exception -/
inductive Sl where
  | non
  | dat (d : D)
  | lst (ds : List D)
  | book (ds : List D)
  | exn (x : Exn)
  | scr (ns : List Int)
def Sl.owns : Sl → Bool
  | .lst _ => true
  | .book _ => true
  | _ => false
abbrev En := List Sl
abbrev Ow := Addr → Option (Nat × Nat)
structure Gx where
  K : Kf
  cb : Addr
  xa : String → Addr
  xo : Exn → Addr → HO
  xd : Exn → Option Addr → Hp → Prop
/-- the list at l is slot i's own, in its part r -/
structure Owns (H : Hp) (ow : Ow) (i r : Nat) (l : Addr) (o : HO) : Prop where
  own1 : ow l = some (i, r)
  uq : ∀ a, ow a = some (i, r) → a = l
  at_ : H l = some o
def SlAt (g : Gx) (F H : Hp) (ow : Ow) (i : Nat) (o : Option V) : Sl → Prop
  | .non => True
  | .dat d => ∃ v, o = some v ∧ Rp g.K F v d
  | .lst ds => ∃ l vs, o = some (.ref l) ∧ Owns H ow i 0 l (.lst vs) ∧ RpA g.K F vs ds
  | .book ds => ∃ b dx l vs, o = some (.ref b) ∧ Owns H ow i 0 b (.ins g.cb dx [("row", .ref l)]) ∧ Owns H ow i 1 l (.lst vs) ∧ RpA g.K F vs ds
  | .exn x => ∃ e, o = some (.ref e) ∧ F e = some (g.xo x e)
  | .scr ns => ∃ a, o = some (.ref a) ∧ SqL g.K F a (ns.map V.int)
/-- the entry of a def: the heaps, who owns what, how many parameters -/
structure Cn where
  g : Gx
  F0 : Hp
  H0 : Hp
  ow0 : Ow
  np : Nat
structure Rep (Γ : Cn) (F H : Hp) (σ : L2.St) (env : En) (ow : Ow) : Prop where
  len : σ.length = env.length
  at_ : ∀ (i : Nat) s, env[i]? = some s → ∃ o, σ[i]? = some o ∧ SlAt Γ.g F H ow i o s
  sm : Same F H
  own : ∀ a p, ow a = some p → H a ≠ none ∧ F a = none
  e1 : ∀ b o, Γ.H0 b = some o → Γ.ow0 b = none → H b = some o
  e2 : Same Γ.F0 F
  e3 : ∀ b, Γ.H0 b ≠ none → F b = Γ.F0 b
  e4 : ∀ b p, Γ.ow0 b = some p → ow b = some p
  e5 : ∀ b p, ow b = some p → Γ.H0 b ≠ none → Γ.ow0 b = some p
  e6 : ∀ b, Γ.H0 b ≠ none → H b ≠ none
  e7 : ∀ b p, Γ.ow0 b = some p → p.1 < Γ.np ∧ Γ.H0 b ≠ none
  e8 : ∀ a p, ow a = some p → ∃ s, env[p.1]? = some s ∧ s.owns = true
structure Stp (F H : Hp) (ow : Ow) (F' H' : Hp) : Prop where
  s1 : Same F F'
  s2 : ∀ b o, H b = some o → ow b = none → H' b = some o
  s3 : ∀ b, H b ≠ none → F' b = F b
  s4 : ∀ b, H b ≠ none → H' b ≠ none
theorem Stp.refl {F H : Hp} {ow : Ow} : Stp F H ow F H := ⟨Same.refl F, fun _ _ h _ => h, fun _ _ => rfl, fun _ h => h⟩
theorem Stp.trans {F H F1 H1 F2 H2 : Hp} {ow : Ow} (a : Stp F H ow F1 H1) (b : Stp F1 H1 ow F2 H2) : Stp F H ow F2 H2 :=
  ⟨a.s1.trans b.s1, fun c o h n => b.s2 c o (a.s2 c o h n) n, fun c h => (b.s3 c (a.s4 c h)).trans (a.s3 c h), fun c h => b.s4 c (a.s4 c h)⟩
theorem Owns.keep {H H' : Hp} {ow : Ow} {i r : Nat} {l : Addr} {o : HO} (h : Owns H ow i r l o) (k : ∀ b o p, ow b = some p → H b = some o → H' b = some o) : Owns H' ow i r l o :=
  ⟨h.own1, h.uq, k _ _ _ h.own1 h.at_⟩
theorem SlAt.keep {g : Gx} {F H F' H' : Hp} {ow : Ow} {i : Nat} {o : Option V} {s : Sl} (h : SlAt g F H ow i o s) (sF : Same F F')
    (k : ∀ b o p, ow b = some p → H b = some o → H' b = some o) : SlAt g F' H' ow i o s := by
  cases s with
  | non => trivial
  | dat d => obtain ⟨v, e, r⟩ := h; exact ⟨v, e, r.mono sF⟩
  | lst ds => obtain ⟨l, vs, e, q, r⟩ := h; exact ⟨l, vs, e, q.keep k, r.mono sF⟩
  | book ds => obtain ⟨b, dx, l, vs, e, q1, q2, r⟩ := h; exact ⟨b, dx, l, vs, e, q1.keep k, q2.keep k, r.mono sF⟩
  | exn x => obtain ⟨a, e, r⟩ := h; exact ⟨a, e, sF _ _ r⟩
  | scr ns => obtain ⟨a, e, r⟩ := h; exact ⟨a, e, sF.seq r⟩
section
variable {Γ : Cn} {F H F' H' : Hp} {σ : L2.St} {env : En} {ow : Ow}
/-- a step that leaves what is owned as it is -/
theorem Rep.step (R : Rep Γ F H σ env ow) (S : Stp F H ow F' H') (sm : Same F' H') (k : ∀ b o p, ow b = some p → H b = some o → H' b = some o) : Rep Γ F' H' σ env ow where
  len := R.len
  at_ := fun i s e => by
    obtain ⟨o, h1, h2⟩ := R.at_ i s e
    exact ⟨o, h1, h2.keep S.s1 k⟩
  sm := sm
  own := fun a p e => by
    obtain ⟨h1, h2⟩ := R.own a p e
    exact ⟨S.s4 a h1, (S.s3 a h1).trans h2⟩
  e1 := fun b o h n => by
    have q := R.e1 b o h n
    cases z : ow b with
    | none => exact S.s2 b o q z
    | some p => exact k b o p z q
  e2 := R.e2.trans S.s1
  e3 := fun b h => (S.s3 b (R.e6 b h)).trans (R.e3 b h)
  e4 := R.e4
  e5 := R.e5
  e6 := fun b h => S.s4 b (R.e6 b h)
  e7 := R.e7
  e8 := R.e8
theorem Rep.none_F (R : Rep Γ F H σ env ow) {p : Addr} (h : H p = none) : F p = none := R.sm.free h
/-- a new object, frozen -/
theorem Rep.alloc (R : Rep Γ F H σ env ow) {p : Addr} (o : HO) (h : H p = none) :
    Rep Γ (upd F p o) (upd H p o) σ env ow ∧ Stp F H ow (upd F p o) (upd H p o) := by
  have ne : ∀ b, H b ≠ none → b ≠ p := fun b q e => q (by rw [e]; exact h)
  have hF := R.none_F h
  have S : Stp F H ow (upd F p o) (upd H p o) := by
    refine ⟨fun b x e => ?_, fun b x e _ => ?_, fun b e => upd_ne (ne b e), fun b e => ?_⟩
    · rw [upd_ne (ne_of_none e hF)]; exact e
    · rw [upd_ne (ne_of_none e h)]; exact e
    · rw [upd_ne (ne b e)]; exact e
  refine ⟨R.step S (fun b x e => ?_) (fun b x p' _ e => ?_), S⟩
  · by_cases hb : b = p
    · rw [hb, upd_same] at e ⊢; exact e
    · rw [upd_ne hb] at e ⊢; exact R.sm b x e
  · rw [upd_ne (ne_of_none e h)]; exact e
/-- a new object that is nobody's -/
theorem Rep.alloc0 (R : Rep Γ F H σ env ow) {p : Addr} (o : HO) (h : H p = none) :
    Rep Γ F (upd H p o) σ env ow ∧ Stp F H ow F (upd H p o) := by
  have S : Stp F H ow F (upd H p o) := by
    refine ⟨Same.refl F, fun b x e _ => ?_, fun b e => rfl, fun b e => ?_⟩
    · rw [upd_ne (ne_of_none e h)]; exact e
    · rw [upd_ne (fun q => e (by rw [q]; exact h))]; exact e
  refine ⟨R.step S (fun b x e => ?_) (fun b x p' _ e => ?_), S⟩
  · have e' := R.sm b x e
    rw [upd_ne (ne_of_none e' h)]; exact e'
  · rw [upd_ne (ne_of_none e h)]; exact e
theorem Rep.slot (R : Rep Γ F H σ env ow) {i : Nat} {s : Sl} (e : env[i]? = some s) : ∃ o, σ[i]? = some o ∧ SlAt Γ.g F H ow i o s := R.at_ i s e
/-- slot i's list (its part r) is changed -/
theorem Rep.write (R : Rep Γ F H σ env ow) {i r : Nat} {l : Addr} {o o' : HO} {s s' : Sl} (e : env[i]? = some s) (q : Owns H ow i r l o)
    (h : ∀ v, σ[i]? = some v → SlAt Γ.g F H ow i v s → SlAt Γ.g F (upd H l o') ow i v s') (ho : s'.owns = true) :
    Rep Γ F (upd H l o') σ (env.set i s') ow ∧ Stp F H ow F (upd H l o') := by
  have hi : i < env.length := (List.getElem?_eq_some_iff.mp e).1
  have nl : H l ≠ none := by rw [q.at_]; exact fun z => nomatch z
  have hne : ∀ b p, ow b = some p → p.1 ≠ i → b ≠ l := fun b p hb hp z => by
    rw [z, q.own1] at hb; cases hb; exact hp rfl
  have up : ∀ b, H b ≠ none → (upd H l o') b ≠ none := fun b hb => by
    by_cases z : b = l
    · rw [z, upd_same]; exact fun z => nomatch z
    · rw [upd_ne z]; exact hb
  refine ⟨⟨by rw [List.length_set]; exact R.len, fun j t hj => ?_, fun b x hb => ?_, fun a p ha => ?_, fun b x hb hn => ?_, R.e2, R.e3, R.e4, R.e5, fun b hb => up b (R.e6 b hb), R.e7, fun a p ha => ?_⟩, ⟨Same.refl F, fun b x hb hn => ?_, fun _ _ => rfl, up⟩⟩
  · by_cases hij : j = i
    · subst hij
      rw [List.getElem?_set_self hi] at hj
      cases hj
      obtain ⟨v, h1, h2⟩ := R.at_ j s e
      exact ⟨v, h1, h v h1 h2⟩
    · rw [List.getElem?_set_ne (Ne.symm hij)] at hj
      obtain ⟨v, h1, h2⟩ := R.at_ j t hj
      refine ⟨v, h1, ?_⟩
      have go : ∀ {r' l' o''}, Owns H ow j r' l' o'' → Owns (upd H l o') ow j r' l' o'' := fun {r' l' o''} z =>
        ⟨z.own1, z.uq, by rw [upd_ne (hne _ _ z.own1 hij)]; exact z.at_⟩
      cases t with
      | non => trivial
      | dat d => exact h2
      | lst ds => obtain ⟨a, vs, e, q, r⟩ := h2; exact ⟨a, vs, e, go q, r⟩
      | book ds => obtain ⟨b, dx, a, vs, e, q1, q2, r⟩ := h2; exact ⟨b, dx, a, vs, e, go q1, go q2, r⟩
      | exn x => exact h2
      | scr ns => exact h2
  · have z : b ≠ l := fun z => by rw [z, (R.own l _ q.own1).2] at hb; cases hb
    rw [upd_ne z]; exact R.sm b x hb
  · obtain ⟨h1, h2⟩ := R.own a p ha
    exact ⟨up a h1, h2⟩
  · have z : b ≠ l := fun z => by
      have := R.e5 l _ q.own1 (by rw [← z, hb]; exact fun z => nomatch z)
      rw [← z, hn] at this; cases this
    rw [upd_ne z]; exact R.e1 b x hb hn
  · by_cases hp : p.1 = i
    · exact ⟨s', by rw [hp, List.getElem?_set_self hi], ho⟩
    · obtain ⟨t, h1, h2⟩ := R.e8 a p ha
      exact ⟨t, by rw [List.getElem?_set_ne (Ne.symm hp)]; exact h1, h2⟩
  · have z : b ≠ l := fun z => by rw [z, q.own1] at hn; cases hn
    rw [upd_ne z]; exact hb
end
/-! ### results, effects -/
inductive Rs (α : Type) where
  | ok (a : α) (e : En)
  | ex (x : Exn) (e : En)
abbrev M (α : Type) := En → Option (Rs α)
def M.ret {α : Type} (a : α) : M α := fun e => some (.ok a e)
def M.bind {α β : Type} (m : M α) (f : α → M β) : M β := fun e => match m e with
  | none => none
  | some (.ok a e') => f a e'
  | some (.ex x e') => some (.ex x e')
structure ExAt (g : Gx) (x : Exn) (cls : Value) (d : Option Addr) (H : Hp) : Prop where
  cls : cls = .ref (g.xa x.cls)
  dict : g.xd x d H
/-- what is wanted where an exception leaves -/
def xGo (Γ : Cn) (W : WX) (σ : L2.St) (F H : Hp) (ow : Ow) (x : Exn) (e : En) : Prop :=
  ∀ cls d H' F', Rep Γ F' H' σ e ow → Stp F H ow F' H' → ExAt Γ.g x cls d H' → W cls d σ H'
theorem xGo.step {Γ : Cn} {W : WX} {σ : L2.St} {F H F1 H1 : Hp} {ow : Ow} {x : Exn} {e : En} (h : xGo Γ W σ F H ow x e) (S : Stp F H ow F1 H1) : xGo Γ W σ F1 H1 ow x e :=
  fun cls d H' F' R S' X => h cls d H' F' R (S.trans S') X
/-- what is wanted of a result -/
def Out {α : Type} (Γ : Cn) (W : WX) (σ : L2.St) (F H : Hp) (ow : Ow) (k : α → En → Prop) : Rs α → Prop
  | .ok a e => k a e
  | .ex x e => xGo Γ W σ F H ow x e
/-- an expression's reading by its effect: data that are frozen -/
def tD (Γ : Cn) (W : WX) (m : M D) : TE := fun σ H Q => ∃ env F ow, Rep Γ F H σ env ow ∧ ∃ r, m env = some r ∧
  Out Γ W σ F H ow (fun d e' => ∀ v H' F', Rep Γ F' H' σ e' ow → Stp F H ow F' H' → Rp Γ.g.K F' v d → Q v H') r
theorem tD_of {Γ : Cn} {W : WX} {m : M D} {σ : L2.St} {H F : Hp} {Q : VK} {env : En} {ow : Ow} {r : Rs D} (R : Rep Γ F H σ env ow) (e : m env = some r)
    (h : Out Γ W σ F H ow (fun d e' => ∀ v H' F', Rep Γ F' H' σ e' ow → Stp F H ow F' H' → Rp Γ.g.K F' v d → Q v H') r) : tD Γ W m σ H Q := ⟨env, F, ow, R, r, e, h⟩
/-! ### operands, argument lists -/
inductive Opd where
  | sl (i : Nat)
  | ex (m : M D)
def tO (Γ : Cn) (W : WX) : Opd → TE
  | .sl i => tVar i
  | .ex m => tD Γ W m
def tAs (Γ : Cn) (W : WX) : List Opd → TA
  | [] => tNil
  | o :: os => tCons (tO Γ W o) (tAs Γ W os)
def held (e : En) (i : Nat) : Bool := match e[i]? with
  | none => false
  | some .non => false
  | some _ => true
def runA : List Opd → M (List (Option D))
  | [] => M.ret []
  | .sl i :: os => fun e => if held e i = true then M.bind (runA os) (fun as => M.ret (none :: as)) e else none
  | .ex m :: os => M.bind m fun d => M.bind (runA os) fun as => M.ret (some d :: as)
inductive AtA (K : Kf) (F : Hp) (σ : L2.St) : List Opd → List (Option D) → List V → Prop where
  | nil : AtA K F σ [] [] []
  | sl {i : Nat} {os : List Opd} {as : List (Option D)} {v : V} {vs : List V} (h : σ[i]? = some (some v)) (t : AtA K F σ os as vs) : AtA K F σ (.sl i :: os) (none :: as) (v :: vs)
  | ex {m : M D} {d : D} {os : List Opd} {as : List (Option D)} {v : V} {vs : List V} (h : Rp K F v d) (t : AtA K F σ os as vs) : AtA K F σ (.ex m :: os) (some d :: as) (v :: vs)
theorem SlAt.val {g : Gx} {F H : Hp} {ow : Ow} {i : Nat} {o : Option V} {s : Sl} (h : SlAt g F H ow i o s) (n : s ≠ .non) : ∃ v, o = some v := by
  cases s with
  | non => exact absurd rfl n
  | dat d => obtain ⟨v, e, _⟩ := h; exact ⟨v, e⟩
  | lst ds => obtain ⟨l, _, e, _⟩ := h; exact ⟨_, e⟩
  | book ds => obtain ⟨b, _, _, _, e, _⟩ := h; exact ⟨_, e⟩
  | exn x => obtain ⟨a, e, _⟩ := h; exact ⟨_, e⟩
  | scr ns => obtain ⟨a, e, _⟩ := h; exact ⟨_, e⟩
theorem Rep.val {Γ : Cn} {F H : Hp} {σ : L2.St} {env : En} {ow : Ow} (R : Rep Γ F H σ env ow) {i : Nat} (h : held env i = true) : ∃ v, σ[i]? = some (some v) := by
  unfold held at h
  cases e : env[i]? with
  | none => rw [e] at h; cases h
  | some s =>
    rw [e] at h
    obtain ⟨o, h1, h2⟩ := R.at_ i s e
    obtain ⟨v, rfl⟩ := h2.val (fun z => by subst z; cases h)
    exact ⟨v, h1⟩
theorem M.bind_some {α β : Type} {m : M α} {f : α → M β} {e : En} {r : Rs β} (h : M.bind m f e = some r) :
    (∃ a e', m e = some (.ok a e') ∧ f a e' = some r) ∨ (∃ x e', m e = some (.ex x e') ∧ r = .ex x e') := by
  unfold M.bind at h
  cases q : m e with
  | none => rw [q] at h; cases h
  | some z => cases z with
    | ok a e' => rw [q] at h; exact Or.inl ⟨a, e', rfl, h⟩
    | ex x e' => rw [q] at h; cases h; exact Or.inr ⟨x, e', rfl, rfl⟩
theorem tAs_of {Γ : Cn} {W : WX} {σ : L2.St} : ∀ (os : List Opd) {H F : Hp} {env : En} {ow : Ow} {r : Rs (List (Option D))} {Qa : List V → Hp → Prop}, Rep Γ F H σ env ow → runA os env = some r →
    Out Γ W σ F H ow (fun as e' => ∀ vs H' F', Rep Γ F' H' σ e' ow → Stp F H ow F' H' → AtA Γ.g.K F' σ os as vs → Qa vs H') r → tAs Γ W os σ H Qa
  | [], H, F, env, ow, r, Qa, R, e, h => by
    cases e
    exact h [] H F R Stp.refl .nil
  | .sl i :: os, H, F, env, ow, r, Qa, R, e, h => by
    unfold runA at e
    by_cases hh : held env i = true
    · rw [if_pos hh] at e
      obtain ⟨v, hv⟩ := R.val hh
      refine ⟨v, hv, ?_⟩
      rcases M.bind_some e with ⟨as, e', h1, h2⟩ | ⟨x, e', h1, h2⟩
      · cases h2
        exact tAs_of os R h1 fun vs H' F' R' S A => h (v :: vs) H' F' R' S (.sl hv A)
      · subst h2
        exact tAs_of os R h1 h
    · rw [if_neg hh] at e; cases e
  | .ex m :: os, H, F, env, ow, r, Qa, R, e, h => by
    unfold runA at e
    show tD Γ W m σ H _
    rcases M.bind_some e with ⟨d, e1, h1, h2⟩ | ⟨x, e', h1, h2⟩
    · refine tD_of R h1 fun v H1 F1 R1 S1 rv => ?_
      rcases M.bind_some h2 with ⟨as, e', h3, h4⟩ | ⟨x, e', h3, h4⟩
      · cases h4
        exact tAs_of os R1 h3 fun vs H' F' R' S A => h (v :: vs) H' F' R' (S1.trans S) (.ex (rv.mono S.s1) A)
      · subst h4
        exact tAs_of os R1 h3 (xGo.step h S1)
    · subst h2
      exact tD_of R h1 h
/-- what an operand tells: frozen data; where b, also a list of the slot's own, as it is now -/
def RpX (b : Bool) (K : Kf) (F H : Hp) (v : V) (d : D) : Prop :=
  Rp K F v d ∨ (b = true ∧ ∃ l vs ds, v = .ref l ∧ d = .list ds ∧ H l = some (.lst vs) ∧ RpA K F vs ds)
def look (b : Bool) (e : En) (i : Nat) : Option D := match e[i]? with
  | some (.dat d) => some d
  | some (.lst ds) => if b = true then some (.list ds) else none
  | _ => none
def getA (b : Bool) (e : En) : List Opd → List (Option D) → Option (List D)
  | .sl i :: os, _ :: as => match look b e i with
    | some d => (getA b e os as).map (d :: ·)
    | none => none
  | .ex _ :: os, some d :: as => (getA b e os as).map (d :: ·)
  | [], _ => some []
  | _, _ => none
section
variable {Γ : Cn} {W : WX} {F H : Hp} {σ : L2.St} {env : En} {ow : Ow}
theorem Rep.look (R : Rep Γ F H σ env ow) {b : Bool} {i : Nat} {d : D} {v : V} (h : look b env i = some d) (hv : σ[i]? = some (some v)) : RpX b Γ.g.K F H v d := by
  unfold DL.look at h
  cases e : env[i]? with
  | none => rw [e] at h; cases h
  | some s =>
    rw [e] at h
    obtain ⟨o, h1, h2⟩ := R.at_ i s e
    rw [hv] at h1
    cases h1
    cases s with
    | dat d' =>
      cases h
      obtain ⟨v', e', r⟩ := h2
      cases e'
      exact Or.inl r
    | lst ds =>
      by_cases hb : b = true
      · simp only [if_pos hb] at h
        cases h
        obtain ⟨l, vs, e', q, r⟩ := h2
        cases e'
        exact Or.inr ⟨hb, l, vs, ds, rfl, rfl, q.at_, r⟩
      · simp only [if_neg hb] at h; cases h
    | non => cases h
    | book ds => cases h
    | exn x => cases h
    | scr ns => cases h
theorem Rep.gets (R : Rep Γ F H σ env ow) {b : Bool} : ∀ {os : List Opd} {as : List (Option D)} {vs : List V} {ds : List D}, AtA Γ.g.K F σ os as vs → getA b env os as = some ds → Paired (RpX b Γ.g.K F H) vs ds
  | _, _, _, _, .nil, e => by cases e; exact .nil
  | _, _, _, ds, .sl (i := i) (os := os) (as := as) h t, e => by
    unfold getA at e
    cases q : DL.look b env i with
    | none => rw [q] at e; cases e
    | some d =>
      rw [q] at e
      obtain ⟨r, h1, h2⟩ := Option.map_eq_some_iff.mp e
      subst h2
      exact .cons (R.look q h) (R.gets t h1)
  | _, _, _, ds, .ex h t, e => by
    unfold getA at e
    obtain ⟨r, h1, h2⟩ := Option.map_eq_some_iff.mp e
    subst h2
    exact .cons (Or.inl h) (R.gets t h1)
/-- an operation on data -/
def opM (b : Bool) (p : List D → Option D) (os : List Opd) : M D := M.bind (runA os) fun as e => match getA b e os as with
  | none => none
  | some ds => match p ds with
    | none => none
    | some z => some (.ok z e)
/-- the machine's r does p -/
def Prim (b : Bool) (Γ : Cn) (p : List D → Option D) (r : List V → Hp → VK → Prop) : Prop :=
  ∀ (F H : Hp) (σ : L2.St) (env : En) (ow : Ow) (vs : List V) (ds : List D) (z : D) (Q : VK), Rep Γ F H σ env ow → Paired (RpX b Γ.g.K F H) vs ds → p ds = some z →
    (∀ v H' F', Rep Γ F' H' σ env ow → Stp F H ow F' H' → Rp Γ.g.K F' v z → Q v H') → r vs H Q
theorem tD_op {b : Bool} {p : List D → Option D} {r : List V → Hp → VK → Prop} {os : List Opd} {Q : VK} (hp : Prim b Γ p r) (h : tD Γ W (opM b p os) σ H Q) : tAs Γ W os σ H fun vs H1 => r vs H1 Q := by
  obtain ⟨env, F, ow, R, rr, e, h⟩ := h
  rcases M.bind_some e with ⟨as, e', h1, h2⟩ | ⟨x, e', h1, h2⟩
  · cases q : getA b e' os as with
    | none => simp only [q] at h2; cases h2
    | some ds =>
      simp only [q] at h2
      cases q2 : p ds with
      | none => simp only [q2] at h2; cases h2
      | some z =>
        simp only [q2] at h2
        cases h2
        refine tAs_of os R h1 fun vs H' F' R' S A => ?_
        exact hp F' H' σ e' ow vs ds z Q R' (R'.gets A q) q2 fun v H2 F2 R2 S2 rv => h v H2 F2 R2 (S.trans S2) rv
  · subst h2
    exact tAs_of os R h1 h
end
theorem PE.by {X : Cx} {e : Expr} {t t' : TE} (h : PE X e t) (i : ∀ σ H Q, t' σ H Q → t σ H Q) : PE X e t' :=
  ⟨fun pins s σ H Q I q => h.run pins s σ H Q I (i σ H Q q)⟩
/-- a name's data -/
def varM (i : Nat) : M D := fun e => match e[i]? with
  | some (.dat d) => some (.ok d e)
  | _ => none
theorem tD_var {Γ : Cn} {W : WX} {i : Nat} {σ : L2.St} {H : Hp} {Q : VK} (h : tD Γ W (varM i) σ H Q) : tVar i σ H Q := by
  obtain ⟨env, F, ow, R, r, e, h⟩ := h
  unfold varM at e
  cases q : env[i]? with
  | none => rw [q] at e; cases e
  | some s =>
    rw [q] at e
    cases s with
    | dat d =>
      cases e
      obtain ⟨o, h1, v, h2, h3⟩ := R.at_ i _ q
      subst h2
      exact ⟨v, h1, h v H F R Stp.refl h3⟩
    | non => cases e
    | lst ds => cases e
    | book ds => cases e
    | exn x => cases e
    | scr ns => cases e
end DL

/-! the data layer: statements, stores, loops -/
namespace DL
open PySem PySem.Spec PyProof.Rows L2
/-! ### what a def hands back, how a statement ends -/
inductive Rv where
  | dat (d : D)
  | lst (ds : List D)
  | book (ds : List D)
inductive O where
  | nx
  | bk
  | ct
  | rt (r : Rv)
def RvAt (g : Gx) (H0 F H : Hp) (v : V) : Rv → Prop
  | .dat d => Rp g.K F v d
  | .lst ds => ∃ l vs, v = .ref l ∧ H0 l = none ∧ F l = none ∧ H l = some (.lst vs) ∧ RpA g.K F vs ds
  | .book ds => ∃ b dx l vs, v = .ref b ∧ H0 b = none ∧ H0 l = none ∧ b ≠ l ∧ F b = none ∧ F l = none ∧ H b = some (.ins g.cb dx [("row", .ref l)]) ∧ H l = some (.lst vs) ∧ RpA g.K F vs ds
def OutS (Γ : Cn) (W : WX) (F0 : Hp) (K : Ends) : Rs O → Prop
  | .ok .nx e => ∀ σ H F ow, Rep Γ F H σ e ow → Same F0 F → K.nx σ H
  | .ok .bk e => ∀ σ H F ow, Rep Γ F H σ e ow → Same F0 F → K.bk σ H
  | .ok .ct e => ∀ σ H F ow, Rep Γ F H σ e ow → Same F0 F → K.ct σ H
  | .ok (.rt r) e => ∀ v σ H F ow, Rep Γ F H σ e ow → RvAt Γ.g Γ.H0 F H v r → K.rt v H
  | .ex x e => ∀ cls d σ H F ow, Rep Γ F H σ e ow → ExAt Γ.g x cls d H → W cls d σ H
theorem OutS.mono {Γ : Cn} {W : WX} {F0 F1 : Hp} {K : Ends} {r : Rs O} (h : OutS Γ W F0 K r) (s : Same F0 F1) : OutS Γ W F1 K r := by
  cases r with
  | ex x e => exact h
  | ok o e => cases o with
    | nx => exact fun σ H F ow R t => h σ H F ow R (s.trans t)
    | bk => exact fun σ H F ow R t => h σ H F ow R (s.trans t)
    | ct => exact fun σ H F ow R t => h σ H F ow R (s.trans t)
    | rt v => exact h
def tS (Γ : Cn) (W : WX) (m : M O) : TS := fun K σ H => ∃ env F ow, Rep Γ F H σ env ow ∧ ∃ r, m env = some r ∧ OutS Γ W F K r
section
variable {Γ : Cn} {W : WX} {F H : Hp} {σ : L2.St} {env : En} {ow : Ow} {X : Cx}
theorem tS_of {m : M O} {K : Ends} {r : Rs O} (R : Rep Γ F H σ env ow) (e : m env = some r) (h : OutS Γ W F K r) : tS Γ W m K σ H := ⟨env, F, ow, R, r, e, h⟩
theorem xGo_of {x : Exn} {e : En} {K : Ends} (h : OutS Γ W F K (.ex x e)) : xGo Γ W σ F H ow x e := fun cls d H' F' R _ q => h cls d σ H' F' ow R q
theorem PSs.by {st : List Stmt} {t t' : TS} (h : PSs X st t) (i : ∀ K σ H, t' K σ H → t K σ H) : PSs X st t' := ⟨fun pins s σ H K I q => h.run pins s σ H K I (i K σ H q)⟩
theorem PS.by {st : Stmt} {t t' : TS} (h : PS X st t) (i : ∀ K σ H, t' K σ H → t K σ H) : PS X st t' := ⟨fun pins s σ H K I q => h.run pins s σ H K I (i K σ H q)⟩
theorem PT.by {e : Expr} {t t' : TT} (h : PT X e t) (i : ∀ σ H Q, t' σ H Q → t σ H Q) : PT X e t' := ⟨fun pins s σ H Q I q => h.run pins s σ H Q I (i σ H Q q)⟩
theorem PW.by {e : Expr} {t t' : TT} (h : PW X e t) (i : ∀ σ H Q, t' σ H Q → t σ H Q) : PW X e t' := ⟨fun wh pins s σ H Q I q => h.run wh pins s σ H Q I (i σ H Q q)⟩
theorem PI.by {tg e : Expr} {t t' : TI} (h : PI X tg e t) (i : ∀ σ H Q, t' σ H Q → t σ H Q) : PI X tg e t' := ⟨fun pins s σ H Q I q => h.run pins s σ H Q I (i σ H Q q)⟩
theorem PG.by {e : Expr} {t t' : TG} (h : PG X e t) (i : ∀ v σ H Q, t' v σ H Q → t v σ H Q) : PG X e t' := ⟨fun pins s σ H v u Q I r q => h.run pins s σ H v u Q I r (i v σ H Q q)⟩
/-! ### blocks -/
def nxM : M O := fun e => some (.ok .nx e)
def seqM (a b : M O) : M O := fun e => match a e with
  | some (.ok .nx e') => b e'
  | r => r
theorem ss_nil : PSs X [] (tS Γ W nxM) := PSs.by pss_nil fun K σ H ⟨env, F, ow, R, r, e, h⟩ => by cases e; exact h σ H F ow R (Same.refl F)
theorem ss_one {st : Stmt} {m : M O} (h : PS X st (tS Γ W m)) : PSs X [st] (tS Γ W m) := pss_one h
theorem ss_cons {st : Stmt} {rest : List Stmt} {a b : M O} (h : PS X st (tS Γ W a)) (k : PSs X rest (tS Γ W b)) : PSs X (st :: rest) (tS Γ W (seqM a b)) := by
  refine PSs.by (pss_cons h k) fun K σ H ⟨env, F, ow, R, r, e, q⟩ => ?_
  unfold seqM at e
  cases z : a env with
  | none => rw [z] at e; cases e
  | some ra =>
    rw [z] at e
    refine ⟨env, F, ow, R, ra, z, ?_⟩
    cases ra with
    | ex x e' => cases e; exact q
    | ok o e' => cases o with
      | nx => exact fun σ' H' F' ow' R' sF => ⟨e', F', ow', R', r, e, q.mono sF⟩
      | bk => cases e; exact q
      | ct => cases e; exact q
      | rt v => cases e; exact q
theorem s_pass {pos : Pos} : PS X (.Pass pos) (tS Γ W nxM) := PS.by ps_pass fun K σ H ⟨env, F, ow, R, r, e, h⟩ => by cases e; exact h σ H F ow R (Same.refl F)
def bkM : M O := fun e => some (.ok .bk e)
def ctM : M O := fun e => some (.ok .ct e)
theorem s_break {pos : Pos} : PS X (.Break pos) (tS Γ W bkM) := PS.by ps_break fun K σ H ⟨env, F, ow, R, r, e, h⟩ => by cases e; exact h σ H F ow R (Same.refl F)
theorem s_continue {pos : Pos} : PS X (.Continue pos) (tS Γ W ctM) := PS.by ps_continue fun K σ H ⟨env, F, ow, R, r, e, h⟩ => by cases e; exact h σ H F ow R (Same.refl F)
/-! ### stores -/
/-- a slot that owns nothing is set to data -/
theorem Rep.setDat (R : Rep Γ F H σ env ow) {i : Nat} {s : Sl} {v : V} {d : D} (e : env[i]? = some s) (n : s.owns = false) (r : Rp Γ.g.K F v d) :
    Rep Γ F H (σ.set i (some v)) (env.set i (.dat d)) ow := by
  have hi : i < env.length := (List.getElem?_eq_some_iff.mp e).1
  refine ⟨by rw [List.length_set, List.length_set]; exact R.len, fun j t hj => ?_, R.sm, R.own, R.e1, R.e2, R.e3, R.e4, R.e5, R.e6, R.e7, fun a p ha => ?_⟩
  · by_cases hij : j = i
    · subst hij
      rw [List.getElem?_set_self hi] at hj
      cases hj
      exact ⟨some v, List.getElem?_set_self (by rw [R.len]; exact hi), v, rfl, r⟩
    · rw [List.getElem?_set_ne (Ne.symm hij)] at hj ⊢
      exact R.at_ j t hj
  · obtain ⟨t, h1, h2⟩ := R.e8 a p ha
    by_cases hp : p.1 = i
    · rw [hp, e] at h1; cases h1; rw [n] at h2; cases h2
    · exact ⟨t, by rw [List.getElem?_set_ne (Ne.symm hp)]; exact h1, h2⟩
/-- .. to nothing (the machine's slot may hold anything) -/
theorem Rep.setNon (R : Rep Γ F H σ env ow) {i : Nat} {s : Sl} {o : Option V} (e : env[i]? = some s) (n : s.owns = false) :
    Rep Γ F H (σ.set i o) (env.set i .non) ow := by
  have hi : i < env.length := (List.getElem?_eq_some_iff.mp e).1
  refine ⟨by rw [List.length_set, List.length_set]; exact R.len, fun j t hj => ?_, R.sm, R.own, R.e1, R.e2, R.e3, R.e4, R.e5, R.e6, R.e7, fun a p ha => ?_⟩
  · by_cases hij : j = i
    · subst hij
      rw [List.getElem?_set_self hi] at hj
      cases hj
      exact ⟨o, List.getElem?_set_self (by rw [R.len]; exact hi), trivial⟩
    · rw [List.getElem?_set_ne (Ne.symm hij)] at hj ⊢
      exact R.at_ j t hj
  · obtain ⟨t, h1, h2⟩ := R.e8 a p ha
    by_cases hp : p.1 = i
    · rw [hp, e] at h1; cases h1; rw [n] at h2; cases h2
    · exact ⟨t, by rw [List.getElem?_set_ne (Ne.symm hp)]; exact h1, h2⟩
/-- a target's store of data; ix: the slots that it may change -/
abbrev Tg := D → En → Option En
def Agree (ix : List Nat) (σ σ' : L2.St) : Prop := σ.length = σ'.length ∧ ∀ j, j ∉ ix → σ'[j]? = σ[j]?
def tG (Γ : Cn) (ix : List Nat) (g : Tg) : TG := fun v σ H Q => ∃ env F ow d, Rep Γ F H σ env ow ∧ Rp Γ.g.K F v d ∧ ∃ e', g d env = some e' ∧ ∀ σ', Rep Γ F H σ' e' ow → Agree ix σ σ' → Q σ' H
def setT (i : Nat) : Tg := fun d e => match e[i]? with
  | some (.lst _) => none
  | some (.book _) => none
  | some _ => some (e.set i (.dat d))
  | none => none
theorem setT_some {i : Nat} {d : D} {e e' : En} (h : setT i d e = some e') : ∃ s, e[i]? = some s ∧ s.owns = false ∧ e' = e.set i (.dat d) := by
  unfold setT at h
  cases q : e[i]? with
  | none => rw [q] at h; cases h
  | some s =>
    rw [q] at h
    cases s with
    | non => exact ⟨_, rfl, rfl, (Option.some.inj h).symm⟩
    | dat _ => exact ⟨_, rfl, rfl, (Option.some.inj h).symm⟩
    | lst _ => cases h
    | book _ => cases h
    | exn _ => exact ⟨_, rfl, rfl, (Option.some.inj h).symm⟩
    | scr _ => exact ⟨_, rfl, rfl, (Option.some.inj h).symm⟩
theorem g_name {i : Nat} {x : Str} {pos : Pos} (hN : X.N.Nodup) (hi : X.N[i]? = some x) (hx : Loc X.env.scope x)
    (hf : X.fn x = true ∨ X.env.scope.names.lookup x = some .local := by first | exact .inl rfl | exact .inr rfl | assumption) : PG X (.Name x pos) (tG Γ [i] (setT i)) :=
  PG.by (pg_name hN hi hx hf) fun v σ H Q ⟨env, F, ow, d, R, r, e', h, q⟩ => by
    obtain ⟨s, h1, h2, h3⟩ := setT_some h
    subst h3
    refine q _ (R.setDat h1 h2 r) ⟨by rw [List.length_set], fun j hj => ?_⟩
    rw [List.getElem?_set_ne (fun z => hj (by rw [z]; exact List.mem_singleton.mpr rfl))]
/-- several targets -/
abbrev Tgs := List D → En → Option En
def tGs (Γ : Cn) (ix : List Nat) (g : Tgs) : TGs := fun vs σ H Q => ∃ env F ow ds, Rep Γ F H σ env ow ∧ RpA Γ.g.K F vs ds ∧ ∃ e', g ds env = some e' ∧ ∀ σ', Rep Γ F H σ' e' ow → Agree ix σ σ' → Q σ' H
theorem PGs.by {es : List Expr} {t t' : TGs} (h : PGs X es t) (i : ∀ v σ H Q, t' v σ H Q → t v σ H Q) : PGs X es t' := ⟨fun pins s σ H v u Q I r q => h.run pins s σ H v u Q I r (i v σ H Q q)⟩
def nilT : Tgs := fun ds e => match ds with
  | [] => some e
  | _ => none
def consT (g : Tg) (gs : Tgs) : Tgs := fun ds e => match ds with
  | d :: r => (g d e).bind fun e' => gs r e'
  | [] => none
theorem gs_nil : PGs X [] (tGs Γ [] nilT) := PGs.by pgs_nil fun vs σ H Q ⟨env, F, ow, ds, R, r, e', h, q⟩ => by
  cases r with
  | nil => cases h; exact ⟨rfl, q _ R ⟨rfl, fun _ _ => rfl⟩⟩
  | cons _ _ => cases h
theorem gs_cons {t : Expr} {ts : List Expr} {ix jx : List Nat} {g : Tg} {gs : Tgs} (h : PG X t (tG Γ ix g)) (hs : PGs X ts (tGs Γ jx gs)) (ha : (assignEach (t :: ts) X.env).map (fun x => x.snd) = assign t X.env :: (assignEach ts X.env).map (fun x => x.snd) := by rfl) : PGs X (t :: ts) (tGs Γ (ix ++ jx) (consT g gs)) :=
  PGs.by (pgs_cons h hs ha) fun vs σ H Q ⟨env, F, ow, ds, R, r, e', h, q⟩ => by
    cases r with
    | nil => cases h
    | @cons v vs d ds r rr =>
      obtain ⟨e1, h1, h2⟩ := Option.bind_eq_some_iff.mp h
      exact ⟨v, vs, rfl, env, F, ow, d, R, r, e1, h1, fun σ' R' A => ⟨e1, F, ow, ds, R', rr, e', h2, fun σ2 R2 B => q σ2 R2
        ⟨A.1.trans B.1, fun j hj => (B.2 j fun z => hj (List.mem_append_right _ z)).trans (A.2 j fun z => hj (List.mem_append_left _ z))⟩⟩⟩
def tupT (n : Nat) (gs : Tgs) : Tg := fun d e => match d with
  | .tuple ds => if ds.length = n then gs ds e else none
  | _ => none
theorem g_tup {es : List Expr} {k n : Nat} {ix : List Nat} {gs : Tgs} {pos : Pos} (hc : X.calm = true) (hK : Γ.g.K = X.K) (h : PGs X es (tGs Γ ix gs))
    (hn : (assignEach es X.env).length = n := by rfl) (hst : (assignEach es X.env).findIdx? (·.1) = none := by rfl) : PG X (.Tuple es k pos) (tG Γ ix (tupT n gs)) :=
  PG.by (pg_tup hc h hn hst) fun v σ H Q ⟨env, F, ow, d, R, r, e', h, q⟩ => by
    cases r with
    | tup hs rr =>
      unfold tupT at h
      dsimp only at h
      split at h
      · rename_i hl
        exact ⟨_, _, rfl, by rw [← hK]; exact same_seqT R.sm hs, rr.length.trans hl, env, F, ow, _, R, rr, e', h, q⟩
      · cases h
    | _ => cases h
/-- name = e, targets = e: data -/
def asgM (m : M D) (g : Tg) : M O := M.bind m fun d e => (g d e).map fun e' => Rs.ok O.nx e'
theorem asg_of {m : M D} {ix : List Nat} {g : Tg} {K : Ends} (h : tS Γ W (asgM m g) K σ H) : tAsg (tD Γ W m) (tG Γ ix g) K σ H := by
  obtain ⟨env, F, ow, R, r, e, h⟩ := h
  rcases M.bind_some e with ⟨d, e1, h1, h2⟩ | ⟨x, e1, h1, h2⟩
  · obtain ⟨e2, h3, h4⟩ := Option.map_eq_some_iff.mp h2
    subst h4
    exact tD_of R h1 fun v H' F' R' S rv => ⟨e1, F', ow, d, R', rv, e2, h3, fun σ' R2 _ => h σ' H' F' ow R2 S.s1⟩
  · subst h2
    exact tD_of R h1 (xGo_of h)
theorem s_asg {tg e : Expr} {m : M D} {ix : List Nat} {g : Tg} {pos : Pos} (he : PE X e (tD Γ W m)) (hg : PG X tg (tG Γ ix g)) (hs : swapsWithSole [tg] e pos.line X.env = pure false := by rfl) (hw : swappedStores [tg] e X.env = pure none := by rfl)
    (h1 : (assignEach [tg] X.env).map (·.2) = [assign tg X.env] := by rfl) : PS X (.Assign [tg] e pos) (tS Γ W (asgM m g)) :=
  PS.by (ps_asg he hg hs hw h1) fun _ _ _ h => asg_of h
theorem s_set {i : Nat} {x : Str} {e : Expr} {m : M D} {pos pos' : Pos} (hN : X.N.Nodup) (hi : X.N[i]? = some x) (hx : Loc X.env.scope x) (he : PE X e (tD Γ W m))
    (hs : swapsWith e (some (.Name x pos')) pos.line X.env = pure false := by rfl) (hf : X.fn x = true ∨ X.env.scope.names.lookup x = some .local := by first | exact .inl rfl | exact .inr rfl | assumption) :
    PS X (.Assign [.Name x pos'] e pos) (tS Γ W (asgM m (setT i))) := by
  refine PS.by (ps_set hN hi hx he hs hf) fun K σ H h => ?_
  obtain ⟨env, F, ow, R, r, e, h⟩ := h
  rcases M.bind_some e with ⟨d, e1, h1, h2⟩ | ⟨x, e1, h1, h2⟩
  · obtain ⟨e2, h3, h4⟩ := Option.map_eq_some_iff.mp h2
    subst h4
    refine tD_of R h1 fun v H' F' R' S rv => ?_
    obtain ⟨s, q1, q2, q3⟩ := setT_some h3
    subst q3
    exact h _ H' F' ow (R'.setDat q1 q2 rv) S.s1
  · subst h2
    exact tD_of R h1 (xGo_of h)
/-! ### return, expression, if -/
def retM (m : M D) : M O := M.bind m fun d => M.ret (.rt (.dat d))
theorem s_ret {e : Expr} {m : M D} {pos : Pos} (he : PE X e (tD Γ W m)) : PS X (.Return (some e) pos) (tS Γ W (retM m)) :=
  PS.by (ps_ret he) fun K σ H ⟨env, F, ow, R, r, e, h⟩ => by
    rcases M.bind_some e with ⟨d, e1, h1, h2⟩ | ⟨x, e1, h1, h2⟩
    · cases h2
      exact tD_of R h1 fun v H' F' R' S rv => h v σ H' F' ow R' rv
    · subst h2
      exact tD_of R h1 (xGo_of h)
def retN : M O := M.ret (.rt (.dat .none))
theorem s_retN {pos : Pos} : PS X (.Return none pos) (tS Γ W retN) := PS.by ps_retN fun K σ H ⟨env, F, ow, R, r, e, h⟩ => by
  cases e
  exact h _ σ H F ow R .non
def exprM (m : M D) : M O := M.bind m fun _ => M.ret .nx
theorem s_expr {e : Expr} {m : M D} {pos : Pos} (he : PE X e (tD Γ W m)) (hs : swapsWith e none pos.line X.env = pure false := by rfl) : PS X (.Expr e pos) (tS Γ W (exprM m)) :=
  PS.by (ps_expr he hs) fun K σ H ⟨env, F, ow, R, r, e, h⟩ => by
    rcases M.bind_some e with ⟨d, e1, h1, h2⟩ | ⟨x, e1, h1, h2⟩
    · cases h2
      exact tD_of R h1 fun v H' F' R' S rv => h σ H' F' ow R' S.s1
    · subst h2
      exact tD_of R h1 (xGo_of h)
/-- a test's reading -/
def tB (Γ : Cn) (W : WX) (m : M Bool) : TT := fun σ H Q => ∃ env F ow, Rep Γ F H σ env ow ∧ ∃ r, m env = some r ∧
  Out Γ W σ F H ow (fun b e' => ∀ H' F', Rep Γ F' H' σ e' ow → Stp F H ow F' H' → Q b H') r
theorem tB_of {m : M Bool} {Q : Bool → Hp → Prop} {r : Rs Bool} (R : Rep Γ F H σ env ow) (e : m env = some r)
    (h : Out Γ W σ F H ow (fun b e' => ∀ H' F', Rep Γ F' H' σ e' ow → Stp F H ow F' H' → Q b H') r) : tB Γ W m σ H Q := ⟨env, F, ow, R, r, e, h⟩
def boolM (m : M D) : M Bool := M.bind m fun d e => match d with
  | .bool b => some (.ok b e)
  | _ => none
theorem bool_of {m : M D} {Q : Bool → Hp → Prop} (h : tB Γ W (boolM m) σ H Q) : tD Γ W m σ H fun x H1 => ∃ k, x = .bl k ∧ Q k H1 := by
  obtain ⟨env, F, ow, R, r, e, h⟩ := h
  rcases M.bind_some e with ⟨d, e1, h1, h2⟩ | ⟨x, e1, h1, h2⟩
  · cases d with
    | bool b =>
      cases h2
      refine tD_of R h1 fun v H' F' R' S rv => ?_
      cases rv
      exact ⟨b, rfl, h H' F' R' S⟩
    | _ => cases h2
  · subst h2
    exact tD_of R h1 h
/-- an expression as a test -/
theorem b_val {e : Expr} {m : M D} (h : PE X e (tD Γ W m)) (he : ∀ whole, isTrue e X.env whole = (do let v ← whole; standAt e.pos; holding [v] (truthy v)) := by intro _; rfl) : PT X e (tB Γ W (boolM m)) :=
  PT.by (pt_val h he) fun _ _ _ q => bool_of q
def ifM (c : M Bool) (a b : M O) : M O := M.bind c fun k => if k = true then a else b
theorem s_if {c : Expr} {t u : List Stmt} {mc : M Bool} {a b : M O} {pos : Pos} (hc : PT X c (tB Γ W mc)) (ha : PSs X t (tS Γ W a)) (hb : PSs X u (tS Γ W b)) : PS X (.If c t u pos) (tS Γ W (ifM mc a b)) :=
  PS.by (ps_if hc ha hb) fun K σ H ⟨env, F, ow, R, r, e, h⟩ => by
    rcases M.bind_some e with ⟨k, e1, h1, h2⟩ | ⟨x, e1, h1, h2⟩
    · refine tB_of R h1 fun H' F' R' S => ?_
      cases k with
      | true => exact iteT ⟨e1, F', ow, R', r, h2, h.mono S.s1⟩
      | false => exact iteF ⟨e1, F', ow, R', r, h2, h.mono S.s1⟩
    · subst h2
      exact tB_of R h1 (xGo_of h)
def notB (m : M Bool) : M Bool := M.bind m fun b => M.ret (!b)
theorem b_not {e : Expr} {m : M Bool} {pos : Pos} (h : PT X e (tB Γ W m)) : PT X (.UnaryOp .Not e pos) (tB Γ W (notB m)) :=
  PT.by (pt_not h) fun σ H Q ⟨env, F, ow, R, r, e, q⟩ => by
    rcases M.bind_some e with ⟨k, e1, h1, h2⟩ | ⟨x, e1, h1, h2⟩
    · cases h2
      exact tB_of R h1 q
    · subst h2
      exact tB_of R h1 q
theorem Out.step {α : Type} {F1 H1 : Hp} {k k' : α → En → Prop} {r : Rs α} (h : Out Γ W σ F H ow k r) (S : Stp F H ow F1 H1) (hk : ∀ a e, k a e → k' a e) : Out Γ W σ F1 H1 ow k' r := by
  cases r with
  | ok a e => exact hk a e h
  | ex x e => exact xGo.step h S
def andB (a b : M Bool) : M Bool := M.bind a fun k => if k = true then b else M.ret false
def orB (a b : M Bool) : M Bool := M.bind a fun k => if k = true then M.ret true else b
theorem w_and1 {e : Expr} {m : M Bool} {pos : Pos} (h : PT X e (tB Γ W m)) : PW X (.BoolOp .And [e] pos) (tB Γ W m) := pw_and1 h
theorem w_or1 {e : Expr} {m : M Bool} {pos : Pos} (h : PT X e (tB Γ W m)) : PW X (.BoolOp .Or [e] pos) (tB Γ W m) := pw_or1 h
theorem w_and {a b : Expr} {rest : List Expr} {pos : Pos} {ma mb : M Bool} (ha : PT X a (tB Γ W ma)) (hb : PW X (.BoolOp .And (b :: rest) pos) (tB Γ W mb)) : PW X (.BoolOp .And (a :: b :: rest) pos) (tB Γ W (andB ma mb)) :=
  PW.by (pw_and ha hb) fun σ H Q ⟨env, F, ow, R, r, e, q⟩ => by
    rcases M.bind_some e with ⟨k, e1, h1, h2⟩ | ⟨x, e1, h1, h2⟩
    · refine tB_of R h1 fun H' F' R' S => ?_
      cases k with
      | true => exact iteT ⟨e1, F', ow, R', r, h2, q.step S fun _ _ z H2 F2 R2 S2 => z H2 F2 R2 (S.trans S2)⟩
      | false => cases h2; exact iteF (q H' F' R' S)
    · subst h2
      exact tB_of R h1 q
theorem w_or {a b : Expr} {rest : List Expr} {pos : Pos} {ma mb : M Bool} (ha : PT X a (tB Γ W ma)) (hb : PW X (.BoolOp .Or (b :: rest) pos) (tB Γ W mb)) : PW X (.BoolOp .Or (a :: b :: rest) pos) (tB Γ W (orB ma mb)) :=
  PW.by (pw_or ha hb) fun σ H Q ⟨env, F, ow, R, r, e, q⟩ => by
    rcases M.bind_some e with ⟨k, e1, h1, h2⟩ | ⟨x, e1, h1, h2⟩
    · refine tB_of R h1 fun H' F' R' S => ?_
      cases k with
      | true => cases h2; exact iteT (q H' F' R' S)
      | false => exact iteF ⟨e1, F', ow, R', r, h2, q.step S fun _ _ z H2 F2 R2 S2 => z H2 F2 R2 (S.trans S2)⟩
    · subst h2
      exact tB_of R h1 q
/-- .. as values -/
def andD (a b : M D) : M D := M.bind (boolM a) fun k => if k = true then b else M.ret (.bool false)
def orD (a b : M D) : M D := M.bind (boolM a) fun k => if k = true then M.ret (.bool true) else b
def notD (a : M D) : M D := M.bind (boolM a) fun k => M.ret (.bool (!k))
theorem e_one {e : Expr} {op : BoolOp} {m : M D} {pos : Pos} (h : PE X e (tD Γ W m)) : PE X (.BoolOp op [e] pos) (tD Γ W m) := pe_one h
theorem boolD_of {a : M D} {f : Bool → M D} {Q : VK} (h : tD Γ W (M.bind (boolM a) f) σ H Q) : tD Γ W a σ H fun x H1 => ∃ k, x = .bl k ∧ tD Γ W (f k) σ H1 Q := by
  obtain ⟨env, F, ow, R, r, e, q⟩ := h
  rcases M.bind_some e with ⟨k, e1, h1, h2⟩ | ⟨x, e1, h1, h2⟩
  · exact bool_of ⟨env, F, ow, R, _, h1, fun H' F' R' S => ⟨e1, F', ow, R', r, h2, q.step S fun _ _ z v H2 F2 R2 S2 => z v H2 F2 R2 (S.trans S2)⟩⟩
  · subst h2
    exact bool_of ⟨env, F, ow, R, _, h1, q⟩
theorem tD_ret {d : D} {v : V} {Q : VK} (h : tD Γ W (M.ret d) σ H Q) (hv : ∀ F, Rp Γ.g.K F v d) : Q v H := by
  obtain ⟨env, F, ow, R, r, e, q⟩ := h
  cases e
  exact q v H F R Stp.refl (hv F)
theorem e_and {a b : Expr} {rest : List Expr} {pos : Pos} {ma mb : M D} (ha : PE X a (tD Γ W ma)) (hb : PE X (.BoolOp .And (b :: rest) pos) (tD Γ W mb)) : PE X (.BoolOp .And (a :: b :: rest) pos) (tD Γ W (andD ma mb)) := by
  refine PE.by (pe_and ha hb) fun σ H Q h => ?_
  obtain ⟨env, F, ow, R, r, e, q⟩ := boolD_of h
  refine ⟨env, F, ow, R, r, e, q.step Stp.refl fun d e' z v H' F' R' S rv => ?_⟩
  obtain ⟨k, hk, t⟩ := z v H' F' R' S rv
  refine ⟨k, hk, ?_⟩
  cases k with
  | true => exact iteT t
  | false => exact iteF (tD_ret t fun F => .bl false)
theorem e_or {a b : Expr} {rest : List Expr} {pos : Pos} {ma mb : M D} (ha : PE X a (tD Γ W ma)) (hb : PE X (.BoolOp .Or (b :: rest) pos) (tD Γ W mb)) : PE X (.BoolOp .Or (a :: b :: rest) pos) (tD Γ W (orD ma mb)) := by
  refine PE.by (pe_or ha hb) fun σ H Q h => ?_
  obtain ⟨env, F, ow, R, r, e, q⟩ := boolD_of h
  refine ⟨env, F, ow, R, r, e, q.step Stp.refl fun d e' z v H' F' R' S rv => ?_⟩
  obtain ⟨k, hk, t⟩ := z v H' F' R' S rv
  refine ⟨k, hk, ?_⟩
  cases k with
  | true => exact iteT (tD_ret t fun F => .bl true)
  | false => exact iteF t
theorem e_not {a : Expr} {pos : Pos} {ma : M D} (ha : PE X a (tD Γ W ma)) : PE X (.UnaryOp .Not a pos) (tD Γ W (notD ma)) := by
  refine PE.by (pe_not ha) fun σ H Q h => ?_
  obtain ⟨env, F, ow, R, r, e, q⟩ := boolD_of h
  refine ⟨env, F, ow, R, r, e, q.step Stp.refl fun d e' z v H' F' R' S rv => ?_⟩
  obtain ⟨k, hk, t⟩ := z v H' F' R' S rv
  exact ⟨k, hk, tD_ret t fun F => .bl _⟩
/-- a if t else b -/
def ifD (c : M Bool) (a b : M D) : M D := M.bind c fun k => if k = true then a else b
theorem e_if {c a b : Expr} {pos : Pos} {mc : M Bool} {ma mb : M D} (hc : PT X c (tB Γ W mc)) (ha : PE X a (tD Γ W ma)) (hb : PE X b (tD Γ W mb)) : PE X (.IfExp c a b pos) (tD Γ W (ifD mc ma mb)) :=
  PE.by (pe_ifExp hc ha hb) fun σ H Q ⟨env, F, ow, R, r, e, q⟩ => by
    rcases M.bind_some e with ⟨k, e1, h1, h2⟩ | ⟨x, e1, h1, h2⟩
    · refine tB_of R h1 fun H' F' R' S => ?_
      have z : ∀ {m : M D}, m e1 = some r → tD Γ W m σ H' Q := fun hm => ⟨e1, F', ow, R', r, hm, q.step S fun _ _ z v H2 F2 R2 S2 => z v H2 F2 R2 (S.trans S2)⟩
      cases k with
      | true => exact iteT (z h2)
      | false => exact iteF (z h2)
    · subst h2
      exact tB_of R h1 q
/-! ### while -/
def whileM (c : M Bool) (b : M O) : Nat → M O
  | 0 => fun _ => none
  | n + 1 => M.bind c fun k => if k = true then (fun e => match b e with
      | some (.ok .nx e') => whileM c b n e'
      | some (.ok .ct e') => whileM c b n e'
      | some (.ok .bk e') => some (.ok .nx e')
      | r => r) else nxM
theorem s_while {c : Expr} {body : List Stmt} {mc : M Bool} {mb : M O} {pos : Pos} (n : Nat) (hp : PassesOwn (model X.prog X.w) X.A X.env X.xe) (hc : PT X c (tB Γ W mc)) (hb : PSs X body (tS Γ W mb)) :
    PS X (.While c body [] pos) (tS Γ W (whileM mc mb n)) := by
  refine PS.by (ps_while hp hc hb) fun K σ H h => ?_
  refine ⟨fun n σ H => tS Γ W (whileM mc mb n) K σ H, ⟨n, h⟩, fun m σ H h => ?_⟩
  obtain ⟨env, F, ow, R, r, e, q⟩ := h
  cases m with
  | zero => cases e
  | succ m =>
    unfold whileM at e
    rcases M.bind_some e with ⟨k, e1, h1, h2⟩ | ⟨x, e1, h1, h2⟩
    · refine tB_of R h1 fun H' F' R' S => ?_
      cases k with
      | false => cases h2; exact iteF (q σ H' F' ow R' S.s1)
      | true =>
        refine iteT ⟨fun σ' H' => tS Γ W (whileM mc mb m) K σ' H', fun σ' H' z => ⟨m, Nat.lt_succ_self m, z⟩, ?_⟩
        rw [if_pos rfl] at h2
        cases z : mb e1 with
        | none => rw [z] at h2; cases h2
        | some rb =>
          rw [z] at h2
          refine ⟨e1, F', ow, R', rb, z, ?_⟩
          have q := q.mono S.s1
          cases rb with
          | ex x e' => cases h2; exact q
          | ok o e' => cases o with
            | nx => exact fun σ2 H2 F2 ow2 R2 s2 => ⟨e', F2, ow2, R2, r, h2, q.mono s2⟩
            | ct => exact fun σ2 H2 F2 ow2 R2 s2 => ⟨e', F2, ow2, R2, r, h2, q.mono s2⟩
            | bk => cases h2; exact q
            | rt v => cases h2; exact q
    · subst h2
      exact tB_of R h1 (xGo_of q)
/-! ### what a loop walks -/
/-- J hands out the data ds, wherever what is frozen now still is -/
def Feeds (Γ : Cn) (J : It) (F : Hp) (ds : List D) : Prop := ∀ F' H' σ env ow, Rep Γ F' H' σ env ow → Same F F' →
  (∀ i, i < ds.length → J.go i H') ∧ J.stop ds.length H' ∧
  ∀ i d, ds[i]? = some d → ∀ x H2, J.yld i H' x H2 → ∃ F2, Rep Γ F2 H2 σ env ow ∧ Stp F' H' ow F2 H2 ∧ Rp Γ.g.K F2 x d
def tI (Γ : Cn) (W : WX) (m : M (List D)) : TI := fun σ H R => ∃ env F ow, Rep Γ F H σ env ow ∧ ∃ r, m env = some r ∧
  Out Γ W σ F H ow (fun ds e' => ∀ J H' F', Rep Γ F' H' σ e' ow → Stp F H ow F' H' → Feeds Γ J F' ds → R J H') r
theorem tI_of {m : M (List D)} {Q : It → Hp → Prop} {r : Rs (List D)} (R : Rep Γ F H σ env ow) (e : m env = some r)
    (h : Out Γ W σ F H ow (fun ds e' => ∀ J H' F', Rep Γ F' H' σ e' ow → Stp F H ow F' H' → Feeds Γ J F' ds → Q J H') r) : tI Γ W m σ H Q := ⟨env, F, ow, R, r, e, h⟩
def forL (g : Tg) (b : M O) : List D → M O
  | [] => nxM
  | d :: ds => fun e => match g d e with
    | none => none
    | some e1 => match b e1 with
      | some (.ok .nx e') => forL g b ds e'
      | some (.ok .ct e') => forL g b ds e'
      | some (.ok .bk e') => some (.ok .nx e')
      | r => r
def forM (m : M (List D)) (g : Tg) (b : M O) : M O := M.bind m fun ds => forL g b ds
end
end DL

/-! the data layer: for, comprehensions, lists of a slot's own -/
namespace DL
open PySem PySem.Spec PyProof.Rows L2
section
variable {Γ : Cn} {W : WX} {F H : Hp} {σ : L2.St} {env : En} {ow : Ow} {X : Cx}
theorem forL_cons {g : Tg} {b : M O} {d : D} {ds : List D} {e : En} {r : Rs O} (h : forL g b (d :: ds) e = some r) : ∃ e1 rb, g d e = some e1 ∧ b e1 = some rb ∧
    ((∃ e', (rb = .ok .nx e' ∨ rb = .ok .ct e') ∧ forL g b ds e' = some r) ∨ (∃ e', rb = .ok .bk e' ∧ r = .ok .nx e') ∨ (∃ v e', rb = .ok (.rt v) e' ∧ r = rb) ∨ (∃ x e', rb = .ex x e' ∧ r = rb)) := by
  unfold forL at h
  cases q : g d e with
  | none => rw [q] at h; cases h
  | some e1 =>
    rw [q] at h
    dsimp only at h
    cases z : b e1 with
    | none => rw [z] at h; cases h
    | some rb =>
      rw [z] at h
      refine ⟨e1, rb, rfl, z, ?_⟩
      cases rb with
      | ex x e' => cases h; exact Or.inr (Or.inr (Or.inr ⟨x, e', rfl, rfl⟩))
      | ok o e' => cases o with
        | nx => exact Or.inl ⟨e', Or.inl rfl, h⟩
        | ct => exact Or.inl ⟨e', Or.inr rfl, h⟩
        | bk => cases h; exact Or.inr (Or.inl ⟨e', rfl, rfl⟩)
        | rt v => cases h; exact Or.inr (Or.inr (Or.inl ⟨v, e', rfl, rfl⟩))
theorem s_for {tg it : Expr} {body : List Stmt} {mi : M (List D)} {ix : List Nat} {g : Tg} {mb : M O} {pos : Pos} (hp : PassesOwn (model X.prog X.w) X.A X.env X.xe) (hc : X.calm = true) (hi : PI X tg it (tI Γ W mi)) (hg : PG X tg (tG Γ ix g)) (hb : PSs X body (tS Γ W mb))
    (hs : ∀ x, foldedSetIterable it X.env x = pure x := by intro _; rfl) : PS X (.For tg it body [] pos) (tS Γ W (forM mi g mb)) := by
  refine PS.by (ps_for hp hc hi hg hb hs) fun K σ H ⟨env, F, ow, R, r, e, h⟩ => ?_
  rcases M.bind_some e with ⟨ds, e1, h1, h2⟩ | ⟨x, e1, h1, h2⟩
  · refine tI_of R h1 fun J H1 F1 R1 S1 fd => ?_
    refine ⟨fun i m σ' H' => m = ds.length - i ∧ i ≤ ds.length ∧ ∃ env F' ow', Rep Γ F' H' σ' env ow' ∧ Same F1 F' ∧ ∃ r, forL g mb (ds.drop i) env = some r ∧ OutS Γ W F' K r, ⟨ds.length, rfl, Nat.zero_le _, e1, F1, ow, R1, Same.refl F1, r, h2, h.mono S1.s1⟩, ?_⟩
    rintro i m σ' H' ⟨rfl, hi, env', F', ow', R', sF, r', q, o⟩
    obtain ⟨f1, f2, f3⟩ := fd F' H' σ' env' ow' R' sF
    by_cases hlt : i < ds.length
    · obtain ⟨d, hd⟩ : ∃ d, ds[i]? = some d := ⟨ds[i], List.getElem?_eq_getElem hlt⟩
      have hdrop : ds.drop i = d :: ds.drop (i + 1) := by
        rw [List.drop_eq_getElem_cons hlt]
        rw [List.getElem?_eq_getElem hlt] at hd
        cases hd; rfl
      rw [hdrop] at q
      obtain ⟨ea, rb, g1, b1, cs⟩ := forL_cons q
      refine Or.inr ⟨f1 i hlt, fun σ2 H2 => i + 1 ≤ ds.length ∧ ∃ env F' ow', Rep Γ F' H2 σ2 env ow' ∧ Same F1 F' ∧ ∃ r, forL g mb (ds.drop (i + 1)) env = some r ∧ OutS Γ W F' K r, fun σ2 H2 z => ⟨ds.length - (i + 1), by omega, rfl, z⟩, fun x H2 y => ?_⟩
      obtain ⟨F2, R2, S2, rx⟩ := f3 i d hd x H2 y
      refine ⟨env', F2, ow', d, R2, rx, ea, g1, fun σ3 R3 _ => ⟨ea, F2, ow', R3, rb, b1, ?_⟩⟩
      have tr : Same F1 F2 := sF.trans S2.s1
      have o2 := o.mono S2.s1
      rcases cs with ⟨e', k, fl⟩ | ⟨e', rfl, rfl⟩ | ⟨v, e', rfl, rfl⟩ | ⟨x, e', rfl, rfl⟩
      · have go : ∀ σ4 H4 F4 ow4, Rep Γ F4 H4 σ4 e' ow4 → Same F2 F4 → i + 1 ≤ ds.length ∧ ∃ env F' ow', Rep Γ F' H4 σ4 env ow' ∧ Same F1 F' ∧ ∃ r, forL g mb (ds.drop (i + 1)) env = some r ∧ OutS Γ W F' K r :=
          fun σ4 H4 F4 ow4 R4 s4 => ⟨hlt, e', F4, ow4, R4, tr.trans s4, r', fl, o2.mono s4⟩
        rcases k with rfl | rfl
        · exact go
        · exact go
      · exact o2
      · exact o2
      · exact o2
    · have e0 : i = ds.length := by omega
      subst e0
      rw [List.drop_length] at q
      cases q
      exact Or.inl ⟨f2, o σ' H' F' ow' R' (Same.refl F')⟩
  · subst h2
    exact tI_of R h1 (xGo_of h)
end
end DL

/-! the data layer: new lists, comprehensions, lists of a slot's own -/
namespace DL
open PySem PySem.Spec PyProof.Rows L2
section
variable {Γ : Cn} {W : WX} {F H : Hp} {σ : L2.St} {env : En} {ow : Ow} {X : Cx}
/-- a new list at l, nobody's yet -/
structure NewL (Γ : Cn) (F H : Hp) (ow : Ow) (l : Addr) (vs : List V) (ds : List D) : Prop where
  at_ : H l = some (.lst vs)
  fr : F l = none
  ow : ow l = none
  h0 : Γ.H0 l = none
  r : RpA Γ.g.K F vs ds
/-- the reading of an expression that hands out a new list -/
def tL (Γ : Cn) (W : WX) (m : M (List D)) : TE := fun σ H Q => ∃ env F ow, Rep Γ F H σ env ow ∧ ∃ r, m env = some r ∧
  Out Γ W σ F H ow (fun ds e' => ∀ l vs H' F', Rep Γ F' H' σ e' ow → Stp F H ow F' H' → H l = none → NewL Γ F' H' ow l vs ds → Q (.ref l) H') r
theorem tL_of {m : M (List D)} {Q : VK} {r : Rs (List D)} (R : Rep Γ F H σ env ow) (e : m env = some r)
    (h : Out Γ W σ F H ow (fun ds e' => ∀ l vs H' F', Rep Γ F' H' σ e' ow → Stp F H ow F' H' → H l = none → NewL Γ F' H' ow l vs ds → Q (.ref l) H') r) : tL Γ W m σ H Q := ⟨env, F, ow, R, r, e, h⟩
theorem Rep.h0 (R : Rep Γ F H σ env ow) {l : Addr} (h : H l = none) : Γ.H0 l = none := by
  cases q : Γ.H0 l with
  | none => rfl
  | some o => exact absurd h (R.e6 l (by rw [q]; exact fun z => nomatch z))
theorem Rep.ow0 (R : Rep Γ F H σ env ow) {l : Addr} (h : H l = none) : ow l = none := by
  cases q : ow l with
  | none => rfl
  | some p => exact absurd h (R.own l p q).1
/-- a new list is frozen -/
theorem Rep.freeze (R : Rep Γ F H σ env ow) {l : Addr} {vs : List V} {ds : List D} (n : NewL Γ F H ow l vs ds) : Rep Γ (upd F l (.lst vs)) H σ env ow where
  len := R.len
  at_ := fun i s e => by
    obtain ⟨o, h1, h2⟩ := R.at_ i s e
    exact ⟨o, h1, h2.keep (fun b x q => by rw [upd_ne (ne_of_none q n.fr)]; exact q) fun _ _ _ _ q => q⟩
  sm := fun b o e => by
    by_cases hb : b = l
    · rw [hb, upd_same] at e; rw [hb, ← e]; exact n.at_
    · rw [upd_ne hb] at e; exact R.sm b o e
  own := fun a p e => by
    obtain ⟨h1, h2⟩ := R.own a p e
    exact ⟨h1, by rw [upd_ne (fun z => by rw [z, n.ow] at e; cases e)]; exact h2⟩
  e1 := R.e1
  e2 := R.e2.trans fun b x q => by rw [upd_ne (ne_of_none q n.fr)]; exact q
  e3 := fun b h => by rw [upd_ne (fun z => h (by rw [z]; exact n.h0))]; exact R.e3 b h
  e4 := R.e4
  e5 := R.e5
  e6 := R.e6
  e7 := R.e7
  e8 := R.e8
theorem same_new {l : Addr} {o : HO} (h : F l = none) : Same F (upd F l o) := fun b x q => by
  rw [upd_ne (ne_of_none q h)]; exact q
def listD (m : M (List D)) : M D := M.bind m fun ds => M.ret (.list ds)
theorem tL_list {m : M (List D)} {Q : VK} (h : tD Γ W (listD m) σ H Q) : tL Γ W m σ H Q := by
  obtain ⟨env, F, ow, R, r, e, h⟩ := h
  rcases M.bind_some e with ⟨ds, e1, h1, h2⟩ | ⟨x, e1, h1, h2⟩
  · cases h2
    refine tL_of R h1 fun l vs H' F' R' S hl n => ?_
    refine h _ H' (upd F' l (.lst vs)) (R'.freeze n) ⟨S.s1.trans (same_new n.fr), S.s2, fun b hb => ?_, S.s4⟩ (.lst upd_same (n.r.mono (same_new n.fr)))
    rw [upd_ne (fun z => hb (by rw [z]; exact hl))]; exact S.s3 b hb
  · subst h2
    exact tL_of R h1 h
theorem e_list {e : Expr} {m : M (List D)} (h : PE X e (tL Γ W m)) : PE X e (tD Γ W (listD m)) := PE.by h fun _ _ _ q => tL_list q
/-! ### displays -/
def dispM (os : List Opd) : M (List D) := M.bind (runA os) fun as e => (getA false e os as).map fun ds => Rs.ok ds e
theorem RpX.frz {K : Kf} {v : V} {d : D} (h : RpX false K F H v d) : Rp K F v d := by
  rcases h with h | ⟨e, _⟩
  · exact h
  · cases e
theorem rpx_all {K : Kf} : ∀ {vs : List V} {ds : List D}, Paired (RpX false K F H) vs ds → RpA K F vs ds
  | _, _, .nil => .nil
  | _, _, .cons h r => .cons h.frz (rpx_all r)
theorem getA_len {b : Bool} {e : En} : ∀ {os : List Opd} {as : List (Option D)} {ds : List D}, getA b e os as = some ds → ds.length = os.length
  | [], _, _, h => by unfold getA at h; cases h; rfl
  | .sl i :: os, [], _, h => by unfold getA at h; cases h
  | .sl i :: os, a :: as, _, h => by
    unfold getA at h
    cases q : DL.look b e i with
    | none => rw [q] at h; cases h
    | some d =>
      rw [q] at h
      obtain ⟨r, h1, h2⟩ := Option.map_eq_some_iff.mp h
      subst h2
      simp [getA_len h1]
  | .ex m :: os, [], _, h => by unfold getA at h; cases h
  | .ex m :: os, none :: as, _, h => by unfold getA at h; cases h
  | .ex m :: os, some d :: as, _, h => by
    unfold getA at h
    obtain ⟨r, h1, h2⟩ := Option.map_eq_some_iff.mp h
    subst h2
    simp [getA_len h1]
theorem e_disp {es : List Expr} {os : List Opd} {pos : Pos} (h : PA X es (tAs Γ W os)) (hz : os.length ≤ 1000 := by decide) : PE X (.List es pos) (tL Γ W (dispM os)) :=
  PE.by (pe_lst h) fun σ H Q ⟨env, F, ow, R, r, e, q⟩ => by
    rcases M.bind_some e with ⟨as, e1, h1, h2⟩ | ⟨x, e1, h1, h2⟩
    · obtain ⟨ds, h3, h4⟩ := Option.map_eq_some_iff.mp h2
      subst h4
      refine tAs_of os R h1 fun vs H' F' R' S A => ?_
      have rr := rpx_all (R'.gets A h3)
      refine ⟨Nat.le_of_lt (small1000 (by rw [rr.length, getA_len h3]; exact hz)), fun p hp => ?_⟩
      obtain ⟨R2, S2⟩ := R'.alloc0 (.lst vs) hp
      refine q p vs _ F' R2 (S.trans S2) ?_ ⟨upd_same, R'.none_F hp, R'.ow0 hp, R'.h0 hp, rr⟩
      cases z : H p with
      | none => rfl
      | some o => exact absurd hp (S.s4 p (by rw [z]; exact fun z => nomatch z))
    · subst h2
      exact tAs_of os R h1 q
def tupM (os : List Opd) : M D := M.bind (runA os) fun as e => (getA false e os as).map fun ds => Rs.ok (.tuple ds) e
theorem e_tup {es : List Expr} {os : List Opd} {k : Nat} {pos : Pos} (h : PA X es (tAs Γ W os)) (hz : os.length ≤ 1000 := by decide) : PE X (.Tuple es k pos) (tD Γ W (tupM os)) :=
  PE.by (pe_tup h) fun σ H Q ⟨env, F, ow, R, r, e, q⟩ => by
    rcases M.bind_some e with ⟨as, e1, h1, h2⟩ | ⟨x, e1, h1, h2⟩
    · obtain ⟨ds, h3, h4⟩ := Option.map_eq_some_iff.mp h2
      subst h4
      refine tAs_of os R h1 fun vs H' F' R' S A => ?_
      have rr := rpx_all (R'.gets A h3)
      refine ⟨Nat.le_of_lt (small1000 (by rw [rr.length, getA_len h3]; exact hz)), fun p hp => ?_⟩
      obtain ⟨R2, S2⟩ := R'.alloc (.tup vs) hp
      exact q _ _ _ R2 (S.trans S2) (.tup (SqT.of upd_same) (rr.mono S2.s1))
    · subst h2
      exact tAs_of os R h1 q
/-! ### comprehensions -/
def Sl.open_ (e : En) (v : Nat) : Bool := match e[v]? with
  | some s => !s.owns
  | none => false
def wipeE (e : En) : List Nat → En
  | [] => e
  | v :: vs => (wipeE e vs).set v .non
def backE (e e2 : En) : List Nat → En
  | [] => e2
  | v :: vs => (backE e e2 vs).set v (e.getD v .non)
theorem wipeE_len (e : En) : ∀ vs, (wipeE e vs).length = e.length
  | [] => rfl
  | v :: vs => by unfold wipeE; rw [List.length_set, wipeE_len e vs]
theorem wipeE_owns (e : En) {v : Nat} (h : Sl.open_ e v = true) : ∀ vs, ∃ s, (wipeE e vs)[v]? = some s ∧ s.owns = false
  | [] => by
    unfold Sl.open_ at h
    unfold wipeE
    cases q : e[v]? with
    | none => rw [q] at h; cases h
    | some s => rw [q] at h; exact ⟨s, rfl, by simpa using h⟩
  | w :: vs => by
    obtain ⟨s, h1, h2⟩ := wipeE_owns e h vs
    unfold wipeE
    by_cases hw : w = v
    · subst hw
      exact ⟨.non, List.getElem?_set_self (List.getElem?_eq_some_iff.mp h1).1, rfl⟩
    · exact ⟨s, by rw [List.getElem?_set_ne hw]; exact h1, h2⟩
theorem Rep.wipe (R : Rep Γ F H σ env ow) : ∀ vs : List Nat, (∀ v ∈ vs, Sl.open_ env v = true) → Rep Γ F H (L2.wipe σ vs) (wipeE env vs) ow
  | [], _ => R
  | v :: vs, h => by
    have ih := R.wipe vs fun w hw => h w (List.mem_cons_of_mem _ hw)
    obtain ⟨s, h1, h2⟩ := wipeE_owns env (h v List.mem_cons_self) vs
    exact ih.setNon h1 h2
theorem wipe_get (σ : L2.St) : ∀ (vs : List Nat) (j : Nat), (L2.wipe σ vs)[j]? = if j ∈ vs then (if j < σ.length then some none else none) else σ[j]?
  | [], j => by simp [L2.wipe]
  | v :: vs, j => by
    unfold L2.wipe
    by_cases hj : j = v
    · subst hj
      rw [if_pos List.mem_cons_self]
      by_cases hl : j < σ.length
      · rw [if_pos hl, List.getElem?_set_self (by rw [wipe_length]; exact hl)]
      · rw [if_neg hl, List.getElem?_eq_none (by rw [List.length_set, wipe_length]; omega)]
    · rw [List.getElem?_set_ne (Ne.symm hj), wipe_get σ vs j]
      by_cases hm : j ∈ vs
      · rw [if_pos hm, if_pos (List.mem_cons_of_mem _ hm)]
      · rw [if_neg hm, if_neg (fun z => (List.mem_cons.mp z).elim hj hm)]
theorem wipe_agree {σ σ' : L2.St} {ix vs : List Nat} (A : Agree ix (L2.wipe σ vs) σ') (hs : ∀ j ∈ ix, j ∈ vs) : L2.wipe σ' vs = L2.wipe σ vs := by
  have hl : σ'.length = σ.length := by rw [← A.1, wipe_length]
  refine List.ext_getElem? fun j => ?_
  rw [wipe_get, wipe_get, hl]
  by_cases hj : j ∈ vs
  · rw [if_pos hj, if_pos hj]
  · rw [if_neg hj, if_neg hj, A.2 j (fun z => hj (hs j z)), wipe_get, if_neg hj]
/-- the slots of the names around, as they were; the others as the block left them -/
theorem backE_get (e e2 : En) : ∀ (vs : List Nat) (j : Nat), e2.length = e.length → (backE e e2 vs)[j]? = if j ∈ vs then e[j]? else e2[j]?
  | [], j, _ => by simp [backE]
  | v :: vs, j, h => by
    unfold backE
    have hl : ∀ vs, (backE e e2 vs).length = e2.length := fun vs => by
      induction vs with
      | nil => rfl
      | cons w ws ih => unfold backE; rw [List.length_set, ih]
    by_cases hj : j = v
    · subst hj
      rw [if_pos List.mem_cons_self]
      by_cases hlt : j < e.length
      · rw [List.getElem?_set_self (by rw [hl, h]; exact hlt), List.getD_eq_getElem?_getD, List.getElem?_eq_getElem hlt]
        rfl
      · rw [List.getElem?_eq_none (by rw [List.length_set, hl, h]; omega), List.getElem?_eq_none (by omega)]
    · rw [List.getElem?_set_ne (Ne.symm hj), backE_get e e2 vs j h]
      by_cases hm : j ∈ vs
      · rw [if_pos hm, if_pos (List.mem_cons_of_mem _ hm)]
      · rw [if_neg hm, if_neg (fun z => (List.mem_cons.mp z).elim hj hm)]
/-- out of the block -/
theorem Rep.back {F0 H0 : Hp} {env0 e2 : En} {σ2 : L2.St} (R0 : Rep Γ F0 H0 σ env0 ow) {vs : List Nat} (ho : ∀ v ∈ vs, Sl.open_ env0 v = true) (R2 : Rep Γ F H σ2 e2 ow) (hw : L2.wipe σ2 vs = L2.wipe σ vs) (sF : Same F0 F) :
    Rep Γ F H σ (backE env0 e2 vs) ow := by
  have l2 : σ2.length = σ.length := by rw [← wipe_length σ2 vs, hw, wipe_length]
  have le : e2.length = env0.length := by rw [← R2.len, l2, R0.len]
  have opn : ∀ v ∈ vs, ∃ s, env0[v]? = some s ∧ s.owns = false := fun v hv => by
    have := ho v hv
    unfold Sl.open_ at this
    cases q : env0[v]? with
    | none => rw [q] at this; cases this
    | some s => rw [q] at this; exact ⟨s, rfl, by simpa using this⟩
  refine ⟨?_, fun i s e => ?_, R2.sm, R2.own, R2.e1, R2.e2, R2.e3, R2.e4, R2.e5, R2.e6, R2.e7, fun a p ha => ?_⟩
  · rw [← l2, R2.len]
    have hl : ∀ vs, (backE env0 e2 vs).length = e2.length := fun vs => by
      induction vs with
      | nil => rfl
      | cons w ws ih => unfold backE; rw [List.length_set, ih]
    rw [hl]
  · rw [backE_get env0 e2 vs i le] at e
    by_cases hi : i ∈ vs
    · rw [if_pos hi] at e
      obtain ⟨s', h1, h2⟩ := opn i hi
      rw [h1] at e; cases e
      obtain ⟨o, q1, q2⟩ := R0.at_ i s h1
      refine ⟨o, q1, ?_⟩
      cases s with
      | non => trivial
      | dat d => obtain ⟨v, e, r⟩ := q2; exact ⟨v, e, r.mono sF⟩
      | lst _ => cases h2
      | book _ => cases h2
      | exn x => obtain ⟨a, e, r⟩ := q2; exact ⟨a, e, sF _ _ r⟩
      | scr ns => obtain ⟨a, e, r⟩ := q2; exact ⟨a, e, sF.seq r⟩
    · rw [if_neg hi] at e
      obtain ⟨o, q1, q2⟩ := R2.at_ i s e
      refine ⟨o, ?_, q2⟩
      have z := congrArg (fun (l : L2.St) => l[i]?) hw
      rw [wipe_get, wipe_get, if_neg hi, if_neg hi] at z
      rw [← z]; exact q1
  · obtain ⟨s, h1, h2⟩ := R2.e8 a p ha
    by_cases hp : p.1 ∈ vs
    · obtain ⟨s', h3, h4⟩ := opn p.1 hp
      -- the block's own slots own nothing
      obtain ⟨t, h5, h6⟩ := R0.e8 a p ha
      rw [h3] at h5; cases h5; rw [h4] at h6; cases h6
    · exact ⟨s, by rw [backE_get env0 e2 vs p.1 le, if_neg hp]; exact h1, h2⟩
/-- the items one by one -/
def compL (vs : List Nat) (g : Tg) (c : M Bool) (el : M D) : List D → M (List D)
  | [] => M.ret []
  | d :: ds => fun e => if vs.all (Sl.open_ e) = true then (match g d (wipeE e vs) with
    | none => none
    | some e1 => match M.bind c (fun k => if k = true then M.bind el fun y => M.ret [y] else M.ret []) e1 with
      | some (.ok ys e2) => M.bind (compL vs g c el ds) (fun r => M.ret (ys ++ r)) (backE e e2 vs)
      | _ => none) else none
def compM (mi : M (List D)) (vs : List Nat) (g : Tg) (c : M Bool) (el : M D) : M (List D) := M.bind mi fun ds e => if ds.length ≤ 1000000 then (match compL vs g c el ds e with
  | some (.ok r e') => some (.ok r e')
  | _ => none) else none
theorem Rep.writeNew (R : Rep Γ F H σ env ow) {l : Addr} {vs vs' : List V} {ds ds' : List D} (n : NewL Γ F H ow l vs ds) (r : RpA Γ.g.K F vs' ds') :
    Rep Γ F (upd H l (.lst vs')) σ env ow ∧ NewL Γ F (upd H l (.lst vs')) ow l vs' ds' := by
  have ne : ∀ b p, ow b = some p → b ≠ l := fun b p e z => by rw [z, n.ow] at e; cases e
  have up : ∀ b, H b ≠ none → (upd H l (.lst vs')) b ≠ none := fun b hb => by
    by_cases z : b = l
    · rw [z, upd_same]; exact fun z => nomatch z
    · rw [upd_ne z]; exact hb
  refine ⟨⟨R.len, fun i s e => ?_, fun b x e => ?_, fun a p e => ?_, fun b x e z => ?_, R.e2, R.e3, R.e4, R.e5, fun b h => up b (R.e6 b h), R.e7, R.e8⟩, ⟨upd_same, n.fr, n.ow, n.h0, r⟩⟩
  · obtain ⟨o, h1, h2⟩ := R.at_ i s e
    exact ⟨o, h1, h2.keep (Same.refl F) fun b x p hb hx => by rw [upd_ne (ne b p hb)]; exact hx⟩
  · rw [upd_ne (fun z => by rw [z, n.fr] at e; cases e)]; exact R.sm b x e
  · obtain ⟨h1, h2⟩ := R.own a p e
    exact ⟨up a h1, h2⟩
  · rw [upd_ne (fun q => by rw [q, n.h0] at e; cases e)]; exact R.e1 b x e z
theorem Stp.writeNew {F0 H0 : Hp} (S : Stp F0 H0 ow F H) {l : Addr} (h : H0 l = none) (o : HO) : Stp F0 H0 ow F (upd H l o) where
  s1 := S.s1
  s2 := fun b x e z => by rw [upd_ne (fun q => by rw [q, h] at e; cases e)]; exact S.s2 b x e z
  s3 := S.s3
  s4 := fun b hb => by rw [upd_ne (fun q => hb (by rw [q]; exact h))]; exact S.s4 b hb
theorem Stp.none {F' H' : Hp} (S : Stp F H ow F' H') {l : Addr} (h : H' l = none) : H l = none := by
  cases z : H l with
  | none => rfl
  | some o => exact absurd h (S.s4 l (by rw [z]; exact fun z => nomatch z))
theorem NewL.step {F' H' : Hp} {l : Addr} {vs : List V} {ds : List D} (n : NewL Γ F H ow l vs ds) (S : Stp F H ow F' H') : NewL Γ F' H' ow l vs ds :=
  ⟨S.s2 l _ n.at_ n.ow, (S.s3 l (by rw [n.at_]; exact fun z => nomatch z)).trans n.fr, n.ow, n.h0, n.r.mono S.s1⟩
theorem compL_cons {vs : List Nat} {g : Tg} {c : M Bool} {el : M D} {d : D} {ds : List D} {e e' : En} {r : List D} (h : compL vs g c el (d :: ds) e = some (.ok r e')) :
    (∀ v ∈ vs, Sl.open_ e v = true) ∧ ∃ e1 k e2, g d (wipeE e vs) = some e1 ∧ c e1 = some (.ok k e2) ∧
    ((k = true ∧ ∃ y e3 r', el e2 = some (.ok y e3) ∧ compL vs g c el ds (backE e e3 vs) = some (.ok r' e') ∧ r = y :: r') ∨ (k = false ∧ compL vs g c el ds (backE e e2 vs) = some (.ok r e'))) := by
  unfold compL at h
  by_cases ha : vs.all (Sl.open_ e) = true
  · rw [if_pos ha] at h
    refine ⟨fun v hv => List.all_eq_true.mp ha v hv, ?_⟩
    cases q : g d (wipeE e vs) with
    | none => rw [q] at h; cases h
    | some e1 =>
      rw [q] at h
      dsimp only at h
      cases z : M.bind c (fun k => if k = true then M.bind el fun y => M.ret [y] else M.ret []) e1 with
      | none => rw [z] at h; cases h
      | some w => cases w with
        | ex x e2 => rw [z] at h; cases h
        | ok ys e2 =>
          rw [z] at h
          rcases M.bind_some z with ⟨k, e3, h1, h2⟩ | ⟨x, e3, h1, h2⟩
          · rcases M.bind_some h with ⟨r', e4, h3, h4⟩ | ⟨x, e4, h3, h4⟩
            · cases h4
              refine ⟨e1, k, e3, rfl, h1, ?_⟩
              cases k with
              | true =>
                rw [if_pos rfl] at h2
                rcases M.bind_some h2 with ⟨y, e5, h5, h6⟩ | ⟨x, e5, h5, h6⟩
                · cases h6
                  exact Or.inl ⟨rfl, y, _, r', h5, h3, rfl⟩
                · cases h6
              | false =>
                rw [if_neg Bool.false_ne_true] at h2
                cases h2
                exact Or.inr ⟨rfl, h3⟩
            · cases h4
          · cases h2
  · rw [if_neg ha] at h; cases h
abbrev W0 : WX := fun _ _ _ _ => False
/-- the comprehension's reading -/
theorem comp_of {mi : M (List D)} {ix vs : List Nat} {g : Tg} {c : M Bool} {el : M D} {tt : TT} {Q : VK}
    (htt : ∀ σ H Q, tB Γ W0 c σ H Q → tt σ H Q) (hix : ∀ j ∈ ix, j ∈ vs) (h : tL Γ W (compM mi vs g c el) σ H Q) :
    tLc (tI Γ W mi) (tG Γ ix g) tt (tD Γ W0 el) vs σ H Q := by
  obtain ⟨env, F, ow, R, r, e, h⟩ := h
  rcases M.bind_some e with ⟨ds, e1, h1, h2⟩ | ⟨x, e1, h1, h2⟩
  · by_cases hl : ds.length ≤ 1000000
    · simp only [if_pos hl] at h2
      cases q : compL vs g c el ds e1 with
      | none => rw [q] at h2; cases h2
      | some w => cases w with
        | ex x e' => rw [q] at h2; cases h2
        | ok rr e' =>
          rw [q] at h2
          cases h2
          refine tI_of R h1 fun J H1 F1 R1 S1 fd => ?_
          intro L hL
          obtain ⟨R2, S2⟩ := R1.alloc0 (.lst []) hL
          refine ⟨fun i m Hc => m = ds.length - i ∧ i ≤ ds.length ∧ ∃ ec Fc acc dacc r2, Rep Γ Fc Hc σ ec ow ∧ Stp F H ow Fc Hc ∧ Same F1 Fc ∧ NewL Γ Fc Hc ow L acc dacc ∧ acc.length ≤ i ∧
            compL vs g c el (ds.drop i) ec = some (.ok r2 e') ∧ dacc ++ r2 = rr, ⟨ds.length, rfl, Nat.zero_le _, e1, F1, [], [], rr, R2, S1.trans S2, Same.refl F1, ⟨upd_same, R1.none_F hL, R1.ow0 hL, R1.h0 hL, .nil⟩, Nat.le_refl _, q, rfl⟩, ?_⟩
          rintro i m Hc ⟨rfl, hi, ec, Fc, acc, dacc, r2, Rc, Sc, sF, n, hal, q2, er⟩
          obtain ⟨f1, f2, f3⟩ := fd Fc Hc σ ec ow Rc sF
          by_cases hlt : i < ds.length
          · obtain ⟨d, hd⟩ : ∃ d, ds[i]? = some d := ⟨ds[i], List.getElem?_eq_getElem hlt⟩
            have hdrop : ds.drop i = d :: ds.drop (i + 1) := by
              rw [List.drop_eq_getElem_cons hlt]
              rw [List.getElem?_eq_getElem hlt] at hd
              cases hd; rfl
            rw [hdrop] at q2
            obtain ⟨hopen, ea, k, eb, g1, c1, cs⟩ := compL_cons q2
            refine Or.inr ⟨f1 i hlt, fun H2 => i + 1 ≤ ds.length ∧ ∃ ec Fc acc dacc r2, Rep Γ Fc H2 σ ec ow ∧ Stp F H ow Fc H2 ∧ Same F1 Fc ∧ NewL Γ Fc H2 ow L acc dacc ∧ acc.length ≤ i + 1 ∧
              compL vs g c el (ds.drop (i + 1)) ec = some (.ok r2 e') ∧ dacc ++ r2 = rr, fun H2 z => ⟨ds.length - (i + 1), by omega, rfl, z⟩, fun x H2 y => ?_⟩
            obtain ⟨F2, R3, S3, rx⟩ := f3 i d hd x H2 y
            refine ⟨wipeE ec vs, F2, ow, d, R3.wipe vs hopen, rx, ea, g1, fun σ3 R4 A => ⟨wipe_agree A hix, ?_⟩⟩
            refine htt σ3 H2 _ (tB_of R4 c1 fun H3 F3 R5 S5 => ?_)
            have n3 := (n.step S3).step S5
            have hw := wipe_agree A hix
            rcases cs with ⟨rfl, yv, e3, r', el1, q3, rfl⟩ | ⟨rfl, q3⟩
            · refine iteT (tD_of R5 el1 fun v H4 F4 R6 S6 rv => ?_)
              have n4 := n3.step S6
              refine ⟨acc, n4.at_, Nat.lt_of_le_of_lt (Nat.le_trans hal (Nat.le_of_lt (Nat.lt_of_lt_of_le hlt hl))) (by rw [sizeLine_eq]; decide), hlt, ?_⟩
              have Rb := Rep.back (σ := σ) R3 hopen R6 hw (S5.s1.trans S6.s1)
              obtain ⟨Rw, nw⟩ := Rb.writeNew n4 (n4.r.append (.cons rv .nil))
              exact ⟨_, F4, _, _, r', Rw, (((Sc.trans S3).trans S5).trans S6).writeNew (S1.none hL) _, (sF.trans S3.s1).trans (S5.s1.trans S6.s1), nw, by rw [List.length_append]; exact Nat.add_le_add_right hal 1, q3, by rw [← er]; simp⟩
            · refine iteF ⟨hlt, ?_⟩
              have Rb := Rep.back (σ := σ) R3 hopen R5 hw S5.s1
              exact ⟨_, F3, acc, dacc, r2, Rb, (Sc.trans S3).trans S5, (sF.trans S3.s1).trans S5.s1, n3, Nat.le_succ_of_le hal, q3, er⟩
          · have e0 : i = ds.length := by omega
            subst e0
            rw [List.drop_length] at q2
            cases q2
            rw [List.append_nil] at er
            subst er
            exact Or.inl ⟨f2, h L acc Hc Fc Rc Sc (S1.none hL) n⟩
    · simp only [if_neg hl] at h2
      cases h2
  · subst h2
    exact tI_of R h1 h
theorem e_comp {elt tg iter : Expr} {ifs : List Expr} {scope : Scope} {own : List (Str × Nat)} {pos : Pos} {mi : M (List D)} {ix : List Nat} {g : Tg} {c : M Bool} {el : M D} {tt : TT}
    (htt : ∀ σ H Q, tB Γ W0 c σ H Q → tt σ H Q) (hc : X.calm = true) (hN : X.N.Nodup) (hi : PI X tg iter (tI Γ W mi)) (ok : BlkOk X.N X.env.scope scope own) (hix : ∀ j ∈ ix, j ∈ own.map (·.2))
    (hg : ∀ (s : Shared) (H : Hp) (C : Addr) (cl : List (Str × Addr)) (fp : List Addr), PG (X.blk s H scope (compEnvC scope cl C X.env) fp) tg (tG Γ ix g))
    (ht : ∀ (s : Shared) (H : Hp) (C : Addr) (cl : List (Str × Addr)) (fp : List Addr), PTs (X.blk s H scope (compEnvC scope cl C X.env) fp) ifs tt)
    (he : ∀ (s : Shared) (H : Hp) (C : Addr) (cl : List (Str × Addr)) (fp : List Addr), PE (X.blk s H scope (compEnvC scope cl C X.env) fp) elt (tD Γ W0 el))
    (hs : ∀ x, foldedSetIterable iter X.env x = pure x := by intro _; rfl) :
    PE X (.ListComp elt [⟨tg, iter, ifs, 0⟩] scope pos) (tL Γ W (compM mi (own.map (·.2)) g c el)) :=
  PE.by (pe_lc hc hN hi ok hg ht he hs) fun _ _ _ h => comp_of htt hix h
theorem no_if : ∀ σ H Q, tB Γ W0 (M.ret true) σ H Q → tYes σ H Q := fun σ H Q ⟨env, F, ow, R, r, e, h⟩ => by
  cases e
  exact h H F R Stp.refl
end
end DL

/-! the data layer: what a slot owns; calls -/
namespace DL
open PySem PySem.Spec PyProof.Rows L2
section
variable {Γ : Cn} {W : WX} {F H : Hp} {σ : L2.St} {env : En} {ow : Ow} {X : Cx}
/-! ### a new list is a slot's own -/
theorem Rep.setLst (R : Rep Γ F H σ env ow) {i : Nat} {s : Sl} {l : Addr} {vs : List V} {ds : List D} (e : env[i]? = some s) (n : s.owns = false) (hn : NewL Γ F H ow l vs ds) (hi : Γ.np ≤ i) :
    Rep Γ F H (σ.set i (some (.ref l))) (env.set i (.lst ds)) (fun a => if a = l then some (i, 0) else ow a) := by
  have hl : i < env.length := (List.getElem?_eq_some_iff.mp e).1
  have old : ∀ a p, ow a = some p → p.1 ≠ i := fun a p h z => by
    obtain ⟨t, h1, h2⟩ := R.e8 a p h
    rw [z, e] at h1; cases h1; rw [n] at h2; cases h2
  have nel : ∀ a p, ow a = some p → a ≠ l := fun a p h z => by rw [z, hn.ow] at h; cases h
  refine ⟨by rw [List.length_set, List.length_set]; exact R.len, fun j t hj => ?_, R.sm, fun a p ha => ?_, R.e1, R.e2, R.e3, fun b p hb => ?_, fun b p hb h0 => ?_, R.e6, R.e7, fun a p ha => ?_⟩
  · by_cases hij : j = i
    · subst hij
      rw [List.getElem?_set_self hl] at hj
      cases hj
      refine ⟨_, List.getElem?_set_self (by rw [R.len]; exact hl), l, vs, rfl, ⟨if_pos rfl, fun a ha => ?_, hn.at_⟩, hn.r⟩
      by_cases hal : a = l
      · exact hal
      · rw [if_neg hal] at ha
        exact absurd rfl (old a _ ha)
    · rw [List.getElem?_set_ne (Ne.symm hij)] at hj ⊢
      obtain ⟨o, h1, h2⟩ := R.at_ j t hj
      refine ⟨o, h1, ?_⟩
      have go : ∀ {r a o}, Owns H ow j r a o → Owns H (fun a => if a = l then some (i, 0) else ow a) j r a o := fun {r a o} z => by
        refine ⟨by show (if a = l then _ else _) = _; rw [if_neg (nel a _ z.own1)]; exact z.own1, fun b hb => ?_, z.at_⟩
        by_cases hbl : b = l
        · rw [if_pos hbl] at hb; cases hb; exact absurd rfl hij
        · rw [if_neg hbl] at hb; exact z.uq b hb
      cases t with
      | non => trivial
      | dat d => exact h2
      | lst ds => obtain ⟨a, vs, e, q, r⟩ := h2; exact ⟨a, vs, e, go q, r⟩
      | book ds => obtain ⟨b, dx, a, vs, e, q1, q2, r⟩ := h2; exact ⟨b, dx, a, vs, e, go q1, go q2, r⟩
      | exn x => exact h2
      | scr ns => exact h2
  · by_cases hal : a = l
    · rw [hal]; exact ⟨by rw [hn.at_]; exact (fun z => nomatch z), hn.fr⟩
    · rw [if_neg hal] at ha; exact R.own a p ha
  · have q := R.e4 b p hb
    show (if b = l then _ else _) = _
    rw [if_neg (nel b p q)]; exact q
  · by_cases hbl : b = l
    · rw [hbl] at h0; exact absurd hn.h0 h0
    · rw [if_neg hbl] at hb; exact R.e5 b p hb h0
  · by_cases hal : a = l
    · rw [if_pos hal] at ha; cases ha
      exact ⟨_, List.getElem?_set_self hl, rfl⟩
    · rw [if_neg hal] at ha
      obtain ⟨t, h1, h2⟩ := R.e8 a p ha
      exact ⟨t, by rw [List.getElem?_set_ne (Ne.symm (old a p ha))]; exact h1, h2⟩
def newM (m : M (List D)) (i : Nat) : M O := M.bind m fun ds e => if Sl.open_ e i = true then some (.ok .nx (e.set i (.lst ds))) else none
theorem open_some {e : En} {i : Nat} (h : Sl.open_ e i = true) : ∃ s, e[i]? = some s ∧ s.owns = false := by
  unfold Sl.open_ at h
  cases q : e[i]? with
  | none => rw [q] at h; cases h
  | some s => rw [q] at h; exact ⟨s, rfl, by simpa using h⟩
theorem new_of {m : M (List D)} {i : Nat} {K : Ends} (hi : Γ.np ≤ i) (h : tS Γ W (newM m i) K σ H) : tL Γ W m σ H fun x H1 => gName i x σ H1 K.nx := by
  obtain ⟨env, F, ow, R, r, e, h⟩ := h
  rcases M.bind_some e with ⟨ds, e1, h1, h2⟩ | ⟨x, e1, h1, h2⟩
  · by_cases ho : Sl.open_ e1 i = true
    · simp only [if_pos ho] at h2
      cases h2
      obtain ⟨s, q1, q2⟩ := open_some ho
      exact tL_of R h1 fun l vs H' F' R' S hl n => h _ H' F' _ (R'.setLst q1 q2 n hi) S.s1
    · simp only [if_neg ho] at h2
      cases h2
  · subst h2
    exact tL_of R h1 (xGo_of h)
theorem s_new {i : Nat} {x : Str} {e : Expr} {m : M (List D)} {pos pos' : Pos} (hi' : Γ.np ≤ i) (hN : X.N.Nodup) (hi : X.N[i]? = some x) (hx : Loc X.env.scope x) (he : PE X e (tL Γ W m))
    (hs : swapsWith e (some (.Name x pos')) pos.line X.env = pure false := by rfl) (hf : X.fn x = true ∨ X.env.scope.names.lookup x = some .local := by first | exact .inl rfl | exact .inr rfl | assumption) :
    PS X (.Assign [.Name x pos'] e pos) (tS Γ W (newM m i)) := PS.by (ps_set hN hi hx he hs hf) fun _ _ _ h => new_of hi' h
/-- name = [..] -/
theorem s_newC {i : Nat} {y : Str} {py : Pos} {elt tg iter : Expr} {ifs : List Expr} {scope : Scope} {own : List (Str × Nat)} {pos spos : Pos} {mi : M (List D)} {ix : List Nat} {g : Tg} {c : M Bool} {el : M D} {tt : TT} (hi' : Γ.np ≤ i)
    (htt : ∀ σ H Q, tB Γ W0 c σ H Q → tt σ H Q) (hc : X.calm = true) (hN : X.N.Nodup) (hy : X.N[i]? = some y) (hyl : X.env.scope.names.lookup y = some .local)
    (hsw : swapsWith (.ListComp elt [⟨tg, iter, ifs, 0⟩] scope pos) (some (.Name y py)) spos.line X.env = pure true)
    (hi : PI X tg iter (tI Γ W mi)) (ok : BlkOk X.N X.env.scope scope own) (hix : ∀ j ∈ ix, j ∈ own.map (·.2))
    (hg : ∀ (s : Shared) (H : Hp) (C : Addr) (cl : List (Str × Addr)) (fp : List Addr), PG (X.blk s H scope (compEnvC scope cl C X.env) fp) tg (tG Γ ix g))
    (ht : ∀ (s : Shared) (H : Hp) (C : Addr) (cl : List (Str × Addr)) (fp : List Addr), PTs (X.blk s H scope (compEnvC scope cl C X.env) fp) ifs tt)
    (he : ∀ (s : Shared) (H : Hp) (C : Addr) (cl : List (Str × Addr)) (fp : List Addr), PE (X.blk s H scope (compEnvC scope cl C X.env) fp) elt (tD Γ W0 el))
    (hs : ∀ x, foldedSetIterable iter X.env x = pure x := by intro _; rfl) :
    PS X (.Assign [.Name y py] (.ListComp elt [⟨tg, iter, ifs, 0⟩] scope pos) spos) (tS Γ W (newM (compM mi (own.map (·.2)) g c el) i)) :=
  PS.by (ps_setLc hc hN hy hyl hsw hi ok hg ht he hs) fun _ _ _ h => comp_of htt hix (new_of hi' h)
theorem s_setC {i : Nat} {y : Str} {py : Pos} {elt tg iter : Expr} {ifs : List Expr} {scope : Scope} {own : List (Str × Nat)} {pos spos : Pos} {mi : M (List D)} {ix : List Nat} {g : Tg} {c : M Bool} {el : M D} {tt : TT}
    (htt : ∀ σ H Q, tB Γ W0 c σ H Q → tt σ H Q) (hc : X.calm = true) (hN : X.N.Nodup) (hy : X.N[i]? = some y) (hyl : X.env.scope.names.lookup y = some .local)
    (hsw : swapsWith (.ListComp elt [⟨tg, iter, ifs, 0⟩] scope pos) (some (.Name y py)) spos.line X.env = pure true)
    (hi : PI X tg iter (tI Γ W mi)) (ok : BlkOk X.N X.env.scope scope own) (hix : ∀ j ∈ ix, j ∈ own.map (·.2))
    (hg : ∀ (s : Shared) (H : Hp) (C : Addr) (cl : List (Str × Addr)) (fp : List Addr), PG (X.blk s H scope (compEnvC scope cl C X.env) fp) tg (tG Γ ix g))
    (ht : ∀ (s : Shared) (H : Hp) (C : Addr) (cl : List (Str × Addr)) (fp : List Addr), PTs (X.blk s H scope (compEnvC scope cl C X.env) fp) ifs tt)
    (he : ∀ (s : Shared) (H : Hp) (C : Addr) (cl : List (Str × Addr)) (fp : List Addr), PE (X.blk s H scope (compEnvC scope cl C X.env) fp) elt (tD Γ W0 el))
    (hs : ∀ x, foldedSetIterable iter X.env x = pure x := by intro _; rfl) :
    PS X (.Assign [.Name y py] (.ListComp elt [⟨tg, iter, ifs, 0⟩] scope pos) spos) (tS Γ W (asgM (listD (compM mi (own.map (·.2)) g c el)) (setT i))) :=
  PS.by (ps_setLc hc hN hy hyl hsw hi ok hg ht he hs) fun K σ H h => by
    refine comp_of htt hix (tL_list ?_)
    obtain ⟨env, F, ow, R, r, e, h⟩ := h
    rcases M.bind_some e with ⟨d, e1, h1, h2⟩ | ⟨x, e1, h1, h2⟩
    · obtain ⟨e2, h3, h4⟩ := Option.map_eq_some_iff.mp h2
      subst h4
      obtain ⟨s, q1, q2, q3⟩ := setT_some h3
      subst q3
      exact tD_of R h1 fun v H' F' R' S rv => h _ H' F' ow (R'.setDat q1 q2 rv) S.s1
    · subst h2
      exact tD_of R h1 (xGo_of h)
/-! ### an own list is changed -/
def mutM (i : Nat) (q : List D → List D → Option (D × List D)) (os : List Opd) : M D := fun e => match e[i]? with
  | some (.lst _) => M.bind (runA os) (fun as e => match getA false e os as, e[i]? with
    | some ds, some (.lst xs) => (q xs ds).map fun p => Rs.ok p.1 (e.set i (.lst p.2))
    | _, _ => none) e
  | _ => none
def PrimM (q : List D → List D → Option (D × List D)) (r : V → List V → Hp → VK → Prop) : Prop :=
  ∀ (K : Kf) (F H : Hp) (l : Addr) (xs : List V) (xds : List D) (vs : List V) (ds : List D) (z : D) (ys : List D) (Q : VK), H l = some (.lst xs) → RpA K F xs xds → RpA K F vs ds → q xds ds = some (z, ys) →
    ∃ v zs, Rp K F v z ∧ RpA K F zs ys ∧ (Q v (upd H l (.lst zs)) → r (.ref l) vs H Q)
theorem mut_some {i : Nat} {q : List D → List D → Option (D × List D)} {os : List Opd} {as : List (Option D)} {e : En} {r : Rs D}
    (h : (match getA false e os as, e[i]? with
      | some ds, some (.lst xs) => (q xs ds).map fun p => Rs.ok p.1 (e.set i (.lst p.2))
      | _, _ => none) = some r) : ∃ ds xs z ys, getA false e os as = some ds ∧ e[i]? = some (.lst xs) ∧ q xs ds = some (z, ys) ∧ r = .ok z (e.set i (.lst ys)) := by
  cases h1 : getA false e os as with
  | none => rw [h1] at h; cases h
  | some ds =>
    rw [h1] at h
    cases h2 : e[i]? with
    | none => rw [h2] at h; cases h
    | some s =>
      rw [h2] at h
      cases s with
      | lst xs =>
        obtain ⟨⟨z, ys⟩, h3, h4⟩ := Option.map_eq_some_iff.mp h
        exact ⟨ds, xs, z, ys, rfl, rfl, h3, h4.symm⟩
      | _ => cases h
theorem mut_end {i : Nat} {q : List D → List D → Option (D × List D)} {r : V → List V → Hp → VK → Prop} (hq : PrimM q r) (R : Rep Γ F H σ env ow) {xs : List D} {ds : List D} {vs : List V} {z : D} {ys : List D} {Q : VK} {l : Addr}
    (e : env[i]? = some (.lst xs)) (hv : σ[i]? = some (some (.ref l))) (rv : RpA Γ.g.K F vs ds) (eq : q xs ds = some (z, ys))
    (h : ∀ v H' F', Rep Γ F' H' σ (env.set i (.lst ys)) ow → Stp F H ow F' H' → Rp Γ.g.K F' v z → Q v H') : r (.ref l) vs H Q := by
  obtain ⟨o, h1, l', xv, h2, ow1, h4⟩ := R.at_ i _ e
  rw [hv] at h1
  cases h1
  cases h2
  obtain ⟨v, zs, r1, r2, go⟩ := hq Γ.g.K F H l xv xs vs ds z ys Q ow1.at_ h4 rv eq
  obtain ⟨R', S'⟩ := R.write (r := 0) (o' := .lst zs) (s' := .lst ys) e ow1 (fun o _ z => by
    obtain ⟨l2, x2, e2, o2, _⟩ := z
    have : l2 = l := ow1.uq l2 o2.own1
    subst this
    exact ⟨l2, zs, e2, ⟨o2.own1, o2.uq, upd_same⟩, r2⟩) rfl
  exact go (h v _ F R' S' r1)
theorem mutM_some {i : Nat} {q : List D → List D → Option (D × List D)} {os : List Opd} {e : En} {r : Rs D} (h : mutM i q os e = some r) : ∃ x0, e[i]? = some (.lst x0) ∧
    M.bind (runA os) (fun as e => match getA false e os as, e[i]? with
    | some ds, some (.lst xs) => (q xs ds).map fun p => Rs.ok p.1 (e.set i (.lst p.2))
    | _, _ => none) e = some r := by
  unfold mutM at h
  cases h2 : e[i]? with
  | none => rw [h2] at h; cases h
  | some s =>
    rw [h2] at h
    cases s with
    | lst xs => exact ⟨xs, rfl, h⟩
    | _ => cases h
theorem mut_go {i : Nat} {q : List D → List D → Option (D × List D)} {r : V → List V → Hp → VK → Prop} {os : List Opd} {Q : VK} (hK : Γ.g.K = X.K) (hq : PrimM q r) (h : tD Γ W (mutM i q os) σ H Q) :
    tVar i σ H fun x H1 => tyV X.K "list" x H1 ∧ tAs Γ W os σ H1 fun xs H2 => r x xs H2 Q := by
  obtain ⟨env, F, ow, R, rr, e, h⟩ := h
  obtain ⟨x0, e0, e⟩ := mutM_some e
  obtain ⟨o, h1, l, xv, h2, ow1, h4⟩ := R.at_ i _ e0
  subst h2
  refine ⟨_, h1, Or.inl ⟨rfl, _, SqL.of ow1.at_⟩, ?_⟩
  rcases M.bind_some e with ⟨as, e1, h5, h6⟩ | ⟨x, e1, h5, h6⟩
  · obtain ⟨ds, xs, z, ys, g1, g2, g3, g4⟩ := mut_some h6
    subst g4
    refine tAs_of os R h5 fun vs H' F' R' S A => ?_
    exact mut_end hq R' g2 h1 (rpx_all (R'.gets A g1)) g3 fun v H2 F2 R2 S2 rv => h v H2 F2 R2 (S.trans S2) rv
  · subst h6
    exact tAs_of os R h5 h
theorem e_mut {id : String} {o : Expr} {i : Nat} {q : List D → List D → Option (D × List D)} {r : V → List V → Hp → VK → Prop} {e : Expr} {es : List Expr} {os : List Opd} {apos cpos : Pos} {name : Str}
    (hK : Γ.g.K = X.K) (hq : PrimM q r) (slot : Slot "list" name id) (hty : typeOf (.builtin id) = pure (.type "method_descriptor")) (hm : MtR X id r) (ho : PE X o (tVar i)) (ha : PA X (e :: es) (tAs Γ W os))
    (hbase : attributeBase o name X.env (eval o X.env) = eval o X.env := by rfl)
    (hfew : ((backTo cpos (starEach (e :: es) X.env)).all (fun x => !x.1) && (backToKw cpos (keywordEach [] X.env)).all (fun x => x.1.isSome)
      && decide ((e :: es).length + ([] : List Keyword).length + (if ([] : List Keyword).isEmpty then 0 else 1) < 30)) = true := by rfl)
    (hline : (apos.endLine == cpos.line) = true := by rfl) (hs : starEach (e :: es) X.env = (false, eval e X.env) :: starEach es X.env := by rfl) (hplain : (backTo cpos (starEach es X.env)).any (·.1) = false := by rfl) :
    PE X (.Call (.Attribute o name apos) (e :: es) [] cpos) (tD Γ W (mutM i q os)) :=
  PE.by (pe_bm PySem.F.plainAttrs_list slot hty hm ho ha hbase hfew hline hs hplain) fun _ _ _ h => mut_go hK hq h
theorem e_mut0 {id : String} {o : Expr} {i : Nat} {q : List D → List D → Option (D × List D)} {r : V → List V → Hp → VK → Prop} {apos cpos : Pos} {name : Str}
    (hK : Γ.g.K = X.K) (hq : PrimM q r) (slot : Slot "list" name id) (hty : typeOf (.builtin id) = pure (.type "method_descriptor")) (hm : MtR X id r) (ho : PE X o (tVar i))
    (hbase : attributeBase o name X.env (eval o X.env) = eval o X.env := by rfl) (hline : (apos.endLine == cpos.line) = true := by rfl) :
    PE X (.Call (.Attribute o name apos) [] [] cpos) (tD Γ W (mutM i q [])) :=
  PE.by (pe_bm0 PySem.F.plainAttrs_list slot hty hm ho hbase hline) fun _ _ _ h => mut_go hK hq h
/-! the methods' ways -/
def qAppend : List D → List D → Option (D × List D) := fun xs ds => match ds with
  | [y] => if xs.length < 1000000 then some (.none, xs ++ [y]) else none
  | _ => none
theorem pm_append : PrimM qAppend rAppend := by
  intro K F H l xs xds vs ds z ys Q hl rx rv e
  cases rv with
  | nil => cases e
  | @cons v vs d ds h t => cases t with
    | cons _ _ => cases e
    | nil =>
      unfold qAppend at e
      dsimp only at e
      split at e
      · rename_i hz
        cases e
        exact ⟨.non, xs ++ [v], .non, rx.append (.cons h .nil), fun q => ⟨l, xs, v, rfl, rfl, hl, Nat.lt_of_lt_of_le (by rw [rx.length]; exact hz) (by rw [sizeLine_eq]; decide), q⟩⟩
      · cases e
def qPopAt : List D → List D → Option (D × List D) := fun xs ds => match ds with
  | [.int i] => match ixN xs.length i with
    | some k => match xs[k]? with
      | some y => if xs.length < 1000000 then some (y, xs.eraseIdx k) else none
      | none => none
    | none => none
  | _ => none
theorem pm_popAt : PrimM qPopAt rPopAt := by
  intro K F H l xs xds vs ds z ys Q hl rx rv e
  unfold qPopAt at e
  split at e
  · rename_i i
    cases rv with
    | cons h t =>
      cases t
      cases h
      cases q : ixN xds.length i with
      | none => simp only [q] at e; cases e
      | some k =>
        simp only [q] at e
        cases q2 : xds[k]? with
        | none => simp only [q2] at e; cases e
        | some y =>
          simp only [q2] at e
          split at e
          · rename_i hz
            cases e
            obtain ⟨v, h1, h2⟩ := rx.get' q2
            obtain ⟨b1, b2, b3, b4⟩ := ixN_seq q
            refine ⟨v, xs.eraseIdx k, h2, rx.erase k, fun w => ⟨l, xs, i, k, v, rfl, rfl, hl, by omega, by omega, ?_, h1, w⟩⟩
            rw [rx.length]; exact b1
          · cases e
  · cases e
def qPop : List D → List D → Option (D × List D) := fun xs ds => match ds with
  | [] => match xs[xs.length - 1]? with
    | some y => some (y, xs.dropLast)
    | none => none
  | _ => none
theorem RpA.dropLast {K : Kf} {xs : List V} {ds : List D} (r : RpA K F xs ds) : RpA K F xs.dropLast ds.dropLast := by
  rw [List.dropLast_eq_take, List.dropLast_eq_take, r.length]
  exact r.take _
theorem pm_pop : PrimM qPop rPop := by
  intro K F H l xs xds vs ds z ys Q hl rx rv e
  unfold qPop at e
  split at e
  · cases rv
    cases q2 : xds[xds.length - 1]? with
    | none => simp only [q2] at e; cases e
    | some y =>
      simp only [q2] at e
      cases e
      obtain ⟨v, h1, h2⟩ := rx.get' q2
      exact ⟨v, xs.dropLast, h2, rx.dropLast, fun w => ⟨l, xs, v, rfl, rfl, hl, by rw [rx.length]; exact h1, w⟩⟩
  · cases e
def qReverse : List D → List D → Option (D × List D) := fun xs ds => match ds with
  | [] => some (.none, xs.reverse)
  | _ => none
theorem pm_reverse : PrimM qReverse rReverse := by
  intro K F H l xs xds vs ds z ys Q hl rx rv e
  unfold qReverse at e
  split at e
  · cases rv
    cases e
    exact ⟨.non, xs.reverse, .non, rx.reverse, fun w => ⟨l, xs, rfl, rfl, hl, w⟩⟩
  · cases e
def rInsert : V → List V → Hp → VK → Prop := fun x vs H Q => ∃ (l : Addr) (xs : List V) (i : Int) (y : V), x = .ref l ∧ vs = [.int i, y] ∧ H l = some (.lst xs) ∧ xs.length < sizeLine ∧ 0 ≤ i ∧ i < 2 ^ 63 ∧ Q .non (upd H l (.lst (xs.take i.toNat ++ [y] ++ xs.drop i.toNat)))
def qInsert : List D → List D → Option (D × List D) := fun xs ds => match ds with
  | [.int i, y] => if xs.length < 1000000 ∧ 0 ≤ i ∧ i < 1000000 then some (.none, xs.take i.toNat ++ [y] ++ xs.drop i.toNat) else none
  | _ => none
theorem pm_insert : PrimM qInsert rInsert := by
  intro K F H l xs xds vs ds z ys Q hl rx rv e
  unfold qInsert at e
  split at e
  · rename_i i y
    cases rv with
    | cons h t => cases t with
      | cons h2 t2 =>
        cases t2
        cases h
        rename_i v
        split at e
        · rename_i hz
          cases e
          exact ⟨.non, _, .non, ((rx.take _).append (.cons h2 .nil)).append (rx.drop _), fun w => ⟨l, xs, i, v, rfl, rfl, hl, Nat.lt_of_lt_of_le (by rw [rx.length]; exact hz.1) (by rw [sizeLine_eq]; decide), hz.2.1, by omega, w⟩⟩
        · cases e
  · cases e
/-- extend by a new list -/
def extM (i : Nat) (m : M (List D)) : M D := fun e => match e[i]? with
  | some (.lst _) => M.bind m (fun ds e => match e[i]? with
    | some (.lst xs) => if xs.length + ds.length < 1000000 then some (.ok .none (e.set i (.lst (xs ++ ds)))) else none
    | _ => none) e
  | _ => none
theorem e_ext {o : Expr} {i : Nat} {m : M (List D)} {e : Expr} {apos cpos : Pos} (hK : Γ.g.K = X.K) (ho : PE X o (tVar i)) (ha : PE X e (tL Γ W m))
    (hbase : attributeBase o "extend" X.env (eval o X.env) = eval o X.env := by rfl)
    (hfew : ((backTo cpos (starEach [e] X.env)).all (fun x => !x.1) && (backToKw cpos (keywordEach [] X.env)).all (fun x => x.1.isSome)
      && decide ([e].length + ([] : List Keyword).length + (if ([] : List Keyword).isEmpty then 0 else 1) < 30)) = true := by rfl)
    (hline : (apos.endLine == cpos.line) = true := by rfl) (hs : starEach [e] X.env = (false, eval e X.env) :: starEach [] X.env := by rfl) (hplain : (backTo cpos (starEach [] X.env)).any (·.1) = false := by rfl) :
    PE X (.Call (.Attribute o "extend" apos) [e] [] cpos) (tD Γ W (extM i m)) := by
  refine PE.by (pe_bm PySem.F.plainAttrs_list PySem.F.slot_list_extend PySem.F.type_list_extend mt_extend ho (pa_cons ha pa_nil hs) hbase hfew hline hs hplain) fun σ H Q ⟨env, F, ow, R, r, e, h⟩ => ?_
  unfold extM at e
  cases h2 : env[i]? with
  | none => rw [h2] at e; cases e
  | some s =>
    rw [h2] at e
    cases s with
    | lst x0 =>
      obtain ⟨o, h1, l, xv, h3, ow1, h4⟩ := R.at_ i _ h2
      subst h3
      refine ⟨_, h1, Or.inl ⟨rfl, _, SqL.of ow1.at_⟩, ?_⟩
      rcases M.bind_some e with ⟨ds, e1, h5, h6⟩ | ⟨x, e1, h5, h6⟩
      · refine tL_of R h5 fun b vs H' F' R' S hb n => ?_
        cases h7 : e1[i]? with
        | none => simp only [h7] at h6; cases h6
        | some s1 =>
          simp only [h7] at h6
          cases s1 with
          | lst xs =>
            dsimp only at h6
            split at h6
            · rename_i hz
              cases h6
              obtain ⟨o', g1, l', xv', g3, ow2, g4⟩ := R'.at_ i _ h7
              rw [h1] at g1; cases g1; cases g3
              have nlb : b ≠ l := fun z => by
                have q := n.ow
                rw [z, ow2.own1] at q; cases q
              refine ⟨l, b, xv', vs, rfl, rfl, ow2.at_, n.at_, ?_, ?_⟩
              · rw [g4.length, n.r.length]
                exact Nat.le_trans (Nat.le_of_lt hz) (by rw [sizeLine_eq]; decide)
              · obtain ⟨R2, S2⟩ := R'.write (r := 0) (o' := .lst (xv' ++ vs)) (s' := .lst (xs ++ ds)) h7 ow2 (fun o _ z => by
                  obtain ⟨l2, x2, e2, o2, _⟩ := z
                  have : l2 = l := ow2.uq l2 o2.own1
                  subst this
                  exact ⟨l2, _, e2, ⟨o2.own1, o2.uq, upd_same⟩, g4.append n.r⟩) rfl
                exact h .non _ F' R2 (S.trans S2) .non
            · cases h6
          | _ => cases h6
      · subst h6
        exact tL_of R h5 h
    | _ => cases e
/-- xs[i] = v, xs a slot's own -/
def putAt (i : Nat) (d : D) (k : D) : M O := fun e => match k, e[i]? with
  | .int j, some (.lst xs) => match ixN xs.length j with
    | some n => some (.ok .nx (e.set i (.lst (xs.set n d))))
    | none => none
  | _, _ => none
def setM (i : Nat) (m mi : M D) : M O := M.bind m fun d e => if held e i = true then M.bind mi (putAt i d) e else none
theorem putAt_some {i : Nat} {d k : D} {e : En} {r : Rs O} (h : putAt i d k e = some r) : ∃ j xs n, k = .int j ∧ e[i]? = some (.lst xs) ∧ ixN xs.length j = some n ∧ r = .ok .nx (e.set i (.lst (xs.set n d))) := by
  unfold putAt at h
  split at h
  · rename_i j xs h1
    cases h2 : ixN xs.length j with
    | none => rw [h2] at h; cases h
    | some n => rw [h2] at h; cases h; exact ⟨j, xs, n, rfl, h1, h2, rfl⟩
  · cases h
theorem s_setAt {o ix e : Expr} {i : Nat} {m mi : M D} {p pos : Pos} (ho : PE X o (tVar i)) (hi : PE X ix (tD Γ W mi)) (he : PE X e (tD Γ W m))
    (ha : ∀ v, assign (.Subscript o ix p) X.env v = (do
      let ov ← holding [v] (eval o X.env)
      let iv ← holding [v, ov] (eval ix X.env)
      standAt p
      holding [v, ov, iv] (setItem ov iv v)
      release [v, ov, iv] []) := by intro _; rfl)
    (hs : swapsWithSole [.Subscript o ix p] e pos.line X.env = pure false := by rfl) (hw : swappedStores [.Subscript o ix p] e X.env = pure none := by rfl)
    (h1 : (assignEach [.Subscript o ix p] X.env).map (·.2) = [assign (.Subscript o ix p) X.env] := by rfl) :
    PS X (.Assign [.Subscript o ix p] e pos) (tS Γ W (setM i m mi)) := by
  refine PS.by (ps_asg he (pg_sub ho hi set_list ha) hs hw h1) fun K σ H ⟨env, F, ow, R, r, e, h⟩ => ?_
  rcases M.bind_some e with ⟨d, e1, h2, h3⟩ | ⟨x, e1, h2, h3⟩
  · refine tD_of R h2 fun v H1 F1 R1 S1 rv => ?_
    by_cases hh : held e1 i = true
    · rw [if_pos hh] at h3
      obtain ⟨w, hw⟩ := R1.val hh
      refine ⟨w, hw, ?_⟩
      rcases M.bind_some h3 with ⟨k, e2, h4, h5⟩ | ⟨x, e2, h4, h5⟩
      · obtain ⟨j, xs, n, rfl, h6, h7, rfl⟩ := putAt_some h5
        refine tD_of R1 h4 fun kv H2 F2 R2 S2 rk => ?_
        cases rk
        obtain ⟨o, g1, l, xv, g2, g3, g4⟩ := R2.at_ i _ h6
        rw [hw] at g1; cases g1; cases g2
        refine ⟨l, xv, j, n, rfl, rfl, g3.at_, by rw [g4.length]; exact h7, ?_⟩
        obtain ⟨R3, S3⟩ := R2.write (r := 0) (o' := .lst (xv.set n v)) (s' := .lst (xs.set n d)) h6 g3 (fun o _ z => by
          obtain ⟨l2, x2, e2, o2, _⟩ := z
          have : l2 = l := g3.uq l2 o2.own1
          subst this
          exact ⟨l2, _, e2, ⟨o2.own1, o2.uq, upd_same⟩, g4.set (rv.mono S2.s1) n⟩) rfl
        exact h σ _ F2 ow R3 (S1.s1.trans S2.s1)
      · subst h5
        exact tD_of R1 h4 (xGo.step (xGo_of h) S1)
    · rw [if_neg hh] at h3; cases h3
  · subst h3
    exact tD_of R h2 (xGo_of h)
end
end DL

/-! the data layer: what a def promises; its call -/
namespace DL
open PySem PySem.Spec PyProof.Rows L2
inductive Rf where
  | ok (r : Rv) (args : List Sl)
  | ex (x : Exn) (args : List Sl)
abbrev FS := List Sl → Option Rf
structure Ags (g : Gx) (F H : Hp) (ow : Ow) (vs : List V) (args : List Sl) : Prop where
  len : vs.length = args.length
  at_ : ∀ (i : Nat) s, args[i]? = some s → ∃ v, vs[i]? = some v ∧ SlAt g F H ow i (some v) s
structure Begin (g : Gx) (F H : Hp) (ow : Ow) (vs : List V) (args : List Sl) : Prop where
  a : Ags g F H ow vs args
  sm : Same F H
  own : ∀ a p, ow a = some p → H a ≠ none ∧ F a = none
  e8 : ∀ a p, ow a = some p → ∃ s, args[p.1]? = some s ∧ s.owns = true
/-- what is left of the arguments -/
structure Left (args args' : List Sl) : Prop where
  len : args'.length = args.length
  own : ∀ (i : Nat) s s', args[i]? = some s → args'[i]? = some s' → s'.owns = s.owns
def spEnd (g : Gx) (F H : Hp) (ow : Ow) (vs : List V) (args : List Sl) (Q : VK) (E : XK) : Rf → Prop
  | .ok rv args' => ∀ v H' F', Stp F H ow F' H' → Same F' H' → Ags g F' H' ow vs args' → Left args args' → RvAt g H F' H' v rv → Q v H'
  | .ex x args' => ∀ cls d H' F', Stp F H ow F' H' → Same F' H' → Ags g F' H' ow vs args' → Left args args' → ExAt g x cls d H' → E cls d H'
/-- a def's promise: it does f -/
def spG (g : Gx) (np : Nat) (f : FS) : Sp := fun vs H Q E => ∃ F ow args, Begin g F H ow vs args ∧ args.length = np ∧ ∃ r, f args = some r ∧ spEnd g F H ow vs args Q E r
def fin1 (a e : Sl) : Option Sl := match a, e with
  | .lst _, .lst ds => some (.lst ds)
  | .book _, .book ds => some (.book ds)
  | .lst _, _ => none
  | .book _, _ => none
  | a, _ => some a
def fin : List Sl → En → Option (List Sl)
  | a :: as, e :: es => match fin1 a e with
    | some s => (fin as es).map (s :: ·)
    | none => none
  | [], _ => some []
  | _ :: _, [] => none
/-- a body's effect as a def's -/
def bodyF (n : Nat) (m : M O) : FS := fun args => match m (args ++ List.replicate n .non) with
  | some (.ok (.rt rv) e) => (fin args e).map (Rf.ok rv)
  | some (.ok .nx e) => (fin args e).map (Rf.ok (.dat .none))
  | some (.ex x e) => (fin args e).map (Rf.ex x)
  | _ => none
theorem fin_get : ∀ {as : List Sl} {es : En} {r : List Sl}, fin as es = some r → r.length = as.length ∧ ∀ (i : Nat) s s', as[i]? = some s → r[i]? = some s' → ∃ e, es[i]? = some e ∧ fin1 s e = some s'
  | [], es, r, h => by unfold fin at h; cases h; exact ⟨rfl, fun i s s' e => by simp at e⟩
  | a :: as, [], r, h => by unfold fin at h; cases h
  | a :: as, e :: es, r, h => by
    unfold fin at h
    cases q : fin1 a e with
    | none => rw [q] at h; cases h
    | some z =>
      rw [q] at h
      obtain ⟨r', h1, h2⟩ := Option.map_eq_some_iff.mp h
      subst h2
      obtain ⟨l, k⟩ := fin_get h1
      refine ⟨by simp [l], fun i s s' h3 h4 => ?_⟩
      cases i with
      | zero => simp at h3 h4; subst h3 h4; exact ⟨e, rfl, q⟩
      | succ i => simp at h3 h4; obtain ⟨e', h5, h6⟩ := k i s s' h3 h4; exact ⟨e', by simpa using h5, h6⟩
theorem fin1_owns {a e s : Sl} (h : fin1 a e = some s) : s.owns = a.owns := by
  unfold fin1 at h
  split at h <;> first | (cases h; rfl) | cases h
section
variable {g : Gx} {F H : Hp} {ow : Ow} {vs : List V} {args : List Sl}
theorem start_get {N : List Str} {vs : List V} (i : Nat) : (start N vs)[i]? = if i < vs.length then vs[i]?.map some else (if i < N.length then some none else none) := by
  unfold L2.start
  by_cases h : i < vs.length
  · rw [if_pos h, List.getElem?_append_left (by simpa using h), List.getElem?_map]
  · rw [if_neg h, List.getElem?_append_right (by simpa using Nat.le_of_not_lt h), List.length_map, List.getElem?_replicate]
    by_cases h2 : i < N.length
    · rw [if_pos h2, if_pos (by omega)]
    · rw [if_neg h2, if_neg (by omega)]
theorem Begin.rep (B : Begin g F H ow vs args) {N : List Str} {n : Nat} (hn : N.length = args.length + n) : Rep ⟨g, F, H, ow, args.length⟩ F H (start N vs) (args ++ List.replicate n .non) ow where
  len := by
    unfold L2.start
    rw [List.length_append, List.length_append, List.length_map, List.length_replicate, List.length_replicate, B.a.len]
    omega
  at_ := fun i s e => by
    rw [start_get, B.a.len]
    by_cases hi : i < args.length
    · rw [List.getElem?_append_left hi] at e
      obtain ⟨v, h1, h2⟩ := B.a.at_ i s e
      refine ⟨some v, ?_, h2⟩
      rw [if_pos hi, h1]; rfl
    · rw [List.getElem?_append_right (Nat.le_of_not_lt hi), List.getElem?_replicate] at e
      split at e
      · cases e
        refine ⟨none, ?_, trivial⟩
        rw [if_neg hi, if_pos (by omega)]
      · cases e
  sm := B.sm
  own := B.own
  e1 := fun _ _ h _ => h
  e2 := Same.refl F
  e3 := fun _ _ => rfl
  e4 := fun _ _ h => h
  e5 := fun _ _ h _ => h
  e6 := fun _ h => h
  e7 := fun b p h => by
    obtain ⟨s, h1, _⟩ := B.e8 b p h
    exact ⟨(List.getElem?_eq_some_iff.mp h1).1, (B.own b p h).1⟩
  e8 := fun a p h => by
    obtain ⟨s, h1, h2⟩ := B.e8 a p h
    exact ⟨s, by rw [List.getElem?_append_left (List.getElem?_eq_some_iff.mp h1).1]; exact h1, h2⟩
/-- what a body leaves of the arguments -/
theorem Begin.ends (B : Begin g F H ow vs args) {F' H' : Hp} {σ : L2.St} {env : En} {ow' : Ow} (R : Rep ⟨g, F, H, ow, args.length⟩ F' H' σ env ow') {as : List Sl} (h : fin args env = some as) :
    Stp F H ow F' H' ∧ Ags g F' H' ow vs as ∧ Left args as := by
  obtain ⟨hl, hk⟩ := fin_get h
  refine ⟨⟨R.e2, R.e1, R.e3, R.e6⟩, ⟨B.a.len.trans hl.symm, fun i s e => ?_⟩, ⟨hl, fun i s s' h1 h2 => ?_⟩⟩
  · have hi : i < args.length := by rw [← hl]; exact (List.getElem?_eq_some_iff.mp e).1
    have ha := List.getElem?_eq_getElem hi
    obtain ⟨t, ht, f1⟩ := hk i _ s ha e
    obtain ⟨v, hv, q⟩ := B.a.at_ i _ ha
    refine ⟨v, hv, ?_⟩
    obtain ⟨o, ho, q'⟩ := R.at_ i t ht
    generalize args[i] = a at f1 q
    have own2 : ∀ {r l o1 l' o2}, Owns H ow i r l o1 → Owns H' ow' i r l' o2 → l' = l ∧ Owns H' ow i r l o2 := fun {r l o1 l' o2} z z' => by
      have e1 := z'.uq l (R.e4 l _ z.own1)
      subst e1
      exact ⟨rfl, z.own1, z.uq, z'.at_⟩
    cases a with
    | lst ds0 => cases t with
      | lst ds =>
        cases f1
        obtain ⟨l, xs, e1, o1, r1⟩ := q
        obtain ⟨l', xs', e2, o2, r2⟩ := q'
        obtain ⟨z1, z2⟩ := own2 o1 o2
        exact ⟨l, xs', e1, z2, r2⟩
      | _ => cases f1
    | book ds0 => cases t with
      | book ds =>
        cases f1
        obtain ⟨b, dx, l, xs, e1, o1, p1, r1⟩ := q
        obtain ⟨b', dx', l', xs', e2, o2, p2, r2⟩ := q'
        obtain ⟨z1, z2⟩ := own2 o1 o2
        obtain ⟨z3, z4⟩ := own2 p1 p2
        subst z3
        exact ⟨b, dx', l', xs', e1, z2, z4, r2⟩
      | _ => cases f1
    | non => cases t <;> (cases f1; trivial)
    | dat d =>
      have es : s = .dat d := by cases t <;> (cases f1; rfl)
      subst es
      obtain ⟨v, e, r⟩ := q; exact ⟨v, e, r.mono R.e2⟩
    | exn x =>
      have es : s = .exn x := by cases t <;> (cases f1; rfl)
      subst es
      obtain ⟨b, e, r⟩ := q; exact ⟨b, e, R.e2 _ _ r⟩
    | scr ns =>
      have es : s = .scr ns := by cases t <;> (cases f1; rfl)
      subst es
      obtain ⟨b, e, r⟩ := q; exact ⟨b, e, R.e2.seq r⟩
  · obtain ⟨e, _, h4⟩ := hk i s s' h1 h2
    exact fin1_owns h4
/-- from the promise to the body's reading -/
theorem body_of {m : M O} {n np : Nat} {N : List Str} {vs : List V} {H : Hp} {Q : VK} {E : XK} (hN : N.length = np + n) (h : spG g np (bodyF n m) vs H Q E) :
    ∃ Γ : Cn, Γ.g = g ∧ Γ.np = np ∧ tS Γ (fun cls d _ H' => E cls d H') m { nx := fun _ H' => Q .non H', rt := Q } (start N vs) H := by
  obtain ⟨F, ow, args, B, hl, r, e, q⟩ := h
  subst hl
  refine ⟨⟨g, F, H, ow, args.length⟩, rfl, rfl, _, F, ow, B.rep hN, ?_⟩
  unfold bodyF at e
  cases z : m (args ++ List.replicate n .non) with
  | none => rw [z] at e; cases e
  | some w =>
    rw [z] at e
    refine ⟨w, rfl, ?_⟩
    cases w with
    | ex x e' =>
      obtain ⟨as, h1, h2⟩ := Option.map_eq_some_iff.mp e
      subst h2
      intro cls d σ H' F' ow' R X
      obtain ⟨a, b, c⟩ := B.ends R h1
      exact q cls d H' F' a R.sm b c X
    | ok o e' => cases o with
      | nx =>
        obtain ⟨as, h1, h2⟩ := Option.map_eq_some_iff.mp e
        subst h2
        intro σ H' F' ow' R _
        obtain ⟨a, b, c⟩ := B.ends R h1
        exact q .non H' F' a R.sm b c .non
      | rt rv =>
        obtain ⟨as, h1, h2⟩ := Option.map_eq_some_iff.mp e
        subst h2
        intro v σ H' F' ow' R rr
        obtain ⟨a, b, c⟩ := B.ends R h1
        exact q v H' F' a R.sm b c rr
      | bk => cases e
      | ct => cases e
end
/-! ### the call -/
def slotsOf (e : En) : List Opd → List (Option D) → Option (List Sl)
  | .sl i :: os, _ :: as => match e[i]? with
    | some .non => none
    | some s => (slotsOf e os as).map (s :: ·)
    | none => none
  | .ex _ :: os, some d :: as => (slotsOf e os as).map (.dat d :: ·)
  | [], _ => some []
  | _, _ => none
def ownIx (e : En) : List Opd → List Nat
  | .sl i :: os => match e[i]? with
    | some s => if s.owns = true then i :: ownIx e os else ownIx e os
    | none => ownIx e os
  | .ex _ :: os => ownIx e os
  | [] => []
def backS (e : En) : List Opd → List Sl → En
  | .sl i :: os, s :: ss => if s.owns = true then (backS e os ss).set i s else backS e os ss
  | .ex _ :: os, _ :: ss => backS e os ss
  | _, _ => e
def findSl : List Opd → Nat → Option Nat
  | .sl j :: os, i => if j = i then some 0 else (findSl os i).map (· + 1)
  | .ex _ :: os, i => (findSl os i).map (· + 1)
  | [], _ => none
def owC (os : List Opd) (ow : Ow) : Ow := fun a => match ow a with
  | some p => (findSl os p.1).map fun k => (k, p.2)
  | none => none
def callV (f : FS) (os : List Opd) : M Rv := M.bind (runA os) fun as e => match slotsOf e os as with
  | some ss => if (ownIx e os).Nodup then (match f ss with
    | some (.ok rv ss') => some (.ok rv (backS e os ss'))
    | some (.ex x ss') => some (.ex x (backS e os ss'))
    | none => none) else none
  | none => none
theorem findSl_get : ∀ {os : List Opd} {i k : Nat}, findSl os i = some k → ∃ m, os[k]? = some (.sl m) ∧ m = i
  | .sl j :: os, i, k, h => by
    unfold findSl at h
    split at h
    · rename_i e; cases h; exact ⟨j, rfl, e⟩
    · obtain ⟨k', h1, h2⟩ := Option.map_eq_some_iff.mp h
      subst h2
      obtain ⟨m, h3, h4⟩ := findSl_get h1
      exact ⟨m, by simpa using h3, h4⟩
  | .ex _ :: os, i, k, h => by
    unfold findSl at h
    obtain ⟨k', h1, h2⟩ := Option.map_eq_some_iff.mp h
    subst h2
    obtain ⟨m, h3, h4⟩ := findSl_get h1
    exact ⟨m, by simpa using h3, h4⟩
  | [], i, k, h => by unfold findSl at h; cases h
theorem ownIx_mem {e : En} : ∀ {os : List Opd} {i : Nat}, i ∈ ownIx e os → (∃ s, e[i]? = some s ∧ s.owns = true) ∧ ∃ k : Nat, os[k]? = some (.sl i)
  | .sl j :: os, i, h => by
    have next : i ∈ ownIx e os → (∃ s, e[i]? = some s ∧ s.owns = true) ∧ ∃ k : Nat, (Opd.sl j :: os)[k]? = some (.sl i) := fun h => by
      obtain ⟨a, k, b⟩ := ownIx_mem h
      exact ⟨a, k + 1, by simpa using b⟩
    unfold ownIx at h
    cases q : e[j]? with
    | none => rw [q] at h; exact next h
    | some s =>
      rw [q] at h
      dsimp only at h
      split at h
      · rename_i hs
        rcases List.mem_cons.mp h with rfl | h
        · exact ⟨⟨s, q, hs⟩, 0, rfl⟩
        · exact next h
      · exact next h
  | .ex _ :: os, i, h => by
    unfold ownIx at h
    obtain ⟨a, k, b⟩ := ownIx_mem h
    exact ⟨a, k + 1, by simpa using b⟩
  | [], i, h => by unfold ownIx at h; cases h
/-- an owning slot that is handed in stands at one place alone -/
theorem findSl_own {e : En} : ∀ {os : List Opd} {i k : Nat} {s : Sl}, (ownIx e os).Nodup → os[k]? = some (.sl i) → e[i]? = some s → s.owns = true → findSl os i = some k
  | .sl j :: os, i, 0, s, h, hk, he, ho => by
    simp at hk
    unfold findSl; rw [if_pos hk]
  | .sl j :: os, i, k + 1, s, h, hk, he, ho => by
    have hk' : os[k]? = some (.sl i) := by simpa using hk
    have mem : ∀ {os : List Opd} {k : Nat}, os[k]? = some (.sl i) → i ∈ ownIx e os := fun {os} => by
      induction os with
      | nil => intro k h; simp at h
      | cons o os ih =>
        intro k h
        cases k with
        | zero =>
          simp at h; subst h
          unfold ownIx; rw [he]; dsimp only; rw [if_pos ho]; exact List.mem_cons_self
        | succ k =>
          have z := ih (k := k) (by simpa using h)
          cases o with
          | ex m => unfold ownIx; exact z
          | sl j =>
            unfold ownIx
            cases e[j]? with
            | none => exact z
            | some t => dsimp only; split; exact List.mem_cons_of_mem _ z; exact z
    have hm := mem hk'
    unfold ownIx at h
    by_cases hj : j = i
    · subst hj
      rw [he] at h
      dsimp only at h
      rw [if_pos ho] at h
      exact absurd hm (List.nodup_cons.mp h).1
    · have hn : (ownIx e os).Nodup := by
        cases q : e[j]? with
        | none => rw [q] at h; exact h
        | some t =>
          rw [q] at h
          dsimp only at h
          split at h
          · exact (List.nodup_cons.mp h).2
          · exact h
      unfold findSl
      rw [if_neg hj, findSl_own hn hk' he ho]
      rfl
  | .ex m :: os, i, 0, s, h, hk, he, ho => by simp at hk
  | .ex m :: os, i, k + 1, s, h, hk, he, ho => by
    unfold ownIx at h
    unfold findSl
    rw [findSl_own h (by simpa using hk) he ho]
    rfl
  | [], i, k, s, h, hk, he, ho => by simp at hk
section
variable {Γ : Cn} {W : WX} {F H : Hp} {σ : L2.St} {env : En} {ow : Ow} {X : Cx}
theorem Owns.toC {os : List Opd} {i k r : Nat} {l : Addr} {o : HO} (q : Owns H ow i r l o) (hf : findSl os i = some k) (hk : os[k]? = some (.sl i)) : Owns H (owC os ow) k r l o where
  own1 := by unfold owC; rw [q.own1]; dsimp only; rw [hf]; rfl
  uq := fun a ha => by
    unfold owC at ha
    cases z : ow a with
    | none => rw [z] at ha; cases ha
    | some p =>
      rw [z] at ha
      obtain ⟨k', h1, h2⟩ := Option.map_eq_some_iff.mp ha
      obtain ⟨m, h3, h4⟩ := findSl_get h1
      cases h2
      rw [hk] at h3
      cases h3
      exact q.uq a (by rw [z, h4])
  at_ := q.at_
theorem Owns.ofC {os : List Opd} {i k r : Nat} {l l' : Addr} {o o' : HO} {H' : Hp} (q : Owns H ow i r l o) (hf : findSl os i = some k) (q' : Owns H' (owC os ow) k r l' o') : l' = l ∧ Owns H' ow i r l o' := by
  have e : (owC os ow) l = some (k, r) := by unfold owC; rw [q.own1]; dsimp only; rw [hf]; rfl
  have := q'.uq l e
  subst this
  exact ⟨rfl, q.own1, q.uq, q'.at_⟩
/-- the callee's arguments -/
theorem Rep.args (R : Rep Γ F H σ env ow) : ∀ {os : List Opd} {as : List (Option D)} {vs : List V} {ss : List Sl}, AtA Γ.g.K F σ os as vs → slotsOf env os as = some ss →
    vs.length = ss.length ∧ os.length = ss.length ∧ ∀ (k : Nat) s, ss[k]? = some s → ∃ v, vs[k]? = some v ∧ ((∃ i, os[k]? = some (.sl i) ∧ env[i]? = some s ∧ σ[i]? = some (some v)) ∨ (∃ d, s = .dat d ∧ Rp Γ.g.K F v d))
  | _, _, _, _, .nil, e => by unfold slotsOf at e; cases e; exact ⟨rfl, rfl, fun k s h => by simp at h⟩
  | _, _, _, ss, .sl (i := i) (os := os) (as := as) (v := v) h t, e => by
    unfold slotsOf at e
    cases q : env[i]? with
    | none => rw [q] at e; cases e
    | some s =>
      rw [q] at e
      have e' : (slotsOf env os as).map (s :: ·) = some ss := by
        cases s with
        | non => cases e
        | _ => exact e
      obtain ⟨r, h1, h2⟩ := Option.map_eq_some_iff.mp e'
      subst h2
      obtain ⟨l1, l2, k1⟩ := R.args t h1
      refine ⟨by simp [l1], by simp [l2], fun k s' hk => ?_⟩
      cases k with
      | zero => simp at hk; subst hk; exact ⟨v, rfl, Or.inl ⟨i, rfl, q, h⟩⟩
      | succ k => simp only [List.getElem?_cons_succ] at hk ⊢; exact k1 k s' hk
  | _, _, _, ss, .ex (d := d) (os := os) (as := as) (v := v) h t, e => by
    unfold slotsOf at e
    obtain ⟨r, h1, h2⟩ := Option.map_eq_some_iff.mp e
    subst h2
    obtain ⟨l1, l2, k1⟩ := R.args t h1
    refine ⟨by simp [l1], by simp [l2], fun k s' hk => ?_⟩
    cases k with
    | zero => simp at hk; subst hk; exact ⟨v, rfl, Or.inr ⟨d, rfl, h⟩⟩
    | succ k => simp only [List.getElem?_cons_succ] at hk ⊢; exact k1 k s' hk
theorem Rep.begin (R : Rep Γ F H σ env ow) {os : List Opd} {as : List (Option D)} {vs : List V} {ss : List Sl} (A : AtA Γ.g.K F σ os as vs) (e : slotsOf env os as = some ss) (nd : (ownIx env os).Nodup) :
    Begin Γ.g F H (owC os ow) vs ss := by
  obtain ⟨l1, l2, k1⟩ := R.args A e
  refine ⟨⟨l1, fun k s hk => ?_⟩, R.sm, fun a p ha => ?_, fun a p ha => ?_⟩
  · obtain ⟨v, hv, z⟩ := k1 k s hk
    refine ⟨v, hv, ?_⟩
    rcases z with ⟨i, h1, h2, h3⟩ | ⟨d, rfl, h3⟩
    · obtain ⟨o, h4, h5⟩ := R.at_ i s h2
      rw [h3] at h4; cases h4
      by_cases ho : s.owns = true
      · have hf := findSl_own nd h1 h2 ho
        cases s with
        | lst ds => obtain ⟨l, xs, e, q, r⟩ := h5; exact ⟨l, xs, e, q.toC hf h1, r⟩
        | book ds => obtain ⟨b, dx, l, xs, e, q1, q2, r⟩ := h5; exact ⟨b, dx, l, xs, e, q1.toC hf h1, q2.toC hf h1, r⟩
        | _ => cases ho
      · cases s with
        | non => trivial
        | dat d => exact h5
        | exn x => exact h5
        | scr ns => exact h5
        | lst ds => exact absurd rfl ho
        | book ds => exact absurd rfl ho
    · exact ⟨v, rfl, h3⟩
  · unfold owC at ha
    cases z : ow a with
    | none => rw [z] at ha; cases ha
    | some q => exact R.own a q z
  · unfold owC at ha
    cases z : ow a with
    | none => rw [z] at ha; cases ha
    | some q =>
      rw [z] at ha
      obtain ⟨k, h1, h2⟩ := Option.map_eq_some_iff.mp ha
      subst h2
      obtain ⟨m, h3, rfl⟩ := findSl_get h1
      obtain ⟨s, h4, h5⟩ := R.e8 a q z
      -- the slot that is handed in at k
      have hlt : k < ss.length := by rw [← l2]; exact (List.getElem?_eq_some_iff.mp h3).1
      obtain ⟨v, hv, y⟩ := k1 k _ (List.getElem?_eq_getElem hlt)
      refine ⟨s, ?_, h5⟩
      have key : ∀ {os : List Opd} {as : List (Option D)} {vs : List V} {ss : List Sl} {k : Nat}, AtA Γ.g.K F σ os as vs → slotsOf env os as = some ss → os[k]? = some (.sl q.1) → ss[k]? = some s := fun {os as vs ss k} A e hk => by
        induction A generalizing ss k with
        | nil => simp at hk
        | @sl i os as v vs h t ih =>
          unfold slotsOf at e
          cases w : env[i]? with
          | none => rw [w] at e; cases e
          | some t' =>
            rw [w] at e
            have e' : (slotsOf env os as).map (t' :: ·) = some ss := by
              cases t' with
              | non => cases e
              | _ => exact e
            obtain ⟨r, g1, g2⟩ := Option.map_eq_some_iff.mp e'
            subst g2
            cases k with
            | zero => simp at hk; subst hk; rw [h4] at w; cases w; rfl
            | succ k => simpa using ih g1 (by simpa using hk)
        | @ex m d os as v vs h t ih =>
          unfold slotsOf at e
          obtain ⟨r, g1, g2⟩ := Option.map_eq_some_iff.mp e
          subst g2
          cases k with
          | zero => simp at hk
          | succ k => simpa using ih g1 (by simpa using hk)
      exact key A e h3
theorem backS_len {e : En} : ∀ (os : List Opd) (ss : List Sl), (backS e os ss).length = e.length
  | [], _ => by unfold backS; rfl
  | .sl i :: os, [] => by unfold backS; rfl
  | .ex _ :: os, [] => by unfold backS; rfl
  | .sl i :: os, s :: ss => by
    unfold backS
    split
    · rw [List.length_set, backS_len os ss]
    · exact backS_len os ss
  | .ex _ :: os, _ :: ss => by unfold backS; exact backS_len os ss
/-- a slot behind a call: what the call left of it, or as it was -/
theorem backS_get {e : En} : ∀ {os : List Opd} {ss ss' : List Sl} (j : Nat), os.length = ss.length → ss'.length = ss.length → (∀ (k : Nat) s s', ss[k]? = some s → ss'[k]? = some s' → s'.owns = s.owns) →
    (∀ (k : Nat) i s, os[k]? = some (.sl i) → ss[k]? = some s → e[i]? = some s) → (ownIx e os).Nodup →
    (∃ k : Nat, findSl os j = some k ∧ (∃ s, e[j]? = some s ∧ s.owns = true) ∧ (backS e os ss')[j]? = ss'[k]? ∧ k < ss.length) ∨ ((¬ ∃ k : Nat, findSl os j = some k ∧ ∃ s, e[j]? = some s ∧ s.owns = true) ∧ (backS e os ss')[j]? = e[j]?)
  | [], _, ss', j, _, _, _, _, _ => Or.inr ⟨fun ⟨k, h, _⟩ => (by unfold findSl at h; cases h), (by unfold backS; rfl)⟩
  | .sl i :: os, [], _, _, h, _, _, _, _ => by simp at h
  | .ex _ :: os, [], _, _, h, _, _, _, _ => by simp at h
  | .sl i :: os, s :: ss, [], _, _, h, _, _, _ => by simp at h
  | .ex _ :: os, s :: ss, [], _, _, h, _, _, _ => by simp at h
  | .ex m :: os, s :: ss, s' :: ss', j, h1, h2, h3, h4, nd => by
    have nd' : (ownIx e os).Nodup := by unfold ownIx at nd; exact nd
    rcases backS_get (os := os) (ss := ss) (ss' := ss') j (by simpa using h1) (by simpa using h2) (fun k a b x y => h3 (k + 1) a b (by simpa using x) (by simpa using y)) (fun k a b x y => h4 (k + 1) a b (by simpa using x) (by simpa using y)) nd' with ⟨k, a, b, c, d⟩ | ⟨a, b⟩
    · exact Or.inl ⟨k + 1, by unfold findSl; rw [a]; rfl, b, by unfold backS; simpa using c, by simpa using d⟩
    · refine Or.inr ⟨fun ⟨k, x, y⟩ => ?_, by unfold backS; exact b⟩
      unfold findSl at x
      obtain ⟨k', x1, _⟩ := Option.map_eq_some_iff.mp x
      exact a ⟨k', x1, y⟩
  | .sl i :: os, s :: ss, s' :: ss', j, h1, h2, h3, h4, nd => by
    have hi : e[i]? = some s := h4 0 i s rfl rfl
    have ho : s'.owns = s.owns := h3 0 s s' rfl rfl
    have nd' : (ownIx e os).Nodup := by
      unfold ownIx at nd
      rw [hi] at nd
      dsimp only at nd
      split at nd
      · exact (List.nodup_cons.mp nd).2
      · exact nd
    have ih := backS_get (os := os) (ss := ss) (ss' := ss') j (by simpa using h1) (by simpa using h2) (fun k a b x y => h3 (k + 1) a b (by simpa using x) (by simpa using y)) (fun k a b x y => h4 (k + 1) a b (by simpa using x) (by simpa using y)) nd'
    unfold backS
    by_cases hs : s.owns = true
    · rw [if_pos (ho.trans hs)]
      by_cases hj : i = j
      · subst hj
        refine Or.inl ⟨0, by unfold findSl; rw [if_pos rfl], ⟨s, hi, hs⟩, ?_, by simp⟩
        rw [List.getElem?_set_self (by rw [backS_len]; exact (List.getElem?_eq_some_iff.mp hi).1)]
        rfl
      · rw [List.getElem?_set_ne hj]
        rcases ih with ⟨k, a, b, c, d⟩ | ⟨a, b⟩
        · exact Or.inl ⟨k + 1, by unfold findSl; rw [if_neg hj, a]; rfl, b, by simpa using c, by simpa using d⟩
        · refine Or.inr ⟨fun ⟨k, x, y⟩ => ?_, b⟩
          unfold findSl at x
          rw [if_neg hj] at x
          obtain ⟨k', x1, _⟩ := Option.map_eq_some_iff.mp x
          exact a ⟨k', x1, y⟩
    · rw [if_neg (fun z => hs (ho ▸ z))]
      by_cases hj : i = j
      · subst hj
        have no : ¬ ∃ s, e[i]? = some s ∧ s.owns = true := fun ⟨t, x, y⟩ => by rw [hi] at x; cases x; exact hs y
        rcases ih with ⟨k, a, b, c, d⟩ | ⟨a, b⟩
        · exact absurd b no
        · exact Or.inr ⟨fun ⟨k, x, y⟩ => no y, b⟩
      · rcases ih with ⟨k, a, b, c, d⟩ | ⟨a, b⟩
        · exact Or.inl ⟨k + 1, by unfold findSl; rw [if_neg hj, a]; rfl, b, by simpa using c, by simpa using d⟩
        · refine Or.inr ⟨fun ⟨k, x, y⟩ => ?_, b⟩
          unfold findSl at x
          rw [if_neg hj] at x
          obtain ⟨k', x1, _⟩ := Option.map_eq_some_iff.mp x
          exact a ⟨k', x1, y⟩
/-- the caller behind the call -/
theorem Rep.after (R : Rep Γ F H σ env ow) {os : List Opd} {as : List (Option D)} {vs : List V} {ss ss' : List Sl} {F' H' : Hp} (A : AtA Γ.g.K F σ os as vs) (e : slotsOf env os as = some ss) (nd : (ownIx env os).Nodup)
    (S : Stp F H (owC os ow) F' H') (sm : Same F' H') (B : Ags Γ.g F' H' (owC os ow) vs ss') (L : Left ss ss') : Rep Γ F' H' σ (backS env os ss') ow ∧ Stp F H ow F' H' := by
  obtain ⟨l1, l2, k1⟩ := R.args A e
  have sl : ∀ (k : Nat) i s, os[k]? = some (.sl i) → ss[k]? = some s → env[i]? = some s ∧ ∃ v, vs[k]? = some v ∧ σ[i]? = some (some v) := by
    have key : ∀ {os : List Opd} {as : List (Option D)} {vs : List V} {ss : List Sl}, AtA Γ.g.K F σ os as vs → slotsOf env os as = some ss → ∀ (k : Nat) i s, os[k]? = some (.sl i) → ss[k]? = some s → env[i]? = some s ∧ ∃ v, vs[k]? = some v ∧ σ[i]? = some (some v) := fun {os as vs ss} A e => by
      induction A generalizing ss with
      | nil => intro k i s hk; simp at hk
      | @sl j os as v vs h t ih =>
        intro k i s hk hs
        unfold slotsOf at e
        cases w : env[j]? with
        | none => rw [w] at e; cases e
        | some t' =>
          rw [w] at e
          have e' : (slotsOf env os as).map (t' :: ·) = some ss := by
            cases t' with
            | non => cases e
            | _ => exact e
          obtain ⟨r, g1, g2⟩ := Option.map_eq_some_iff.mp e'
          subst g2
          cases k with
          | zero => simp at hk hs; subst hk hs; exact ⟨w, v, rfl, h⟩
          | succ k => simp only [List.getElem?_cons_succ] at hk hs ⊢; exact ih g1 k i s hk hs
      | @ex m d os as v vs h t ih =>
        intro k i s hk hs
        unfold slotsOf at e
        obtain ⟨r, g1, g2⟩ := Option.map_eq_some_iff.mp e
        subst g2
        cases k with
        | zero => simp at hk
        | succ k => simp only [List.getElem?_cons_succ] at hk hs ⊢; exact ih g1 k i s hk hs
    exact key A e
  have bg := fun j => backS_get (e := env) (os := os) (ss := ss) (ss' := ss') j l2 L.len L.own (fun k i s a b => (sl k i s a b).1) nd
  have un : ∀ b o, H b = some o → ow b = none → H' b = some o := fun b o h z => S.s2 b o h (by unfold owC; rw [z])
  refine ⟨⟨by rw [backS_len]; exact R.len, fun j s hj => ?_, sm, fun a p ha => ?_, fun b o h n => ?_, R.e2.trans S.s1, fun b h => (S.s3 b (R.e6 b h)).trans (R.e3 b h), R.e4, R.e5, fun b h => S.s4 b (R.e6 b h), R.e7, fun a p ha => ?_⟩, ⟨S.s1, un, S.s3, S.s4⟩⟩
  · rcases bg j with ⟨k, f1, ⟨s0, f2, f3⟩, f4, f5⟩ | ⟨f1, f2⟩
    · rw [f4] at hj
      obtain ⟨m, g1, rfl⟩ := findSl_get f1
      have hss := List.getElem?_eq_getElem f5
      obtain ⟨q1, v, q2, q3⟩ := sl k m _ g1 hss
      obtain ⟨v', q4, q5⟩ := B.at_ k s hj
      rw [q2] at q4; cases q4
      refine ⟨some v, q3, ?_⟩
      obtain ⟨o, p1, p2⟩ := R.at_ m s0 f2
      rw [q3] at p1; cases p1
      rw [f2] at q1
      have es : ss[k] = s0 := (Option.some.inj q1).symm
      have ho : s.owns = true := by rw [L.own k _ s hss hj, es]; exact f3
      cases s with
      | lst ds =>
        obtain ⟨l, xs, e1, o1, r1⟩ := q5
        cases e1
        cases s0 with
        | lst ds0 =>
          obtain ⟨l', xs', e2, o2, r2⟩ := p2
          obtain ⟨z1, z2⟩ := o2.ofC f1 o1
          subst z1
          exact ⟨_, xs, rfl, z2, r1⟩
        | book ds0 =>
          obtain ⟨b, dx, l', xs', e2, o2, o3, r2⟩ := p2
          obtain ⟨z1, z2⟩ := o2.ofC f1 o1
          subst z1
          exact ⟨_, xs, rfl, z2, r1⟩
        | _ => cases f3
      | book ds =>
        obtain ⟨b, dx, l, xs, e1, o1, w1, r1⟩ := q5
        cases e1
        cases s0 with
        | book ds0 =>
          obtain ⟨b', dx', l', xs', e2, o2, w2, r2⟩ := p2
          obtain ⟨z1, z2⟩ := o2.ofC f1 o1
          obtain ⟨z3, z4⟩ := w2.ofC f1 w1
          subst z1
          subst z3
          exact ⟨_, dx, _, xs, rfl, z2, z4, r1⟩
        | lst ds0 =>
          obtain ⟨l', xs', e2, o2, r2⟩ := p2
          obtain ⟨z1, z2⟩ := o2.ofC f1 o1
          subst z1
          have w3 : (owC os ow) l = some (k, 1) := w1.own1
          unfold owC at w3
          cases z : ow l with
          | none => rw [z] at w3; cases w3
          | some p =>
            rw [z] at w3
            obtain ⟨k', h1, h2⟩ := Option.map_eq_some_iff.mp w3
            obtain ⟨i', h3, h4⟩ := findSl_get h1
            obtain ⟨pa, pb⟩ := p
            cases h2
            rw [g1] at h3
            cases h3
            dsimp only at h4
            refine ⟨_, dx, l, xs, rfl, z2, ⟨by rw [z, h4], fun a ha => w1.uq a ?_, w1.at_⟩, r1⟩
            unfold owC
            rw [ha]
            dsimp only
            rw [f1]; rfl
        | _ => cases f3
      | _ => cases ho
    · rw [f2] at hj
      obtain ⟨o, p1, p2⟩ := R.at_ j s hj
      refine ⟨o, p1, ?_⟩
      by_cases ho : s.owns = true
      · have nf : ∀ r l o', Owns H ow j r l o' → Owns H' ow j r l o' := fun r l o' z => by
          refine ⟨z.own1, z.uq, S.s2 l o' z.at_ ?_⟩
          unfold owC
          rw [z.own1]
          dsimp only
          cases w : findSl os j with
          | none => rfl
          | some k => exact absurd ⟨k, w, s, hj, ho⟩ f1
        cases s with
        | lst ds => obtain ⟨l, xs, e, q, r⟩ := p2; exact ⟨l, xs, e, nf _ _ _ q, r.mono S.s1⟩
        | book ds => obtain ⟨b, dx, l, xs, e, q1, q2, r⟩ := p2; exact ⟨b, dx, l, xs, e, nf _ _ _ q1, nf _ _ _ q2, r.mono S.s1⟩
        | _ => cases ho
      · cases s with
        | non => trivial
        | dat d => obtain ⟨v, e, r⟩ := p2; exact ⟨v, e, r.mono S.s1⟩
        | exn x => obtain ⟨b, e, r⟩ := p2; exact ⟨b, e, S.s1 _ _ r⟩
        | scr ns => obtain ⟨b, e, r⟩ := p2; exact ⟨b, e, S.s1.seq r⟩
        | lst ds => exact absurd rfl ho
        | book ds => exact absurd rfl ho
  · obtain ⟨h1, h2⟩ := R.own a p ha
    exact ⟨S.s4 a h1, (S.s3 a h1).trans h2⟩
  · have q := R.e1 b o h n
    cases z : ow b with
    | none => exact un b o q z
    | some p =>
      have := R.e5 b p z (by rw [h]; exact fun z => nomatch z)
      rw [n] at this; cases this
  · obtain ⟨s, h1, h2⟩ := R.e8 a p ha
    rcases bg p.1 with ⟨k, f1, f2, f4, f5⟩ | ⟨f1, f2⟩
    · have hk : k < ss'.length := by rw [L.len]; exact f5
      refine ⟨ss'[k], by rw [f4, List.getElem?_eq_getElem hk], ?_⟩
      rw [L.own k _ _ (List.getElem?_eq_getElem f5) (List.getElem?_eq_getElem hk)]
      obtain ⟨m, g1, g2⟩ := findSl_get f1
      subst g2
      have := (sl k _ _ g1 (List.getElem?_eq_getElem f5)).1
      rw [h1] at this
      rw [← Option.some.inj this]; exact h2
    · exact ⟨s, by rw [f2]; exact h1, h2⟩
end
end DL

/-! the data layer: calls, what they hand back; freezing -/
namespace DL
open PySem PySem.Spec PyProof.Rows L2
section
variable {Γ : Cn} {W : WX} {F H : Hp} {σ : L2.St} {env : En} {ow : Ow} {X : Cx}
def RvN (Γ : Cn) (H F' H' : Hp) (ow : Ow) (v : V) : Rv → Prop
  | .dat d => Rp Γ.g.K F' v d
  | .lst ds => ∃ l vs, v = .ref l ∧ H l = none ∧ NewL Γ F' H' ow l vs ds
  | .book ds => ∃ b dx l vs, v = .ref b ∧ H b = none ∧ H l = none ∧ b ≠ l ∧ H' b = some (.ins Γ.g.cb dx [("row", .ref l)]) ∧ F' b = none ∧ ow b = none ∧ Γ.H0 b = none ∧ NewL Γ F' H' ow l vs ds
/-- the reading of an expression that hands out data, a new list or a new book -/
def tV (Γ : Cn) (W : WX) (m : M Rv) : TE := fun σ H Q => ∃ env F ow, Rep Γ F H σ env ow ∧ ∃ r, m env = some r ∧
  Out Γ W σ F H ow (fun rv e' => ∀ v H' F', Rep Γ F' H' σ e' ow → Stp F H ow F' H' → RvN Γ H F' H' ow v rv → Q v H') r
theorem tV_of {m : M Rv} {Q : VK} {r : Rs Rv} (R : Rep Γ F H σ env ow) (e : m env = some r)
    (h : Out Γ W σ F H ow (fun rv e' => ∀ v H' F', Rep Γ F' H' σ e' ow → Stp F H ow F' H' → RvN Γ H F' H' ow v rv → Q v H') r) : tV Γ W m σ H Q := ⟨env, F, ow, R, r, e, h⟩
def datM (m : M Rv) : M D := M.bind m fun rv e => match rv with
  | .dat d => some (.ok d e)
  | _ => none
def lstM (m : M Rv) : M (List D) := M.bind m fun rv e => match rv with
  | .lst ds => some (.ok ds e)
  | _ => none
theorem tV_dat {m : M Rv} {Q : VK} (h : tD Γ W (datM m) σ H Q) : tV Γ W m σ H Q := by
  obtain ⟨env, F, ow, R, r, e, h⟩ := h
  rcases M.bind_some e with ⟨rv, e1, h1, h2⟩ | ⟨x, e1, h1, h2⟩
  · cases rv with
    | dat d => cases h2; exact tV_of R h1 h
    | _ => cases h2
  · subst h2
    exact tV_of R h1 h
theorem tV_lst {m : M Rv} {Q : VK} (h : tL Γ W (lstM m) σ H Q) : tV Γ W m σ H Q := by
  obtain ⟨env, F, ow, R, r, e, h⟩ := h
  rcases M.bind_some e with ⟨rv, e1, h1, h2⟩ | ⟨x, e1, h1, h2⟩
  · cases rv with
    | lst ds =>
      cases h2
      refine tV_of R h1 fun v H' F' R' S z => ?_
      obtain ⟨l, vs, rfl, hl, n⟩ := z
      exact h l vs H' F' R' S hl n
    | _ => cases h2
  · subst h2
    exact tV_of R h1 h
theorem e_dat {e : Expr} {m : M Rv} (h : PE X e (tV Γ W m)) : PE X e (tD Γ W (datM m)) := PE.by h fun _ _ _ q => tV_dat q
theorem e_lst {e : Expr} {m : M Rv} (h : PE X e (tV Γ W m)) : PE X e (tL Γ W (lstM m)) := PE.by h fun _ _ _ q => tV_lst q
theorem call_some {f : FS} {os : List Opd} {as : List (Option D)} {e : En} {r : Rs Rv} (h : (match slotsOf e os as with
  | some ss => if (ownIx e os).Nodup then (match f ss with
    | some (.ok rv ss') => some (.ok rv (backS e os ss'))
    | some (.ex x ss') => some (.ex x (backS e os ss'))
    | none => none) else none
  | none => none) = some r) : ∃ ss, slotsOf e os as = some ss ∧ (ownIx e os).Nodup ∧ ∃ q, f ss = some q ∧ ((∃ rv ss', q = .ok rv ss' ∧ r = .ok rv (backS e os ss')) ∨ (∃ x ss', q = .ex x ss' ∧ r = .ex x (backS e os ss'))) := by
  cases h1 : slotsOf e os as with
  | none => rw [h1] at h; cases h
  | some ss =>
    rw [h1] at h
    dsimp only at h
    split at h
    · rename_i nd
      cases h2 : f ss with
      | none => rw [h2] at h; cases h
      | some q =>
        rw [h2] at h
        cases q with
        | ok rv ss' => cases h; exact ⟨ss, rfl, nd, _, h2, Or.inl ⟨rv, ss', rfl, rfl⟩⟩
        | ex x ss' => cases h; exact ⟨ss, rfl, nd, _, h2, Or.inr ⟨x, ss', rfl, rfl⟩⟩
    · cases h
/-- from the arguments' reading to the promise's -/
theorem call_go {f : FS} {os : List Opd} {Q : VK} (h : tV Γ W (callV f os) σ H Q) : tAs Γ W os σ H fun vs H1 => spG Γ.g os.length f vs H1 Q (WE W σ) := by
  obtain ⟨env, F, ow, R, r, e, h⟩ := h
  rcases M.bind_some e with ⟨as, e1, h1, h2⟩ | ⟨x, e1, h1, h2⟩
  · obtain ⟨ss, g1, g2, q, g3, g4⟩ := call_some h2
    refine tAs_of os R h1 fun vs H1 F1 R1 S1 A => ?_
    have B := R1.begin A g1 g2
    refine ⟨F1, owC os ow, ss, B, (R1.args A g1).2.1.symm, q, g3, ?_⟩
    rcases g4 with ⟨rv, ss', rfl, rfl⟩ | ⟨x, ss', rfl, rfl⟩
    · intro v H' F' S sm B' L rr
      obtain ⟨R2, S2⟩ := R1.after A g1 g2 S sm B' L
      refine h v H' F' R2 (S1.trans S2) ?_
      cases rv with
      | dat d => exact rr
      | lst ds =>
        obtain ⟨l, xs, rfl, n1, n2, n3, n4⟩ := rr
        exact ⟨l, xs, rfl, S1.none n1, n3, n2, R1.ow0 n1, R1.h0 n1, n4⟩
      | book ds =>
        obtain ⟨b, dx, l, xs, rfl, n1, n2, n3, n4, n5, n6, n7, n8⟩ := rr
        exact ⟨b, dx, l, xs, rfl, S1.none n1, S1.none n2, n3, n6, n4, R1.ow0 n1, R1.h0 n1, n7, n5, R1.ow0 n2, R1.h0 n2, n8⟩
    · intro cls d H' F' S sm B' L xx
      obtain ⟨R2, S2⟩ := R1.after A g1 g2 S sm B' L
      exact h cls d H' F' R2 (S1.trans S2) xx
  · subst h2
    exact tAs_of os R h1 h
/-- defaults behind the written arguments -/
def withDef (ds : List D) (f : FS) : FS := fun ss => match f (ss ++ ds.map Sl.dat) with
  | some (.ok rv a) => some (.ok rv (a.take ss.length))
  | some (.ex x a) => some (.ex x (a.take ss.length))
  | none => none
theorem RpA.all_get {K : Kf} {vs : List V} {ds : List D} (r : RpA K F vs ds) (i : Nat) (s : Sl) (h : (ds.map Sl.dat)[i]? = some s) : ∃ v d, vs[i]? = some v ∧ s = .dat d ∧ Rp K F v d := by
  rw [List.getElem?_map] at h
  obtain ⟨d, h1, h2⟩ := Option.map_eq_some_iff.mp h
  obtain ⟨v, h3, h4⟩ := r.get' h1
  exact ⟨v, d, h3, h2.symm, h4⟩
theorem Ags.take {g : Gx} {vs ws : List V} {args : List Sl} {n : Nat} (h : Ags g F H ow (vs ++ ws) args) (hv : vs.length = n) : Ags g F H ow vs (args.take n) where
  len := by
    have l := h.len
    rw [List.length_append] at l
    rw [List.length_take]; omega
  at_ := fun i s e => by
    rw [List.getElem?_take] at e
    split at e
    · rename_i hi
      obtain ⟨v, h1, h2⟩ := h.at_ i s e
      exact ⟨v, by rw [← h1, List.getElem?_append_left (by omega)], h2⟩
    · cases e
theorem spG_def {g : Gx} {np : Nat} {f : FS} {vs dvs : List V} {ds : List D} {Q : VK} {E : XK} (hd : ∀ F, RpA g.K F dvs ds) (h : spG g np (withDef ds f) vs H Q E) : spG g (np + ds.length) f (vs ++ dvs) H Q E := by
  obtain ⟨F, ow, args, B, hl, r, e, q⟩ := h
  unfold withDef at e
  have hlv : vs.length = args.length := B.a.len
  refine ⟨F, ow, args ++ ds.map Sl.dat, ⟨⟨by rw [List.length_append, List.length_append, List.length_map, hlv, (hd F).length], fun i s hs => ?_⟩, B.sm, B.own, fun a p ha => ?_⟩, by rw [List.length_append, List.length_map, hl], ?_⟩
  · by_cases hi : i < args.length
    · rw [List.getElem?_append_left hi] at hs
      obtain ⟨v, h1, h2⟩ := B.a.at_ i s hs
      exact ⟨v, by rw [List.getElem?_append_left (by omega)]; exact h1, h2⟩
    · rw [List.getElem?_append_right (Nat.le_of_not_lt hi)] at hs
      obtain ⟨v, d, h1, rfl, h3⟩ := (hd F).all_get _ _ hs
      exact ⟨v, by rw [List.getElem?_append_right (by omega), hlv]; exact h1, v, rfl, h3⟩
  · obtain ⟨s, h1, h2⟩ := B.e8 a p ha
    exact ⟨s, by rw [List.getElem?_append_left (List.getElem?_eq_some_iff.mp h1).1]; exact h1, h2⟩
  · have lf : ∀ {a : List Sl}, Left (args ++ ds.map Sl.dat) a → Left args (a.take args.length) := fun {a} L => by
      refine ⟨?_, fun i s s' h1 h2 => ?_⟩
      · have l := L.len
        rw [List.length_append, List.length_map] at l
        rw [List.length_take]; omega
      · rw [List.getElem?_take] at h2
        split at h2
        · exact L.own i s s' (by rw [List.getElem?_append_left (List.getElem?_eq_some_iff.mp h1).1]; exact h1) h2
        · cases h2
    cases z : f (args ++ ds.map Sl.dat) with
    | none => rw [z] at e; cases e
    | some w =>
      rw [z] at e
      refine ⟨w, rfl, ?_⟩
      cases w with
      | ok rv a => cases e; exact fun v H' F' S sm A L rr => q v H' F' S sm (A.take hlv) (lf L) rr
      | ex x a => cases e; exact fun cls d H' F' S sm A L rr => q cls d H' F' S sm (A.take hlv) (lf L) rr
theorem e_call {k np : Nat} {f : Addr} {fd : FuncData} {ps : List Str} {m : FS} {dvs : List V} {ds : List Value} {dds : List D} {x : Str} {p pos : Pos} {e : Expr} {es : List Expr} {os : List Opd}
    (Fn : FnG X.prog X.w X.K X.mg X.base k f fd ps (spG Γ.g np m)) (hnp : os.length + dds.length = np) (hr : Room k X.A) (hgd : X.A.guards = some []) (tk : Takes X W) (hg : Gl X x) (hm : X.mg x = some (.ref f)) (hk : PySem.W.keepIn X.K (.ref f) = true)
    (hb : Binds X.K fd ps ds) (hd : Vals dvs ds) (hdd : ∀ F, RpA Γ.g.K F dvs dds) (ha : PA X (e :: es) (tAs Γ W os)) (hdb : (x == ("__debug__" : Str)) = false := by decide)
    (he : starEach (e :: es) X.env = (false, eval e X.env) :: starEach es X.env := by rfl) (hpl : (backTo pos (starEach es X.env)).any (·.1) = false := by rfl) :
    PE X (.Call (.Name x p) (e :: es) [] pos) (tV Γ W (callV (withDef dds m) os)) := by
  subst hnp
  refine PE.by (pe_callG Fn hr hgd tk hg hm hk hb hd ha hdb he hpl) fun σ H Q h => ?_
  have z := call_go h
  have mono : ∀ (os : List Opd) {σ H} {Qa Qb : List V → Hp → Prop}, (∀ vs H, Qa vs H → Qb vs H) → tAs Γ W os σ H Qa → tAs Γ W os σ H Qb := by
    intro os
    induction os with
    | nil => intro σ H Qa Qb hi hq; exact hi _ _ hq
    | cons o os ih =>
      intro σ H Qa Qb hi hq
      cases o with
      | sl i =>
        obtain ⟨v, h1, h2⟩ := hq
        exact ⟨v, h1, ih (fun vs H z => hi _ _ z) h2⟩
      | ex m =>
        obtain ⟨env, F, ow, R, r, e, h⟩ := (show tD Γ W m σ H _ from hq)
        refine (show tD Γ W m σ H _ from ⟨env, F, ow, R, r, e, h.step Stp.refl fun d e' z v H' F' R' S rv => ?_⟩)
        exact ih (fun vs H z => hi _ _ z) (z v H' F' R' S rv)
  exact mono os (fun vs H q => spG_def hdd q) z
/-- no defaults -/
theorem withDef_nil {f : FS} (h : ∀ ss r, f ss = some r → match r with | .ok _ a => a.length = ss.length | .ex _ a => a.length = ss.length) : withDef [] f = f := by
  funext ss
  unfold withDef
  rw [List.map_nil, List.append_nil]
  cases z : f ss with
  | none => rfl
  | some w =>
    have := h ss w z
    cases w with
    | ok rv a => dsimp only at this ⊢; rw [← this, List.take_length]
    | ex x a => dsimp only at this ⊢; rw [← this, List.take_length]
/-! ### books -/
theorem Rep.setBook (R : Rep Γ F H σ env ow) {i : Nat} {s : Sl} {b dx l : Addr} {vs : List V} {ds : List D} (e : env[i]? = some s) (n : s.owns = false) (hb : H b = some (.ins Γ.g.cb dx [("row", .ref l)])) (hbl : b ≠ l)
    (fb : F b = none) (ob : ow b = none) (h0b : Γ.H0 b = none) (hn : NewL Γ F H ow l vs ds) (hi : Γ.np ≤ i) :
    Rep Γ F H (σ.set i (some (.ref b))) (env.set i (.book ds)) (fun a => if a = b then some (i, 0) else if a = l then some (i, 1) else ow a) := by
  have hl : i < env.length := (List.getElem?_eq_some_iff.mp e).1
  have old : ∀ a p, ow a = some p → p.1 ≠ i := fun a p h z => by
    obtain ⟨t, h1, h2⟩ := R.e8 a p h
    rw [z, e] at h1; cases h1; rw [n] at h2; cases h2
  have nel : ∀ a p, ow a = some p → a ≠ b ∧ a ≠ l := fun a p h => ⟨fun z => (by rw [z, ob] at h; cases h), fun z => (by rw [z, hn.ow] at h; cases h)⟩
  have val : ∀ a p, ow a = some p → (fun a => if a = b then some (i, 0) else if a = l then some (i, 1) else ow a) a = some p := fun a p h => by
    obtain ⟨h1, h2⟩ := nel a p h
    show (if a = b then _ else _) = _
    rw [if_neg h1, if_neg h2]; exact h
  have inv : ∀ a p, (fun a => if a = b then some (i, 0) else if a = l then some (i, 1) else ow a) a = some p → (a = b ∧ p = (i, 0)) ∨ (a = l ∧ p = (i, 1)) ∨ ow a = some p := fun a p h => by
    by_cases h1 : a = b
    · rw [show (fun a => if a = b then some (i, 0) else if a = l then some (i, 1) else ow a) a = (if a = b then some (i, 0) else if a = l then some (i, 1) else ow a) from rfl, if_pos h1] at h
      cases h; exact Or.inl ⟨h1, rfl⟩
    · rw [show (fun a => if a = b then some (i, 0) else if a = l then some (i, 1) else ow a) a = (if a = b then some (i, 0) else if a = l then some (i, 1) else ow a) from rfl, if_neg h1] at h
      by_cases h2 : a = l
      · rw [if_pos h2] at h; cases h; exact Or.inr (Or.inl ⟨h2, rfl⟩)
      · rw [if_neg h2] at h; exact Or.inr (Or.inr h)
  refine ⟨by rw [List.length_set, List.length_set]; exact R.len, fun j t hj => ?_, R.sm, fun a p ha => ?_, R.e1, R.e2, R.e3, fun b' p hb' => val b' p (R.e4 b' p hb'), fun b' p hb' h0 => ?_, R.e6, R.e7, fun a p ha => ?_⟩
  · by_cases hij : j = i
    · subst hij
      rw [List.getElem?_set_self hl] at hj
      cases hj
      refine ⟨_, List.getElem?_set_self (by rw [R.len]; exact hl), b, dx, l, vs, rfl, ⟨if_pos rfl, fun a ha => ?_, hb⟩, ⟨?_, fun a ha => ?_, hn.at_⟩, hn.r⟩
      · rcases inv a _ ha with ⟨h1, _⟩ | ⟨_, h2⟩ | h3
        · exact h1
        · cases h2
        · exact absurd rfl (old a _ h3)
      · show (if l = b then _ else _) = _
        rw [if_neg (Ne.symm hbl), if_pos rfl]
      · rcases inv a _ ha with ⟨_, h1⟩ | ⟨h2, _⟩ | h3
        · cases h1
        · exact h2
        · exact absurd rfl (old a _ h3)
    · rw [List.getElem?_set_ne (Ne.symm hij)] at hj ⊢
      obtain ⟨o, h1, h2⟩ := R.at_ j t hj
      refine ⟨o, h1, ?_⟩
      have go : ∀ {r a o}, Owns H ow j r a o → Owns H (fun a => if a = b then some (i, 0) else if a = l then some (i, 1) else ow a) j r a o := fun {r a o} z => by
        refine ⟨val a _ z.own1, fun c hc => ?_, z.at_⟩
        rcases inv c _ hc with ⟨_, h1⟩ | ⟨_, h2⟩ | h3
        · cases h1; exact absurd rfl hij
        · cases h2; exact absurd rfl hij
        · exact z.uq c h3
      cases t with
      | non => trivial
      | dat d => exact h2
      | lst ds => obtain ⟨a, vs, e, q, r⟩ := h2; exact ⟨a, vs, e, go q, r⟩
      | book ds => obtain ⟨b, dx, a, vs, e, q1, q2, r⟩ := h2; exact ⟨b, dx, a, vs, e, go q1, go q2, r⟩
      | exn x => exact h2
      | scr ns => exact h2
  · rcases inv a p ha with ⟨h1, _⟩ | ⟨h2, _⟩ | h3
    · rw [h1]; exact ⟨by rw [hb]; exact (fun z => nomatch z), fb⟩
    · rw [h2]; exact ⟨by rw [hn.at_]; exact (fun z => nomatch z), hn.fr⟩
    · exact R.own a p h3
  · rcases inv b' p hb' with ⟨h1, _⟩ | ⟨h2, _⟩ | h3
    · rw [h1] at h0; exact absurd h0b h0
    · rw [h2] at h0; exact absurd hn.h0 h0
    · exact R.e5 b' p h3 h0
  · have here : ∃ t, (env.set i (Sl.book ds))[i]? = some t ∧ t.owns = true := ⟨_, List.getElem?_set_self hl, rfl⟩
    rcases inv a p ha with ⟨_, h1⟩ | ⟨_, h2⟩ | h3
    · rw [h1]; exact here
    · rw [h2]; exact here
    · obtain ⟨t, h1, h2⟩ := R.e8 a p h3
      exact ⟨t, by rw [List.getElem?_set_ne (Ne.symm (old a p h3))]; exact h1, h2⟩
/-- name = a call that hands back a new book -/
def newB (m : M Rv) (i : Nat) : M O := M.bind m fun rv e => match rv with
  | .book ds => if Sl.open_ e i = true then some (.ok .nx (e.set i (.book ds))) else none
  | _ => none
theorem s_newB {i : Nat} {x : Str} {e : Expr} {m : M Rv} {pos pos' : Pos} (hi' : Γ.np ≤ i) (hN : X.N.Nodup) (hi : X.N[i]? = some x) (hx : Loc X.env.scope x) (he : PE X e (tV Γ W m))
    (hs : swapsWith e (some (.Name x pos')) pos.line X.env = pure false := by rfl) (hf : X.fn x = true ∨ X.env.scope.names.lookup x = some .local := by first | exact .inl rfl | exact .inr rfl | assumption) :
    PS X (.Assign [.Name x pos'] e pos) (tS Γ W (newB m i)) := PS.by (ps_set hN hi hx he hs hf) fun K σ H ⟨env, F, ow, R, r, e, h⟩ => by
  rcases M.bind_some e with ⟨rv, e1, h1, h2⟩ | ⟨x, e1, h1, h2⟩
  · cases rv with
    | book ds =>
      dsimp only at h2
      by_cases ho : Sl.open_ e1 i = true
      · rw [if_pos ho] at h2
        cases h2
        obtain ⟨s, q1, q2⟩ := open_some ho
        refine tV_of R h1 fun v H' F' R' S z => ?_
        obtain ⟨b, dx, l, vs, rfl, n1, n2, n3, n4, n5, n6, n7, n8⟩ := z
        exact h _ H' F' _ (R'.setBook q1 q2 n4 n3 n5 n6 n7 n8 hi') S.s1
      · rw [if_neg ho] at h2; cases h2
    | _ => cases h2
  · subst h2
    exact tV_of R h1 (xGo_of h)
/-! ### what a def hands back -/
def retV (m : M Rv) : M O := M.bind m fun rv => M.ret (.rt rv)
theorem s_retV {e : Expr} {m : M Rv} {pos : Pos} (he : PE X e (tV Γ W m)) : PS X (.Return (some e) pos) (tS Γ W (retV m)) :=
  PS.by (ps_ret he) fun K σ H ⟨env, F, ow, R, r, e, h⟩ => by
    rcases M.bind_some e with ⟨rv, e1, h1, h2⟩ | ⟨x, e1, h1, h2⟩
    · cases h2
      refine tV_of R h1 fun v H' F' R' S z => h v σ H' F' ow R' ?_
      cases rv with
      | dat d => exact z
      | lst ds => obtain ⟨l, vs, e, _, n⟩ := z; exact ⟨l, vs, e, n.h0, n.fr, n.at_, n.r⟩
      | book ds => obtain ⟨b, dx, l, vs, e, _, _, n3, n4, n5, n6, n7, n⟩ := z; exact ⟨b, dx, l, vs, e, n7, n.h0, n3, n5, n.fr, n4, n.at_, n.r⟩
    · subst h2
      exact tV_of R h1 (xGo_of h)
def retLM (m : M (List D)) : M O := M.bind m fun ds => M.ret (.rt (.lst ds))
theorem s_retLM {e : Expr} {m : M (List D)} {pos : Pos} (he : PE X e (tL Γ W m)) : PS X (.Return (some e) pos) (tS Γ W (retLM m)) :=
  PS.by (ps_ret he) fun K σ H ⟨env, F, ow, R, r, e, h⟩ => by
    rcases M.bind_some e with ⟨rv, e1, h1, h2⟩ | ⟨x, e1, h1, h2⟩
    · cases h2
      exact tL_of R h1 fun l vs H' F' R' S hl n => h _ σ H' F' ow R' ⟨l, vs, rfl, n.h0, n.fr, n.at_, n.r⟩
    · subst h2
      exact tL_of R h1 (xGo_of h)
def retO (i : Nat) : M O := fun e => match e[i]? with
  | some (.lst ds) => some (.ok (.rt (.lst ds)) e)
  | some (.book ds) => some (.ok (.rt (.book ds)) e)
  | some (.dat d) => some (.ok (.rt (.dat d)) e)
  | _ => none
theorem Rep.fresh (R : Rep Γ F H σ env ow) {i r : Nat} {l : Addr} (hi : Γ.np ≤ i) (h : ow l = some (i, r)) : Γ.H0 l = none := by
  cases q : Γ.H0 l with
  | none => rfl
  | some o =>
    have := R.e7 l _ (R.e5 l _ h (by rw [q]; exact fun z => nomatch z))
    exact absurd this.1 (by show ¬ i < Γ.np; omega)
theorem s_retO {e : Expr} {i : Nat} {pos : Pos} (hi : Γ.np ≤ i) (he : PE X e (tVar i)) : PS X (.Return (some e) pos) (tS Γ W (retO i)) :=
  PS.by (ps_ret he) fun K σ H ⟨env, F, ow, R, r, e, h⟩ => by
    unfold retO at e
    cases q : env[i]? with
    | none => rw [q] at e; cases e
    | some s =>
      rw [q] at e
      obtain ⟨o, h1, h2⟩ := R.at_ i s q
      cases s with
      | lst ds =>
        cases e
        obtain ⟨l, vs, rfl, o1, r1⟩ := h2
        exact ⟨_, h1, h _ σ H F ow R ⟨l, vs, rfl, R.fresh hi o1.own1, (R.own _ _ o1.own1).2, o1.at_, r1⟩⟩
      | book ds =>
        cases e
        obtain ⟨b, dx, l, vs, rfl, o1, o2, r1⟩ := h2
        refine ⟨_, h1, h _ σ H F ow R ⟨b, dx, l, vs, rfl, R.fresh hi o1.own1, R.fresh hi o2.own1, fun z => ?_, (R.own _ _ o1.own1).2, (R.own _ _ o2.own1).2, o1.at_, o2.at_, r1⟩⟩
        have := o1.own1
        rw [z, o2.own1] at this; cases this
      | dat d =>
        cases e
        obtain ⟨v, rfl, r1⟩ := h2
        exact ⟨v, h1, h v σ H F ow R r1⟩
      | _ => cases e
/-! ### freezing -/
theorem Rep.frz (R : Rep Γ F H σ env ow) {i : Nat} {ds : List D} (hi : Γ.np ≤ i) (e : env[i]? = some (.lst ds)) : ∃ F' ow', Rep Γ F' H σ (env.set i (.dat (.list ds))) ow' ∧ Same F F' := by
  obtain ⟨o, h1, l, vs, rfl, o1, r1⟩ := R.at_ i _ e
  have hl : i < env.length := (List.getElem?_eq_some_iff.mp e).1
  have fl := (R.own _ _ o1.own1).2
  have sF : Same F (upd F l (.lst vs)) := same_new fl
  have oth : ∀ a p, ow a = some p → p.1 ≠ i → a ≠ l := fun a p h n z => by rw [z, o1.own1] at h; cases h; exact n rfl
  have h0 := R.fresh hi o1.own1
  -- nothing else is slot i's
  have onl : ∀ a p, ow a = some p → p.1 = i → a = l ∨ p.2 ≠ 0 := fun a p h z => by
    by_cases hp : p.2 = 0
    · refine Or.inl (o1.uq a ?_)
      rw [h]
      obtain ⟨p1, p2⟩ := p
      dsimp only at z hp
      rw [z, hp]
    · exact Or.inr hp
  refine ⟨upd F l (.lst vs), fun a => match ow a with
    | some p => if p.1 = i then none else some p
    | none => none, ⟨by rw [List.length_set]; exact R.len, fun j t hj => ?_, fun b o e => ?_, fun a p ha => ?_, R.e1, R.e2.trans sF, fun b hb => ?_, fun b p hb => ?_, fun b p hb hb0 => ?_, R.e6, R.e7, fun a p ha => ?_⟩, sF⟩
  · by_cases hij : j = i
    · subst hij
      rw [List.getElem?_set_self hl] at hj
      cases hj
      exact ⟨_, h1, _, rfl, .lst upd_same (r1.mono sF)⟩
    · rw [List.getElem?_set_ne (Ne.symm hij)] at hj
      obtain ⟨o, g1, g2⟩ := R.at_ j t hj
      refine ⟨o, g1, ?_⟩
      have go : ∀ {r a o}, Owns H ow j r a o → Owns H (fun a => match ow a with
          | some p => if p.1 = i then none else some p
          | none => none) j r a o := fun {r a o} z => by
        refine ⟨by (try dsimp only); rw [z.own1]; exact if_neg hij, fun c hc => z.uq c ?_, z.at_⟩
        (try dsimp only at hc)
        cases w : ow c with
        | none => rw [w] at hc; cases hc
        | some p =>
          rw [w] at hc
          dsimp only at hc
          split at hc
          · cases hc
          · exact hc
      cases t with
      | non => trivial
      | dat d => obtain ⟨v, e, r⟩ := g2; exact ⟨v, e, r.mono sF⟩
      | lst ds => obtain ⟨a, vs, e, q, r⟩ := g2; exact ⟨a, vs, e, go q, r.mono sF⟩
      | book ds => obtain ⟨b, dx, a, vs, e, q1, q2, r⟩ := g2; exact ⟨b, dx, a, vs, e, go q1, go q2, r.mono sF⟩
      | exn x => obtain ⟨a, e, r⟩ := g2; exact ⟨a, e, sF _ _ r⟩
      | scr ns => obtain ⟨a, e, r⟩ := g2; exact ⟨a, e, sF.seq r⟩
  · by_cases hb : b = l
    · rw [hb, upd_same] at e; rw [hb, ← e]; exact o1.at_
    · rw [upd_ne hb] at e; exact R.sm b o e
  · (try dsimp only at ha)
    cases w : ow a with
    | none => rw [w] at ha; cases ha
    | some q =>
      rw [w] at ha
      dsimp only at ha
      split at ha
      · cases ha
      · rename_i hq
        obtain ⟨g1, g2⟩ := R.own a q w
        exact ⟨g1, by rw [upd_ne (oth a q w hq)]; exact g2⟩
  · rw [upd_ne (fun z => hb (by rw [z]; exact h0))]; exact R.e3 b hb
  · have q := R.e4 b p hb
    (try dsimp only)
    rw [q]
    exact if_neg (fun z => absurd (R.e7 b p hb).1 (by rw [z]; omega))
  · (try dsimp only at hb)
    cases w : ow b with
    | none => rw [w] at hb; cases hb
    | some q =>
      rw [w] at hb
      dsimp only at hb
      split at hb
      · cases hb
      · cases hb; exact R.e5 b p w hb0
  · (try dsimp only at ha)
    cases w : ow a with
    | none => rw [w] at ha; cases ha
    | some q =>
      rw [w] at ha
      dsimp only at ha
      split at ha
      · cases ha
      · rename_i hq
        cases ha
        obtain ⟨t, g1, g2⟩ := R.e8 a p w
        exact ⟨t, by rw [List.getElem?_set_ne (Ne.symm hq)]; exact g1, g2⟩
def frzM (i : Nat) (m : M O) : M O := fun e => match e[i]? with
  | some (.lst ds) => m (e.set i (.dat (.list ds)))
  | _ => m e
theorem frz_of {i : Nat} {m : M O} {K : Ends} (hi : Γ.np ≤ i) (h : tS Γ W (frzM i m) K σ H) : tS Γ W m K σ H := by
  obtain ⟨env, F, ow, R, r, e, h⟩ := h
  unfold frzM at e
  split at e
  · rename_i ds q
    obtain ⟨F', ow', R', sF⟩ := R.frz hi q
    exact ⟨_, F', ow', R', r, e, h.mono sF⟩
  · exact ⟨env, F, ow, R, r, e, h⟩
theorem ss_frz {sts : List Stmt} {i : Nat} {m : M O} (hi : Γ.np ≤ i) (h : PSs X sts (tS Γ W m)) : PSs X sts (tS Γ W (frzM i m)) := PSs.by h fun _ _ _ q => frz_of hi q
theorem s_frz {st : Stmt} {i : Nat} {m : M O} (hi : Γ.np ≤ i) (h : PS X st (tS Γ W m)) : PS X st (tS Γ W (frzM i m)) := PS.by h fun _ _ _ q => frz_of hi q
end
end DL

/-! the data layer: operations -/
namespace DL
open PySem PySem.Spec PyProof.Rows L2
section
variable {Γ : Cn} {W : WX} {F H : Hp} {σ : L2.St} {env : En} {ow : Ow} {X : Cx}
/-! ### constants, names, argument lists -/
theorem e_int {i : Int} {j : Nat} {pos : Pos} : PE X (.Constant (.int i) j pos) (tD Γ W (M.ret (.int i))) := PE.by pe_int fun _ _ _ h => tD_ret h fun _ => .int i
theorem e_bool {b : Bool} {j : Nat} {pos : Pos} : PE X (.Constant (.bool b) j pos) (tD Γ W (M.ret (.bool b))) := PE.by pe_bl fun _ _ _ h => tD_ret h fun _ => .bl b
theorem e_none {j : Nat} {pos : Pos} : PE X (.Constant .none j pos) (tD Γ W (M.ret .none)) := PE.by pe_non fun _ _ _ h => tD_ret h fun _ => .non
theorem e_str {x : Str} {j : Nat} {pos : Pos} : PE X (.Constant (.str x) j pos) (tD Γ W (M.ret (.str x))) := PE.by pe_str fun _ _ _ h => tD_ret h fun _ => .str x
theorem e_var {i : Nat} {e : Expr} (h : PE X e (tVar i)) : PE X e (tD Γ W (varM i)) := PE.by h fun _ _ _ q => tD_var q
theorem a_nil : PA X [] (tAs Γ W []) := pa_nil
theorem a_sl {i : Nat} {e : Expr} {es : List Expr} {os : List Opd} (h : PE X e (tVar i)) (t : PA X es (tAs Γ W os)) (hs : starEach (e :: es) X.env = (false, eval e X.env) :: starEach es X.env := by rfl) : PA X (e :: es) (tAs Γ W (.sl i :: os)) := pa_cons h t hs
theorem a_ex {m : M D} {e : Expr} {es : List Expr} {os : List Opd} (h : PE X e (tD Γ W m)) (t : PA X es (tAs Γ W os)) (hs : starEach (e :: es) X.env = (false, eval e X.env) :: starEach es X.env := by rfl) : PA X (e :: es) (tAs Γ W (.ex m :: os)) := pa_cons h t hs
theorem o_sl {i : Nat} {e : Expr} (h : PE X e (tVar i)) : PE X e (tO Γ W (.sl i)) := h
theorem o_ex {m : M D} {e : Expr} (h : PE X e (tD Γ W m)) : PE X e (tO Γ W (.ex m)) := h
/-! ### what operands are -/
theorem rpx_int {b : Bool} {K : Kf} {v : V} {i : Int} (h : RpX b K F H v (.int i)) : v = .int i := by
  rcases h with h | ⟨_, _, _, _, _, e, _⟩
  · cases h; rfl
  · cases e
theorem rpx_str {b : Bool} {K : Kf} {v : V} {i : Str} (h : RpX b K F H v (.str i)) : v = .str i := by
  rcases h with h | ⟨_, _, _, _, _, e, _⟩
  · cases h; rfl
  · cases e
theorem rpx_bool {b : Bool} {K : Kf} {v : V} {i : Bool} (h : RpX b K F H v (.bool i)) : v = .bl i := by
  rcases h with h | ⟨_, _, _, _, _, e, _⟩
  · cases h; rfl
  · cases e
theorem rpx_none {b : Bool} {K : Kf} {v : V} (h : RpX b K F H v .none) : v = .non := by
  rcases h with h | ⟨_, _, _, _, _, e, _⟩
  · cases h; rfl
  · cases e
theorem rpx_list {b : Bool} {K : Kf} {v : V} {ds : List D} (s : Same F H) (h : RpX b K F H v (.list ds)) : ∃ l vs, v = .ref l ∧ H l = some (.lst vs) ∧ RpA K F vs ds := by
  rcases h with h | ⟨_, l, vs, ds', e1, e2, h1, h2⟩
  · cases h with
    | lst h r => exact ⟨_, _, rfl, s _ _ h, r⟩
  · cases e2; exact ⟨l, vs, e1, h1, h2⟩
theorem rpx_tup {b : Bool} {K : Kf} {v : V} {ds : List D} (s : Same F H) (h : RpX b K F H v (.tuple ds)) : ∃ l vs, v = .ref l ∧ SqT K H l vs ∧ SqT K F l vs ∧ RpA K F vs ds := by
  rcases h with h | ⟨_, l, vs, ds', e1, e2, _⟩
  · cases h with
    | tup h r => exact ⟨_, _, rfl, same_seqT s h, h, r⟩
  · cases e2
def r2 (r : R2) : List V → Hp → VK → Prop := fun vs H Q => match vs with
  | [x, y] => r x y H Q
  | _ => False
def r1 (r : V → Hp → VK → Prop) : List V → Hp → VK → Prop := fun vs H Q => match vs with
  | [x] => r x H Q
  | _ => False
theorem pair2 {R : V → D → Prop} {vs : List V} {d e : D} (h : Paired R vs [d, e]) : ∃ x y, vs = [x, y] ∧ R x d ∧ R y e := by
  cases h with
  | cons h1 t => cases t with
    | cons h2 t => cases t; exact ⟨_, _, rfl, h1, h2⟩
theorem pair1 {R : V → D → Prop} {vs : List V} {d : D} (h : Paired R vs [d]) : ∃ x, vs = [x] ∧ R x d := by
  cases h with
  | cons h1 t => cases t; exact ⟨_, rfl, h1⟩
theorem e_op {op : Operator} {r : R2} {p : List D → Option D} {a b : Expr} {oa ob : Opd} {pos : Pos} (hp : Prim true Γ p (r2 r)) (ho : OpR X (binaryOp op) r) (ha : PE X a (tO Γ W oa)) (hb : PE X b (tO Γ W ob)) :
    PE X (.BinOp a op b pos) (tD Γ W (opM true p [oa, ob])) := PE.by (pe_op ho ha hb) fun _ _ _ h => tD_op hp h
theorem e_cmp {op : CmpOp} {r : R2} {p : List D → Option D} {a b : Expr} {oa ob : Opd} {pos : Pos} (hp : Prim true Γ p (r2 r)) (ho : OpR X (compareOp op) r) (ha : PE X a (tO Γ W oa)) (hb : PE X b (tO Γ W ob)) (hm : behindInMarks op b = false := by first | exact nomark _ | rfl) :
    PE X (.Compare a [op] [b] pos) (tD Γ W (opM true p [oa, ob])) := PE.by (pe_cmpR ho ha hb hm) fun _ _ _ h => tD_op hp h
theorem b_cmp {op : CmpOp} {r : R2} {p : List D → Option D} {a b : Expr} {oa ob : Opd} {pos : Pos} (hp : Prim true Γ p (r2 r)) (ho : OpR X (compareOp op) r) (ha : PE X a (tO Γ W oa)) (hb : PE X b (tO Γ W ob)) (hm : behindInMarks op b = false := by first | exact nomark _ | rfl) :
    PT X (.Compare a [op] [b] pos) (tB Γ W (boolM (opM true p [oa, ob]))) := PT.by (pt_cmpR ho ha hb hm) fun σ H Q h => by
      have z := bool_of h
      exact tD_op hp z
theorem e_un {op : UnaryOp} {r : V → Hp → VK → Prop} {p : List D → Option D} {a : Expr} {oa : Opd} {pos : Pos} (hp : Prim true Γ p (r1 r)) (ho : UnR X (unaryOp op) r) (ha : PE X a (tO Γ W oa)) :
    PE X (.UnaryOp op a pos) (tD Γ W (opM true p [oa])) := PE.by (pe_un ho ha) fun _ _ _ h => tD_op hp h
theorem e_blt {id : String} {r : List V → Hp → VK → Prop} {p : List D → Option D} {fx : Str} {e : Expr} {es : List Expr} {os : List Opd} {pf pos : Pos} (hp : Prim true Γ p r) (hc : CallR X (.builtin id) r) (hg : Gl X fx) (hm : X.mg fx = none) (hv : bootBuiltins fx = some (.builtin id)) (ha : PA X (e :: es) (tAs Γ W os))
    (mk : PA X (e :: es) (tAs Γ W os) → PE X (.Call (.Name fx pf) (e :: es) [] pos) (tCB r (tAs Γ W os))) : PE X (.Call (.Name fx pf) (e :: es) [] pos) (tD Γ W (opM true p os)) :=
  PE.by (mk ha) fun _ _ _ h => tD_op hp h
/-! ### ints -/
theorem rp_any {K : Kf} {z : D} {v : V} (h : ∀ F, Rp K F v z) {Q : VK} (R : Rep Γ F H σ env ow) (hK : Γ.g.K = K) (k : ∀ v H' F', Rep Γ F' H' σ env ow → Stp F H ow F' H' → Rp Γ.g.K F' v z → Q v H') : Q v H :=
  k v H F R Stp.refl (by rw [hK]; exact h F)
def intD (g : Int → Int → D) : List D → Option D := fun ds => match ds with
  | [.int i, .int j] => some (g i j)
  | _ => none
def intDc (C : Int → Int → Bool) (g : Int → Int → D) : List D → Option D := fun ds => match ds with
  | [.int i, .int j] => if C i j = true then some (g i j) else none
  | _ => none
theorem p_int {g : Int → Int → D} {gv : Int → Int → V} (hg : ∀ i j K F, Rp K F (gv i j) (g i j)) : Prim true Γ (intD g) (r2 (rI0 gv)) := by
  intro F H σ env ow vs ds z Q R hv e k
  unfold intD at e
  split at e
  · obtain ⟨x, y, rfl, h1, h2⟩ := pair2 hv
    cases e
    rw [rpx_int h1, rpx_int h2]
    exact ⟨_, _, rfl, rfl, k _ H F R Stp.refl (hg _ _ _ _)⟩
  · cases e
theorem p_intC {C : Int → Int → Bool} {Cp : Int → Int → Prop} {g : Int → Int → D} {gv : Int → Int → V} (hC : ∀ i j, C i j = true → Cp i j) (hg : ∀ i j K F, Rp K F (gv i j) (g i j)) : Prim true Γ (intDc C g) (r2 (rI Cp gv)) := by
  intro F H σ env ow vs ds z Q R hv e k
  unfold intDc at e
  split at e
  · split at e
    · rename_i hc
      obtain ⟨x, y, rfl, h1, h2⟩ := pair2 hv
      cases e
      rw [rpx_int h1, rpx_int h2]
      exact ⟨_, _, rfl, rfl, hC _ _ hc, k _ H F R Stp.refl (hg _ _ _ _)⟩
    · cases e
  · cases e
def subD := intD fun i j => .int (i - j)
def ltD := intD fun i j => .bool (decide (i < j))
def leD := intD fun i j => .bool (decide (i ≤ j))
def gtD := intD fun i j => .bool (decide (j < i))
def geD := intD fun i j => .bool (decide (j ≤ i))
def mulD := intDc (fun i j => decide ((-(2 ^ 64) < i ∧ i < 2 ^ 64) ∨ (-(2 ^ 64) < j ∧ j < 2 ^ 64))) fun i j => .int (i * j)
def modD := intDc (fun _ j => decide (0 < j)) fun i j => .int (i % j)
def divD := intDc (fun _ j => decide (0 < j ∧ j < 1073741824)) fun i j => .int (i / j)
def powD := intDc (fun i j => decide (0 ≤ j ∧ j ≤ 1000000 ∧ i.natAbs < 2 ^ 64)) fun i j => .int (i ^ j.toNat)
theorem p_sub : Prim true Γ subD (r2 (rI0 fun i j => .int (i - j))) := p_int fun _ _ _ _ => .int _
theorem p_lt : Prim true Γ ltD (r2 (rI0 fun i j => .bl (decide (i < j)))) := p_int fun _ _ _ _ => .bl _
theorem p_le : Prim true Γ leD (r2 (rI0 fun i j => .bl (decide (i ≤ j)))) := p_int fun _ _ _ _ => .bl _
theorem p_gt : Prim true Γ gtD (r2 (rI0 fun i j => .bl (decide (j < i)))) := p_int fun _ _ _ _ => .bl _
theorem p_ge : Prim true Γ geD (r2 (rI0 fun i j => .bl (decide (j ≤ i)))) := p_int fun _ _ _ _ => .bl _
theorem p_mul : Prim true Γ mulD (r2 (rI CMul fun i j => .int (i * j))) := p_intC (fun _ _ h => by have q := of_decide_eq_true h; exact q) fun _ _ _ _ => .int _
theorem p_mod : Prim true Γ modD (r2 (rI (fun _ j => 0 < j) fun i j => .int (i % j))) := p_intC (fun _ _ h => of_decide_eq_true h) fun _ _ _ _ => .int _
theorem p_div : Prim true Γ divD (r2 (rI CDiv fun i j => .int (i / j))) := p_intC (fun _ _ h => by have q := of_decide_eq_true h; exact q) fun _ _ _ _ => .int _
theorem p_pow : Prim true Γ powD (r2 (rI CPow fun i j => .int (i ^ j.toNat))) := p_intC (fun _ _ h => by have q := of_decide_eq_true h; exact q) fun _ _ _ _ => .int _
def negD : List D → Option D := fun ds => match ds with
  | [.int i] => some (.int (-i))
  | _ => none
theorem p_neg : Prim true Γ negD (r1 (rU fun i => .int (-i))) := by
  intro F H σ env ow vs ds z Q R hv e k
  unfold negD at e
  split at e
  · obtain ⟨x, rfl, h1⟩ := pair1 hv
    cases e
    rw [rpx_int h1]
    exact ⟨_, rfl, k _ H F R Stp.refl (.int _)⟩
  · cases e
/-! ### + -/
def rStr : R2 := fun x y H Q => ∃ i j, x = .str i ∧ y = .str j ∧ i.length + j.length ≤ sizeLine ∧ Q (.str (i ++ j)) H
def addD : List D → Option D := fun ds => match ds with
  | [.int i, .int j] => some (.int (i + j))
  | [.str a, .str b] => if a.length + b.length ≤ 10000000 then some (.str (a ++ b)) else none
  | [.tuple a, .tuple b] => if a.length + b.length ≤ 1000000 then some (.tuple (a ++ b)) else none
  | [.list a, .list b] => if a.length + b.length ≤ 1000000 then some (.list (a ++ b)) else none
  | _ => none
def rPlus (K : Kf) : R2 := fun x y H Q => (rI0 (fun i j => .int (i + j)) x y H Q ∨ rStr x y H Q) ∨ (rCatA K x y H Q ∨ rCat x y H Q)
theorem op_plus : OpR X (binaryOp .Add) (rPlus X.K) := (op_add.or op_add_str).or (op_catA.or op_cat)
theorem line_of {n : Nat} (h : n ≤ 10000000) : n ≤ sizeLine := Nat.le_trans h (by rw [sizeLine_eq]; decide)
theorem p_add (hK : Γ.g.K = X.K) : Prim true Γ addD (r2 (rPlus X.K)) := by
  intro F H σ env ow vs ds z Q R hv e k
  unfold addD at e
  split at e
  · obtain ⟨x, y, rfl, h1, h2⟩ := pair2 hv
    cases e
    rw [rpx_int h1, rpx_int h2]
    exact Or.inl (Or.inl ⟨_, _, rfl, rfl, k _ H F R Stp.refl (.int _)⟩)
  · split at e
    · rename_i hz
      obtain ⟨x, y, rfl, h1, h2⟩ := pair2 hv
      cases e
      rw [rpx_str h1, rpx_str h2]
      exact Or.inl (Or.inr ⟨_, _, rfl, rfl, line_of hz, k _ H F R Stp.refl (.str _)⟩)
    · cases e
  · rename_i a b
    split at e
    · rename_i hz
      obtain ⟨x, y, rfl, h1, h2⟩ := pair2 hv
      cases e
      obtain ⟨l, xs, rfl, q1, q1', t1⟩ := rpx_tup R.sm h1
      obtain ⟨l2, ys, rfl, q2, q2', t2⟩ := rpx_tup R.sm h2
      refine Or.inr (Or.inl ⟨l, l2, xs, ys, rfl, rfl, by rw [← hK]; exact q1, by rw [← hK]; exact q2, by rw [t1.length, t2.length]; exact line_of (by omega), fun e => ?_, fun _ e => ?_, fun _ _ p hp => ?_⟩)
      · subst e; cases t1
        exact k _ H F R Stp.refl (.tup q2' t2)
      · subst e; cases t2
        rw [List.append_nil] at k
        exact k _ H F R Stp.refl (.tup q1' t1)
      · obtain ⟨R2, S2⟩ := R.alloc (.tup (xs ++ ys)) hp
        exact k _ _ _ R2 S2 (.tup (SqT.of upd_same) ((t1.append t2).mono S2.s1))
    · cases e
  · split at e
    · rename_i hz
      obtain ⟨x, y, rfl, h1, h2⟩ := pair2 hv
      cases e
      obtain ⟨l, xs, rfl, q1, t1⟩ := rpx_list R.sm h1
      obtain ⟨l2, ys, rfl, q2, t2⟩ := rpx_list R.sm h2
      refine Or.inr (Or.inr ⟨l, l2, xs, ys, rfl, rfl, q1, q2, by rw [t1.length, t2.length]; exact line_of (by omega), fun p hp => ?_⟩)
      obtain ⟨R2, S2⟩ := R.alloc (.lst (xs ++ ys)) hp
      exact k _ _ _ R2 S2 (.lst upd_same ((t1.append t2).mono S2.s1))
    · cases e
  · cases e
/-! ### == of data -/
mutual
theorem Rp.dp {K : Kf} (s : Same F H) : ∀ {v : V} {d : D}, d.canLay0 = true → Rp K F v d → Dp K H v d
  | _, _, _, .non => .non
  | _, _, _, .bl b => .bl b
  | _, _, _, .int i => .int i
  | _, _, _, .str x => .str x
  | _, _, h, .lst q r => .lst (SqL.of (s _ _ q)) (RpA.dp s (by simpa [PyData.canLay0] using h) r)
  | _, _, h, .tup q r => .tup (same_seqT s q) (RpA.dp s (by simpa [PyData.canLay0] using h) r)
  | _, _, h, .dct q r => by simp [PyData.canLay0] at h
theorem RpA.dp {K : Kf} (s : Same F H) : ∀ {v : List V} {d : List D}, PyData.canLayAll0 d = true → RpA K F v d → DpAll K H v d
  | _, _, _, .nil => .nil
  | _, _, h, .cons a r => by
    simp only [PyData.canLayAll0, Bool.and_eq_true] at h
    exact .cons (Rp.dp s h.1 a) (RpA.dp s h.2 r)
end
theorem rpx_dp {b : Bool} {K : Kf} {v : V} {d : D} (s : Same F H) (c : d.canLay0 = true) (h : RpX b K F H v d) : Dp K H v d := by
  rcases h with h | ⟨_, l, vs, ds, rfl, rfl, h1, h2⟩
  · exact h.dp s c
  · exact .lst (SqL.of h1) (h2.dp s (by simpa [PyData.canLay0] using c))
def eqD : List D → Option D := fun ds => match ds with
  | [d, e] => if SeqAt.shaped d = true ∧ SeqAt.shaped e = true then some (.bool (PyData.eqv d e)) else none
  | _ => none
def neD : List D → Option D := fun ds => match ds with
  | [d, e] => if SeqAt.shaped d = true ∧ SeqAt.shaped e = true then some (.bool (!PyData.eqv d e)) else none
  | _ => none
theorem p_eq (hK : Γ.g.K = X.K) : Prim true Γ eqD (r2 (rEqD X.K)) := by
  intro F H σ env ow vs ds z Q R hv e k
  unfold eqD at e
  split at e
  · split at e
    · rename_i d e' hs
      obtain ⟨x, y, rfl, h1, h2⟩ := pair2 hv
      cases e
      rw [hK] at h1 h2
      exact ⟨d, e', rpx_dp R.sm (SeqAt.canLay_of_shaped hs.1) h1, rpx_dp R.sm (SeqAt.canLay_of_shaped hs.2) h2, hs.1, hs.2, k _ H F R Stp.refl (.bl _)⟩
    · cases e
  · cases e
theorem p_ne (hK : Γ.g.K = X.K) : Prim true Γ neD (r2 (rNeD X.K)) := by
  intro F H σ env ow vs ds z Q R hv e k
  unfold neD at e
  split at e
  · split at e
    · rename_i d e' hs
      obtain ⟨x, y, rfl, h1, h2⟩ := pair2 hv
      cases e
      rw [hK] at h1 h2
      exact ⟨d, e', rpx_dp R.sm (SeqAt.canLay_of_shaped hs.1) h1, rpx_dp R.sm (SeqAt.canLay_of_shaped hs.2) h2, hs.1, hs.2, k _ H F R Stp.refl (.bl _)⟩
    · cases e
  · cases e
/-! ### is None -/
def isNone : D → Bool
  | .none => true
  | _ => false
def isND : List D → Option D := fun ds => match ds with
  | [d, .none] => some (.bool (isNone d))
  | _ => none
def notND : List D → Option D := fun ds => match ds with
  | [d, .none] => some (.bool (!isNone d))
  | _ => none
theorem rpx_isN {b : Bool} {K : Kf} {v : V} {d : D} (h : RpX b K F H v d) : decide (v = .non) = isNone d := by
  rcases h with h | ⟨_, l, vs, ds, rfl, rfl, h1, h2⟩
  · cases h <;> rfl
  · rfl
theorem p_isN : Prim true Γ isND (r2 fun x y H Q => y = .non ∧ Q (.bl (decide (x = .non))) H) := by
  intro F H σ env ow vs ds z Q R hv e k
  unfold isND at e
  split at e
  · obtain ⟨x, y, rfl, h1, h2⟩ := pair2 hv
    cases e
    refine ⟨rpx_none h2, ?_⟩
    rw [rpx_isN h1]
    exact k _ H F R Stp.refl (.bl _)
  · cases e
theorem p_notN : Prim true Γ notND (r2 fun x y H Q => y = .non ∧ Q (.bl (!decide (x = .non))) H) := by
  intro F H σ env ow vs ds z Q R hv e k
  unfold notND at e
  split at e
  · obtain ⟨x, y, rfl, h1, h2⟩ := pair2 hv
    cases e
    refine ⟨rpx_none h2, ?_⟩
    rw [rpx_isN h1]
    exact k _ H F R Stp.refl (.bl _)
  · cases e
/-! ### len, items, slices -/
def lenD : List D → Option D := fun ds => match ds with
  | [.list xs] => some (.int xs.length)
  | [.tuple xs] => some (.int xs.length)
  | [.str x] => if x.length ≤ 10000000 then some (.int x.length) else none
  | _ => none
theorem p_len (hK : Γ.g.K = X.K) : Prim true Γ lenD (fun xs H Q => ∃ x n, xs = [x] ∧ LenV X.K x H n ∧ Q (.int n) H) := by
  intro F H σ env ow vs ds z Q R hv e k
  unfold lenD at e
  split at e
  · obtain ⟨x, rfl, h1⟩ := pair1 hv
    cases e
    obtain ⟨l, xs, rfl, q1, t1⟩ := rpx_list R.sm h1
    refine ⟨_, xs.length, rfl, Or.inl ⟨xs, SqL.of q1, rfl⟩, ?_⟩
    rw [t1.length]
    exact k _ H F R Stp.refl (.int _)
  · obtain ⟨x, rfl, h1⟩ := pair1 hv
    cases e
    obtain ⟨l, xs, rfl, q1, _, t1⟩ := rpx_tup R.sm h1
    rw [hK] at q1
    refine ⟨_, xs.length, rfl, Or.inr ⟨xs, q1, rfl⟩, ?_⟩
    rw [t1.length]
    exact k _ H F R Stp.refl (.int _)
  · split at e
    · rename_i hz
      obtain ⟨x, rfl, h1⟩ := pair1 hv
      cases e
      rw [rpx_str h1]
      exact ⟨_, _, rfl, ⟨line_of hz, rfl⟩, k _ H F R Stp.refl (.int _)⟩
    · cases e
  · cases e
def ixD : List D → Option D := fun ds => match ds with
  | [.list xs, .int i] => atI xs i
  | [.tuple xs, .int i] => atI xs i
  | [.str x, .int i] => if x.length ≤ 10000000 then (atI x.cps.toList i).map fun c => .str ⟨#[c]⟩ else none
  | _ => none
theorem p_ix (hK : Γ.g.K = X.K) : Prim true Γ ixD (r2 (rIx X.K)) := by
  intro F H σ env ow vs ds z Q R hv e k
  unfold ixD at e
  split at e
  · obtain ⟨x, y, rfl, h1, h2⟩ := pair2 hv
    obtain ⟨l, xs, rfl, q1, t1⟩ := rpx_list R.sm h1
    obtain ⟨v, g1, g2⟩ := t1.at e
    rw [rpx_int h2]
    exact Or.inl ⟨l, xs, _, v, rfl, rfl, SqL.of q1, g1, k _ H F R Stp.refl g2⟩
  · obtain ⟨x, y, rfl, h1, h2⟩ := pair2 hv
    obtain ⟨l, xs, rfl, q1, _, t1⟩ := rpx_tup R.sm h1
    obtain ⟨v, g1, g2⟩ := t1.at e
    rw [rpx_int h2]
    exact Or.inr (Or.inl ⟨l, xs, _, v, rfl, rfl, by rw [← hK]; exact q1, g1, k _ H F R Stp.refl g2⟩)
  · split at e
    · rename_i hz
      obtain ⟨x, y, rfl, h1, h2⟩ := pair2 hv
      obtain ⟨c, g1, g2⟩ := Option.map_eq_some_iff.mp e
      subst g2
      rw [rpx_str h1, rpx_int h2]
      exact Or.inr (Or.inr ⟨_, _, c, rfl, rfl, line_of hz, g1, k _ H F R Stp.refl (.str _)⟩)
    · cases e
  · cases e
theorem e_ix {a b : Expr} {oa ob : Opd} {pos : Pos} (hK : Γ.g.K = X.K) (ha : PE X a (tO Γ W oa)) (hb : PE X b (tO Γ W ob)) (hs : PlainIx b := by intro _ _; rfl) : PE X (.Subscript a b pos) (tD Γ W (opM true ixD [oa, ob])) :=
  PE.by (pe_ix ix_seq ha hb hs) fun _ _ _ h => tD_op (p_ix hK) h
/-! ### tuple(x), list(x) -/
def tupleD : List D → Option D := fun ds => match ds with
  | [.list xs] => some (.tuple xs)
  | [.tuple xs] => some (.tuple xs)
  | _ => none
theorem p_tuple (hK : Γ.g.K = X.K) : Prim true Γ tupleD (fun xs H Q => ∃ p ys, xs = [.ref p] ∧ ((SqL X.K H p ys ∧ ∀ l, H l = none → Q (.ref l) (upd H l (.tup ys))) ∨ (SqT X.K H p ys ∧ Q (.ref p) H))) := by
  intro F H σ env ow vs ds z Q R hv e k
  unfold tupleD at e
  split at e
  · obtain ⟨x, rfl, h1⟩ := pair1 hv
    cases e
    obtain ⟨l, xs, rfl, q1, t1⟩ := rpx_list R.sm h1
    refine ⟨l, xs, rfl, Or.inl ⟨SqL.of q1, fun p hp => ?_⟩⟩
    obtain ⟨R2, S2⟩ := R.alloc (.tup xs) hp
    exact k _ _ _ R2 S2 (.tup (SqT.of upd_same) (t1.mono S2.s1))
  · obtain ⟨x, rfl, h1⟩ := pair1 hv
    cases e
    obtain ⟨l, xs, rfl, q1, q2, t1⟩ := rpx_tup R.sm h1
    exact ⟨l, xs, rfl, Or.inr ⟨by rw [← hK]; exact q1, k _ H F R Stp.refl (.tup q2 t1)⟩⟩
  · cases e
end
end DL

/-! rules of the machine that the layer lacks: sorted of data, repr of data, a walk of a list or a tuple -/
namespace DL
open PySem PySem.Spec PyProof.Rows L2
section
variable {prog : Program} {w : World} {A : Around} {E : Value → Shared → Prop} {s : Shared}
open PySem.W in
theorem sorted_any {it : Addr} {T : String} {o : Obj} {items : Array Value} {n : Nat} {bs : List PyData} {R : Value → PyData → Prop} {Q : Value → Shared → Prop} (hT : T = "list" ∨ T = "tuple")
    (ho : s.heap.get? it = some o) (hc : o.cls = .type T) (hd : o.data = .seq items n) (e : EachIs R items.toList bs) (er : EachIs (fun v b => ∃ as, Reads s.heap v b as) items.toList bs)
    (hal : AllAlike bs) (hk : Sortable bs) (hL : items.size ≤ sizeLine) (hu : ∀ b, b ∈ bs → A.units + 2 + b.depth < cLine)
    (h : ∀ p out c h2, (∀ b o, s.heap.get? b = some o → h2.get? b = some o) → s.heap.get? p = none → h2.get? p = some (seqObj "list" (List.toArray out) c) → EachIs R out (bs.mergeSort (dataLe false id)) → Q (.ref p) { s with heap := h2 }) :
    wpAny (model prog w) A (call (.builtin "sorted") [.ref it]) Q E s := by
  refine call_function_entry_kw kind_sorted plain_sorted entry_sorted (args_sorted1 _) ?_
  unfold Builtin.«sorted»
  refine wpAny_bind (m := checkCount "sorted" 1 1 _) (wpAny_pure ?_)
  refine wpAny_bind (wpAny_collect_seq it hT ho hc hd (fun h' kp => ?_) hL)
  have hLl : items.toList.length ≤ sizeLine := by rw [Array.length_toList]; exact hL
  refine wpAny_bind (wpAny_newList ?_ hLl)
  obtain ⟨hp, gg, dd, tt, oo⟩ := s
  dsimp only at *
  generalize hh : h'.push { cls := .type "list", data := .seq items.toList.toArray } = h3
  have at3 : h3.get? h'.objs.size = some (seqObj "list" items.toList.toArray 0) := by rw [← hh]; exact Heap.get?_push_size _ rfl
  have kp3 : ∀ b o, hp.get? b = some o → h3.get? b = some o := fun b o q => by rw [← hh]; exact Heap.get?_push_of_some _ (kp b o q)
  have sz : hp.get? h'.objs.size = none := by
    cases q : hp.get? h'.objs.size with
    | none => rfl
    | some o => exact absurd (Heap.lt_size (kp _ _ q)) (Nat.lt_irrefl _)
  have ne : ∀ b o, hp.get? b = some o → b ≠ h'.objs.size := fun b o q => Nat.ne_of_lt (Heap.lt_size (kp b o q))
  have er' : EachIs (fun v b => ∃ as, Reads (sortingHeap h3 h'.objs.size items.toList) v b as) items.toList bs := er.mono fun v b ⟨as, r⟩ =>
    ⟨as, PyProof.Rows.Reads.keeps (fun b o q => sortingHeap_old (ne b o q) (kp3 b o q)) r⟩
  refine wpAny_bind (wpAny_holding (wpAny_call_entry_kw slot_list_sort ⟨_, at3, rfl⟩ entry_list_sort ?_ (args_list_sort _)))
  have S := SortsAt.data (prog := prog) (w := w) (A := A.in1.in1) (s := ⟨sortingHeap h3 h'.objs.size items.toList, gg, dd, tt, oo⟩) er' hal hk fun d hd => hu d hd
  refine list_sort_vals (s := ⟨h3, gg, dd, tt, oo⟩) at3 S hLl ?_
  refine ⟨_, rfl, wpAny_pure ⟨_, rfl, ?_⟩⟩
  obtain ⟨c, hc2⟩ := sortedHeap_at (vs := items.toList) (out := (sortVals (dataKind (sortingHeap h3 h'.objs.size items.toList) bs) false items.toList items.toList).toArray) at3
  refine h _ (sortVals (dataKind (sortingHeap h3 h'.objs.size items.toList) bs) false items.toList items.toList) c _ (fun b o q => ?_) sz hc2 ?_
  · exact (sortedHeap_old (ne b o q) (Heap.lt_size (kp3 b o q))).trans (kp3 b o q)
  · have z := sortVals_data (enc := id) (R := R) (h' := sortingHeap h3 h'.objs.size items.toList) false e (by simpa using er') (by simpa using hal)
    simpa using z
end
section
variable {X : Cx}
theorem each_of_reads {h : Heap} : ∀ {vs : List Value} {ds : List PyData} {as : List Addr}, ReadsAll h vs ds as → PySem.W.EachIs (fun v d => ∃ as, Reads h v d as) vs ds
  | [], [], _, .nil => .nil
  | _ :: _, _ :: _, _, .cons a b => .cons ⟨_, a⟩ (each_of_reads b)
/-- values that stand for data, by the values of the layer -/
def Stand (K : Kf) (F : Hp) (u : Value) (d : D) : Prop := ∃ x, RelV x u ∧ Rp K F x d
theorem stand_each {K : Kf} {F : Hp} : ∀ {us : List Value} {vs : List V} {ds : List D}, Vals vs us → RpA K F vs ds → PySem.W.EachIs (Stand K F) us ds
  | _, _, _, .nil, .nil => .nil
  | _, _, _, .cons r t, .cons h k => .cons ⟨_, r, h⟩ (stand_each t k)
theorem each_stand {K : Kf} {F : Hp} : ∀ {us : List Value} {ds : List D}, PySem.W.EachIs (Stand K F) us ds → ∃ vs, Vals vs us ∧ RpA K F vs ds
  | _, _, .nil => ⟨[], .nil, .nil⟩
  | _, _, .cons ⟨x, r, h⟩ t => by
    obtain ⟨vs, h1, h2⟩ := each_stand t
    exact ⟨x :: vs, .cons r h1, .cons h h2⟩
def rSortD (K : Kf) : List V → Hp → VK → Prop := fun xs H Q => ∃ (a : Addr) (vs : List V) (ds : List D) (F : Hp), xs = [.ref a] ∧ (SqL K H a vs ∨ SqT K H a vs) ∧ Same F H ∧ RpA K F vs ds ∧ PyData.canLayAll0 ds = true ∧ PySem.W.AllAlike ds ∧ PySem.W.Sortable ds ∧ (∀ d ∈ ds, d.depth ≤ 64) ∧
  ∀ p ws, H p = none → ws.length ≤ sizeLine → RpA K F ws (ds.mergeSort (PySem.W.dataLe false id)) → Q (.ref p) (upd H p (.lst ws))
theorem call_sortD (hu : X.A.units + 100 < cLine) : CallR X (.builtin "sorted") (rSortD X.K) := by
  intro pins s σ H xs us Q I r h
  obtain ⟨a, vs, ds, F, rfl, hs, sm, ra, hc, hal, hk, hd, q⟩ := h
  obtain ⟨u, rfl, ru⟩ := vals1 r
  obtain rfl : u = Value.ref a := ru
  have body : ∀ {T : String} {o : Obj} {its : List Value} {n : Nat}, (T = "list" ∨ T = "tuple") → s.heap.get? a = some o → o.cls = .type T → o.data = .seq its.toArray n → Vals vs its → vs.length ≤ sizeLine →
      wpAny (model X.prog X.w) X.A (call (.builtin "sorted") [.ref a]) (EP X pins σ Q) X.xe s := fun {T o its n} hT ho hcl hdt rv hz => by
    obtain ⟨as, hr⟩ := Dp.readsAll I ds vs its (ra.dp sm hc) rv
    have hl : its.length = ds.length := rv.length.symm.trans ra.length
    refine sorted_any (R := Stand X.K F) hT ho hcl hdt (by simpa using stand_each rv ra) (by simpa using each_of_reads hr) hal hk (by rw [List.size_toArray, hl, ← ra.length]; exact hz) (fun b hb => by have := hd b hb; omega) fun p out c h2 kp np hp e => ?_
    obtain ⟨ws, w1, w2⟩ := each_stand e
    have hn : H p = none := I.hok.gone np
    have hlw : ws.length ≤ sizeLine := by
      rw [w2.length, List.length_mergeSort, ← ra.length]; exact hz
    refine ⟨.ref p, upd H p (.lst ws), I.laidN (t' := s.toks) kp np hn ⟨hlw, out, c, w1, hp⟩, rfl, q p ws hn hlw w2⟩
  rcases hs with hs | hs
  · obtain ⟨its, rv, ⟨o, n, ho, h1, h2, h3⟩, hz⟩ := I.list hs
    exact body (Or.inl rfl) ho h1 h3 rv hz
  · obtain ⟨its, rv, ⟨o, ho, h1, n, h3⟩, hz⟩ := I.tuple hs
    exact body (Or.inr rfl) ho h1 h3 rv hz
/-- repr of data without dicts -/
def rReprD (K : Kf) : List V → Hp → VK → Prop := fun xs H Q => ∃ (x : V) (d : D), xs = [x] ∧ Dp K H x d ∧ d.canLay0 = true ∧ d.depth ≤ 64 ∧ d.showable = true ∧ d.shown.length ≤ sizeLine ∧ Q (.str d.shown) H
theorem call_reprD (hg : X.A.guards = some []) (hu : X.A.units + 100 < cLine) : CallR X (.builtin "repr") (rReprD X.K) := by
  intro pins s σ H xs us Q I r h
  obtain ⟨x, d, rfl, hd, hc, h64, hs, hz, q⟩ := h
  obtain ⟨u, rfl, ru⟩ := vals1 r
  have fin : ∀ t tk, EP X pins σ Q (.str d.shown t) { s with toks := tk } := fun t tk => ⟨.str d.shown, H, I.tok tk, ⟨t, rfl⟩, q⟩
  have onref : ∀ a, u = Value.ref a → wpAny (model X.prog X.w) X.A (call (.builtin "repr") [u]) (EP X pins σ Q) X.xe s := fun a e => by
    obtain ⟨as, rd⟩ := Dp.reads I d x u hd ru
    rw [e] at rd ⊢
    refine repr_of_reads' rd hs (PyData.noDict_hsm (PyData.hasDict_of_canLay d hc)) hg (by omega) (fun _ _ z => z) (fun h' t tk kp => ?_) hz
    exact ⟨.str d.shown, H, I.kept (t' := tk) kp, ⟨t, rfl⟩, q⟩
  cases hd with
  | non =>
    cases (show u = Value.none from ru)
    exact PySem.P.repr_of_none (fin _ _)
  | bl b =>
    cases (show u = Value.bool b from ru)
    exact PySem.P.repr_of_bool (fin _ _)
  | int i =>
    obtain ⟨t, rfl⟩ := (show ∃ t, u = Value.int i t from ru)
    exact PySem.P.repr_of_int (by simpa [PyData.showable] using hs) (fin _ _)
  | str y =>
    obtain ⟨t, rfl⟩ := (show ∃ t, u = Value.str y t from ru)
    exact PySem.P.repr_of_str (fin _ _) hz
  | lst h k => exact onref _ ru
  | tup h k => exact onref _ ru
end
end DL

/-! the data layer: what a loop walks; slices; sorted, repr, min, max -/
namespace DL
open PySem PySem.Spec PyProof.Rows L2
section
variable {Γ : Cn} {W : WX} {F H : Hp} {σ : L2.St} {env : En} {ow : Ow} {X : Cx}
/-- a list or a tuple is walked -/
def iSeq (K : Kf) (tl : TE) : TI := fun σ H R => tl σ H fun x H1 => ∃ a, x = .ref a ∧ ((∃ xs, SqL K H1 a xs) ∧ R (Itl K a) H1 ∨ (∃ xs, SqT K H1 a xs) ∧ R (Itt K a) H1)
theorem fresh_fp {pins : List (Addr × Obj)} {s : Shared} (I : Inv X pins σ H s) : ∀ b ∈ [s.heap.objs.size], FpOk X pins H b := by
  intro b hb
  rw [List.mem_singleton.mp hb]
  exact I.fpOk (Nat.le_refl _) I.fresh
theorem pi_seq {tg l : Expr} {tl : TE} (hl : PE X l tl) : PI X tg l (iSeq X.K tl) where
  run := fun pins s σ H R I h => thn (hl.run pins s σ H _ I h) fun v s1 ⟨x, H1, I1, rx, a, ex, hq⟩ => by
    subst ex
    obtain rfl : v = Value.ref a := rx
    have kp : ∀ {o : Obj} (b : Addr) (u : Obj), s1.heap.get? b = some u → (s1.heap.push o).get? b = some u := fun b u e => Heap.get?_push_of_some _ e
    rcases hq with ⟨⟨xs, hs⟩, hR⟩ | ⟨⟨xs, hs⟩, hR⟩
    · obtain ⟨its, _, p, _⟩ := I1.list hs
      exact wpAny_pyIter_list p.isList ⟨_, [s1.heap.objs.size], _, _, H1, rfl, I1.kept kp, turn_list a _, ⟨_, Heap.get?_push_size _ rfl, rfl, rfl⟩, fresh_fp I1, hR⟩
    · obtain ⟨its, _, p, _⟩ := I1.tuple hs
      exact wpAny_pyIter_tuple (items := its.toArray) p ⟨_, [s1.heap.objs.size], _, _, H1, rfl, I1.kept kp, turn_tuple a _, ⟨_, Heap.get?_push_size _ rfl, rfl, rfl⟩, fresh_fp I1, hR⟩
def seqI (m : M D) : M (List D) := M.bind m fun d e => match d with
  | .list xs => some (.ok xs e)
  | .tuple xs => some (.ok xs e)
  | _ => none
theorem feeds_list {a : Addr} {vs : List V} {ds : List D} (hK : Γ.g.K = X.K) (h : F a = some (.lst vs)) (r : RpA Γ.g.K F vs ds) : Feeds Γ (Itl X.K a) F ds := fun F' H' σ env ow R s => by
  have hH : SqL X.K H' a vs := SqL.of (R.sm _ _ (s _ _ h))
  refine ⟨fun i hi => ?_, ⟨vs, hH, by rw [r.length]; exact Nat.le_refl _⟩, fun i d hd x H2 y => ?_⟩
  · have hv : i < vs.length := by rw [r.length]; exact hi
    exact ⟨vs, vs[i], hH, List.getElem?_eq_getElem hv⟩
  · obtain ⟨rfl, y⟩ := y
    obtain ⟨v, h1, h2⟩ := r.get' hd
    have := y vs hH
    rw [h1] at this
    cases this
    exact ⟨F', R, Stp.refl, h2.mono s⟩
theorem feeds_tup {a : Addr} {vs : List V} {ds : List D} (hK : Γ.g.K = X.K) (h : SqT Γ.g.K F a vs) (r : RpA Γ.g.K F vs ds) : Feeds Γ (Itt X.K a) F ds := fun F' H' σ env ow R s => by
  have hH : SqT X.K H' a vs := by rw [← hK]; exact same_seqT (s.trans R.sm) h
  refine ⟨fun i hi => ?_, ⟨vs, hH, by rw [r.length]; exact Nat.le_refl _⟩, fun i d hd x H2 y => ?_⟩
  · have hv : i < vs.length := by rw [r.length]; exact hi
    exact ⟨vs, vs[i], hH, List.getElem?_eq_getElem hv⟩
  · obtain ⟨rfl, y⟩ := y
    obtain ⟨v, h1, h2⟩ := r.get' hd
    have := y vs hH
    rw [h1] at this
    cases this
    exact ⟨F', R, Stp.refl, h2.mono s⟩
theorem i_seq {tg e : Expr} {m : M D} (hK : Γ.g.K = X.K) (h : PE X e (tD Γ W m)) : PI X tg e (tI Γ W (seqI m)) :=
  PI.by (pi_seq h) fun σ H R ⟨env, F, ow, R0, r, e, q⟩ => by
    rcases M.bind_some e with ⟨d, e1, h1, h2⟩ | ⟨x, e1, h1, h2⟩
    · refine tD_of R0 h1 fun v H' F' R' S rv => ?_
      cases rv with
      | lst h r =>
        cases h2
        exact ⟨_, rfl, Or.inl ⟨⟨_, SqL.of (R'.sm _ _ h)⟩, q _ H' F' R' S (feeds_list hK h r)⟩⟩
      | tup h r =>
        cases h2
        exact ⟨_, rfl, Or.inr ⟨⟨_, by rw [← hK]; exact same_seqT R'.sm h⟩, q _ H' F' R' S (feeds_tup hK h r)⟩⟩
      | _ => cases h2
    · subst h2
      exact tD_of R0 h1 q
/-! ### ranges -/
def rangeL (lo : Int) (n : Nat) : List D := (List.range n).map fun (k : Nat) => PyData.int (lo + (k : Int))
def rangeI (os : List Opd) : M (List D) := M.bind (runA os) fun as e => match getA true e os as with
  | some [.int j] => if -1000000 ≤ j ∧ j ≤ 1000000 then some (.ok (rangeL 0 j.toNat) e) else none
  | some [.int i, .int j] => if (-1000000000000 ≤ i ∧ i ≤ 1000000000000) ∧ -1000000000000 ≤ j ∧ j ≤ 1000000000000 then some (.ok (rangeL i (j - i).toNat) e) else none
  | _ => none
theorem feeds_range {lo : Int} {n : Nat} : Feeds Γ (Itr lo n) F (rangeL lo n) := fun F' H' σ env ow R s => by
  have hl : (rangeL lo n).length = n := by simp [rangeL]
  refine ⟨fun i hi => by rw [hl] at hi; exact hi, by rw [hl]; exact Nat.le_refl n, fun i d hd x H2 y => ?_⟩
  obtain ⟨rfl, rfl⟩ := y
  have : d = .int (lo + (i : Int)) := by
    unfold rangeL at hd
    rw [List.getElem?_map] at hd
    obtain ⟨k, h1, h2⟩ := Option.map_eq_some_iff.mp hd
    have := List.getElem?_eq_some_iff.mp h1
    obtain ⟨q, z⟩ := this
    rw [List.getElem_range] at z
    rw [← h2, ← z]
  subst this
  exact ⟨F', R, Stp.refl, .int _⟩
theorem i_range1 {tg a : Expr} {o : Opd} {p pos : Pos} (hg : Gl X "range") (hm : X.mg "range" = none) (ha : PA X [a] (tAs Γ W [o])) (hs : starEach [a] X.env = [(false, eval a X.env)] := by rfl) : PI X tg (.Call (.Name "range" p) [a] [] pos) (tI Γ W (rangeI [o])) :=
  PI.by (pi_range1 hg hm ha hs) fun σ H R ⟨env, F, ow, R0, r, e, q⟩ => by
    rcases M.bind_some e with ⟨as, e1, h1, h2⟩ | ⟨x, e1, h1, h2⟩
    · refine tAs_of _ R0 h1 fun vs H' F' R' S A => ?_
      cases z : getA true e1 [o] as with
      | none => rw [z] at h2; cases h2
      | some ds =>
        rw [z] at h2
        have pr := R'.gets A z
        (try dsimp only at h2)
        split at h2
        · rename_i j hz
          split at h2
          · rename_i hb
            cases h2
            obtain rfl := Option.some.inj hz
            obtain ⟨y, rfl, h3⟩ := pair1 pr
            rw [rpx_int h3]
            exact ⟨j, rfl, by omega, by omega, q _ H' F' R' S feeds_range⟩
          · cases h2
        · rename_i i j hz
          obtain rfl := Option.some.inj hz
          have := getA_len z
          simp at this
        · cases h2
    · subst h2
      exact tAs_of _ R0 h1 q
theorem i_range2 {tg a b : Expr} {o o' : Opd} {p pos : Pos} (hg : Gl X "range") (hm : X.mg "range" = none) (ha : PA X [a, b] (tAs Γ W [o, o'])) (hs : starEach [a, b] X.env = [(false, eval a X.env), (false, eval b X.env)] := by rfl) (hs2 : starEach [b] X.env = [(false, eval b X.env)] := by rfl) :
    PI X tg (.Call (.Name "range" p) [a, b] [] pos) (tI Γ W (rangeI [o, o'])) :=
  PI.by (pi_range2 hg hm ha hs hs2) fun σ H R ⟨env, F, ow, R0, r, e, q⟩ => by
    rcases M.bind_some e with ⟨as, e1, h1, h2⟩ | ⟨x, e1, h1, h2⟩
    · refine tAs_of _ R0 h1 fun vs H' F' R' S A => ?_
      cases z : getA true e1 [o, o'] as with
      | none => rw [z] at h2; cases h2
      | some ds =>
        rw [z] at h2
        have pr := R'.gets A z
        (try dsimp only at h2)
        split at h2
        · rename_i j hz
          obtain rfl := Option.some.inj hz
          have := getA_len z
          simp at this
        · rename_i i j hz
          split at h2
          · rename_i hb
            cases h2
            obtain rfl := Option.some.inj hz
            obtain ⟨y, y', rfl, h3, h4⟩ := pair2 pr
            rw [rpx_int h3, rpx_int h4]
            exact ⟨i, j, rfl, ⟨by omega, by omega, by omega, by omega⟩, q _ H' F' R' S feeds_range⟩
          · cases h2
        · cases h2
    · subst h2
      exact tAs_of _ R0 h1 q
/-! ### slices -/
def cutG {α : Type} (xs : List α) (lo hi : Option Int) : List α := (xs.drop (HT.sIx xs.length 0 lo)).take (HT.sIx xs.length xs.length hi - HT.sIx xs.length 0 lo)
theorem RpA.cut {K : Kf} {xs : List V} {ds : List D} (r : RpA K F xs ds) (lo hi : Option Int) : RpA K F (cutV xs lo hi) (cutG ds lo hi) := by
  unfold cutV cutG
  rw [r.length]
  exact (r.drop _).take _
def partM : Option (M D) → M (Option Int)
  | none => M.ret none
  | some m => M.bind m fun d e => match d with
    | .int i => some (.ok (some i) e)
    | _ => none
def cutD (d : D) (lo hi : Option Int) : Option D := match d with
  | .list xs => some (.list (cutG xs lo hi))
  | .tuple xs => some (.tuple (cutG xs lo hi))
  | .str x => if x.length ≤ 10000000 then some (.str (cutS x lo hi)) else none
  | _ => none
def sliceM (o : Opd) (lo hi : Option (M D)) : M D := M.bind (runA [o]) fun ao => M.bind (partM lo) fun l => M.bind (partM hi) fun h e => match getA true e [o] ao with
  | some [d] => (cutD d l h).map fun z => Rs.ok z e
  | _ => none
def rSlX (K : Kf) : V → Option Int → Option Int → Hp → VK → Prop := fun x lo hi H Q => (rSlL K x lo hi H Q ∨ rSlA K x lo hi H Q) ∨ rSlS x lo hi H Q
theorem sl_any : SlR X (rSlX X.K) := (sl_list.or sl_tupA).or sl_str
theorem cut_go (hK : Γ.g.K = X.K) (R : Rep Γ F H σ env ow) {x : V} {d z : D} {l h : Option Int} {Q : VK} (hx : RpX true Γ.g.K F H x d) (e : cutD d l h = some z)
    (k : ∀ v H' F', Rep Γ F' H' σ env ow → Stp F H ow F' H' → Rp Γ.g.K F' v z → Q v H') : rSlX X.K x l h H Q := by
  unfold cutD at e
  split at e
  · cases e
    obtain ⟨a, xs, rfl, q, t⟩ := rpx_list R.sm hx
    refine Or.inl (Or.inl ⟨a, xs, rfl, SqL.of q, fun p hp => ?_⟩)
    obtain ⟨R2, S2⟩ := R.alloc (.lst (cutV xs l h)) hp
    exact k _ _ _ R2 S2 (.lst upd_same ((t.cut l h).mono S2.s1))
  · rename_i ds
    cases e
    obtain ⟨a, xs, rfl, q, q', t⟩ := rpx_tup R.sm hx
    refine Or.inl (Or.inr ⟨a, xs, rfl, by rw [← hK]; exact q, fun hw => ?_, fun _ p hp => ?_⟩)
    · have : cutG ds l h = ds := by
        unfold cutG
        rw [← t.length, hw.1, hw.2, List.drop_zero, Nat.sub_zero, t.length, List.take_length]
      rw [this] at k
      exact k _ H F R Stp.refl (.tup q' t)
    · obtain ⟨R2, S2⟩ := R.alloc (.tup (cutV xs l h)) hp
      exact k _ _ _ R2 S2 (.tup (SqT.of upd_same) ((t.cut l h).mono S2.s1))
  · split at e
    · rename_i hz
      cases e
      rw [rpx_str hx]
      exact Or.inr ⟨_, rfl, line_of hz, k _ H F R Stp.refl (.str _)⟩
    · cases e
  · cases e
/-- a part's reading -/
def tPt (Γ : Cn) (W : WX) : Option (M D) → TO
  | none => tNoPart
  | some m => tPart (tD Γ W m)
theorem part_of {lo : Option (M D)} {Qo : Option Int → Hp → Prop} {r : Rs (Option Int)} (R : Rep Γ F H σ env ow) (e : partM lo env = some r)
    (h : Out Γ W σ F H ow (fun l e' => ∀ H' F', Rep Γ F' H' σ e' ow → Stp F H ow F' H' → Qo l H') r) : tPt Γ W lo σ H Qo := by
  cases lo with
  | none => cases e; exact h H F R Stp.refl
  | some m =>
    rcases M.bind_some e with ⟨d, e1, h1, h2⟩ | ⟨x, e1, h1, h2⟩
    · cases d with
      | int i =>
        cases h2
        refine (show tD Γ W m σ H _ from tD_of R h1 fun v H' F' R' S rv => ?_)
        cases rv
        exact ⟨i, rfl, h H' F' R' S⟩
      | _ => cases h2
    · subst h2
      exact (show tD Γ W m σ H _ from tD_of R h1 h)
theorem e_slice {o : Expr} {elo ehi : Option Expr} {op : Opd} {lo hi : Option (M D)} {p2 pos : Pos} (hK : Γ.g.K = X.K) (ho : PE X o (tO Γ W op)) (hl : PO X elo (tPt Γ W lo)) (hh : PO X ehi (tPt Γ W hi)) :
    PE X (.Subscript o (.Slice elo ehi none p2) pos) (tD Γ W (sliceM op lo hi)) :=
  PE.by (pe_slice sl_any ho hl hh) fun σ H Q ⟨env, F, ow, R, r, e, q⟩ => by
    rcases M.bind_some e with ⟨ao, e1, h1, h2⟩ | ⟨x, e1, h1, h2⟩
    · have main := tAs_of (W := W) (Qa := fun vs H1 => match vs with
        | [x] => tPt Γ W lo σ H1 fun l H2 => tPt Γ W hi σ H2 fun u H3 => rSlX X.K x l u H3 Q
        | _ => False) [op] R h1 fun vs H1 F1 R1 S1 A => ?_
      · exact main
      · have len1 : ∃ x, vs = [x] := by
          cases A with
          | sl _ t => cases t; exact ⟨_, rfl⟩
          | ex _ t => cases t; exact ⟨_, rfl⟩
        obtain ⟨x, rfl⟩ := len1
        dsimp only
        rcases M.bind_some h2 with ⟨l, e2, h3, h4⟩ | ⟨y, e2, h3, h4⟩
        · refine part_of R1 h3 fun H2 F2 R2 S2 => ?_
          rcases M.bind_some h4 with ⟨u, e3, h5, h6⟩ | ⟨y, e3, h5, h6⟩
          · refine part_of R2 h5 fun H3 F3 R3 S3 => ?_
            cases z : getA true e3 [op] ao with
            | none => rw [z] at h6; cases h6
            | some ds =>
              rw [z] at h6
              have A3 : AtA Γ.g.K F3 σ [op] ao [x] := by
                cases A with
                | sl h t => cases t; exact .sl h .nil
                | ex h t => cases t; exact .ex ((h.mono S2.s1).mono S3.s1) .nil
              have pr := R3.gets A3 z
              have l1 := getA_len z
              obtain ⟨d, rfl⟩ : ∃ d, ds = [d] := by
                cases ds with
                | nil => simp at l1
                | cons d t => cases t with
                  | nil => exact ⟨d, rfl⟩
                  | cons _ _ => simp at l1
              obtain ⟨w, h7, h8⟩ := Option.map_eq_some_iff.mp h6
              subst h8
              obtain ⟨x', ex, hx⟩ := pair1 pr
              cases ex
              exact cut_go hK R3 hx h7 fun v H' F' R' S' rv => q v H' F' R' (((S1.trans S2).trans S3).trans S') rv
          · subst h6
            exact part_of R2 h5 (xGo.step (xGo.step q S1) S2)
        · subst h4
          exact part_of R1 h3 (xGo.step q S1)
    · subst h2
      exact tAs_of (W := W) (Qa := fun vs H1 => match vs with
        | [x] => tPt Γ W lo σ H1 fun l H2 => tPt Γ W hi σ H2 fun u H3 => rSlX X.K x l u H3 Q
        | _ => False) [op] R h1 q
theorem o_none : PO X none (tPt Γ W none) := po_none
theorem o_some {e : Expr} {m : M D} (h : PE X e (tD Γ W m)) : PO X (some e) (tPt Γ W (some m)) := po_some h
/-! ### sorted, repr, min, max -/
def allAlike (ds : List D) : Bool := ds.all fun d => ds.all fun e => PySem.W.alike d e
def sortable (ds : List D) : Bool := (ds.all fun d => match d with | .tuple (_ :: _) => true | _ => false) || (ds.all fun d => match d with | .none => false | .tuple _ => false | _ => true)
theorem allAlike_ok {ds : List D} (h : allAlike ds = true) : PySem.W.AllAlike ds := fun d hd e he => by
  have := List.all_eq_true.mp h d hd
  exact List.all_eq_true.mp this e he
theorem sortable_ok {ds : List D} (h : sortable ds = true) : PySem.W.Sortable ds := by
  unfold sortable at h
  rcases Bool.or_eq_true_iff.mp h with h | h
  · refine Or.inl fun d hd => ?_
    have := List.all_eq_true.mp h d hd
    (try dsimp only at this)
    split at this
    · exact ⟨_, _, rfl⟩
    · cases this
  · refine Or.inr fun d hd => ?_
    have := List.all_eq_true.mp h d hd
    (try dsimp only at this)
    split at this
    · cases this
    · cases this
    · rename_i n1 n2
      exact ⟨fun e => n1 e, fun xs e => n2 xs e⟩
def sortedL (ds : List D) : List D := ds.mergeSort (PySem.W.dataLe false id)
def sortOk (ds : List D) : Bool := PyData.canLayAll0 ds && allAlike ds && sortable ds && ds.all fun d => decide (d.depth ≤ 64)
def itemsOf : D → Option (List D)
  | .list xs => some xs
  | .tuple xs => some xs
  | _ => none
def sortD : List D → Option D := fun ds => match ds with
  | [d] => match itemsOf d with
    | some xs => if sortOk xs = true then some (.list (sortedL xs)) else none
    | none => none
  | _ => none
theorem rpx_items {b : Bool} {K : Kf} {v : V} {d : D} {ds : List D} (s : Same F H) (h : RpX b K F H v d) (e : itemsOf d = some ds) : ∃ a vs, v = .ref a ∧ (SqL K H a vs ∨ SqT K H a vs) ∧ RpA K F vs ds := by
  cases d with
  | list xs =>
    cases e
    obtain ⟨l, vs, e1, h1, h2⟩ := rpx_list s h
    exact ⟨l, vs, e1, Or.inl (SqL.of h1), h2⟩
  | tuple xs =>
    cases e
    obtain ⟨l, vs, e1, h1, _, h2⟩ := rpx_tup s h
    exact ⟨l, vs, e1, Or.inr h1, h2⟩
  | _ => cases e
theorem p_sort (hK : Γ.g.K = X.K) : Prim true Γ sortD (rSortD X.K) := by
  intro F H σ env ow vs ds z Q R hv e k
  unfold sortD at e
  split at e
  · rename_i d
    obtain ⟨x, rfl, h1⟩ := pair1 hv
    cases hi : itemsOf d with
    | none => rw [hi] at e; cases e
    | some xs =>
      rw [hi] at e
      dsimp only at e
      split at e
      · rename_i ok
        cases e
        obtain ⟨a, ws, rfl, q1, q2⟩ := rpx_items R.sm h1 hi
        unfold sortOk at ok
        simp only [Bool.and_eq_true] at ok
        obtain ⟨⟨⟨o1, o2⟩, o3⟩, o4⟩ := ok
        rw [hK] at q1 q2
        refine ⟨a, ws, xs, F, rfl, q1, R.sm, q2, o1, allAlike_ok o2, sortable_ok o3, fun d hd => of_decide_eq_true (List.all_eq_true.mp o4 d hd), fun p us hp _ hr => ?_⟩
        obtain ⟨R2, S2⟩ := R.alloc (.lst us) hp
        refine k _ _ _ R2 S2 (.lst upd_same ?_)
        rw [hK]
        exact hr.mono S2.s1
      · cases e
  · cases e
def reprD : List D → Option D := fun ds => match ds with
  | [d] => if d.canLay0 = true ∧ d.depth ≤ 64 ∧ d.showable = true ∧ d.shown.length ≤ 10000000 then some (.str d.shown) else none
  | _ => none
theorem p_repr (hK : Γ.g.K = X.K) : Prim true Γ reprD (rReprD X.K) := by
  intro F H σ env ow vs ds z Q R hv e k
  unfold reprD at e
  split at e
  · rename_i d
    split at e
    · rename_i h
      obtain ⟨x, rfl, h1⟩ := pair1 hv
      cases e
      rw [hK] at h1
      exact ⟨x, d, rfl, rpx_dp R.sm h.1 h1, h.1, h.2.1, h.2.2.1, line_of h.2.2.2, k _ H F R Stp.refl (.str _)⟩
    · cases e
  · cases e
def max2D : List D → Option D := fun ds => match ds with
  | [.int i, .int j] => some (.int (if j > i then j else i))
  | _ => none
def min2D : List D → Option D := fun ds => match ds with
  | [.int i, .int j] => some (.int (if j < i then j else i))
  | _ => none
theorem p_max2 : Prim true Γ max2D (fun xs H Q => ∃ i j, xs = [.int i, .int j] ∧ Q (.int (if j > i then j else i)) H) := by
  intro F H σ env ow vs ds z Q R hv e k
  unfold max2D at e
  split at e
  · obtain ⟨x, y, rfl, h1, h2⟩ := pair2 hv
    cases e
    rw [rpx_int h1, rpx_int h2]
    exact ⟨_, _, rfl, k _ H F R Stp.refl (.int _)⟩
  · cases e
theorem p_min2 : Prim true Γ min2D (fun xs H Q => ∃ i j, xs = [.int i, .int j] ∧ Q (.int (if j < i then j else i)) H) := by
  intro F H σ env ow vs ds z Q R hv e k
  unfold min2D at e
  split at e
  · obtain ⟨x, y, rfl, h1, h2⟩ := pair2 hv
    cases e
    rw [rpx_int h1, rpx_int h2]
    exact ⟨_, _, rfl, k _ H F R Stp.refl (.int _)⟩
  · cases e
/-! chains -/
def chainM (p q : List D → Option D) (a b c : Opd) : M D := M.bind (runA [a, b]) fun as e => match getA true e [a, b] as with
  | some ds => match p ds with
    | some (.bool true) => M.bind (runA [c]) (fun cs e2 => match getA true e2 [b, c] (as.drop 1 ++ cs) with
      | some es => (q es).map fun z => Rs.ok z e2
      | none => none) e
    | some (.bool false) => some (.ok (.bool false) e)
    | _ => none
  | none => none
end
end DL

/-! sets of ints made of lists, and sorted, of any size below 4,000 -/
namespace DL
open PySem PySem.Spec PyProof.Rows L2
section
variable {prog : Program} {w : World} {A : Around}
theorem SetR.same {h h' : Heap} {a : Addr} {S : Int → Bool} {n : Nat} (R : L2.SetR w h a S n) (k : ∀ o, h.get? a = some o → h'.get? a = some o) : L2.SetR w h' a S n := R.at k
/-- the ints handed out by a walk go into a set -/
theorem set_loopR {R : Result → Shared → Prop} {I : Addr} {fp wr : List Addr} {G : Array GenState → Array GenState → Prop} {n : Nat} {P : Nat → Value → Prop} {St : Nat → Shared → Prop}
    (W : WalksS prog w A.in1 I fp wr G n P St) (S : Addr) (hSf : S ∉ fp) (val : Nat → Int) (hval : ∀ i v, P i v → ∃ t, v = .int (val i) t) (hb : n + 1 < scanBound) (k : Nat) :
    ∀ (i : Nat) (s : Shared), n - i = k → i ≤ n → St i s → L2.SetR w s.heap S (fun x => (firstMet val i).any (· == x)) (firstMet val i).length →
      (∀ s', Moved (S :: wr) G s s' → L2.SetR w s'.heap S (fun x => (firstMet val n).any (· == x)) (firstMet val n).length → R (.ok (.ret .none)) s') →
      codeAny (model prog w) A (.builtin "set.update.loop" ⟨[.ref S, .ref I], []⟩) R s := by
  have nw : S ∉ wr := fun z => hSf (W.sub _ z)
  have inc : ∀ b ∈ wr, b ∈ S :: wr := fun b z => List.mem_cons_of_mem _ z
  induction k with
  | zero =>
    intro i s hk hi st hS hR
    obtain rfl : i = n := by omega
    refine codeAny_builtin PyProof.Rows.F.entry_set_update_loop ?_
    rw [Around.under_plainId PyProof.Rows.F.plain_set_update_loop _]
    show wpAny _ A.in1 (_ >>= _) _ _ s
    refine wpAny_bind (W.done s _ _ st fun s' mv => ?_)
    exact wpAny_pure (hR s' (mv.mono inc) (hS.at fun o q => mv.heap S _ nw q))
  | succ k ih =>
    intro i s hk hi st hS hR
    have lt : i < n := by omega
    refine codeAny_builtin PyProof.Rows.F.entry_set_update_loop ?_
    rw [Around.under_plainId PyProof.Rows.F.plain_set_update_loop _]
    show wpAny _ A.in1 (_ >>= _) _ _ s
    refine wpAny_bind (W.item i s _ _ lt st fun v s' hP st' mv => ?_)
    obtain ⟨t, rfl⟩ := hval i v hP
    have hS' := hS.at (h' := s'.heap) fun o q => mv.heap S _ nw q
    show wpAny _ A.in1 (holding [_] (setAdd S _) >>= _) _ _ s'
    refine wpAny_bind (wpAny_holding ?_)
    unfold setAdd
    refine wpAny_holding (wpAny_bind ((intKind prog w).pyHash (k := val i) (intKind_is _ _ _ _) ?_))
    have few := firstMet_length_le val i
    refine setR_add_hashed (s := { s' with toks := s'.toks + 1 }) hS' (by omega) fun h' sb R2 => ?_
    have R3 : L2.SetR w h' S (fun x => (firstMet val (i + 1)).any (· == x)) (firstMet val (i + 1)).length := by
      have e : (firstMet val (i + 1)).length = if (firstMet val i).any (· == val i) = true then (firstMet val i).length else (firstMet val i).length + 1 := by rw [firstMet_succ, step_length]
      rw [e]
      exact R2.congr fun x => by rw [firstMet_succ, step_any]
    have fr : ∀ b o, b ≠ S → s'.heap.get? b = some o → h'.get? b = some o := fun b o nb q => (sb.2 b nb).trans q
    refine wpAny_pure ⟨plainId_quiet PyProof.Rows.F.plain_set_update_loop _, ih (i + 1) _ (by omega) lt ?_ R3 fun s2 mv2 hS2 => hR s2 ?_ hS2⟩
    · exact W.frame _ s' _ _ st' (Nat.le_succ _) fun b bf o q => fr b o (fun z => hSf (z ▸ bf)) q
    · exact Moved.trans W.gtrans ((mv.mono inc).then_heap (Nat.le_succ _) fun b o bn q => fr b o (fun z => bn (z ▸ List.mem_cons_self)) q) mv2
/-- a new empty set, an argument behind it -/
theorem set_new_led {E : Value → Shared → Prop} {s : Shared} (a : Value) {Q : Value → Shared → Prop}
    (h : Q (.ref s.heap.objs.size) { s with heap := s.heap.push { cls := .type "set", dict := none, data := .set #[] 0 (.fresh 0 0 (!w.params.followText "set-order")) } }) :
    codeAny (model prog w) A (.call (.builtin "set.__new__") ⟨[.type "set", a], []⟩) (wants Q E) s := by
  refine codeAny_of_tree ?_
  show wpAny _ A.in1 (_ >>= _) _ _ s
  refine wpAny_bind (wpAny_of_eq (PySem.F.newCall_set_1 a) (wpAny_pure ⟨plainId_quiet PySem.F.plain_set_new _, codeAny_builtin PySem.F.entry_set_new ?_⟩))
  rw [Around.under_plainId PySem.F.plain_set_new _]
  unfold Builtin.«set.__new__» Builtin.Frozenset.newClass
  have sub := sub_set_self
  obtain ⟨hp, g, d, tk, os⟩ := s
  dsimp only
  wp_walk
  exact wpAny_askSetting (wpAny_pure (by
    dsimp only
    simp only [newObj]
    exact wpAny_bind (wpAny_alloc (wpAny_pure (wpAny_pure h)))))
/-- what the set's own __init__ does with a list of ints -/
theorem set_init_ints {E : Value → Shared → Prop} {s : Shared} {S l : Addr} {led : Bool} {items : Array Value} {ns : List Int} {Q : Value → Shared → Prop} (hh : A.handled = none)
    (hS : s.heap.get? S = some { cls := .type "set", dict := none, data := .set #[] 0 (.fresh 0 0 led) }) (hled : w.params.followText "set-order" = true ∨ led = true)
    (hl : s.heap.IsList l items) (hi : IntsAre items.toList ns) (hb : items.size + 1 < scanBound)
    (h : ∀ h' tk, L2.SetR w h' S (fun x => (firstMet (fun i => ns.getD i 0) items.size).any (· == x)) (firstMet (fun i => ns.getD i 0) items.size).length → (∀ b o, b ≠ S → s.heap.get? b = some o → h'.get? b = some o) →
      Q .none { s with heap := h', toks := tk }) :
    wpAny (model prog w) A (Builtin.«set.__init__» ⟨[.ref S, .ref l], []⟩) (fun f s' => ∃ v, f = .done (.ret v) ∧ Q v s') E s := by
  obtain ⟨ol, gl, cl, nl, dl⟩ := hl
  obtain ⟨c0, d0, data0, sl0⟩ := ol
  dsimp only at cl dl
  subst cl; subst dl
  have no1 := PySem.F.sub_list_set
  have no2 := PySem.F.sub_list_frozenset
  have no3 : (Value.type "list" == Value.type "dict") = false := by decide
  have isl : s.heap.IsList l items := ⟨_, gl, rfl, nl, rfl⟩
  have tyS : s.TypeIs (.ref S) "set" := ⟨_, hS, rfl⟩
  unfold Builtin.«set.__init__» noKeywords Builtin.Frozenset.updateFrom
  generalize hI : pyIter = it
  wp_walk
  subst hI
  have ltl := Heap.lt_size gl
  have ltS := Heap.lt_size hS
  have nSl : S ≠ l := fun z => by
    rw [z, gl] at hS
    have q : Value.type "list" = Value.type "set" := congrArg Obj.cls (Option.some.inj hS)
    exact absurd q (by decide)
  refine wpAny_pyIter_list isl (wpAny_bind (wpAny_runValue ?_))
  have fine : A.in1.handled = none := hh
  have off : S ∉ [s.heap.objs.size, l] := by
    simp only [List.mem_cons, List.not_mem_nil, or_false, not_or]
    exact ⟨Nat.ne_of_lt ltS, nSl⟩
  have vals : ∀ (i : Nat) (v : Value), items[i]? = some v → ∃ t, v = .int (ns.getD i 0) t := fun i v q => IntsAre.int_at hi i v (by rw [Array.getElem?_toList]; exact q)
  refine set_loopR ((Walks.list fine _ l (Nat.ne_of_lt ltl) items).toS) S off (fun i => ns.getD i 0) vals hb (items.size - 0) 0 _ rfl (Nat.zero_le _) ⟨⟨_, Heap.get?_push_size _ rfl, rfl, rfl⟩, isl.push _⟩ ?_ fun s' mv R => ?_
  · have z : L2.SetR w (s.heap.push { cls := .type "list_iterator", data := .fields #[.ref l, .int 0 0] }) S (fun _ => false) 0 := by
      refine ⟨_, #[], 0, _, Heap.get?_push_of_some _ hS, ⟨rfl, rfl, rfl⟩, rfl, fun e he => by simp at he, by simp, fun k => by simp, by decide, rfl, rfl, List.Pairwise.nil, ?_⟩
      exact hled
    exact z.congr fun k => rfl
  · obtain ⟨h', g', d', tk', os'⟩ := s'
    obtain rfl : g' = s.gens := mv.gens
    obtain rfl : d' = s.drawn := mv.drawn
    obtain rfl : os' = s.os := mv.os
    refine wpAny_pure (wpAny_pure ⟨_, rfl, h h' tk' R fun b o nb q => ?_⟩)
    have lb := Heap.lt_size q
    refine mv.heap b o ?_ (Heap.get?_push_of_some _ q)
    simp only [List.mem_cons, List.not_mem_nil, or_false, not_or]
    exact ⟨nb, Nat.ne_of_lt lb⟩
/-- set(xs), xs a list of ints -/
theorem set_of_ints {E : Value → Shared → Prop} {s : Shared} {l : Addr} {items : Array Value} {ns : List Int} {Q : Value → Shared → Prop} (hh : A.handled = none)
    (hl : s.heap.IsList l items) (hi : IntsAre items.toList ns) (hb : items.size + 1 < scanBound)
    (h : ∀ h' tk, L2.SetR w h' s.heap.objs.size (fun x => (firstMet (fun i => ns.getD i 0) items.size).any (· == x)) (firstMet (fun i => ns.getD i 0) items.size).length →
      (∀ b o, s.heap.get? b = some o → h'.get? b = some o) → Q (.ref s.heap.objs.size) { s with heap := h', toks := tk }) :
    wpAny (model prog w) A (call (.type "set") [.ref l]) Q E s := by
  obtain ⟨first, more, mro⟩ := PySem.F.called_set.mro
  have isMade := PySem.F.called_set.made
  have isSub := PySem.F.called_set.sub
  refine wpAny_call (codeAny_of_tree ?_)
  show wpAny _ _ (callAny (Value.type "set") _) _ _ s
  refine wpAny_pure ⟨Code.quiet_builtin _ (by decide +kernel), codeAny_builtin PySem.F.entry_type_call ?_⟩
  rw [Around.under_plain (weight_type_call_type "set" [.ref l] []) rfl]
  have a1 := PySem.F.called_set.notType
  have a2 := PySem.F.called_set.canCreate
  have a3 := PySem.F.typeCall_set_1 (.ref l)
  repeat (any_goals (first | assumption | wp_step))
  generalize hled : (!w.params.followText "set-order") = led
  have hled' : w.params.followText "set-order" = true ∨ led = true := by
    cases q : w.params.followText "set-order" with
    | true => exact Or.inl rfl
    | false => rw [q] at hled; exact Or.inr hled.symm
  refine codeAny_mono (set_new_led (.ref l) (E := E) (Q := fun obj s₁ => obj = .ref s.heap.objs.size ∧ s₁ = { s with heap := s.heap.push { cls := .type "set", dict := none, data := .set #[] 0 (.fresh 0 0 led) } }) ⟨rfl, by rw [hled]⟩) fun r s₁ hr => ?_
  cases r with
  | error e => exact hr
  | ok fl => cases fl with
    | ret obj =>
      obtain ⟨rfl, rfl⟩ := hr
      have gS : (s.heap.push { cls := .type "set", dict := none, data := .set #[] 0 (.fresh 0 0 led) }).get? s.heap.objs.size = some _ := Heap.get?_push_size _ rfl
      have tS : Shared.TypeIs { s with heap := s.heap.push { cls := .type "set", dict := none, data := .set #[] 0 (.fresh 0 0 led) } } (.ref s.heap.objs.size) "set" := ⟨_, gS, rfl⟩
      have b1 := PySem.F.called_set.init.lookup
      have b2 := PySem.F.called_set.init.bind (.ref s.heap.objs.size)
      repeat (any_goals (first | assumption | wp_step))
      refine codeAny_mono (codeAny_call_builtin (R := wants (fun v s₂ => v = .none ∧ Q (.ref s.heap.objs.size) s₂) E) PySem.F.called_set.init.plain PySem.F.entry_set_init (check_set_init_1 tS ?_)) fun r₂ s₂ hr₂ => ?_
      · have z := set_init_ints (prog := prog) (w := w) (A := A.in1.in1) (E := E) (s := { s with heap := s.heap.push { cls := .type "set", dict := none, data := .set #[] 0 (.fresh 0 0 led) } }) (Q := fun v s₂ => v = .none ∧ Q (.ref s.heap.objs.size) s₂)
          hh gS hled' (hl.push _) hi hb fun h' tk R kp => ⟨rfl, h h' tk R fun b o q => kp b o (Nat.ne_of_lt (Heap.lt_size q)) (Heap.get?_push_of_some _ q)⟩
        refine wpAny_mono z (fun f s' ⟨v, e, q⟩ => ?_) fun _ _ e => e
        subst e
        exact q
      · cases r₂ with
        | error e => exact hr₂
        | ok fl₂ => cases fl₂ with
          | ret r =>
            obtain ⟨rfl, hq⟩ := hr₂
            repeat (any_goals (first | assumption | wp_step))
          | _ => exact hr₂.elim
    | _ => exact hr.elim
end
end DL

/-! sorted(set(..)) in the layer -/
namespace DL
open PySem PySem.Spec PyProof.Rows L2
section
variable {prog : Program} {w : World} {A : Around} {E : Value → Shared → Prop} {s : Shared}
open PySem.W in
theorem sorted_setA {a : Addr} {S : Int → Bool} {n : Nat} {Q : Value → Shared → Prop} (R : L2.SetR w s.heap a S n) (hh : A.handled = none) (hu : A.units + 10 < cLine)
    (hQ : ∀ s' p (out : List Value) (c : Nat) (ns : List Int), (∀ b o, s.heap.get? b = some o → s'.heap.get? b = some o) → s'.gens = s.gens → s'.os = s.os → s.heap.objs.size ≤ p →
      s'.heap.get? p = some (seqObj "list" out.toArray c) → IntsAre out ns → ns.Pairwise (· < ·) → (∀ k, k ∈ ns ↔ S k = true) → ns.length = n → Q (.ref p) s') :
    wpAny (model prog w) A (call (.builtin "sorted") [.ref a]) Q E s := by
  obtain ⟨o, es, ep, t, ho, hex, hd, g, nd, hm, hb, hf, hn, hr, hl⟩ := R
  refine Calls.call_function_entry kind_sorted plain_sorted entry_sorted (args_sorted1 _) ?_
  unfold Builtin.«sorted»
  refine wpAny_bind (m := checkCount "sorted" 1 1 _) (wpAny_pure ?_)
  refine wpAny_bind (L2.collect_set (A := A.in1) hh ⟨o, ho, hex.1, hd⟩ hf hb hr hl fun s1 vs k1 hz g1 o1 pm => ?_)
  have vlen : vs.length = n := by rw [pm.length_eq, List.length_map, Array.length_toList]; exact hn
  have vI : IntsAre vs (vs.map Builtin.Re.reRawOf) := L2.ints_of vs fun v hv => by
    obtain ⟨e, he, q⟩ := List.mem_map.mp (pm.mem_iff.mp hv)
    obtain ⟨k, tk, h1, _⟩ := g e he
    exact ⟨k, tk, by rw [← q]; exact h1⟩
  have pk : (vs.map Builtin.Re.reRawOf).Perm (es.toList.map L2.keyOf) := by
    have q := pm.map Builtin.Re.reRawOf
    rw [List.map_map] at q
    exact q
  have small : vs.length ≤ sizeLine := by
    rw [vlen, ← hn]
    have : es.size < 4096 := hb
    rw [sizeLine_eq]; omega
  refine wpAny_bind (wpAny_newList ?_ small)
  generalize hns : vs.map Builtin.Re.reRawOf = ms at vI pk
  obtain ⟨hp1, gg, dd, tt, oo⟩ := s1
  dsimp only at *
  have at1 : (hp1.push (seqObj "list" vs.toArray 0)).get? hp1.objs.size = some (seqObj "list" vs.toArray 0) := Heap.get?_push_size _ rfl
  have ei : ∀ {vs : List Value} {ms : List Int}, IntsAre vs ms → EachIs (fun v b => ∃ tk, v = Value.int b tk) vs ms := fun {vs ms} h => by
    induction h with
    | nil => exact .nil
    | cons n t _ ih => exact .cons ⟨t, rfl⟩ ih
  have er : EachIs (fun v (b : Int) => ∃ as, Reads (sortingHeap (hp1.push (seqObj "list" vs.toArray 0)) hp1.objs.size vs) v (PyData.int b) as) vs ms := (ei vI).mono fun v b ⟨tk, e⟩ => by
    subst e; exact ⟨[], .int b tk⟩
  have al : AllAlike (ms.map PyData.int) := AllAlike.of fun b b' => rfl
  refine wpAny_bind (wpAny_holding (wpAny_call_entry_kw slot_list_sort ⟨_, at1, rfl⟩ entry_list_sort ?_ (args_list_sort _)))
  have SA := SortsAt.data (prog := prog) (w := w) (A := A.in1.in1) (s := ⟨sortingHeap (hp1.push (seqObj "list" vs.toArray 0)) hp1.objs.size vs, gg, dd, tt, oo⟩) (each_map (R := fun v d => ∃ as, Reads (sortingHeap (hp1.push (seqObj "list" vs.toArray 0)) hp1.objs.size vs) v d as) PyData.int er) al
    (Sortable.others fun b => ⟨by simp, by simp⟩) fun d hd => by
      obtain ⟨b, _, rfl⟩ := List.mem_map.mp hd
      show A.units + 1 + 1 + 0 < cLine
      omega
  refine list_sort_vals (s := ⟨hp1.push (seqObj "list" vs.toArray 0), gg, dd, tt, oo⟩) at1 SA small ?_
  refine ⟨_, rfl, wpAny_pure ⟨_, rfl, ?_⟩⟩
  have eo := sortVals_data (enc := PyData.int) (R := fun v b => ∃ tk, v = Value.int b tk) (h' := sortingHeap (hp1.push (seqObj "list" vs.toArray 0)) hp1.objs.size vs) false (ei vI) er al
  generalize sortVals (dataKind (sortingHeap (hp1.push (seqObj "list" vs.toArray 0)) hp1.objs.size vs) (ms.map PyData.int)) false vs vs = out at eo ⊢
  obtain ⟨c, hc⟩ := sortedHeap_at (vs := vs) (out := out.toArray) at1
  have le : ∀ x y : Int, dataLe false PyData.int x y = decide (x ≤ y) := fun x y => congrFun (congrFun (dataLe_int (fun z : Int => z)) x) y
  have hpm : (ms.mergeSort (dataLe false PyData.int)).Perm ms := List.mergeSort_perm _ _
  have hsorted : (ms.mergeSort (dataLe false PyData.int)).Pairwise (· ≤ ·) := by
    have := List.pairwise_mergeSort (le := dataLe false PyData.int) (fun a b c h1 h2 => by rw [le] at *; simp at *; omega) (fun a b => by rw [le, le]; simp; omega) ms
    exact this.imp fun {x y} h => by rw [le] at h; simpa using h
  have ie : ∀ {vs : List Value} {ms : List Int}, EachIs (fun v b => ∃ tk, v = Value.int b tk) vs ms → IntsAre vs ms := fun {vs ms} h => by
    induction h with
    | nil => exact .nil
    | cons h _ ih => obtain ⟨tk, rfl⟩ := h; exact .cons _ tk ih
  have pn : (ms.mergeSort (dataLe false PyData.int)).Perm (es.toList.map L2.keyOf) := hpm.trans pk
  refine hQ ⟨_, gg, dd, tt, oo⟩ hp1.objs.size out c _ (fun b u e => ?_) g1 o1 hz hc (ie eo) (L2.lt_of_le_nodup _ hsorted (pn.nodup_iff.mpr nd)) (fun k => by rw [pn.mem_iff, ← hm k]) ?_
  · have q := k1 b u e
    have lt := Heap.lt_size q
    exact (sortedHeap_old (Nat.ne_of_lt lt) (by rw [size_push']; exact Nat.lt_succ_of_lt lt)).trans (Heap.get?_push_of_some _ q)
  · rw [pn.length_eq, List.length_map, Array.length_toList]; exact hn
end
section
variable {X : Cx}
/-- set(xs), xs a list of ints -/
def rSetL (w : World) : List V → Hp → VK → Prop := fun vs H Q => ∃ (a : Addr) (ns : List Int), vs = [.ref a] ∧ H a = some (.lst (ns.map V.int)) ∧ ns.length < 4000 ∧ ∀ p S n, H p = none → (∀ k, S k = true ↔ k ∈ ns) → n ≤ ns.length → Q (.ref p) (upd H p (SetO w p S n))
theorem call_setL (hc : X.calm = true) : CallR X (.type "set") (rSetL X.w) := by
  intro pins s σ H vs us Q I r h
  obtain ⟨a, ns, rfl, ha, hn, q⟩ := h
  rw [Vals.ref1 r]
  obtain ⟨its, rv, p, hz⟩ := I.list (SqL.of ha)
  have hl : its.length = ns.length := by rw [← rv.length, List.length_map]
  refine set_of_ints (ns := ns) (I.ok.hd hc) p.isList (by simpa using rv.ints) (by rw [List.size_toArray, hl]; show ns.length + 1 < 4096; omega) fun h' tk R kp => ?_
  have few := firstMet_length_le (fun i => ns.getD i 0) its.toArray.size
  have hS : ∀ k, (firstMet (fun i => ns.getD i 0) its.toArray.size).any (· == k) = true ↔ k ∈ ns := fun k => by
    rw [firstMet_any, List.size_toArray, hl]
    have e : (List.range ns.length).map (fun i => ns.getD i 0) = ns := by
      apply List.ext_getElem
      · simp
      · intro i h1 h2
        simp only [List.getElem_map, List.getElem_range, List.getD_eq_getElem?_getD]
        rw [List.getElem?_eq_getElem h2]; rfl
    rw [e, List.any_eq_true]
    exact ⟨fun ⟨x, h1, h2⟩ => by rw [← eq_of_beq h2]; exact h1, fun h => ⟨k, h, beq_self_eq_true k⟩⟩
  refine ⟨.ref s.heap.objs.size, upd H s.heap.objs.size (SetO X.w s.heap.objs.size _ _), I.laid (t' := tk) kp (Nat.le_refl _) (setO_new R), rfl, q _ _ _ I.fresh hS ?_⟩
  have ez : its.toArray.size = ns.length := by rw [List.size_toArray, hl]
  rw [ez] at few ⊢
  exact few
def rSortSet (w : World) : List V → Hp → VK → Prop := fun vs H Q => ∃ (a : Addr) (S : Int → Bool) (n : Nat), vs = [V.ref a] ∧ H a = some (SetO w a S n) ∧ n < 4000 ∧
  ∀ (ns : List Int) (p : Addr), ns.Pairwise (· < ·) → (∀ k : Int, k ∈ ns ↔ S k = true) → H p = none → Q (.ref p) (upd H p (.lst (ns.map V.int)))
theorem call_sortSet (hc : X.calm = true) (hu : X.A.units + 100 < cLine) : CallR X (.builtin "sorted") (rSortSet X.w) := by
  intro pins s σ H vs us Q I r h
  obtain ⟨a, S, n, rfl, ha, hn, q⟩ := h
  have R := setO_get I ha
  rw [Vals.ref1 r]
  refine sorted_setA R (I.ok.hd hc) (by omega) fun s' p out c ns k g o hp hg hi hs hm hl => ?_
  have hz : (ns.map V.int).length ≤ sizeLine := by rw [List.length_map, hl, sizeLine_eq]; omega
  have new : H p = none := I.hok.fresh hp
  obtain ⟨sh, sg, sd, st, so⟩ := s'
  obtain rfl : so = s.os := o
  exact ⟨.ref p, _, I.call (g' := sg) (d' := sd) (t' := st) (ch := []) (Un.laid (o := .lst (ns.map V.int)) k hp new) (I.hok.laid k hp ⟨hz, out, c, vals_of_ints hi, hg⟩) (by rw [show sg = s.gens from g]; exact I.bare) (fun _ z => nomatch z), rfl, q ns p hs hm new⟩
end
/-! ### in the layer -/
def insU (x : Int) : List Int → List Int
  | [] => [x]
  | y :: r => if x < y then x :: y :: r else if x = y then y :: r else y :: insU x r
def usort (l : List Int) : List Int := l.foldr insU []
theorem insU_mem {x k : Int} : ∀ {l : List Int}, k ∈ insU x l ↔ k = x ∨ k ∈ l
  | [] => by simp [insU]
  | y :: r => by
    unfold insU
    split
    · simp
    · split
      · rename_i h; subst h; simp
      · rw [List.mem_cons, insU_mem (l := r), List.mem_cons]
        exact ⟨fun h => h.elim (fun e => Or.inr (Or.inl e)) (fun h => h.elim Or.inl fun h => Or.inr (Or.inr h)), fun h => h.elim (fun e => Or.inr (Or.inl e)) (fun h => h.elim Or.inl fun h => Or.inr (Or.inr h))⟩
theorem insU_up {x : Int} : ∀ {l : List Int}, l.Pairwise (· < ·) → (insU x l).Pairwise (· < ·)
  | [], _ => by simp [insU]
  | y :: r, h => by
    obtain ⟨h1, h2⟩ := List.pairwise_cons.mp h
    unfold insU
    split
    · rename_i hx
      refine List.pairwise_cons.mpr ⟨fun z hz => ?_, h⟩
      rcases List.mem_cons.mp hz with rfl | hz
      · exact hx
      · have := h1 z hz; omega
    · split
      · exact h
      · refine List.pairwise_cons.mpr ⟨fun z hz => ?_, insU_up h2⟩
        rcases insU_mem.mp hz with rfl | hz
        · omega
        · exact h1 z hz
theorem usort_mem {k : Int} : ∀ {l : List Int}, k ∈ usort l ↔ k ∈ l
  | [] => Iff.rfl
  | x :: l => by
    show k ∈ insU x (usort l) ↔ _
    rw [insU_mem, usort_mem (l := l), List.mem_cons]
theorem usort_up : ∀ (l : List Int), (usort l).Pairwise (· < ·)
  | [] => List.Pairwise.nil
  | x :: l => insU_up (usort_up l)
theorem up_unique : ∀ {a b : List Int}, a.Pairwise (· < ·) → b.Pairwise (· < ·) → (∀ k, k ∈ a ↔ k ∈ b) → a = b
  | [], [], _, _, _ => rfl
  | [], y :: b, _, _, h => by have := (h y).2 List.mem_cons_self; simp at this
  | x :: a, [], _, _, h => by have := (h x).1 List.mem_cons_self; simp at this
  | x :: a, y :: b, ha, hb, h => by
    obtain ⟨a1, a2⟩ := List.pairwise_cons.mp ha
    obtain ⟨b1, b2⟩ := List.pairwise_cons.mp hb
    have e : x = y := by
      rcases List.mem_cons.mp ((h x).1 List.mem_cons_self) with e | hx
      · exact e
      · rcases List.mem_cons.mp ((h y).2 List.mem_cons_self) with e | hy
        · exact e.symm
        · have := a1 y hy; have := b1 x hx; omega
    subst e
    congr 1
    refine up_unique a2 b2 fun k => ⟨fun hk => ?_, fun hk => ?_⟩
    · rcases List.mem_cons.mp ((h k).1 (List.mem_cons_of_mem _ hk)) with e | h'
      · subst e; have := a1 _ hk; omega
      · exact h'
    · rcases List.mem_cons.mp ((h k).2 (List.mem_cons_of_mem _ hk)) with e | h'
      · subst e; have := b1 _ hk; omega
      · exact h'
def intsOf : List D → Option (List Int)
  | [] => some []
  | .int i :: r => (intsOf r).map (i :: ·)
  | _ => none
theorem intsOf_eq : ∀ {ds : List D} {ns : List Int}, intsOf ds = some ns → ds = ns.map PyData.int
  | [], _, h => by cases h; rfl
  | d :: r, ns, h => by
    cases d with
    | int i =>
      obtain ⟨ms, h1, h2⟩ := Option.map_eq_some_iff.mp h
      subst h2
      rw [intsOf_eq h1]; rfl
    | _ => cases h
theorem rpa_ints {K : Kf} {F : Hp} : ∀ {vs : List V} {ns : List Int}, RpA K F vs (ns.map PyData.int) → vs = ns.map V.int
  | _, [], .nil => rfl
  | _, n :: ns, .cons h r => by
    cases h
    rw [rpa_ints r]; rfl
theorem ints_rpa {K : Kf} {F : Hp} : ∀ (ns : List Int), RpA K F (ns.map V.int) (ns.map PyData.int)
  | [] => .nil
  | n :: ns => .cons (.int n) (ints_rpa ns)
section
variable {Γ : Cn} {W : WX} {F H : Hp} {σ : L2.St} {env : En} {ow : Ow} {X : Cx}
/-- sorted(set(xs)) -/
def usortD : List D → Option D := fun ds => match ds with
  | [.list xs] => match intsOf xs with
    | some ns => if ns.length < 4000 then some (.list ((usort ns).map PyData.int)) else none
    | none => none
  | _ => none
def rUsort (w : World) : List V → Hp → VK → Prop := fun vs H Q => rSetL w vs H fun v H1 => rSortSet w [v] H1 Q
theorem p_usort : Prim true Γ usortD (rUsort X.w) := by
  intro F H σ env ow vs ds z Q R hv e k
  unfold usortD at e
  split at e
  · rename_i xs
    obtain ⟨x, rfl, h1⟩ := pair1 hv
    cases hi : intsOf xs with
    | none => rw [hi] at e; cases e
    | some ns =>
      rw [hi] at e
      dsimp only at e
      split at e
      · rename_i hz
        cases e
        have := intsOf_eq hi
        subst this
        obtain ⟨l, ws, rfl, q1, q2⟩ := rpx_list R.sm h1
        have := rpa_ints q2
        subst this
        refine ⟨l, ns, rfl, q1, hz, fun p S n hp hS hn => ?_⟩
        obtain ⟨R1, S1⟩ := R.alloc0 (SetO X.w p S n) hp
        refine ⟨p, S, n, rfl, upd_same, by omega, fun ms p2 m1 m2 hp2 => ?_⟩
        have : ms = usort ns := up_unique m1 (usort_up ns) fun k => by rw [m2, hS, usort_mem]
        subst this
        obtain ⟨R2, S2⟩ := R1.alloc (.lst ((usort ns).map V.int)) hp2
        exact k _ _ _ R2 (S1.trans S2) (.lst upd_same (ints_rpa _))
      · cases e
  · cases e
theorem e_usort {e : Expr} {o : Opd} {p1 p2 pos pos2 : Pos} (hc : X.calm = true) (hu : X.A.units + 100 < cLine) (gs : Gl X "sorted") (ms : X.mg "sorted" = none) (gt : Gl X "set") (mt : X.mg "set" = none) (ho : PE X e (tO Γ W o))
    (he : starEach [e] X.env = (false, eval e X.env) :: starEach [] X.env := by rfl) (he2 : starEach [Expr.Call (.Name "set" p2) [e] [] pos2] X.env = (false, eval (Expr.Call (.Name "set" p2) [e] [] pos2) X.env) :: starEach [] X.env := by rfl) :
    PE X (.Call (.Name "sorted" p1) [.Call (.Name "set" p2) [e] [] pos2] [] pos) (tD Γ W (opM true usortD [o])) :=
  PE.by (pe_callB (call_sortSet hc hu) gs ms boot_sorted (pa_cons (pe_callTy (call_setL hc) gt mt (by decide +kernel) (pa_cons ho pa_nil he) (hpl := rfl) (he := he)) pa_nil he2) (he := he2)) fun σ H Q h => by
    have z := tD_op (r := rUsort X.w) p_usort h
    exact z
end
end DL

/-! the data layer: list(zip(a, b)) -/
namespace DL
open PySem PySem.Spec PyProof.Rows L2
theorem zip_no_len : typeLookup (.type "zip") "__len__" = pure none := by rw [typeLookup_type, builtinLookup_eq_fast]; kernel_rfl
theorem zip_no_hint : typeLookup (.type "zip") "__length_hint__" = pure none := by rw [typeLookup_type, builtinLookup_eq_fast]; kernel_rfl
/-- a zip over two lists, at its turn i, while at S a list is filled -/
structure ZSt (z TI TO i1 i2 l1 l2 S : Addr) (xs ys : Array Value) (i : Nat) (h : Heap) : Prop where
  ti : IsPair h TI (.ref i1) (.ref i2)
  p1 : h.IsListIter i1 l1 i
  p2 : h.IsListIter i2 l2 i
  s1 : h.IsList l1 xs
  s2 : h.IsList l2 ys
  to : ∃ o, h.get? TO = some o
  zz : (IsZip h z TI TO .none ∧ ∃ a b, IsPair h TO a b) ∨ ∃ T f oT, IsZipHeld h z TI TO T f ∧ h.get? T = some oT ∧ T ≠ z ∧ T ≠ i1 ∧ T ≠ i2 ∧ T ≠ S
/-- what has been made so far -/
structure ZAcc (h0 h : Heap) (S z TO i1 i2 : Addr) (xs ys : Array Value) (Ts : List Addr) : Prop where
  nd : Ts.Nodup
  nS : S ∉ Ts
  new : ∀ T ∈ Ts, h0.get? T = none ∧ T ≠ z ∧ T ≠ TO ∧ T ≠ i1 ∧ T ≠ i2
  pr : ∀ (j : Nat) (T : Addr), Ts[j]? = some T → ∃ x y, xs[j]? = some x ∧ ys[j]? = some y ∧ IsPair h T x y
  keep : ∀ b o, h0.get? b = some o → h.get? b = some o
  off : h0.get? S = none ∧ h0.get? z = none ∧ h0.get? TO = none ∧ h0.get? i1 = none ∧ h0.get? i2 = none
structure ZSep (z TI TO i1 i2 l1 l2 S : Addr) : Prop where
  Sz : S ≠ z
  STI : S ≠ TI
  STO : S ≠ TO
  S1 : S ≠ i1
  S2 : S ≠ i2
  Sl1 : S ≠ l1
  Sl2 : S ≠ l2
section
variable {prog : Program} {w : World} {A : Around} {z TI TO i1 i2 l1 l2 S : Addr} {xs ys : Array Value}
theorem ZSt.upd {i : Nat} {h h' : Heap} (st : ZSt z TI TO i1 i2 l1 l2 S xs ys i h) (sp : ZSep z TI TO i1 i2 l1 l2 S) (k : ∀ b o, b ≠ S → h.get? b = some o → h'.get? b = some o) : ZSt z TI TO i1 i2 l1 l2 S xs ys i h' := by
  obtain ⟨hTI, h1, h2, hl1, hl2, ⟨oTO, hto⟩, hz⟩ := st
  refine ⟨k _ _ (Ne.symm sp.STI) hTI, h1.at fun o e => k _ o (Ne.symm sp.S1) e, h2.at fun o e => k _ o (Ne.symm sp.S2) e, hl1.at fun o e => k _ o (Ne.symm sp.Sl1) e, hl2.at fun o e => k _ o (Ne.symm sp.Sl2) e, ⟨oTO, k _ _ (Ne.symm sp.STO) hto⟩, ?_⟩
  rcases hz with ⟨hz, a, b, hTO⟩ | ⟨T, f, oT, hz, hT, r1, r2, r3, r4⟩
  · exact .inl ⟨k _ _ (Ne.symm sp.Sz) hz, a, b, k _ _ (Ne.symm sp.STO) hTO⟩
  · exact .inr ⟨T, f, oT, k _ _ (Ne.symm sp.Sz) hz, k _ _ r4 hT, r1, r2, r3, r4⟩
theorem zip_turn (D : ZipApart z TI TO i1 i2 l1 l2) (sp : ZSep z TI TO i1 i2 l1 l2 S) {i : Nat} {s : Shared} {Q : Option Value → Shared → Prop} {E : Value → Shared → Prop} (hx : i < xs.size) (hy : i < ys.size) (st : ZSt z TI TO i1 i2 l1 l2 S xs ys i s.heap) (hS : S < s.heap.objs.size)
    (hQ : ∀ x y h', xs[i]? = some x → ys[i]? = some y → IsPair h' s.heap.objs.size x y → ZSt z TI TO i1 i2 l1 l2 S xs ys (i + 1) h' → (∀ c o, c ≠ z → c ≠ TO → c ≠ i1 → c ≠ i2 → s.heap.get? c = some o → h'.get? c = some o) → Q (some (.ref s.heap.objs.size)) { s with heap := h' }) :
    wpAny (model prog w) A (pyNext (.ref z)) Q E s := by
  obtain ⟨hTI, h1, h2, hl1, hl2, ⟨oTO, hto⟩, hz⟩ := st
  have ex := Array.getElem?_eq_getElem hx
  have ey := Array.getElem?_eq_getElem hy
  have lt : ∀ {c o}, s.heap.get? c = some o → s.heap.objs.size ≠ c := fun e => Nat.ne_of_gt (Heap.lt_size e)
  have n1 : s.heap.objs.size ≠ i1 := let ⟨_, e, _⟩ := h1; lt e
  have n2 : s.heap.objs.size ≠ i2 := let ⟨_, e, _⟩ := h2; lt e
  rcases hz with ⟨hz, a, b, hTO⟩ | ⟨T, f, oT, hz, hT, r1, r2, r3, r4⟩
  · refine wpAny_pyNext_zip_item D hz hTI hTO h1 h2 hl1 hl2 ex ey fun h' a1 a2 a3 a4 a5 a6 hk => ?_
    exact hQ _ _ h' ex ey a5 ⟨hk _ _ D.TIz D.TITO D.TIi1 D.TIi2 hTI, a3, a4, hl1.at fun o e => hk _ o D.l1z D.l1TO D.l1i1 D.l1i2 e, hl2.at fun o e => hk _ o D.l2z D.l2TO D.l2i1 D.l2i2 e, ⟨_, a2⟩,
      .inr ⟨s.heap.objs.size, false, _, a1, a5, lt hz, n1, n2, Nat.ne_of_gt hS⟩⟩ fun c o c1 c2 c3 c4 e => hk c o c1 c2 c3 c4 e
  · refine wpAny_pyNext_zip_item_held D hz hT hTI h1 h2 hl1 hl2 ex ey fun h' a1 a3 a4 a5 a6 hk => ?_
    exact hQ _ _ h' ex ey a5 ⟨hk _ _ D.TIz D.TIi1 D.TIi2 hTI, a3, a4, hl1.at fun o e => hk _ o D.l1z D.l1i1 D.l1i2 e, hl2.at fun o e => hk _ o D.l2z D.l2i1 D.l2i2 e, ⟨_, hk _ _ D.TOz D.TOi1 D.TOi2 hto⟩,
      .inr ⟨T, true, oT, a1, hk _ _ r1 r2 r3 hT, r1, r2, r3, r4⟩⟩ fun c o c1 c2 c3 c4 e => hk c o c1 c3 c4 e
theorem zip_stop (hA : A.handled = none) (D : ZipApart z TI TO i1 i2 l1 l2) {i : Nat} {s : Shared} {Q : Option Value → Shared → Prop} {E : Value → Shared → Prop} (hend : xs.size ≤ i ∨ ys.size ≤ i) (st : ZSt z TI TO i1 i2 l1 l2 S xs ys i s.heap)
    (hQ : ∀ h', (∀ c o, c ≠ z → c ≠ TO → c ≠ i1 → c ≠ i2 → s.heap.get? c = some o → h'.get? c = some o) → Q none { s with heap := h' }) : wpAny (model prog w) A (pyNext (.ref z)) Q E s := by
  obtain ⟨hTI, h1, h2, hl1, hl2, ⟨oTO, hto⟩, hz⟩ := st
  have he : xs[i]? = none ∨ ys[i]? = none := by
    rcases hend with h | h
    · exact .inl (Array.getElem?_eq_none h)
    · exact .inr (Array.getElem?_eq_none h)
  rcases hz with ⟨hz, a, b, hTO⟩ | ⟨T, f, oT, hz, hT, r1, r2, r3, r4⟩
  · exact wpAny_pyNext_zip_end hA D hz hTI hTO h1 h2 hl1 hl2 he fun h' hk => hQ h' fun c o c1 c2 c3 c4 e => hk c o c1 c2 c3 c4 e
  · exact wpAny_pyNext_zip_end_held hA D hz hT hTI h1 h2 hl1 hl2 he fun h' hk => hQ h' fun c o c1 c2 c3 c4 e => hk c o c1 c3 c4 e
theorem ZAcc.mv {h0 h h' : Heap} {Ts : List Addr} (a : ZAcc h0 h S z TO i1 i2 xs ys Ts) (k : ∀ c o, c ≠ z → c ≠ TO → c ≠ i1 → c ≠ i2 → c ≠ S → h.get? c = some o → h'.get? c = some o) : ZAcc h0 h' S z TO i1 i2 xs ys Ts where
  nd := a.nd
  nS := a.nS
  new := a.new
  pr := fun j T e => by
    obtain ⟨x, y, e1, e2, p⟩ := a.pr j T e
    have hm := List.mem_of_getElem? e
    obtain ⟨_, c1, c2, c3, c4⟩ := a.new T hm
    exact ⟨x, y, e1, e2, k _ _ c1 c2 c3 c4 (fun q => a.nS (q ▸ hm)) p⟩
  keep := fun b o e => by
    have ne : ∀ {c}, h0.get? c = none → b ≠ c := fun n q => by rw [q, n] at e; cases e
    obtain ⟨o1, o2, o3, o4, o5⟩ := a.off
    exact k b o (ne o2) (ne o3) (ne o4) (ne o5) (ne o1) (a.keep b o e)
  off := a.off
theorem zip_loop (hA : A.in1.handled = none) (D : ZipApart z TI TO i1 i2 l1 l2) (sp : ZSep z TI TO i1 i2 l1 l2 S) (res : Value) (h0 : Heap) (R : Result → Shared → Prop) (hsz : min xs.size ys.size ≤ sizeLine) :
    ∀ (k i : Nat) (s : Shared) (Ts : List Addr) (c : Nat), min xs.size ys.size - i = k → i ≤ min xs.size ys.size → ZSt z TI TO i1 i2 l1 l2 S xs ys i s.heap → ZAcc h0 s.heap S z TO i1 i2 xs ys Ts → Ts.length = i →
      s.heap.get? S = some { cls := .type "list", dict := none, data := .seq (Ts.map Value.ref).toArray c, slots := #[] } →
      (∀ h' tk Ts' c', ZAcc h0 h' S z TO i1 i2 xs ys Ts' → Ts'.length = min xs.size ys.size → h'.get? S = some { cls := .type "list", dict := none, data := .seq (Ts'.map Value.ref).toArray c', slots := #[] } → R (.ok (.ret res)) { s with heap := h', toks := tk }) →
      codeAny (model prog w) A (.builtin "list.extend.loop" ⟨[.ref S, .ref z, res], []⟩) R s := by
  intro k
  induction k with
  | zero =>
    intro i s Ts c hk hi st ac hl hS hR
    refine codeAny_builtin F.entry_extend_loop ?_
    rw [Around.under_plainId F.plain_extend_loop _]
    show wpAny _ A.in1 (pyNext (.ref z) >>= _) _ _ s
    refine wpAny_bind (zip_stop hA D (by omega) st fun h' hk' => ?_)
    refine wpAny_pure (hR h' s.toks Ts c (ac.mv fun c o c1 c2 c3 c4 _ e => hk' c o c1 c2 c3 c4 e) (by omega) (hk' S _ sp.Sz sp.STO sp.S1 sp.S2 hS))
  | succ k ih =>
    intro i s Ts c hk hi st ac hl hS hR
    have hx : i < xs.size := by omega
    have hy : i < ys.size := by omega
    refine codeAny_builtin F.entry_extend_loop ?_
    rw [Around.under_plainId F.plain_extend_loop _]
    show wpAny _ A.in1 (pyNext (.ref z) >>= _) _ _ s
    refine wpAny_bind (zip_turn D sp hx hy st (Heap.lt_size hS) fun x y h' ex ey pr st' hk' => ?_)
    have hS' := hk' S _ sp.Sz sp.STO sp.S1 sp.S2 hS
    show wpAny _ A.in1 (updateSeq S (·.push (.ref s.heap.objs.size)) >>= _) _ _ _
    refine wpAny_bind ?_
    have nT : ∀ {c o}, s.heap.get? c = some o → s.heap.objs.size ≠ c := fun e => Nat.ne_of_gt (Heap.lt_size e)
    have fr : s.heap.get? s.heap.objs.size = none := by
      cases q : s.heap.get? s.heap.objs.size with
      | none => rfl
      | some o => exact absurd rfl (nT q)
    have zs : s.heap.objs.size ≠ z := by
      rcases st.zz with ⟨q, _⟩ | ⟨_, _, _, q, _⟩
      · exact nT q
      · exact nT q
    have n1 : s.heap.objs.size ≠ i1 := let ⟨_, e, _⟩ := st.p1; nT e
    have n2 : s.heap.objs.size ≠ i2 := let ⟨_, e, _⟩ := st.p2; nT e
    have sizes : (Ts.map Value.ref).toArray.size = i := by simp [hl]
    have nTO : s.heap.objs.size ≠ TO := let ⟨_, e⟩ := st.to; nT e
    have nS : s.heap.objs.size ≠ S := nT hS
    have up : ∀ b o, b ≠ S → h'.get? b = some o → (h'.update S (Obj.mapSeq (·.push (.ref s.heap.objs.size)))).get? b = some o := fun b o hb e => (Heap.get?_update_other _ _ (Ne.symm hb)).trans e
    have hS2 := Heap.get?_update_self (Obj.mapSeq (·.push (Value.ref s.heap.objs.size))) hS' rfl
    have ac' := ac.mv (h' := h') fun c o c1 c2 c3 c4 _ e => hk' c o c1 c2 c3 c4 e
    have nm : s.heap.objs.size ∉ Ts := fun hm => by
      obtain ⟨j, hj⟩ := List.mem_iff_getElem?.mp hm
      obtain ⟨_, _, _, _, p⟩ := ac.pr j _ hj
      exact nT p rfl
    have h0n : h0.get? s.heap.objs.size = none := by
      cases q : h0.get? s.heap.objs.size with
      | none => rfl
      | some o => rw [ac.keep _ o q] at fr; cases fr
    have ac2 : ZAcc h0 (h'.update S (Obj.mapSeq (·.push (.ref s.heap.objs.size)))) S z TO i1 i2 xs ys (Ts ++ [s.heap.objs.size]) := by
      have a3 := ac'.mv (h' := h'.update S (Obj.mapSeq (·.push (.ref s.heap.objs.size)))) fun c o _ _ _ _ c5 e => up c o c5 e
      refine ⟨?_, ?_, ?_, ?_, a3.keep, a3.off⟩
      · rw [List.nodup_append]
        exact ⟨a3.nd, (by simp), fun a ha b hb q => by rw [List.mem_singleton.mp hb] at q; exact nm (q ▸ ha)⟩
      · intro hm
        rcases List.mem_append.mp hm with h | h
        · exact a3.nS h
        · exact nS (List.mem_singleton.mp h).symm
      · intro T hm
        rcases List.mem_append.mp hm with h | h
        · exact a3.new T h
        · rw [List.mem_singleton.mp h]; exact ⟨h0n, zs, nTO, n1, n2⟩
      · intro j T e
        by_cases hj : j < Ts.length
        · rw [List.getElem?_append_left hj] at e; exact a3.pr j T e
        · rw [List.getElem?_append_right (Nat.le_of_not_lt hj)] at e
          have : j = i := by
            have := (List.getElem?_eq_some_iff.mp e).1
            simp at this; omega
          subst this
          rw [hl, Nat.sub_self] at e
          cases e
          exact ⟨x, y, ex, ey, up _ _ nS pr⟩
    refine wpAny_updateSeq hS' rfl (wpAny_pure ⟨plainId_quiet F.plain_extend_loop _, ?_⟩) (by rw [sizes]; omega) (by show ((Ts.map Value.ref).toArray.push _).size ≤ sizeLine + 1; rw [Array.size_push, sizes]; omega)
    obtain ⟨c2, hS3⟩ : ∃ c2, (h'.update S (Obj.mapSeq (·.push (.ref s.heap.objs.size)))).get? S = some { cls := .type "list", dict := none, data := .seq ((Ts ++ [s.heap.objs.size]).map Value.ref).toArray c2, slots := #[] } := ⟨_, by
      rw [List.map_append]
      simpa [Obj.mapSeq] using hS2⟩
    refine ih (i + 1) { s with heap := h'.update S (Obj.mapSeq (·.push (.ref s.heap.objs.size))) } (Ts ++ [s.heap.objs.size]) c2 (by omega) (by omega) (st'.upd sp up) ac2 (by simp [hl]) hS3 fun h'' tk Ts' c' a b d => ?_
    exact hR h'' tk Ts' c' a b d
theorem zip_extend (hA : A.in1.handled = none) (D : ZipApart z TI TO i1 i2 l1 l2) (sp : ZSep z TI TO i1 i2 l1 l2 S) (res : Value) (h0 : Heap) (R : Result → Shared → Prop) (hsz : min xs.size ys.size ≤ sizeLine) {s : Shared} {c : Nat}
    (hz : IsZip s.heap z TI TO .none) (st : ZSt z TI TO i1 i2 l1 l2 S xs ys 0 s.heap) (ac : ZAcc h0 s.heap S z TO i1 i2 xs ys []) (hS : s.heap.get? S = some { cls := .type "list", data := .seq #[] c })
    (hR : ∀ h' tk Ts' c', ZAcc h0 h' S z TO i1 i2 xs ys Ts' → Ts'.length = min xs.size ys.size → h'.get? S = some { cls := .type "list", dict := none, data := .seq (Ts'.map Value.ref).toArray c', slots := #[] } → R (.ok (.ret res)) { s with heap := h', toks := tk }) :
    wpAny (model prog w) A.in1 (Builtin.List.listExtendWith (.ref S) (.ref z) res)
      (fun fin s' => match fin with | .done f => R (.ok f) s' | .again c' => c'.quiet = true ∧ codeAny (model prog w) A c' R s') (fun e s' => R (.error e) s') s := by
  have hT : s.TypeIs (.ref z) "zip" := ⟨_, hz, rfl⟩
  unfold Builtin.List.listExtendWith
  refine wpAny_bind (wpAny_typeOf hT ?_)
  have h1 : Builtin.List.listSameRef (.ref S) (.ref z) = false := by simp [Builtin.List.listSameRef, sp.Sz]
  have h2 : (Value.type "zip" == Value.type "list") = false := by decide
  have h3 : (Value.type "zip" == Value.type "tuple") = false := by decide
  simp only [h1, h2, h3, Bool.or_false, Bool.false_eq_true, if_false]
  refine wpAny_bind (wpAny_pyIter_zip hz ?_)
  refine wpAny_bind (wpAny_holding ?_)
  unfold Builtin.List.listLengthHint
  refine wpAny_bind (wpAny_specialOf hT zip_no_len ?_)
  show wpAny _ A.in1 (specialOf (Value.ref z) (Str.ofString "__length_hint__") >>= _) _ _ _
  refine wpAny_bind (wpAny_specialOf hT zip_no_hint ?_)
  refine wpAny_pure ?_
  show wpAny _ A.in1 (rule "list.extend.makes-room" >>= fun _ => Builtin.List.listTouch (.ref S) >>= fun _ =>
    again (.builtin "list.extend.loop" ⟨[.ref S, .ref z, res], []⟩)) _ _ _
  refine wpAny_bind (wpAny_rule ?_)
  refine wpAny_bind ?_
  show wpAny _ A.in1 (updateSeq S (·.push .none) >>= fun _ => updateSeq S (·.pop)) _ _ _
  refine wpAny_bind (wpAny_updateSeq hS rfl ?_)
  have hS₂ := Heap.get?_update_self (Obj.mapSeq (·.push Value.none)) hS rfl
  refine wpAny_updateSeq (hz := by seq_fits) hS₂ rfl ?_
  have hS₃ := Heap.get?_update_self (Obj.mapSeq (·.pop)) hS₂ rfl
  have oth : ∀ b o, b ≠ S → s.heap.get? b = some o → ((s.heap.update S (Obj.mapSeq (·.push Value.none))).update S (Obj.mapSeq (·.pop))).get? b = some o :=
    fun b o hb e => (Heap.get?_update_other _ _ (Ne.symm hb)).trans ((Heap.get?_update_other _ _ (Ne.symm hb)).trans e)
  exact wpAny_pure ⟨plainId_quiet F.plain_extend_loop _, zip_loop hA D sp res h0 R hsz _ 0 { s with heap := _ } [] _ rfl (Nat.zero_le _) (st.upd sp oth) (ac.mv fun c o _ _ _ _ c5 e => oth c o c5 e) rfl hS₃ hR⟩
theorem zip_list {E : Value → Shared → Prop} {s : Shared} {Q : Value → Shared → Prop} (hA : A.handled = none) (D : ZipApart z TI TO i1 i2 l1 l2) (h0 : Heap) (hsz : min xs.size ys.size ≤ sizeLine) (hz : IsZip s.heap z TI TO .none) (hTI : IsPair s.heap TI (.ref i1) (.ref i2)) (hTO : IsPair s.heap TO .none .none)
    (h1 : s.heap.IsListIter i1 l1 0) (h2 : s.heap.IsListIter i2 l2 0) (hl1 : s.heap.IsList l1 xs) (hl2 : s.heap.IsList l2 ys) (hk : ∀ b o, h0.get? b = some o → s.heap.get? b = some o)
    (off : h0.get? z = none ∧ h0.get? TO = none ∧ h0.get? i1 = none ∧ h0.get? i2 = none)
    (hQ : ∀ (h' : Heap) (tk : Nat) (S : Addr) (Ts : List Addr) (c : Nat), (∀ b o, h0.get? b = some o → h'.get? b = some o) → h0.get? S = none → Ts.length = min xs.size ys.size → Ts.Nodup → S ∉ Ts → (∀ T ∈ Ts, h0.get? T = none) → (∀ (j : Nat) (T : Addr), Ts[j]? = some T → ∃ x y, xs[j]? = some x ∧ ys[j]? = some y ∧ IsPair h' T x y) →
      h'.get? S = some { cls := .type "list", dict := none, data := .seq (Ts.map Value.ref).toArray c, slots := #[] } → Q (.ref S) { s with heap := h', toks := tk }) :
    wpAny (model prog w) A (call (.type "list") [.ref z]) Q E s := by
  refine callType_codes (Q₁ := fun obj s₁ => obj = .ref s.heap.objs.size ∧ s₁ = { s with heap := s.heap.push { cls := .type "list", data := .seq #[] } }) F.called_list (F.typeCall_list_1 _) F.entry_list_init
    (code_list_new _ ⟨rfl, rfl⟩) fun obj s₁ h₁ => ?_
  obtain ⟨rfl, rfl⟩ := h₁
  have hS : (s.heap.push { cls := .type "list", data := .seq #[] }).get? s.heap.objs.size = some { cls := .type "list", data := .seq #[] } := Heap.get?_push_size _ rfl
  refine ⟨⟨_, hS, rfl⟩, F.args_list_init_2 _ _, ?_⟩
  have up : ∀ b o, s.heap.get? b = some o → (s.heap.push { cls := .type "list", data := .seq #[] }).get? b = some o := fun b o e => Heap.get?_push_of_some _ e
  have lt : ∀ {c o}, s.heap.get? c = some o → s.heap.objs.size ≠ c := fun e => Nat.ne_of_gt (Heap.lt_size e)
  have sp : ZSep z TI TO i1 i2 l1 l2 s.heap.objs.size := ⟨lt hz, lt hTI, lt hTO, (let ⟨_, e, _⟩ := h1; lt e), (let ⟨_, e, _⟩ := h2; lt e), (let ⟨_, e, _⟩ := hl1; lt e), (let ⟨_, e, _⟩ := hl2; lt e)⟩
  have h0S : h0.get? s.heap.objs.size = none := by
    cases q : h0.get? s.heap.objs.size with
    | none => rfl
    | some o => exact absurd rfl (lt (hk _ o q))
  show wpAny _ A.in1.in1 (do let old ← Builtin.List.listItems (.ref s.heap.objs.size); Builtin.List.listUpdate (.ref s.heap.objs.size) (fun _ => #[]); letGo old.toList.reverse; Builtin.List.listExtendWith (.ref s.heap.objs.size) (.ref z) .none) _ _ _
  refine wpAny_bind ?_
  unfold Builtin.List.listItems
  refine wpAny_bind (wpAny_seqItems hS rfl (wpAny_pure ?_))
  show wpAny _ A.in1.in1 (updateSeq s.heap.objs.size (fun _ => #[]) >>= fun _ => letGo (#[] : Array Value).toList.reverse >>= fun _ => Builtin.List.listExtendWith (.ref s.heap.objs.size) (.ref z) .none) _ _ _
  refine wpAny_bind (wpAny_updateSeq hS rfl ?_)
  have hS₂ := Heap.get?_update_self (Obj.mapSeq (fun _ => (#[] : Array Value))) hS rfl
  have oth : ∀ b o, b ≠ s.heap.objs.size → s.heap.get? b = some o → ((s.heap.push { cls := .type "list", data := .seq #[] }).update s.heap.objs.size (Obj.mapSeq (fun _ => (#[] : Array Value)))).get? b = some o :=
    fun b o hb e => (Heap.get?_update_other _ _ (Ne.symm hb)).trans (up b o e)
  have oth' : ∀ b o, s.heap.get? b = some o → ((s.heap.push { cls := .type "list", data := .seq #[] }).update s.heap.objs.size (Obj.mapSeq (fun _ => (#[] : Array Value)))).get? b = some o := fun b o e => oth b o (Ne.symm (lt e)) e
  refine wpAny_bind (wpAny_letGo ?_)
  refine zip_extend (s := { s with heap := _ }) (A := A.in1) (by first | exact hA | assumption) D sp .none h0 _ hsz (oth' _ _ hz) ⟨oth' _ _ hTI, h1.at fun o e => oth' _ o e, h2.at fun o e => oth' _ o e, hl1.at fun o e => oth' _ o e, hl2.at fun o e => oth' _ o e, ⟨_, oth' _ _ hTO⟩, .inl ⟨oth' _ _ hz, _, _, oth' _ _ hTO⟩⟩
    ⟨List.nodup_nil, (fun h => nomatch h), (fun T h => nomatch h), (fun j T e => by simp at e), fun b o e => oth' b o (hk b o e), ⟨h0S, off.1, off.2.1, off.2.2.1, off.2.2.2⟩⟩ hS₂ fun h' tk Ts' c' a l e => ⟨rfl, hQ h' tk _ Ts' c' a.keep h0S l a.nd a.nS (fun T h => (a.new T h).1) a.pr e⟩
end
/-! ### many new objects at once -/
def updAll (H : Hp) : List (Addr × HO) → Hp
  | [] => H
  | p :: r => updAll (upd H p.1 p.2) r
theorem updAll_off : ∀ {ps : List (Addr × HO)} {H : Hp} {a : Addr}, (∀ p ∈ ps, p.1 ≠ a) → updAll H ps a = H a
  | [], _, _, _ => rfl
  | p :: r, H, a, h => by
    rw [updAll, updAll_off fun q hq => h q (List.mem_cons_of_mem _ hq)]
    exact upd_ne (Ne.symm (h p (List.mem_cons_self ..)))
theorem updAll_at : ∀ {ps : List (Addr × HO)} {H : Hp}, (ps.map Prod.fst).Nodup → ∀ p ∈ ps, updAll H ps p.1 = some p.2
  | p :: r, H, nd, q, hq => by
    rw [List.map_cons, List.nodup_cons] at nd
    rw [updAll]
    rcases List.mem_cons.mp hq with h | h
    · subst h
      rw [updAll_off fun t ht e => nd.1 (by rw [← e]; exact List.mem_map_of_mem ht)]
      exact upd_same
    · exact updAll_at nd.2 q h
theorem updAll_new {ps : List (Addr × HO)} {H : Hp} {a : Addr} {o : HO} (nd : (ps.map Prod.fst).Nodup) (h : updAll H ps a = some o) : (a, o) ∈ ps ∨ (H a = some o ∧ ∀ p ∈ ps, p.1 ≠ a) := by
  by_cases hm : ∃ p ∈ ps, p.1 = a
  · obtain ⟨p, hp, rfl⟩ := hm
    rw [updAll_at nd p hp] at h
    cases h
    exact Or.inl hp
  · have n : ∀ p ∈ ps, p.1 ≠ a := fun p hp e => hm ⟨p, hp, e⟩
    rw [updAll_off n] at h
    exact Or.inr ⟨h, n⟩
section
variable {X : Cx} {pins : List (Addr × Obj)} {σ : L2.St} {H : Hp} {s : Shared}
theorem laidAll {h' : Heap} {t' : Nat} {ps : List (Addr × HO)} (I : Inv X pins σ H s) (k : ∀ b u, s.heap.get? b = some u → h'.get? b = some u) (nd : (ps.map Prod.fst).Nodup) (hp : ∀ p ∈ ps, s.heap.get? p.1 = none) (hn : ∀ p ∈ ps, H p.1 = none)
    (new : ∀ p ∈ ps, ObjOk X.prog X.w (updAll H ps) h' p.1 p.2) : Inv X pins σ (updAll H ps) { s with heap := h', toks := t' } := by
  have old : ∀ b u, H b = some u → updAll H ps b = some u := fun b u e => by
    rw [updAll_off fun p hp q => by rw [← q, hn p hp] at e; cases e]; exact e
  refine I.step (g' := s.gens) (d' := s.drawn) (ch := []) (fun b hb => nomatch hb) (fun b o _ _ hc e _ => k b o e) (fun b o _ _ hc e _ => ⟨o.slots, k b o e⟩)
    (fun b o _ e n => ?_) (fun b o hc e => ⟨o, k b o e⟩) (fun b xs e => old _ _ e) (fun b o u e => old _ _ e) (fun b ps e => ⟨#[], by rw [old _ _ e]; simp⟩) (fun m hm => ?_) (fun b u e => ?_) I.bare
  · rw [updAll_off fun p h q => by rw [← q, hp p h] at e; cases e]; exact n
  · obtain ⟨o, es, ep, ho, r⟩ := hm
    exact ⟨o, es, ep, k _ o ho, r⟩
  · rcases updAll_new nd e with h | ⟨h, _⟩
    · exact new _ h
    · exact (I.hok b u h).stay (fun c v hc q => k c v q) (fun c q => old _ _ q) fun c xs q => old _ _ q
end
def pairsV (xs ys : List V) : List HO := (xs.zip ys).map fun p => .tup [p.1, p.2]
def rZipL (K : Kf) : List V → Hp → VK → Prop := fun vs H Q => ∃ (a b : Addr) (xs ys : List V), vs = [.ref a, .ref b] ∧ SqL K H a xs ∧ SqL K H b ys ∧ ∀ (Ts : List Addr) (p : Addr), Ts.length = min xs.length ys.length → Ts.Nodup → p ∉ Ts → (∀ T ∈ Ts, H T = none) → H p = none →
  Q (.ref p) (updAll H (Ts.zip (pairsV xs ys) ++ [(p, .lst (Ts.map V.ref))]))
theorem zip_fst : ∀ {Ts : List Addr} {ps : List HO}, Ts.length ≤ ps.length → (Ts.zip ps).map Prod.fst = Ts := fun h => List.map_fst_zip h
theorem zip_mem {α β : Type} {as : List α} {bs : List β} {p : α × β} (h : p ∈ as.zip bs) : ∃ j : Nat, as[j]? = some p.1 ∧ bs[j]? = some p.2 := by
  obtain ⟨j, hj⟩ := List.mem_iff_getElem?.mp h
  rw [List.getElem?_zip_eq_some] at hj
  exact ⟨j, hj.1, hj.2⟩
theorem refs_vals : ∀ (Ts : List Addr), Vals (Ts.map V.ref) (Ts.map Value.ref)
  | [] => .nil
  | _ :: r => .cons rfl (refs_vals r)
section
variable {X : Cx}
theorem pe_zipl {e e2 : Expr} {ta : TA} {p0 p pos0 pos : Pos} (hc : X.calm = true) (gl : Gl X "list") (ml : X.mg "list" = none) (hg : Gl X "zip") (hm : X.mg "zip" = none) (ha : PA X [e, e2] ta)
    (hs : starEach [e, e2] X.env = (false, eval e X.env) :: starEach [e2] X.env := by rfl) (hpl : (backTo pos (starEach [e2] X.env)).any (·.1) = false := by rfl)
    (hs0 : starEach [.Call (.Name "zip" p) [e, e2] [] pos] X.env = [(false, eval (.Call (.Name "zip" p) [e, e2] [] pos) X.env)] := by rfl) :
    PE X (.Call (.Name "list" p0) [.Call (.Name "zip" p) [e, e2] [] pos] [] pos0) (fun σ H Q => ta σ H fun vs H1 => rZipL X.K vs H1 Q) := by
  refine ⟨fun pins s σ H Q I h => ?_⟩
  refine Call_ (ld_blt I gl ml PyProof.Rows.boot_list (PyProof.Rows.callWith_type1 ?_ hs0 rfl))
  rw [hs0]
  show wpAny _ _ (spliced ((false, eval (.Call (.Name "zip" p) [e, e2] [] pos) X.env) :: [])) _ _ s
  refine Calls.spliced_cons ?_
  refine Call_ (ld_blt I hg hm PyProof.Rows.boot_zip (PyProof.Rows.callWith_type1 (thn (ha.run pos pins s σ H _ I h) fun us s1 ⟨vs, H1, I1, r1, q1⟩ => ?_) hs hpl))
  obtain ⟨a, b, xs, ys, ex, hqx, hqy, q⟩ := q1
  subst ex
  cases r1 with
  | cons r rr =>
    cases rr with
    | cons r' rr =>
      cases rr
      cases r
      cases r'
      obtain ⟨its, rv, p1, z1⟩ := I1.list hqx
      obtain ⟨its2, rv2, p2, z2⟩ := I1.list hqy
      have lx := rv.length
      have ly := rv2.length
      refine call_zip_2 p1.isList p2.isList fun h' hz hTI hTO h1 h2 hsz hk => ?_
      refine Calls.spliced_nil ?_
      have off : ∀ {c}, s1.heap.objs.size ≤ c → s1.heap.get? c = none := fun {c} hle => by
        cases q : s1.heap.get? c with
        | none => rfl
        | some o => exact absurd (Heap.lt_size q) (Nat.not_lt.mpr hle)
      refine zip_list (s := { s1 with heap := h' }) (I1.ok.hd hc) (PySem.W.ktu_apart s1.heap.objs.size a b p1.lt p2.lt) s1.heap (by simp only [List.size_toArray]; omega) hz hTI hTO h1 h2 (p1.isList.at fun o e => hk _ o e) (p2.isList.at fun o e => hk _ o e) hk
        ⟨off (by omega), off (by omega), off (Nat.le_refl _), off (by omega)⟩ fun hf tk S Ts c k0 nS lT nd nm nT pr hS => ?_
      have lp : (pairsV xs ys).length = min xs.length ys.length := by simp [pairsV]
      have lT' : Ts.length = min xs.length ys.length := by rw [lT]; simp only [List.size_toArray]; omega
      have fst : (Ts.zip (pairsV xs ys)).map Prod.fst = Ts := zip_fst (by omega)
      have gn : ∀ {c}, s1.heap.get? c = none → H1 c = none := fun g => I1.hok.gone g
      have nda : ((Ts.zip (pairsV xs ys) ++ [(S, HO.lst (Ts.map V.ref))]).map Prod.fst).Nodup := by
        rw [List.map_append, fst, List.nodup_append]
        refine ⟨nd, (by simp), fun a ha b hb q => ?_⟩
        rw [List.map_cons, List.map_nil, List.mem_singleton] at hb
        rw [hb] at q
        dsimp only at q
        rw [q] at ha
        exact nm ha
      have mm : ∀ p ∈ Ts.zip (pairsV xs ys) ++ [(S, HO.lst (Ts.map V.ref))], p.1 ∈ Ts ∨ p.1 = S := fun p hp => by
        rcases List.mem_append.mp hp with h | h
        · exact Or.inl (List.of_mem_zip h).1
        · rw [List.mem_singleton.mp h]; exact Or.inr rfl
      have no : ∀ p ∈ Ts.zip (pairsV xs ys) ++ [(S, HO.lst (Ts.map V.ref))], s1.heap.get? p.1 = none := fun p hp => by
        rcases mm p hp with h | h
        · exact nT _ h
        · rw [h]; exact nS
      refine ⟨.ref S, _, laidAll (s := s1) (t' := tk) (h' := hf) I1 k0 nda no (fun p hp => gn (no p hp)) fun p hp => ?_, rfl, q Ts S lT' nd nm (fun T hT => gn (nT T hT)) (gn nS)⟩
      rcases List.mem_append.mp hp with h | h
      · obtain ⟨j, j1, j2⟩ := zip_mem h
        obtain ⟨pa, pb⟩ := p
        dsimp only at j1 j2 ⊢
        unfold pairsV at j2
        rw [List.getElem?_map] at j2
        obtain ⟨⟨x, y⟩, j3, rfl⟩ := Option.map_eq_some_iff.mp j2
        rw [List.getElem?_zip_eq_some] at j3
        obtain ⟨u, u2, e1, e2, hT⟩ := pr j pa j1
        obtain ⟨u', hu, ru⟩ := rv.get j3.1
        obtain ⟨u2', hu2, ru2⟩ := rv2.get j3.2
        rw [List.getElem?_toArray, hu] at e1
        rw [List.getElem?_toArray, hu2] at e2
        cases e1; cases e2
        exact ⟨by show 2 ≤ sizeLine; decide, [u, u2], .cons ru (.cons ru2 .nil), ⟨_, hT, rfl, _, rfl⟩⟩
      · rw [List.mem_singleton.mp h]
        exact ⟨by rw [List.length_map, lT']; omega, Ts.map Value.ref, c, refs_vals Ts, hS⟩
end
section
variable {Γ : Cn} {W : WX} {F H : Hp} {σ : L2.St} {env : En} {ow : Ow} {X : Cx}
theorem Rep.allocAll : ∀ {ps : List (Addr × HO)} {F H : Hp}, Rep Γ F H σ env ow → (ps.map Prod.fst).Nodup → (∀ p ∈ ps, H p.1 = none) → Rep Γ (updAll F ps) (updAll H ps) σ env ow ∧ Stp F H ow (updAll F ps) (updAll H ps)
  | [], _, _, R, _, _ => ⟨R, Stp.refl⟩
  | p :: r, F, H, R, nd, hn => by
    rw [List.map_cons, List.nodup_cons] at nd
    obtain ⟨R1, S1⟩ := R.alloc p.2 (hn p (List.mem_cons_self ..))
    obtain ⟨R2, S2⟩ := Rep.allocAll R1 nd.2 fun q hq => by
      rw [upd_ne (fun e => nd.1 (by rw [← e]; exact List.mem_map_of_mem hq))]
      exact hn q (List.mem_cons_of_mem _ hq)
    exact ⟨R2, S1.trans S2⟩
theorem updAll_append : ∀ {ps qs : List (Addr × HO)} {H : Hp}, updAll H (ps ++ qs) = updAll (updAll H ps) qs
  | [], _, _ => rfl
  | p :: r, qs, H => updAll_append (ps := r)
def pairsD (xs ys : List D) : List D := (xs.zip ys).map fun p => .tuple [p.1, p.2]
def ziplM (os : List Opd) : M (List D) := M.bind (runA os) fun as e => match getA true e os as with
  | some [.list xs, .list ys] => some (.ok (pairsD xs ys) e)
  | _ => none
theorem RpA.of_get {K : Kf} : ∀ {vs : List V} {ds : List D}, vs.length = ds.length → (∀ (j : Nat) v d, vs[j]? = some v → ds[j]? = some d → Rp K F v d) → RpA K F vs ds
  | [], [], _, _ => .nil
  | v :: vs, d :: ds, hl, h => .cons (h 0 v d rfl rfl) (RpA.of_get (by simpa using hl) fun j v d h1 h2 => h (j + 1) v d h1 h2)
theorem e_zipl {e e2 : Expr} {o o2 : Opd} {p0 p pos0 pos : Pos} (hK : Γ.g.K = X.K) (hc : X.calm = true) (gl : Gl X "list") (ml : X.mg "list" = none) (hg : Gl X "zip") (hm : X.mg "zip" = none) (ha : PA X [e, e2] (tAs Γ W [o, o2]))
    (hs : starEach [e, e2] X.env = (false, eval e X.env) :: starEach [e2] X.env := by rfl) (hpl : (backTo pos (starEach [e2] X.env)).any (·.1) = false := by rfl)
    (hs0 : starEach [.Call (.Name "zip" p) [e, e2] [] pos] X.env = [(false, eval (.Call (.Name "zip" p) [e, e2] [] pos) X.env)] := by rfl) :
    PE X (.Call (.Name "list" p0) [.Call (.Name "zip" p) [e, e2] [] pos] [] pos0) (tL Γ W (ziplM [o, o2])) :=
  PE.by (pe_zipl hc gl ml hg hm ha hs hpl hs0) fun σ H Q ⟨env, F, ow, R0, r, e, q⟩ => by
    rcases M.bind_some e with ⟨as, e1, h1, h2⟩ | ⟨x, e1, h1, h2⟩
    · refine tAs_of _ R0 h1 fun vs H' F' R' S A => ?_
      cases z : getA true e1 [o, o2] as with
      | none => rw [z] at h2; cases h2
      | some ds =>
        rw [z] at h2
        have pr := R'.gets A z
        (try dsimp only at h2)
        split at h2
        · rename_i dx dy hz
          cases h2
          obtain rfl := Option.some.inj hz
          obtain ⟨y, y', rfl, h3, h4⟩ := pair2 pr
          obtain ⟨a, xs, rfl, q1, t1⟩ := rpx_list R'.sm h3
          obtain ⟨b, ys, rfl, q2, t2⟩ := rpx_list R'.sm h4
          refine ⟨a, b, xs, ys, rfl, SqL.of q1, SqL.of q2, fun Ts p lT nd np nT hp => ?_⟩
          have lp : (pairsV xs ys).length = min xs.length ys.length := by simp [pairsV]
          have fst : (Ts.zip (pairsV xs ys)).map Prod.fst = Ts := zip_fst (by omega)
          obtain ⟨R1, S1⟩ := R'.allocAll (ps := Ts.zip (pairsV xs ys)) (by rw [fst]; exact nd) fun t ht => nT _ (List.of_mem_zip ht).1
          have hp1 : updAll H' (Ts.zip (pairsV xs ys)) p = none := by
            rw [updAll_off fun t ht e => np (by rw [← e]; exact (List.of_mem_zip ht).1)]; exact hp
          obtain ⟨R2, S2⟩ := R1.alloc0 (.lst (Ts.map V.ref)) hp1
          rw [updAll_append]
          refine q p (Ts.map V.ref) _ _ R2 ((S.trans S1).trans S2) ?_ ⟨upd_same, R1.none_F hp1, R1.ow0 hp1, R1.h0 hp1, ?_⟩
          · cases z : H p with
            | none => rfl
            | some o => exact absurd hp (S.s4 p (by rw [z]; exact fun z => nomatch z))
          · have l1 := t1.length
            have l2 := t2.length
            refine RpA.of_get (by simp [pairsD, lT]; omega) fun j v d j1 j2 => ?_
            rw [List.getElem?_map] at j1
            obtain ⟨T, j1', rfl⟩ := Option.map_eq_some_iff.mp j1
            unfold pairsD at j2
            rw [List.getElem?_map] at j2
            obtain ⟨⟨d1, d2⟩, j3, rfl⟩ := Option.map_eq_some_iff.mp j2
            rw [List.getElem?_zip_eq_some] at j3
            obtain ⟨v1, g1, g2⟩ := t1.get' j3.1
            obtain ⟨v2, g3, g4⟩ := t2.get' j3.2
            have gp : (pairsV xs ys)[j]? = some (.tup [v1, v2]) := by
              unfold pairsV
              rw [List.getElem?_map, (List.getElem?_zip_eq_some (z := (v1, v2))).mpr ⟨g1, g3⟩]; rfl
            have hm : (T, HO.tup [v1, v2]) ∈ Ts.zip (pairsV xs ys) := List.mem_of_getElem? ((List.getElem?_zip_eq_some (z := (T, HO.tup [v1, v2]))).mpr ⟨j1', gp⟩)
            have at_ := updAll_at (H := F') (by rw [fst]; exact nd) _ hm
            exact .tup (SqT.of at_) (.cons (g2.mono S1.s1) (.cons (g4.mono S1.s1) .nil))
        · cases h2
    · subst h2
      exact tAs_of _ R0 h1 q
end
end DL

/-! the data layer: chains, built-in functions by their names, the script, the law's end -/
namespace DL
open PySem PySem.Spec PyProof.Rows L2
section
variable {Γ : Cn} {W : WX} {F H : Hp} {σ : L2.St} {env : En} {ow : Ow} {X : Cx}
/-! ### chains -/
theorem AtA.mono {K : Kf} {F F' : Hp} (s : Same F F') : ∀ {os : List Opd} {as : List (Option D)} {vs : List V}, AtA K F σ os as vs → AtA K F' σ os as vs
  | _, _, _, .nil => .nil
  | _, _, _, .sl h t => .sl h (AtA.mono s t)
  | _, _, _, .ex h t => .ex (h.mono s) (AtA.mono s t)
def tChK (Γ : Cn) (W : WX) (r r' : R2) (oc : Opd) (σ : L2.St) (Q : VK) : V → V → Hp → Prop := fun x y H => r x y H fun z H3 => ∃ k, z = .bl k ∧ (if k = true then tO Γ W oc σ H3 fun w' H4 => r' y w' H4 Q else Q (.bl false) H3)
theorem chain_go {p q : List D → Option D} {r r' : R2} {oa ob oc : Opd} {Q : VK} (hp : Prim true Γ p (r2 r)) (hq : Prim true Γ q (r2 r')) (h : tD Γ W (chainM p q oa ob oc) σ H Q) :
    tAs Γ W [oa, ob] σ H fun vs H2 => match vs with
      | [x, y] => tChK Γ W r r' oc σ Q x y H2
      | _ => False := by
  obtain ⟨env, F, ow, R, rr, e, k⟩ := h
  rcases M.bind_some e with ⟨as, e1, h1, h2⟩ | ⟨x, e1, h1, h2⟩
  · refine tAs_of [oa, ob] R h1 fun vs H1 F1 R1 S1 A => ?_
    cases z : getA true e1 [oa, ob] as with
    | none => rw [z] at h2; cases h2
    | some ds =>
      rw [z] at h2
      dsimp only at h2
      have pr := R1.gets A z
      have l1 := getA_len z
      obtain ⟨da, db, rfl⟩ : ∃ da db, ds = [da, db] := by
        cases ds with
        | nil => simp at l1
        | cons a t => cases t with
          | nil => simp at l1
          | cons b t => cases t with
            | nil => exact ⟨a, b, rfl⟩
            | cons _ _ => simp at l1
      obtain ⟨x, y, rfl, hx, hy⟩ := pair2 pr
      dsimp only
      unfold tChK
      cases zp : p [da, db] with
      | none => rw [zp] at h2; cases h2
      | some d =>
        rw [zp] at h2
        cases d with
        | bool b =>
          cases b with
          | true =>
            dsimp only at h2
            refine (hp F1 H1 σ e1 ow [x, y] [da, db] (.bool true) _ R1 pr zp fun v H2 F2 R2 S2 rv => ?_)
            cases rv
            refine ⟨true, rfl, ?_⟩
            rw [if_pos rfl]
            rcases M.bind_some h2 with ⟨cs, e2, h3, h4⟩ | ⟨xx, e2, h3, h4⟩
            · have main := tAs_of (W := W) (Qa := fun vs H4 => match vs with
                | [w'] => r' y w' H4 Q
                | _ => False) [oc] R2 h3 fun vs H3 F3 R3 S3 A3 => ?_
              · exact main
              · cases z2 : getA true e2 [ob, oc] (as.drop 1 ++ cs) with
                | none => rw [z2] at h4; cases h4
                | some es =>
                  rw [z2] at h4
                  obtain ⟨w, h5, h6⟩ := Option.map_eq_some_iff.mp h4
                  subst h6
                  have Ab : AtA Γ.g.K F3 σ [ob] (as.drop 1) [y] := by
                    cases A with
                    | sl _ t => exact (t.mono S2.s1).mono S3.s1
                    | ex _ t => exact (t.mono S2.s1).mono S3.s1
                  have Abc : AtA Γ.g.K F3 σ [ob, oc] (as.drop 1 ++ cs) (y :: vs) := by
                    generalize as.drop 1 = bs at Ab
                    cases Ab with
                    | sl h t => cases t; exact .sl h A3
                    | ex h t => cases t; exact .ex h A3
                  have pr3 := R3.gets Abc z2
                  have l3 := getA_len z2
                  obtain ⟨eb, ec, rfl⟩ : ∃ eb ec, es = [eb, ec] := by
                    cases es with
                    | nil => simp at l3
                    | cons a t => cases t with
                      | nil => simp at l3
                      | cons b t => cases t with
                        | nil => exact ⟨a, b, rfl⟩
                        | cons _ _ => simp at l3
                  obtain ⟨y', w', ev, hy', hw'⟩ := pair2 pr3
                  cases ev
                  dsimp only
                  exact hq F3 H3 σ e2 ow [y, w'] [eb, ec] w _ R3 pr3 h5 fun v H4 F4 R4 S4 rv => k v H4 F4 R4 (((S1.trans S2).trans S3).trans S4) rv
            · subst h4
              exact tAs_of (W := W) (Qa := fun vs H4 => match vs with
                | [w'] => r' y w' H4 Q
                | _ => False) [oc] R2 h3 (xGo.step (xGo.step k S1) S2)
          | false =>
            dsimp only at h2
            cases h2
            refine (hp F1 H1 σ e1 ow [x, y] [da, db] (.bool false) _ R1 pr zp fun v H2 F2 R2 S2 rv => ?_)
            cases rv
            refine ⟨false, rfl, ?_⟩
            rw [if_neg Bool.false_ne_true]
            exact k _ H2 F2 R2 (S1.trans S2) (.bl false)
        | _ => cases h2
  · subst h2
    exact tAs_of [oa, ob] R h1 k
theorem e_chain {op op' : CmpOp} {p q : List D → Option D} {r r' : R2} {a b c : Expr} {oa ob oc : Opd} {pos : Pos} (hp : Prim true Γ p (r2 r)) (hq : Prim true Γ q (r2 r')) (ho : OpR X (compareOp op) r) (ho' : OpR X (compareOp op') r')
    (ha : PE X a (tO Γ W oa)) (hb : PE X b (tO Γ W ob)) (hc : PE X c (tO Γ W oc)) (hm : lastMarks [op, op'] [b, c] = false := by with_unfolding_all rfl) : PE X (.Compare a [op, op'] [b, c] pos) (tD Γ W (chainM p q oa ob oc)) :=
  PE.by (pe_chain ho ho' ha hb hc hm) fun _ _ _ h => chain_go hp hq h
theorem b_chain {op op' : CmpOp} {p q : List D → Option D} {r r' : R2} {a b c : Expr} {oa ob oc : Opd} {pos : Pos} (hp : Prim true Γ p (r2 r)) (hq : Prim true Γ q (r2 r')) (ho : OpR X (compareOp op) r) (ho' : OpR X (compareOp op') r')
    (ha : PE X a (tO Γ W oa)) (hb : PE X b (tO Γ W ob)) (hc : PE X c (tO Γ W oc)) (hm : lastMarks [op, op'] [b, c] = false := by with_unfolding_all rfl) : PT X (.Compare a [op, op'] [b, c] pos) (tB Γ W (boolM (chainM p q oa ob oc))) :=
  PT.by (pt_chain ho ho' ha hb hc hm) fun _ _ _ h => chain_go hp hq (bool_of h)
/-! ### built-in functions -/
theorem e_b {id : String} {r : List V → Hp → VK → Prop} {p : List D → Option D} {fx : Str} {e : Expr} {es : List Expr} {os : List Opd} {pf pos : Pos} (hp : Prim true Γ p r) (hc : CallR X (.builtin id) r) (hg : Gl X fx) (hm : X.mg fx = none) (hv : bootBuiltins fx = some (.builtin id)) (ha : PA X (e :: es) (tAs Γ W os))
    (hn : fx ≠ "__name__" := by decide) (hdb : (fx == ("__debug__" : Str)) = false := by decide) (he : starEach (e :: es) X.env = (false, eval e X.env) :: starEach es X.env := by rfl) (hpl : (backTo pos (starEach es X.env)).any (·.1) = false := by rfl) :
    PE X (.Call (.Name fx pf) (e :: es) [] pos) (tD Γ W (opM true p os)) :=
  PE.by (pe_callB hc hg hm hv ha hn hdb he hpl) fun _ _ _ h => tD_op hp h
theorem e_ty {T : String} {r : List V → Hp → VK → Prop} {p : List D → Option D} {fx : Str} {e : Expr} {es : List Expr} {os : List Opd} {pf pos : Pos} (hp : Prim true Γ p r) (hc : CallR X (.type T) r) (hg : Gl X fx) (hm : X.mg fx = none) (hv : bootBuiltins fx = some (.type T)) (ha : PA X (e :: es) (tAs Γ W os))
    (hn : fx ≠ "__name__" := by decide) (hdb : (fx == ("__debug__" : Str)) = false := by decide) (he : starEach (e :: es) X.env = (false, eval e X.env) :: starEach es X.env := by rfl) (hpl : (backTo pos (starEach es X.env)).any (·.1) = false := by rfl) :
    PE X (.Call (.Name fx pf) (e :: es) [] pos) (tD Γ W (opM true p os)) :=
  PE.by (pe_callTy hc hg hm hv ha hn hdb he hpl) fun _ _ _ h => tD_op hp h
/-! ### list(x) -/
def cpD (os : List Opd) : M (List D) := M.bind (runA os) fun as e => match getA true e os as with
  | some [.list xs] => some (.ok xs e)
  | some [.tuple xs] => some (.ok xs e)
  | _ => none
theorem e_copy {e : Expr} {o : Opd} {p pos : Pos} (hK : Γ.g.K = X.K) (hg : Gl X "list") (hm : X.mg "list" = none) (ho : PE X e (tO Γ W o)) (he : starEach [e] X.env = (false, eval e X.env) :: starEach [] X.env := by rfl) : PE X (.Call (.Name "list" p) [e] [] pos) (tL Γ W (cpD [o])) :=
  PE.by (pe_callTy call_list_of hg hm PyProof.Rows.boot_list (pa_cons ho pa_nil he) (he := he)) fun σ H Q ⟨env, F, ow, R0, r, e, q⟩ => by
    refine (show tAs Γ W [o] σ H _ from ?_)
    rcases M.bind_some e with ⟨as, e1, h1, h2⟩ | ⟨x, e1, h1, h2⟩
    · refine tAs_of _ R0 h1 fun vs H' F' R' S A => ?_
      cases z : getA true e1 [o] as with
      | none => rw [z] at h2; cases h2
      | some ds =>
        rw [z] at h2
        have pr := R'.gets A z
        have go : ∀ (d : D) (xs : List D), ds = [d] → itemsOf d = some xs → r = .ok xs e1 → ∃ p ys, vs = [V.ref p] ∧ (SqL X.K H' p ys ∨ SqT X.K H' p ys) ∧ ∀ l, H' l = none → Q (.ref l) (upd H' l (.lst ys)) := fun d xs hd hi hr => by
          subst hd
          obtain ⟨y, rfl, h3⟩ := pair1 pr
          obtain ⟨a, ys, rfl, q1, t1⟩ := rpx_items R'.sm h3 hi
          subst hr
          refine ⟨a, ys, rfl, by rw [← hK]; exact q1, fun l hl => ?_⟩
          obtain ⟨R2, S2⟩ := R'.alloc0 (.lst ys) hl
          refine q l ys _ F' R2 (S.trans S2) ?_ ⟨upd_same, R'.none_F hl, R'.ow0 hl, R'.h0 hl, t1⟩
          cases z : H l with
          | none => rfl
          | some o => exact absurd hl (S.s4 l (by rw [z]; exact fun z => nomatch z))
        (try dsimp only at h2)
        split at h2
        · rename_i xs hz
          cases h2
          exact go _ xs (Option.some.inj hz) rfl rfl
        · rename_i xs hz
          cases h2
          exact go _ xs (Option.some.inj hz) rfl rfl
        · cases h2
    · subst h2
      exact tAs_of _ R0 h1 q
/-! ### the script -/
def scrM (i : Nat) (n : Int) : M (List D) := fun e => match e[i]? with
  | some (.scr ns) => some (.ok ((cutG ns none (some n)).map PyData.int) e)
  | _ => none
theorem cutV_map (ns : List Int) (lo hi : Option Int) : cutV (ns.map V.int) lo hi = (cutG ns lo hi).map V.int := by
  unfold cutV cutG
  rw [List.length_map, List.map_take, List.map_drop]
theorem e_scr {o : Expr} {i j : Nat} {n : Int} {p p2 p3 p4 pos : Pos} (hK : Γ.g.K = X.K) (hg : Gl X "list") (hm : X.mg "list" = none) (ho : PE X o (tVar i)) (he : starEach [Expr.Subscript o (.Slice none (some (.Constant (.int n) j p2)) none p3) p4] X.env = (false, eval (Expr.Subscript o (.Slice none (some (.Constant (.int n) j p2)) none p3) p4) X.env) :: starEach [] X.env := by rfl) :
    PE X (.Call (.Name "list" p) [.Subscript o (.Slice none (some (.Constant (.int n) j p2)) none p3) p4] [] pos) (tL Γ W (scrM i n)) :=
  PE.by (pe_callTy call_list_of hg hm PyProof.Rows.boot_list (pa_cons (pe_slice sl_list ho po_none (po_some pe_int)) pa_nil he) (he := he)) fun σ H Q ⟨env, F, ow, R, r, e, q⟩ => by
    unfold scrM at e
    cases z : env[i]? with
    | none => rw [z] at e; cases e
    | some s =>
      rw [z] at e
      cases s with
      | scr ns =>
        cases e
        obtain ⟨o, h1, a, rfl, h2⟩ := R.at_ i _ z
        have h3 : SqL X.K H a (ns.map V.int) := by rw [← hK]; exact R.sm.seq h2
        refine ⟨_, h1, n, rfl, a, _, rfl, h3, fun p hp => ?_⟩
        obtain ⟨R1, S1⟩ := R.alloc0 (.lst (cutV (ns.map V.int) none (some n))) hp
        refine ⟨p, _, rfl, Or.inl (SqL.of upd_same), fun l hl => ?_⟩
        obtain ⟨R2, S2⟩ := R1.alloc0 (.lst (cutV (ns.map V.int) none (some n))) hl
        refine q l _ _ F R2 (S1.trans S2) ?_ ⟨upd_same, R1.none_F hl, R1.ow0 hl, R1.h0 hl, ?_⟩
        · cases z : H l with
          | none => rfl
          | some o => exact absurd hl (S1.s4 l (by rw [z]; exact fun z => nomatch z))
        · rw [cutV_map]
          exact ints_rpa _
      | _ => cases e
end
/-! ### the law's end -/
theorem law_callG {P : Program} {w : World} {K : Kf} {mg mb : Str → Option Value} {g : Gx} {k : Nat} {fa a : Addr} {fd : FuncData} {x : Str} {f : FS} {s₁ : Shared} {vs : List Value} {ns : List Int}
    (KX : K.In s₁.heap) (hns : s₁.heap.Ns mainGlobals mg) (hb : s₁.heap.Ns builtinsNs mb) (hbb : ∀ x : Str, x ≠ "__name__" → mb x = bootBuiltins x) (hlim : s₁.heap.NoLimit) (hg : s₁.gens = #[])
    (ha : s₁.heap.get? a = some { cls := .type "list", data := .seq vs.toArray }) (hi : IntsAre vs ns) (hl : ns.length ≤ sizeLine) (hr : Room k callerA) (gK : g.K = K)
    (Fn : ∀ base : Heap, K.In base → base.Ns mainGlobals mg → FnG P w K mg base k fa fd [x] (spG g 1 f)) (hbind : ∀ (s : Shared) (u : Value), BindsTo s fd ⟨[u], []⟩ [(x, u)])
    (hf : ∃ as, f [.scr ns] = some (.ok (.dat (.bool true)) as)) :
    codeAny (model P w) callerA (.call (.ref fa) ⟨[.ref a], []⟩) (fun r s' => r = .ok (.ret (.bool true)) ∧ OldK s₁.heap s'.heap ∧ s'.os = s₁.os ∧ AllBare s'.gens) s₁ := by
  have rv := vals_ints hi
  have lenV := hi.length
  obtain ⟨as, hf⟩ := hf
  have start : ∀ H : Hp, SqL K H a (ns.map V.int) → spG g 1 f [V.ref a] H (fun v _ => v = .bl true) fun _ _ _ => False := fun H hS => by
    refine ⟨H, fun _ => none, [.scr ns], ⟨⟨rfl, fun i s e => ?_⟩, Same.refl H, fun a p h => (by cases h), fun a p h => (by cases h)⟩, rfl, _, hf, fun v H' F' _ _ _ _ rr => ?_⟩
    · cases i with
      | zero =>
        cases e
        exact ⟨_, rfl, a, rfl, by rw [gK]; exact hS⟩
      | succ i => simp at e
    · cases rr; rfl
  have core : ∀ H : Hp, Only H → SqL K H a (ns.map V.int) → HOk P w H s₁.heap → (∀ b, H b ≠ none → b = a) → (H a ≠ none → K.lookup a = none) →
      codeAny (model P w) callerA (.call (.ref fa) ⟨[.ref a], []⟩) (fun r s' => r = .ok (.ret (.bool true)) ∧ OldK s₁.heap s'.heap ∧ s'.os = s₁.os ∧ AllBare s'.gens) s₁ := by
    intro H hO hS hok hA hK
    have at_ : ∀ {b : Addr} {u : HO}, H b = some u → b = a := fun q => hA _ (by rw [q]; simp)
    have noD : ∀ {b : Addr} {o : Obj} {es : Array DictEntry} {ep : Nat}, s₁.heap.get? b = some o → o.data = .dict es ep → H b = none := fun {b o es ep} e d => by
      cases q : H b with
      | none => rfl
      | some u =>
        rw [at_ q, ha] at e
        cases e
        cases (show Data.seq vs.toArray _ = Data.dict es ep from d)
    have nsK : ∀ {b : Addr} {m : Str → Option Value}, s₁.heap.Ns b m → (hidT s₁.heap H).Ns b m := fun {b m} ⟨o, es, ep, e, d, r⟩ => ⟨o, es, ep, hidT_get e (noD e d), d, r⟩
    have hKb : K.In (hidT s₁.heap H) := fun b o e => hidT_get (KX b o e) (by
      cases q : H b with
      | none => rfl
      | some u =>
        have e' := at_ q
        subst e'
        rw [hK (by rw [q]; simp)] at e; cases e)
    have hM : Mod K mg (hidT s₁.heap H) := ⟨hKb, nsK hns, ⟨mb, nsK hb, hbb⟩, let ⟨mc, h1, h2⟩ := hlim; ⟨mc, nsK h1, h2⟩⟩
    have e0 : Env0 P w K mg (hidT s₁.heap H) callerA [] s₁ H := ⟨rfl, hM, fun b o e => of_hidT e, Nat.le_of_eq (hidT_size _ _), trivial, fun b hb => absurd (show b ∈ ([] : List Addr) from hb) (by simp), hok, .of_eq hg⟩
    refine codeAny_mono ((Fn _ hKb (nsK hns)).run callerA [] s₁ H ⟨[.ref a], []⟩ [.ref a] [.ref a] _ _ hr rfl e0 (hbind s₁ (.ref a)) (.cons rfl .nil) (start H hS)) fun r s' h => ?_
    cases r with
    | error e =>
      obtain ⟨_, _, _, _, _, _, _, _, _, _, _, _, z⟩ := h
      exact z.elim
    | ok fl =>
      cases fl with
      | ret u =>
        obtain ⟨v, H', os, bare, un, hok', r', q⟩ := h
        have q' : v = .bl true := q
        subst q'
        obtain rfl : u = Value.bool true := r'
        refine ⟨rfl, OldK.of_keep fun b o e => ?_, os, bare⟩
        cases q : H b with
        | none => exact un.keep b o e q (by intro z; exact absurd (show b ∈ ([] : List Addr) from z) (by simp)) (by simp)
        | some u =>
          rcases hO b with z | ⟨ob, xs, z⟩
          · rw [q] at z; cases z
          · obtain ⟨e1, _⟩ := hok b _ z
            obtain ⟨e2, _⟩ := hok' b _ (un.frzs b ob _ z)
            rw [e] at e1; cases e1
            exact e2
      | next => exact False.elim h
      | brk => exact False.elim h
      | cont => exact False.elim h
  cases hk : K.lookup a with
  | some o =>
    have e := KX a o hk
    rw [ha] at e
    cases e
    exact core (fun _ => none) (fun _ => .inl rfl) (.inr ⟨_, vs.toArray, _, hk, rfl, rfl, rfl, by rw [List.size_toArray, lenV]; exact hl, by simpa using rv⟩) (fun b u z => by cases z) (fun b z => absurd rfl z) fun z => absurd rfl z
  | none =>
    have on : ∀ {b : Addr} {u : HO}, (if b = a then some (HO.frz { cls := .type "list", data := .seq vs.toArray } (.lst (ns.map V.int))) else none) = some u → b = a ∧ u = .frz { cls := .type "list", data := .seq vs.toArray } (.lst (ns.map V.int)) := fun {b u} z => by
      split at z
      · rename_i hb; cases z; exact ⟨hb, rfl⟩
      · cases z
    refine core (fun b => if b = a then some (.frz { cls := .type "list", data := .seq vs.toArray } (.lst (ns.map V.int))) else none) (fun b => ?_) (.inl (.inr ⟨{ cls := .type "list", data := .seq vs.toArray }, if_pos rfl⟩)) (fun b u z => ?_) (fun b z => ?_) fun _ => hk
    · by_cases hb : b = a
      · exact .inr ⟨_, _, if_pos hb⟩
      · exact .inl (if_neg hb)
    · obtain ⟨rfl, rfl⟩ := on z
      exact ⟨ha, by rw [List.length_map]; exact hl, vs, _, rv, ha⟩
    · by_cases hb : b = a
      · exact hb
      · exact absurd (if_neg hb) z
theorem walk_ofG {l : PySem.W.OpenLaw} {n k : Nat} {q : Program} {loose : List Str} {XP : (Str → Option Value) → Heap → Prop} {YP : World → Heap → Prop} {d : DefRec} {K : Params → Kf} {g : Kf → Gx} {f : FS} {x : Str}
    (hn : l.most = some n) (hn2 : n ≤ sizeLine) (hdf : d.params.defaults = []) (hr : Room k callerA) (gK : ∀ K, (g K).K = K)
    (hY : ∀ (w : World) (h : Heap), YP w h → (K w.params).In h)
    (Fn : ∀ (w : World) (mg : Str → Option Value) (fa : Addr) (h : Heap), (K w.params).In h → h.Ns mainGlobals mg → mg d.name = some (.ref fa) →
      ∃ fd : FuncData, (∀ (s : Shared) (u : Value), BindsTo s fd ⟨[u], []⟩ [(x, u)]) ∧
        ∀ base : Heap, (K w.params).In base → base.Ns mainGlobals mg → FnG l.prog w (K w.params) mg base k fa fd [x] (spG (g (K w.params)) 1 f))
    (hf : ∀ ns : List Int, ns.length ≤ n → ∃ as, f [.scr ns] = some (.ok (.dat (.bool true)) as)) :
    PySem.W.WalkO q loose XP YP l.row.toRowW d [] (fun f vs => PySem.call f vs) := by
  refine Att.attach_call hn hdf fun w s₀ s₁ mg mb fa o pm cd doc a vs ns G Y ho hd hcd hmg hobj hints hlen hg => ?_
  have KX := hY w _ Y
  obtain ⟨fd, hb, hF⟩ := Fn w mg fa _ KX G.T.g hmg
  exact law_callG KX G.T.g G.T.b G.T.builtins G.T.nolimit hg hobj hints (Nat.le_trans hlen hn2) hr (gK _) hF hb (hf ns hlen)
end DL

/-! the data layer: a def's walk -/
namespace DL
open PySem PySem.Spec PyProof.Rows L2
section
variable {P : Program} {w : World} {K : Kf} {mg : Str → Option Value} {base : Heap} {g : Gx}
theorem len_spG {np : Nat} {f : FS} {vs : List V} {H : Hp} {Q : VK} {E : XK} (h : spG g np f vs H Q E) : vs.length = np := by
  obtain ⟨F, ow, args, B, hl, _⟩ := h
  rw [← hl]; exact B.a.len
theorem okF {x qual : Str} {st : Stmt} {f : Addr} {fd : FuncData} {N ps : List Str} {k np n : Nat} {m : M O} (F : L2.Fun K x qual st f fd) (S : FnScope N ps (defScope st)) (hps : ps.length = np) (hN : N.length = np + n) (gK : g.K = K)
    (hb : ∀ (Γ : Cn) (cdv : Value) (A : Around) (outer : List Env) (s : Shared) (H : Hp) (E : XK), Γ.g.K = K → Γ.np = np → Γ.g = g → Room k (A.deeper (envOfC qual (defScope st) s.heap.objs.size f cdv)) → A.guards = some [] →
      PSs (cxOf (L2.CX P w) P w K mg base N qual (defScope st) f cdv A outer s H E) (defBody st) (tS Γ (fun cls d _ H' => E cls d H') m)) :
    FnG P w K mg base (k + 1) f fd ps (spG g np (bodyF n m)) := by
  obtain ⟨⟨oc, od, kV, doc, pm, an, cdv, ct, osl, e, l, c⟩, kp⟩ := F
  refine FunD.okG (kws := []) (dvs := []) ⟨⟨oc, od, .none, kV, doc, pm, an, cdv, ct, osl, e, l, c, .inl ⟨rfl, rfl⟩, .inl rfl⟩, kp⟩ S (fun vs H Q E h => (len_spG h).trans hps.symm) fun cdv A outer s H vs Q E hr hg h => ?_
  obtain ⟨Γ, e1, e2, t⟩ := body_of hN h
  exact ⟨_, hb Γ cdv A outer s H E (by rw [e1]; exact gK) e2 e1 hr hg, t⟩
/-- a def that stands ready to be called -/
structure Def (P : Program) (w : World) (K : Kf) (mg : Str → Option Value) (base : Heap) (g : Gx) (k : Nat) (nm : Str) (np : Nat) (m : FS) : Prop where
  ex : ∃ f fd ps, FnG P w K mg base k f fd ps (spG g np m) ∧ mg nm = some (.ref f) ∧ PySem.W.keepIn K (.ref f) = true ∧ Binds K fd ps []
theorem withDef_body {n : Nat} {m : M O} : withDef [] (bodyF n m) = bodyF n m := by
  refine withDef_nil fun ss r h => ?_
  unfold bodyF at h
  cases z : m (ss ++ List.replicate n .non) with
  | none => rw [z] at h; cases h
  | some q =>
    rw [z] at h
    cases q with
    | ex x e' =>
      obtain ⟨as, h1, h2⟩ := Option.map_eq_some_iff.mp h
      subst h2
      exact (fin_get h1).1
    | ok o e' => cases o with
      | nx =>
        obtain ⟨as, h1, h2⟩ := Option.map_eq_some_iff.mp h
        subst h2
        exact (fin_get h1).1
      | rt rv =>
        obtain ⟨as, h1, h2⟩ := Option.map_eq_some_iff.mp h
        subst h2
        exact (fin_get h1).1
      | bk => cases h
      | ct => cases h
theorem dDef {x : Str} {st : Stmt} {f : Addr} {fd : FuncData} {k np n : Nat} {ps : List Str} {m : M O} (F : L2.Fun K x x st f fd) (G : FnG P w K mg base k f fd ps (spG g np (bodyF n m))) (hg : mg x = some (.ref f)) (hb : Binds K fd ps []) : Def P w K mg base g k x np (bodyF n m) :=
  ⟨f, fd, ps, G, hg, F.kp, hb⟩
end
section
variable {Γ : Cn} {W : WX} {F H : Hp} {σ : L2.St} {env : En} {ow : Ow} {X : Cx}
theorem e_callD {g : Gx} {k k' np n : Nat} {m : M O} {x : Str} {p pos : Pos} {e : Expr} {es : List Expr} {os : List Opd} (hg : Γ.g = g) (D : Def X.prog X.w X.K X.mg X.base g k x np (bodyF n m)) (hnp : os.length = np) (hr : Room k' X.A) (hk : k ≤ k') (hgd : X.A.guards = some []) (tk : Takes X W) (gx : Gl X x) (ha : PA X (e :: es) (tAs Γ W os))
    (hdb : (x == ("__debug__" : Str)) = false := by decide) (he : starEach (e :: es) X.env = (false, eval e X.env) :: starEach es X.env := by rfl) (hpl : (backTo pos (starEach es X.env)).any (·.1) = false := by rfl) :
    PE X (.Call (.Name x p) (e :: es) [] pos) (tV Γ W (callV (bodyF n m) os)) := by
  obtain ⟨f, fd, ps, Fn, hm, hkp, hb⟩ := D.ex
  subst hg
  have := e_call (p := p) (dds := []) (dvs := []) (ds := []) Fn (by simpa using hnp) (hr.mono hk) hgd tk gx hm hkp hb .nil (fun _ => .nil) ha hdb he hpl
  rwa [withDef_body] at this
theorem hu100 {k : Nat} {A : Around} (h : Room k A) : A.units + 100 < cLine := by have := h.un; omega
theorem hu64 {k : Nat} {A : Around} (h : Room k A) : A.units + 64 < cLine := by have := h.un; omega
theorem takes0 {s : Shared} {H : Hp} {scope : Scope} {cenv : Env} {fp : List Addr} : Takes (X.blk s H scope cenv fp) W0 := fun u s' ⟨a, B, sI, pins, σ, H, cls, d, e, I, nb, up, sky, na, os, ag, w⟩ => w.elim
end
end DL

/-! the data layer: a comprehension over an own list that stays -/
namespace DL
open PySem PySem.Spec PyProof.Rows L2
section
variable {Γ : Cn} {W : WX} {F H : Hp} {σ : L2.St} {env : En} {ow : Ow} {X : Cx}
def FeedsO (Γ : Cn) (J : It) (F : Hp) (ds : List D) (i : Nat) (ow : Ow) : Prop := ∀ F' H' σ env, Rep Γ F' H' σ env ow → Same F F' → env[i]? = some (.lst ds) →
  (∀ k, k < ds.length → J.go k H') ∧ J.stop ds.length H' ∧
  ∀ k d, ds[k]? = some d → ∀ x H2, J.yld k H' x H2 → ∃ F2, Rep Γ F2 H2 σ env ow ∧ Stp F' H' ow F2 H2 ∧ Rp Γ.g.K F2 x d
def tIo (Γ : Cn) (i : Nat) : TI := fun σ H R => ∃ env F ow ds, Rep Γ F H σ env ow ∧ env[i]? = some (.lst ds) ∧ ∀ J, FeedsO Γ J F ds i ow → R J H
theorem i_own {tg e : Expr} {i : Nat} (hK : Γ.g.K = X.K) (h : PE X e (tVar i)) : PI X tg e (tIo Γ i) :=
  PI.by (pi_seq h) fun σ H R ⟨env, F, ow, ds, R0, e, q⟩ => by
    obtain ⟨o, h1, l, vs, rfl, o1, r1⟩ := R0.at_ i _ e
    refine ⟨_, h1, l, rfl, Or.inl ⟨⟨vs, SqL.of o1.at_⟩, q _ fun F' H' σ' env' R s e' => ?_⟩⟩
    obtain ⟨o', h1', l', vs', rfl, o1', r1'⟩ := R.at_ i _ e'
    have el : l' = l := o1.uq l' o1'.own1
    subst el
    have hH : SqL X.K H' l' vs' := SqL.of o1'.at_
    refine ⟨fun k hk => ?_, ⟨vs', hH, by rw [r1'.length]; exact Nat.le_refl _⟩, fun k d hd x H2 y => ?_⟩
    · have hv : k < vs'.length := by rw [r1'.length]; exact hk
      exact ⟨vs', vs'[k], hH, List.getElem?_eq_getElem hv⟩
    · obtain ⟨rfl, y⟩ := y
      obtain ⟨v, g1, g2⟩ := r1'.get' hd
      have := y vs' hH
      rw [g1] at this
      cases this
      exact ⟨F', R, Stp.refl, g2⟩
open Classical in
/-- the items one by one, the list at slot i as it was -/
noncomputable def compLo (i : Nat) (d0 : List D) (vs : List Nat) (g : Tg) (c : M Bool) (el : M D) : List D → M (List D)
  | [] => fun e => if e[i]? = some (.lst d0) then some (.ok [] e) else none
  | d :: ds => fun e => if vs.all (Sl.open_ e) = true ∧ e[i]? = some (.lst d0) then (match g d (wipeE e vs) with
    | none => none
    | some e1 => match M.bind c (fun k => if k = true then M.bind el fun y => M.ret [y] else M.ret []) e1 with
      | some (.ok ys e2) => M.bind (compLo i d0 vs g c el ds) (fun r => M.ret (ys ++ r)) (backE e e2 vs)
      | _ => none) else none
noncomputable def compMo (i : Nat) (vs : List Nat) (g : Tg) (c : M Bool) (el : M D) : M (List D) := fun e => match e[i]? with
  | some (.lst ds) => if ds.length ≤ 1000000 then (match compLo i ds vs g c el ds e with
    | some (.ok r e') => some (.ok r e')
    | _ => none) else none
  | _ => none
theorem compLo_at {i : Nat} {d0 : List D} {vs : List Nat} {g : Tg} {c : M Bool} {el : M D} : ∀ {ds : List D} {e : En} {r : Rs (List D)}, compLo i d0 vs g c el ds e = some r → e[i]? = some (.lst d0)
  | [], e, r, h => by
    unfold compLo at h
    split at h
    · assumption
    · cases h
  | d :: ds, e, r, h => by
    unfold compLo at h
    split at h
    · rename_i z; exact z.2
    · cases h
theorem compLo_cons {i : Nat} {d0 : List D} {vs : List Nat} {g : Tg} {c : M Bool} {el : M D} {d : D} {ds : List D} {e e' : En} {r : List D} (h : compLo i d0 vs g c el (d :: ds) e = some (.ok r e')) :
    vs.all (Sl.open_ e) = true ∧ ∃ ea k eb, g d (wipeE e vs) = some ea ∧ c ea = some (.ok k eb) ∧ ((k = true ∧ ∃ y e3 r', el eb = some (.ok y e3) ∧ compLo i d0 vs g c el ds (backE e e3 vs) = some (.ok r' e') ∧ r = y :: r') ∨ (k = false ∧ compLo i d0 vs g c el ds (backE e eb vs) = some (.ok r e'))) := by
  unfold compLo at h
  split at h
  · rename_i ho
    refine ⟨ho.1, ?_⟩
    cases q1 : g d (wipeE e vs) with
    | none => rw [q1] at h; cases h
    | some ea =>
      rw [q1] at h
      dsimp only at h
      cases q2 : M.bind c (fun k => if k = true then M.bind el fun y => M.ret [y] else M.ret []) ea with
      | none => rw [q2] at h; cases h
      | some z => cases z with
        | ex x e'' => rw [q2] at h; cases h
        | ok ys e2 =>
          rw [q2] at h
          dsimp only at h
          rcases M.bind_some q2 with ⟨k, eb, c1, c2⟩ | ⟨x, eb, c1, c2⟩
          · refine ⟨ea, k, eb, rfl, c1, ?_⟩
            rcases M.bind_some h with ⟨r', e3, f1, f2⟩ | ⟨x, e3, f1, f2⟩
            · cases f2
              cases k with
              | true =>
                rw [if_pos rfl] at c2
                rcases M.bind_some c2 with ⟨y, e4, l1, l2⟩ | ⟨x, e4, l1, l2⟩
                · cases l2
                  exact Or.inl ⟨rfl, y, _, r', l1, f1, rfl⟩
                · cases l2
              | false =>
                rw [if_neg Bool.false_ne_true] at c2
                cases c2
                exact Or.inr ⟨rfl, f1⟩
            · cases f2
          · cases c2
  · cases h
theorem compO_of {i : Nat} {ix vs : List Nat} {g : Tg} {c : M Bool} {el : M D} {tt : TT} {Q : VK}
    (htt : ∀ σ H Q, tB Γ W0 c σ H Q → tt σ H Q) (hix : ∀ j ∈ ix, j ∈ vs) (h : tL Γ W (compMo i vs g c el) σ H Q) :
    tLc (tIo Γ i) (tG Γ ix g) tt (tD Γ W0 el) vs σ H Q := by
  obtain ⟨env, F, ow, R, r, e, h⟩ := h
  unfold compMo at e
  cases q0 : env[i]? with
  | none => rw [q0] at e; cases e
  | some s => cases s with
    | lst ds =>
      rw [q0] at e
      dsimp only at e
      by_cases hl : ds.length ≤ 1000000
      · rw [if_pos hl] at e
        cases q : compLo i ds vs g c el ds env with
        | none => rw [q] at e; cases e
        | some w => cases w with
          | ex x e' => rw [q] at e; cases e
          | ok rr e' =>
            rw [q] at e
            cases e
            refine ⟨env, F, ow, ds, R, q0, fun J fd => ?_⟩
            intro L hL
            obtain ⟨R2, S2⟩ := R.alloc0 (.lst []) hL
            refine ⟨fun j m Hc => m = ds.length - j ∧ j ≤ ds.length ∧ ∃ ec Fc acc dacc r2, Rep Γ Fc Hc σ ec ow ∧ Stp F H ow Fc Hc ∧ NewL Γ Fc Hc ow L acc dacc ∧ acc.length ≤ j ∧
              compLo i ds vs g c el (ds.drop j) ec = some (.ok r2 e') ∧ dacc ++ r2 = rr, ⟨ds.length, rfl, Nat.zero_le _, env, F, [], [], rr, R2, S2, ⟨upd_same, R.none_F hL, R.ow0 hL, R.h0 hL, .nil⟩, Nat.le_refl _, q, rfl⟩, ?_⟩
            rintro j m Hc ⟨rfl, hj, ec, Fc, acc, dacc, r2, Rc, Sc, n, hal, q2, er⟩
            obtain ⟨f1, f2, f3⟩ := fd Fc Hc σ ec Rc Sc.s1 (compLo_at q2)
            by_cases hlt : j < ds.length
            · obtain ⟨d, hd⟩ : ∃ d, ds[j]? = some d := ⟨ds[j], List.getElem?_eq_getElem hlt⟩
              have hdrop : ds.drop j = d :: ds.drop (j + 1) := by
                rw [List.drop_eq_getElem_cons hlt]
                rw [List.getElem?_eq_getElem hlt] at hd
                cases hd; rfl
              rw [hdrop] at q2
              obtain ⟨hopen0, ea, k, eb, g1, c1, cs⟩ := compLo_cons q2
              have hopen : ∀ v ∈ vs, Sl.open_ ec v = true := fun v hv => List.all_eq_true.mp hopen0 v hv
              refine Or.inr ⟨f1 j hlt, fun H2 => j + 1 ≤ ds.length ∧ ∃ ec Fc acc dacc r2, Rep Γ Fc H2 σ ec ow ∧ Stp F H ow Fc H2 ∧ NewL Γ Fc H2 ow L acc dacc ∧ acc.length ≤ j + 1 ∧
                compLo i ds vs g c el (ds.drop (j + 1)) ec = some (.ok r2 e') ∧ dacc ++ r2 = rr, fun H2 z => ⟨ds.length - (j + 1), by omega, rfl, z⟩, fun x H2 y => ?_⟩
              obtain ⟨F2, R3, S3, rx⟩ := f3 j d hd x H2 y
              refine ⟨wipeE ec vs, F2, ow, d, R3.wipe vs hopen, rx, ea, g1, fun σ3 R4 A => ⟨wipe_agree A hix, ?_⟩⟩
              refine htt σ3 H2 _ (tB_of R4 c1 fun H3 F3 R5 S5 => ?_)
              have n3 := (n.step S3).step S5
              have hw := wipe_agree A hix
              rcases cs with ⟨rfl, yv, e3, r', el1, q3, rfl⟩ | ⟨rfl, q3⟩
              · refine iteT (tD_of R5 el1 fun v H4 F4 R6 S6 rv => ?_)
                have n4 := n3.step S6
                refine ⟨acc, n4.at_, Nat.lt_of_le_of_lt (Nat.le_trans hal (Nat.le_of_lt (Nat.lt_of_lt_of_le hlt hl))) (by rw [sizeLine_eq]; decide), hlt, ?_⟩
                have Rb := Rep.back (σ := σ) R3 hopen R6 hw (S5.s1.trans S6.s1)
                obtain ⟨Rw, nw⟩ := Rb.writeNew n4 (n4.r.append (.cons rv .nil))
                exact ⟨_, F4, _, _, r', Rw, (((Sc.trans S3).trans S5).trans S6).writeNew hL _, nw, by rw [List.length_append]; exact Nat.add_le_add_right hal 1, q3, by rw [← er]; simp⟩
              · refine iteF ⟨hlt, ?_⟩
                have Rb := Rep.back (σ := σ) R3 hopen R5 hw S5.s1
                exact ⟨_, F3, acc, dacc, r2, Rb, (Sc.trans S3).trans S5, n3, Nat.le_succ_of_le hal, q3, er⟩
            · have e0 : j = ds.length := by omega
              subst e0
              rw [List.drop_length] at q2
              have q4 := compLo_at q2
              unfold compLo at q2
              rw [if_pos q4] at q2
              cases q2
              rw [List.append_nil] at er
              subst er
              exact Or.inl ⟨f2, h L acc Hc Fc Rc Sc hL n⟩
      · rw [if_neg hl] at e
        cases e
    | _ => rw [q0] at e; cases e
theorem e_compO {elt tg iter : Expr} {ifs : List Expr} {scope : Scope} {own : List (Str × Nat)} {pos : Pos} {i : Nat} {ix : List Nat} {g : Tg} {c : M Bool} {el : M D} {tt : TT}
    (htt : ∀ σ H Q, tB Γ W0 c σ H Q → tt σ H Q) (hc : X.calm = true) (hN : X.N.Nodup) (hi : PI X tg iter (tIo Γ i)) (ok : BlkOk X.N X.env.scope scope own) (hix : ∀ j ∈ ix, j ∈ own.map (·.2))
    (hg : ∀ (s : Shared) (H : Hp) (C : Addr) (cl : List (Str × Addr)) (fp : List Addr), PG (X.blk s H scope (compEnvC scope cl C X.env) fp) tg (tG Γ ix g))
    (ht : ∀ (s : Shared) (H : Hp) (C : Addr) (cl : List (Str × Addr)) (fp : List Addr), PTs (X.blk s H scope (compEnvC scope cl C X.env) fp) ifs tt)
    (he : ∀ (s : Shared) (H : Hp) (C : Addr) (cl : List (Str × Addr)) (fp : List Addr), PE (X.blk s H scope (compEnvC scope cl C X.env) fp) elt (tD Γ W0 el))
    (hs : ∀ x, foldedSetIterable iter X.env x = pure x := by intro _; rfl) :
    PE X (.ListComp elt [⟨tg, iter, ifs, 0⟩] scope pos) (tL Γ W (compMo i (own.map (·.2)) g c el)) :=
  PE.by (pe_lc hc hN hi ok hg ht he hs) fun _ _ _ h => compO_of htt hix h
theorem s_newCo {i i' : Nat} {y : Str} {py : Pos} {elt tg iter : Expr} {ifs : List Expr} {scope : Scope} {own : List (Str × Nat)} {pos spos : Pos} {ix : List Nat} {g : Tg} {c : M Bool} {el : M D} {tt : TT} (hi' : Γ.np ≤ i)
    (htt : ∀ σ H Q, tB Γ W0 c σ H Q → tt σ H Q) (hc : X.calm = true) (hN : X.N.Nodup) (hy : X.N[i]? = some y) (hyl : X.env.scope.names.lookup y = some .local)
    (hsw : swapsWith (.ListComp elt [⟨tg, iter, ifs, 0⟩] scope pos) (some (.Name y py)) spos.line X.env = pure true)
    (hi : PI X tg iter (tIo Γ i')) (ok : BlkOk X.N X.env.scope scope own) (hix : ∀ j ∈ ix, j ∈ own.map (·.2))
    (hg : ∀ (s : Shared) (H : Hp) (C : Addr) (cl : List (Str × Addr)) (fp : List Addr), PG (X.blk s H scope (compEnvC scope cl C X.env) fp) tg (tG Γ ix g))
    (ht : ∀ (s : Shared) (H : Hp) (C : Addr) (cl : List (Str × Addr)) (fp : List Addr), PTs (X.blk s H scope (compEnvC scope cl C X.env) fp) ifs tt)
    (he : ∀ (s : Shared) (H : Hp) (C : Addr) (cl : List (Str × Addr)) (fp : List Addr), PE (X.blk s H scope (compEnvC scope cl C X.env) fp) elt (tD Γ W0 el))
    (hs : ∀ x, foldedSetIterable iter X.env x = pure x := by intro _; rfl) :
    PS X (.Assign [.Name y py] (.ListComp elt [⟨tg, iter, ifs, 0⟩] scope pos) spos) (tS Γ W (newM (compMo i' (own.map (·.2)) g c el) i)) :=
  PS.by (ps_setLc hc hN hy hyl hsw hi ok hg ht he hs) fun _ _ _ h => compO_of htt hix (new_of hi' h)
theorem s_setCo {i i' : Nat} {y : Str} {py : Pos} {elt tg iter : Expr} {ifs : List Expr} {scope : Scope} {own : List (Str × Nat)} {pos spos : Pos} {ix : List Nat} {g : Tg} {c : M Bool} {el : M D} {tt : TT}
    (htt : ∀ σ H Q, tB Γ W0 c σ H Q → tt σ H Q) (hc : X.calm = true) (hN : X.N.Nodup) (hy : X.N[i]? = some y) (hyl : X.env.scope.names.lookup y = some .local)
    (hsw : swapsWith (.ListComp elt [⟨tg, iter, ifs, 0⟩] scope pos) (some (.Name y py)) spos.line X.env = pure true)
    (hi : PI X tg iter (tIo Γ i')) (ok : BlkOk X.N X.env.scope scope own) (hix : ∀ j ∈ ix, j ∈ own.map (·.2))
    (hg : ∀ (s : Shared) (H : Hp) (C : Addr) (cl : List (Str × Addr)) (fp : List Addr), PG (X.blk s H scope (compEnvC scope cl C X.env) fp) tg (tG Γ ix g))
    (ht : ∀ (s : Shared) (H : Hp) (C : Addr) (cl : List (Str × Addr)) (fp : List Addr), PTs (X.blk s H scope (compEnvC scope cl C X.env) fp) ifs tt)
    (he : ∀ (s : Shared) (H : Hp) (C : Addr) (cl : List (Str × Addr)) (fp : List Addr), PE (X.blk s H scope (compEnvC scope cl C X.env) fp) elt (tD Γ W0 el))
    (hs : ∀ x, foldedSetIterable iter X.env x = pure x := by intro _; rfl) :
    PS X (.Assign [.Name y py] (.ListComp elt [⟨tg, iter, ifs, 0⟩] scope pos) spos) (tS Γ W (asgM (listD (compMo i' (own.map (·.2)) g c el)) (setT i))) :=
  PS.by (ps_setLc hc hN hy hyl hsw hi ok hg ht he hs) fun K σ H h => by
    refine compO_of (W := W) htt hix (tL_list ?_)
    obtain ⟨env, F, ow, R, r, e, h⟩ := h
    rcases M.bind_some e with ⟨d, e1, h1, h2⟩ | ⟨x, e1, h1, h2⟩
    · obtain ⟨e2, h3, h4⟩ := Option.map_eq_some_iff.mp h2
      subst h4
      obtain ⟨s, q1, q2, q3⟩ := setT_some h3
      subst q3
      exact tD_of R h1 fun v H' F' R' S rv => h _ H' F' ow (R'.setDat q1 q2 rv) S.s1
    · subst h2
      exact tD_of R h1 (xGo_of h)
/-! ### a whole number of the module -/
theorem e_gint {x : Str} {i : Int} {t : Tok} {pos : Pos} (hg : Gl X x) (hm : X.mg x = some (.int i t)) (hd : (x == ("__debug__" : Str)) = false := by decide) : PE X (.Name x pos) (tD Γ W (M.ret (.int i))) :=
  PE.by (pe_glob (v := .int i) hg hm ⟨t, rfl⟩ hd) fun _ _ _ h => tD_ret h fun _ => .int i
theorem e_gstr {x : Str} {z : Str} {t : Tok} {pos : Pos} (hg : Gl X x) (hm : X.mg x = some (.str z t)) (hd : (x == ("__debug__" : Str)) = false := by decide) : PE X (.Name x pos) (tD Γ W (M.ret (.str z))) :=
  PE.by (pe_glob (v := .str z) hg hm ⟨t, rfl⟩ hd) fun _ _ _ h => tD_ret h fun _ => .str z
end
end DL

/-! the data layer: isinstance, in, keyword-only defaults -/
namespace DL
open PySem PySem.Spec PyProof.Rows L2
section
variable {Γ : Cn} {W : WX} {F H : Hp} {σ : L2.St} {env : En} {ow : Ow} {X : Cx}
def tyN : D → String
  | .none => "NoneType"
  | .bool _ => "bool"
  | .int _ => "int"
  | .str _ => "str"
  | .list _ => "list"
  | .tuple _ => "tuple"
  | .dict _ => "dict"
theorem seqT_ty {K : Kf} {H : Hp} {a : Addr} {xs : List V} (h : SqT K H a xs) : TyX K H (.ref a) (.type "tuple") := by
  rcases h with (h | ⟨o, h⟩) | ⟨o, its, n, h1, h2, _⟩
  · exact .base (.tup h)
  · exact .fTuple h
  · exact .kTuple h1 h2
theorem rpx_ty {b : Bool} {K : Kf} {v : V} {d : D} (s : Same F H) (h : RpX b K F H v d) : TyX K H v (.type (tyN d)) := by
  rcases h with h | ⟨_, l, vs, ds, rfl, rfl, h1, h2⟩
  · cases h with
    | non => exact .base .non
    | bl b => exact .base (.bl b)
    | int i => exact .base (.int i)
    | str x => exact .base (.str x)
    | lst q r => exact .base (.lst (s _ _ q))
    | tup q r => exact seqT_ty (same_seqT s q)
    | dct q r => exact .base (.dK (s _ _ q))
  · exact .base (.lst h1)
def isN (T a : String) : Bool := a == T || (T == "int" && a == "bool")
def isB (T : String) (d : D) : Bool := isN T (tyN d)
def tyNs : List String := ["NoneType", "bool", "int", "str", "list", "tuple", "dict"]
theorem tyN_mem (d : D) : tyN d ∈ tyNs := by cases d <;> simp [tyN, tyNs]
def isiD (T : String) : List D → Option D := fun ds => match ds with
  | [d] => some (.bool (isB T d))
  | _ => none
def okTy (T : String) : Bool := T == "int" || T == "bool" || T == "str" || T == "list" || T == "tuple"
theorem kit_int (d : D) : kitB (tyN d) "int" = some (isB "int" d) := (by decide +kernel : ∀ a ∈ tyNs, kitB a "int" = some (isN "int" a)) _ (tyN_mem d)
theorem kit_bool (d : D) : kitB (tyN d) "bool" = some (isB "bool" d) := (by decide +kernel : ∀ a ∈ tyNs, kitB a "bool" = some (isN "bool" a)) _ (tyN_mem d)
theorem kit_str (d : D) : kitB (tyN d) "str" = some (isB "str" d) := (by decide +kernel : ∀ a ∈ tyNs, kitB a "str" = some (isN "str" a)) _ (tyN_mem d)
theorem kit_list (d : D) : kitB (tyN d) "list" = some (isB "list" d) := (by decide +kernel : ∀ a ∈ tyNs, kitB a "list" = some (isN "list" a)) _ (tyN_mem d)
theorem kit_tuple (d : D) : kitB (tyN d) "tuple" = some (isB "tuple" d) := (by decide +kernel : ∀ a ∈ tyNs, kitB a "tuple" = some (isN "tuple" a)) _ (tyN_mem d)
def rIs1 (K : Kf) (T : String) : List V → Hp → VK → Prop := fun vs H Q => match vs with
  | [x] => rIsi K [x, .ty T] H Q
  | _ => False
theorem p_isi {T : String} (hK : Γ.g.K = X.K) (hk : ∀ d : D, kitB (tyN d) T = some (isB T d)) : Prim true Γ (isiD T) (rIs1 X.K T) := by
  intro F H σ env ow vs ds z Q R hv e k
  unfold isiD at e
  split at e
  · rename_i d
    cases e
    obtain ⟨x, rfl, h1⟩ := pair1 hv
    have ty := rpx_ty R.sm h1
    rw [hK] at ty
    exact ⟨x, .ty T, _, .type T, isB T d, rfl, .ty T, ty, kit_ty (hk d), k _ H F R Stp.refl (.bl _)⟩
  · cases e
theorem e_isi {T : String} {x : Str} {e : Expr} {o : Opd} {p p2 pos : Pos} (hK : Γ.g.K = X.K) (hk : ∀ d : D, kitB (tyN d) T = some (isB T d)) (hg : Gl X "isinstance") (hm : X.mg "isinstance" = none) (gT : Gl X x) (mT : X.mg x = none) (bT : bootBuiltins x = some (.type T)) (bI : bootBuiltins "isinstance" = some (.builtin "isinstance"))
    (ho : PE X e (tO Γ W o)) (hn : x ≠ "__name__" := by decide) (hd : (x == ("__debug__" : Str)) = false := by decide) (he : starEach (e :: [Expr.Name x p2]) X.env = (false, eval e X.env) :: starEach [Expr.Name x p2] X.env := by rfl) :
    PE X (.Call (.Name "isinstance" p) [e, .Name x p2] [] pos) (tD Γ W (opM true (isiD T) [o])) :=
  PE.by (pe_callB call_isi hg hm bI (pa_cons ho (pa_cons (pe_bltn (v := .ty T) gT mT bT rfl hn hd) pa_nil) he) (he := he)) fun σ H Q h => by
    have z := tD_op (r := rIs1 X.K T) (p_isi hK hk) h
    have mono : ∀ {o : Opd} {Qa Qb : V → Hp → Prop}, (∀ v H, Qa v H → Qb v H) → tO Γ W o σ H Qa → tO Γ W o σ H Qb := fun {o Qa Qb} hi hq => by
      cases o with
      | sl i =>
        obtain ⟨v, h1, h2⟩ := hq
        exact ⟨v, h1, hi _ _ h2⟩
      | ex m =>
        obtain ⟨env, F, ow, R, r, e, h⟩ := (show tD Γ W m σ H _ from hq)
        exact (show tD Γ W m σ H _ from ⟨env, F, ow, R, r, e, h.step Stp.refl fun d e' z v H' F' R' S rv => hi _ _ (z v H' F' R' S rv)⟩)
    exact mono (fun v H1 q => q) z
/-! ### in -/
def inD : List D → Option D := fun ds => match ds with
  | [d, .list xs] => if SeqAt.shaped d = true ∧ SeqAt.shaped (.list xs) = true then some (.bool (xs.any fun z => PyData.eqv z d)) else none
  | _ => none
theorem p_in (hK : Γ.g.K = X.K) : Prim true Γ inD (r2 (rInD X.K)) := by
  intro F H σ env ow vs ds z Q R hv e k
  unfold inD at e
  split at e
  · split at e
    · rename_i d xs hs
      obtain ⟨x, y, rfl, h1, h2⟩ := pair2 hv
      cases e
      rw [hK] at h1 h2
      exact ⟨d, xs, rpx_dp R.sm (SeqAt.canLay_of_shaped hs.1) h1, rpx_dp R.sm (SeqAt.canLay_of_shaped hs.2) h2, hs.1, hs.2, k _ H F R Stp.refl (.bl _)⟩
    · cases e
  · cases e
theorem hu65 {k : Nat} {A : Around} (h : Room k A) : A.units + 65 < cLine := by have := h.un; omega
theorem boot_isi : bootBuiltins "isinstance" = some (.builtin "isinstance") := by decide +kernel
theorem boot_int : bootBuiltins "int" = some (.type "int") := by decide +kernel
theorem boot_bool : bootBuiltins "bool" = some (.type "bool") := by decide +kernel
theorem boot_str : bootBuiltins "str" = some (.type "str") := by decide +kernel
/-! ### a def with keyword-only defaults that no call writes -/
theorem okFk {P : Program} {w : World} {K : Kf} {mg : Str → Option Value} {base : Heap} {g : Gx} {x qual : Str} {params : Arguments} {body : List Stmt} {scope : Scope} {f : Addr} {fd : FuncData} {N ps : List Str} {k np n : Nat} {m : M O} {kws : List (Str × V)} (F : FunD K x qual params body scope [] kws f fd) (S : FnScope N ps scope) (hps : ps.length = np) (hN : N.length = np + n) (gK : g.K = K)
    (hb : ∀ (Γ : Cn) (cdv : Value) (A : Around) (outer : List Env) (s : Shared) (H : Hp) (E : XK), Γ.g.K = K → Γ.np = np → Γ.g = g → Room k (A.deeper (envOfC qual scope s.heap.objs.size f cdv)) → A.guards = some [] →
      PSs (cxOf (L2.CX P w) P w K mg base N qual scope f cdv A outer s H E) body (tS Γ (fun cls d _ H' => E cls d H') m)) :
    FnG P w K mg base (k + 1) f fd ps (spG g np (bodyF n m)) := by
  refine FunD.okG F S (fun vs H Q E h => (len_spG h).trans hps.symm) fun cdv A outer s H vs Q E hr hg h => ?_
  obtain ⟨Γ, e1, e2, t⟩ := body_of hN h
  exact ⟨_, hb Γ cdv A outer s H E (by rw [e1]; exact gK) e2 e1 hr hg, t⟩
structure DefK (P : Program) (w : World) (K : Kf) (mg : Str → Option Value) (base : Heap) (g : Gx) (k : Nat) (nm : Str) (np : Nat) (dds : List D) (m : FS) : Prop where
  ex : ∃ f fd ps ds dvs, FnG P w K mg base k f fd ps (spG g (np + dds.length) m) ∧ mg nm = some (.ref f) ∧ PySem.W.keepIn K (.ref f) = true ∧ Binds K fd ps ds ∧ Vals dvs ds ∧ ∀ F, RpA g.K F dvs dds
theorem e_callK {g : Gx} {k k' np : Nat} {m : FS} {dds : List D} {x : Str} {p pos : Pos} {e : Expr} {es : List Expr} {os : List Opd} (hg : Γ.g = g) (D : DefK X.prog X.w X.K X.mg X.base g k x np dds m) (hnp : os.length = np) (hr : Room k' X.A) (hk : k ≤ k') (hgd : X.A.guards = some []) (tk : Takes X W) (gx : Gl X x) (ha : PA X (e :: es) (tAs Γ W os))
    (hdb : (x == ("__debug__" : Str)) = false := by decide) (he : starEach (e :: es) X.env = (false, eval e X.env) :: starEach es X.env := by rfl) (hpl : (backTo pos (starEach es X.env)).any (·.1) = false := by rfl) :
    PE X (.Call (.Name x p) (e :: es) [] pos) (tV Γ W (callV (withDef dds m) os)) := by
  obtain ⟨f, fd, ps, ds, dvs, Fn, hm, hkp, hb, hv, hr2⟩ := D.ex
  subst hg
  subst hnp
  exact e_call (p := p) (dds := dds) (dvs := dvs) (ds := ds) Fn rfl (hr.mono hk) hgd tk gx hm hkp hb hv hr2 ha hdb he hpl
/-! ### a, b = x, y -/
def parM (i j : Nat) (os : List Opd) : M O := M.bind (runA os) fun as e => match getA false e os as with
  | some [d1, d2] => (setT i d1 e).bind fun e1 => (setT j d2 e1).map fun e2 => Rs.ok O.nx e2
  | _ => none
theorem s_par {i j : Nat} {x y : Str} {a b : Expr} {oa ob : Opd} {px py pt pos : Pos} {kt k2 : Nat} {pt2 : Pos} (hc : X.calm = true) (hN : X.N.Nodup) (hi : X.N[i]? = some x) (hj : X.N[j]? = some y) (hij : i ≠ j)
    (hx : X.env.scope.names.lookup x = some .local) (hy : X.env.scope.names.lookup y = some .local) (ha : PA X [a, b] (tAs Γ W [oa, ob]))
    (hw : swappedStores [.Tuple [.Name x px, .Name y py] kt pt] (.Tuple [a, b] k2 pt2) X.env = pure (some [x, y]) := by rfl)
    (hs : swapsWithSole [.Tuple [.Name x px, .Name y py] kt pt] (.Tuple [a, b] k2 pt2) pos.line X.env = pure false := by rfl) :
    PS X (.Assign [.Tuple [.Name x px, .Name y py] kt pt] (.Tuple [a, b] k2 pt2) pos) (tS Γ W (parM i j [oa, ob])) :=
  PS.by (ps_par hc hN hi hj hij hx hy ha hw hs) fun K σ H ⟨env, F, ow, R0, r, e, q⟩ => by
    rcases M.bind_some e with ⟨as, e1, h1, h2⟩ | ⟨x, e1, h1, h2⟩
    · refine (show tAs Γ W [oa, ob] σ H _ from tAs_of _ R0 h1 fun vs H' F' R S A => ?_)
      cases z : getA false e1 [oa, ob] as with
      | none => rw [z] at h2; cases h2
      | some ds =>
        rw [z] at h2
        have rr := rpx_all (R.gets A z)
        have l1 := getA_len z
        obtain ⟨d1, d2, rfl⟩ : ∃ d1 d2, ds = [d1, d2] := by
          cases ds with
          | nil => simp at l1
          | cons a t => cases t with
            | nil => simp at l1
            | cons b t => cases t with
              | nil => exact ⟨a, b, rfl⟩
              | cons _ _ => simp at l1
        dsimp only at h2
        obtain ⟨e2, g1, h3⟩ := Option.bind_eq_some_iff.mp h2
        obtain ⟨e3, g2, h4⟩ := Option.map_eq_some_iff.mp h3
        subst h4
        obtain ⟨s1, u1, u2, rfl⟩ := setT_some g1
        obtain ⟨s2, u3, u4, rfl⟩ := setT_some g2
        cases rr with
        | cons r1 rr => cases rr with
          | cons r2 rr =>
            cases rr
            exact ⟨_, _, rfl, q _ H' F' ow ((R.setDat u1 u2 r1).setDat u3 u4 r2) S.s1⟩
    · subst h2
      exact (show tAs Γ W [oa, ob] σ H _ from tAs_of _ R0 h1 (xGo_of q))
end
end DL

/-! the data layer: texts; all, any; + that makes a new own list -/
namespace DL
open PySem PySem.Spec PyProof.Rows L2
section
variable {Γ : Cn} {W : WX} {F H : Hp} {σ : L2.St} {env : En} {ow : Ow} {X : Cx}
/-! ### the signs of a text -/
def signsOf (x : Str) : List D := x.cps.toList.map fun c => PyData.str ⟨#[c]⟩
def signI (m : M D) : M (List D) := M.bind m fun d e => match d with
  | .str x => some (.ok (signsOf x) e)
  | _ => none
theorem feeds_str {x : Str} : Feeds Γ (Its x) F (signsOf x) := fun F' H' σ env ow R s => by
  have hl : (signsOf x).length = x.cps.size := by simp [signsOf]
  refine ⟨fun i hi => by rw [hl] at hi; exact hi, by rw [hl]; exact Nat.le_refl _, fun i d hd y H2 z => ?_⟩
  obtain ⟨rfl, c, h1, rfl⟩ := z
  have : d = .str ⟨#[c]⟩ := by
    unfold signsOf at hd
    rw [List.getElem?_map, Array.getElem?_toList, h1] at hd
    exact (Option.some.inj hd).symm
  subst this
  exact ⟨F', R, Stp.refl, .str _⟩
theorem i_str {tg e : Expr} {m : M D} (h : PE X e (tD Γ W m)) : PI X tg e (tI Γ W (signI m)) :=
  PI.by (pi_str h) fun σ H R ⟨env, F, ow, R0, r, e, q⟩ => by
    rcases M.bind_some e with ⟨d, e1, h1, h2⟩ | ⟨x, e1, h1, h2⟩
    · refine tD_of R0 h1 fun v H' F' R' S rv => ?_
      cases d with
      | str x =>
        cases h2
        cases rv
        exact ⟨x, rfl, q _ H' F' R' S feeds_str⟩
      | _ => cases h2
    · subst h2
      exact tD_of R0 h1 q
/-! ### texts compared, a sign in a text -/
def strD (f : Str → Str → D) : List D → Option D := fun ds => match ds with
  | [.str i, .str j] => some (f i j)
  | _ => none
def leSD := strD fun i j => .bool (!decide (j.cps.toList < i.cps.toList))
def inSgD : List D → Option D := fun ds => match ds with
  | [.str ⟨a⟩, .str z] => match a.toList with
    | [c] => some (.bool (decide (c ∈ z.cps.toList)))
    | _ => none
  | _ => none
theorem p_leS : Prim true Γ leSD (r2 fun x y H Q => ∃ i j, x = .str i ∧ y = .str j ∧ Q (.bl (!decide (j.cps.toList < i.cps.toList))) H) := by
  intro F H σ env ow vs ds z Q R hv e k
  unfold leSD strD at e
  split at e
  · obtain ⟨x, y, rfl, h1, h2⟩ := pair2 hv
    cases e
    rw [rpx_str h1, rpx_str h2]
    exact ⟨_, _, rfl, rfl, k _ H F R Stp.refl (.bl _)⟩
  · cases e
theorem p_inSg : Prim true Γ inSgD (r2 fun x y H Q => ∃ (c : Nat) (z : Str), x = .str ⟨#[c]⟩ ∧ y = .str z ∧ Q (.bl (decide (c ∈ z.cps.toList))) H) := by
  intro F H σ env ow vs ds z Q R hv e k
  unfold inSgD at e
  split at e
  · rename_i a t
    split at e
    · rename_i c hc
      obtain ⟨x, y, rfl, h1, h2⟩ := pair2 hv
      cases e
      have ha : a = #[c] := by rw [← Array.toList_inj]; exact hc
      subst ha
      rw [rpx_str h1, rpx_str h2]
      exact ⟨c, t, rfl, rfl, k _ H F R Stp.refl (.bl _)⟩
    · cases e
  · cases e
/-! ### all, any -/
def boolsOf : List D → Option (List Bool)
  | [] => some []
  | .bool b :: r => (boolsOf r).map (b :: ·)
  | _ :: _ => none
theorem boolsOf_eq : ∀ {ds : List D} {bs : List Bool}, boolsOf ds = some bs → ds = bs.map PyData.bool
  | [], bs, h => by cases h; rfl
  | d :: r, bs, h => by
    unfold boolsOf at h
    split at h
    · rename_i e; cases e
    · rename_i b r' e
      cases e
      obtain ⟨q, h1, h2⟩ := Option.map_eq_some_iff.mp h
      subst h2
      rw [boolsOf_eq h1]; rfl
    · cases h
theorem rpa_bools {K : Kf} {F : Hp} : ∀ {vs : List V} {bs : List Bool}, RpA K F vs (bs.map PyData.bool) → vs = bs.map V.bl
  | _, [], r => by cases r; rfl
  | _, b :: bs, r => by
    cases r with
    | cons h t => cases h; rw [rpa_bools t]; rfl
def allD : List D → Option D := fun ds => match ds with
  | [.list xs] => (boolsOf xs).map fun bs => .bool (bs.all id)
  | _ => none
def anyD : List D → Option D := fun ds => match ds with
  | [.list xs] => (boolsOf xs).map fun bs => .bool (bs.any id)
  | _ => none
theorem p_all (hK : Γ.g.K = X.K) : Prim true Γ allD (rAll X.K) := by
  intro F H σ env ow vs ds z Q R hv e k
  unfold allD at e
  split at e
  · rename_i xs
    obtain ⟨x, rfl, h1⟩ := pair1 hv
    obtain ⟨bs, h2, rfl⟩ := Option.map_eq_some_iff.mp e
    obtain rfl := boolsOf_eq h2
    obtain ⟨l, ws, rfl, q1, t1⟩ := rpx_list R.sm h1
    obtain rfl := rpa_bools t1
    exact ⟨l, bs, rfl, SqL.of q1, k _ H F R Stp.refl (.bl _)⟩
  · cases e
theorem p_any (hK : Γ.g.K = X.K) : Prim true Γ anyD (rAny X.K) := by
  intro F H σ env ow vs ds z Q R hv e k
  unfold anyD at e
  split at e
  · rename_i xs
    obtain ⟨x, rfl, h1⟩ := pair1 hv
    obtain ⟨bs, h2, rfl⟩ := Option.map_eq_some_iff.mp e
    obtain rfl := boolsOf_eq h2
    obtain ⟨l, ws, rfl, q1, t1⟩ := rpx_list R.sm h1
    obtain rfl := rpa_bools t1
    exact ⟨l, bs, rfl, SqL.of q1, k _ H F R Stp.refl (.bl _)⟩
  · cases e
theorem boot_all : bootBuiltins "all" = some (.builtin "all") := by decide +kernel
theorem boot_any : bootBuiltins "any" = some (.builtin "any") := by decide +kernel
/-! ### a + b of lists, kept as an own list -/
def addL (os : List Opd) : M (List D) := M.bind (runA os) fun as e => match getA true e os as with
  | some [.list a, .list b] => if a.length + b.length ≤ 1000000 then some (.ok (a ++ b) e) else none
  | _ => none
theorem e_addL {a b : Expr} {oa ob : Opd} {pos : Pos} (ha : PE X a (tO Γ W oa)) (hb : PE X b (tO Γ W ob)) : PE X (.BinOp a .Add b pos) (tL Γ W (addL [oa, ob])) :=
  PE.by (pe_op op_cat ha hb) fun σ H Q ⟨env, F, ow, R0, r, e, q⟩ => by
    have main : tAs Γ W [oa, ob] σ H fun vs H1 => match vs with
      | [x, y] => rCat x y H1 Q
      | _ => False := by
      rcases M.bind_some e with ⟨as, e1, h1, h2⟩ | ⟨x, e1, h1, h2⟩
      · refine tAs_of _ R0 h1 fun vs H' F' R S A => ?_
        cases z : getA true e1 [oa, ob] as with
        | none => rw [z] at h2; cases h2
        | some ds =>
          rw [z] at h2
          have pr := R.gets A z
          (try dsimp only at h2)
          split at h2
          · rename_i xs ys hz
            split at h2
            · rename_i hl
              cases h2
              obtain rfl := Option.some.inj hz
              obtain ⟨x, y, rfl, g1, g2⟩ := pair2 pr
              obtain ⟨l, vs1, rfl, q1, t1⟩ := rpx_list R.sm g1
              obtain ⟨l2, vs2, rfl, q2, t2⟩ := rpx_list R.sm g2
              refine ⟨l, l2, vs1, vs2, rfl, rfl, q1, q2, by rw [t1.length, t2.length]; exact line_of (by omega), fun p hp => ?_⟩
              obtain ⟨R2, S2⟩ := R.alloc0 (.lst (vs1 ++ vs2)) hp
              refine q p _ _ F' R2 (S.trans S2) ?_ ⟨upd_same, R.none_F hp, R.ow0 hp, R.h0 hp, t1.append t2⟩
              cases z : H p with
              | none => rfl
              | some o => exact absurd hp (S.s4 p (by rw [z]; exact fun z => nomatch z))
            · cases h2
          · cases h2
      · subst h2
        exact tAs_of _ R0 h1 q
    exact main
end
end DL

/-! the data layer: loops over enumerate(a list), zip of two lists -/
namespace DL
open PySem PySem.Spec PyProof.Rows L2
section
variable {Γ : Cn} {W : WX} {F H : Hp} {σ : L2.St} {env : En} {ow : Ow} {X : Cx}
def enumL : Nat → List D → List D
  | _, [] => []
  | k, d :: ds => .tuple [.int (k : Int), d] :: enumL (k + 1) ds
theorem enumL_get : ∀ {ds : List D} {k i : Nat} {d : D}, (enumL k ds)[i]? = some d → ∃ z, ds[i]? = some z ∧ d = .tuple [.int ((k + i : Nat) : Int), z]
  | [], k, i, d, h => by cases h
  | x :: ds, k, 0, d, h => by cases h; exact ⟨x, rfl, rfl⟩
  | x :: ds, k, i + 1, d, h => by
    obtain ⟨z, h1, h2⟩ := enumL_get (ds := ds) (k := k + 1) (i := i) h
    exact ⟨z, h1, by rw [h2]; congr 3; omega⟩
theorem enumL_len : ∀ {ds : List D} {k : Nat}, (enumL k ds).length = ds.length
  | [], _ => rfl
  | _ :: _, _ => congrArg Nat.succ enumL_len
def enumI (os : List Opd) : M (List D) := M.bind (runA os) fun as e => match getA false e os as with
  | some [.list xs] => some (.ok (enumL 0 xs) e)
  | _ => none
theorem feeds_enum {a : Addr} {vs : List V} {ds : List D} (hK : Γ.g.K = X.K) (h : F a = some (.lst vs)) (r : RpA Γ.g.K F vs ds) : Feeds Γ (Ite X.K a) F (enumL 0 ds) := fun F' H' σ env ow R s => by
  have hH : SqL X.K H' a vs := SqL.of (R.sm _ _ (s _ _ h))
  rw [enumL_len]
  refine ⟨fun i hi => ?_, ⟨vs, hH, by rw [r.length]; exact Nat.le_refl _⟩, fun i d hd x H2 y => ?_⟩
  · have hv : i < vs.length := by rw [r.length]; exact hi
    exact ⟨vs, vs[i], hH, List.getElem?_eq_getElem hv⟩
  · obtain ⟨T, x', rfl, hT, rfl, hy⟩ := y
    obtain ⟨z, h1, rfl⟩ := enumL_get hd
    obtain ⟨v, g1, g2⟩ := r.get' h1
    have := hy vs hH
    rw [g1] at this
    have ev : v = x' := Option.some.inj this
    subst ev
    obtain ⟨R2, S2⟩ := R.alloc (.tup [.int (i : Nat), v]) hT
    refine ⟨_, R2, S2, .tup (SqT.of upd_same) (.cons ?_ (.cons ((g2.mono s).mono S2.s1) .nil))⟩
    rw [Nat.zero_add]
    exact .int _
theorem pair1' {R : V → D → Prop} {vs : List V} {d : D} (h : Paired R vs [d]) : ∃ x, vs = [x] ∧ R x d := pair1 h
theorem i_enum {e : Expr} {o : Opd} {p pos tpos : Pos} {elts : List Expr} {kk : Nat} (hK : Γ.g.K = X.K) (hg : Gl X "enumerate") (hm : X.mg "enumerate" = none) (ha : PA X [e] (tAs Γ W [o])) (hs : starEach [e] X.env = [(false, eval e X.env)] := by rfl) :
    PI X (.Tuple elts kk tpos) (.Call (.Name "enumerate" p) [e] [] pos) (tI Γ W (enumI [o])) :=
  PI.by (pi_enum hg hm ha hs) fun σ H Q ⟨env, F, ow, R0, r, e, q⟩ => by
    rcases M.bind_some e with ⟨as, e1, h1, h2⟩ | ⟨x, e1, h1, h2⟩
    · refine tAs_of _ R0 h1 fun vs H' F' R' S A => ?_
      cases z : getA false e1 [o] as with
      | none => rw [z] at h2; cases h2
      | some ds =>
        rw [z] at h2
        have pr := R'.gets A z
        (try dsimp only at h2)
        split at h2
        · rename_i xs hz
          cases h2
          obtain rfl := Option.some.inj hz
          obtain ⟨y, rfl, h3⟩ := pair1 pr
          rcases h3 with h3 | ⟨hb, _⟩
          · cases h3 with
            | lst h r => exact ⟨_, _, rfl, by rw [← hK]; exact SqL.of (R'.sm _ _ h), q _ H' F' R' S (feeds_enum hK h r)⟩
          · cases hb
        · cases h2
    · subst h2
      exact tAs_of _ R0 h1 q
end
end DL

/-! the data layer: slices that go backwards -/
namespace DL
open PySem PySem.Spec PyProof.Rows L2
open HT in
section
variable {prog : Program} {w : World} {A : Around} {E : Value → Shared → Prop} {s : Shared}
def startR (lo : Option Int) (n : Nat) : Int := match lo with
  | none => (n : Int) - 1
  | some v => if v < 0 then max (v + (n : Int)) (-1) else min v ((n : Int) - 1)
theorem startR_lo (lo : Option Int) (n : Nat) : -1 ≤ startR lo n ∧ startR lo n ≤ (n : Int) - 1 ∨ n = 0 ∧ startR lo n = -1 := by
  unfold startR
  cases lo with
  | none => dsimp only; omega
  | some v => dsimp only; split <;> omega
theorem adjust_rev (lo : Option Int) (n : Nat) : Builtin.Slice.sliceAdjust lo none (-1) (n : Int) = (startR lo n, -1) := by
  unfold Builtin.Slice.sliceAdjust startR
  have h1 : (-1 : Int) < 0 := by decide
  simp only [h1, if_true]
  cases lo <;> rfl
theorem places_rev (i : Int) (h : -1 ≤ i) : Builtin.Slice.slicePlaces i (-1) (-1) = (i + 1).toNat := by
  unfold Builtin.Slice.slicePlaces
  rw [if_neg (by decide)]
  by_cases c : i > -1
  · rw [if_pos c]
    have : (i - -1 - 1) / - -1 + 1 = i + 1 := by
      rw [show (- -1 : Int) = 1 by decide, Int.ediv_one]; omega
    rw [this]
  · rw [if_neg c]
    have : i = -1 := by omega
    subst this; rfl
theorem applied_rev {sl : Addr} {vl vu vs : Value} {lo : Option Int} {n : Nat} {Q : Int × Int × Nat → Shared → Prop} (hs : s.heap.IsSliceOf sl vl vu vs) (pl : IsPart vl lo) (pu : IsPart vu none) (ps : IsPart vs (some (-1)))
    (h : Q (startR lo n, -1, (startR lo n + 1).toNat) s) : wpAny (model prog w) A (Builtin.Slice.sliceApplied (.ref sl) (pure (n : Int))) Q E s := by
  obtain ⟨os, hos, hcs, hds⟩ := id hs
  unfold Builtin.Slice.sliceApplied Builtin.Slice.sliceFields
  refine wpAny_bind (wpAny_bind (wpAny_field hos hds (x := vl) rfl (wpAny_bind (wpAny_field hos hds (x := vu) rfl (wpAny_bind (wpAny_field hos hds (x := vs) rfl (wpAny_pure ?_)))))))
  refine wpAny_bind (HT.slicePart_ ps ?_)
  show wpAny _ _ (if ((-1 : Int) == 0) = true then _ else _) _ _ s
  rw [if_neg (by decide)]
  refine wpAny_bind (HT.slicePart_ pl (wpAny_bind (HT.slicePart_ pu (wpAny_bind (wpAny_pure ?_)))))
  show wpAny _ _ (match Builtin.Slice.sliceAdjust lo none (-1) (n : Int) with | (lo, hi) => pure (lo, (-1 : Int), Builtin.Slice.slicePlaces lo hi (-1))) _ _ s
  rw [adjust_rev lo n]
  show wpAny _ _ (pure (startR lo n, (-1 : Int), Builtin.Slice.slicePlaces (startR lo n) (-1) (-1))) _ _ s
  have hl : -1 ≤ startR lo n := by rcases startR_lo lo n with h | h <;> omega
  rw [places_rev _ hl]
  exact wpAny_pure h
def revG {α : Type} (xs : List α) (lo : Option Int) : List α := (xs.take (startR lo xs.length + 1).toNat).reverse
theorem fm_map {α β : Type} {f : α → Option β} {g : α → β} : ∀ {l : List α}, (∀ m ∈ l, f m = some (g m)) → l.filterMap f = l.map g
  | [], _ => rfl
  | m :: l, h => by
    rw [List.filterMap_cons, h m (List.mem_cons_self ..), List.map_cons]
    dsimp only
    rw [fm_map fun x hx => h x (List.mem_cons_of_mem _ hx)]
theorem pick_rev (xs : Array Value) (lo : Option Int) : ((List.range (startR lo xs.size + 1).toNat).filterMap fun (m : Nat) => xs[(startR lo xs.size + (m : Int) * (-1)).toNat]?).toArray = (revG xs.toList lo).toArray := by
  congr 1
  unfold revG
  rw [Array.length_toList]
  have hb := startR_lo lo xs.size
  generalize startR lo xs.size = i at hb
  obtain ⟨k, hk⟩ : ∃ k : Nat, (i + 1).toNat = k := ⟨_, rfl⟩
  have hik : i = (k : Int) - 1 := by omega
  have hks : k ≤ xs.size := by omega
  rw [hk]
  subst hik
  apply List.ext_getElem?
  intro j
  have e1 : ((List.range k).filterMap fun (m : Nat) => xs[((k : Int) - 1 + (m : Int) * (-1)).toNat]?) = (List.range k).map fun m => xs.getD (k - 1 - m) Value.none := by
    refine fm_map fun m hm => ?_
    have hm' := List.mem_range.mp hm
    have e2 : ((k : Int) - 1 + (m : Int) * (-1)).toNat = k - 1 - m := by omega
    rw [e2]
    have hlt : k - 1 - m < xs.size := by omega
    simp [Array.getElem?_eq_getElem hlt, Array.getD, hlt]
  rw [e1, List.getElem?_map]
  by_cases hj : j < k
  · rw [List.getElem?_range hj, List.getElem?_reverse (by rw [List.length_take, Array.length_toList]; omega), List.length_take, Array.length_toList, Nat.min_eq_left hks, List.getElem?_take_of_lt (by omega)]
    have hlt : k - 1 - j < xs.size := by omega
    simp [Array.getD, hlt]
  · rw [List.getElem?_eq_none (by simp; omega), List.getElem?_eq_none (by simp; omega)]; rfl
theorem getItem_tuple_rev {t sl : Addr} {items : Array Value} {vl vu vs : Value} {lo : Option Int} {Q : Value → Shared → Prop} (ht : IsTup s.heap t items) (hs : s.heap.IsSliceOf sl vl vu vs) (pl : IsPart vl lo) (pu : IsPart vu none) (ps : IsPart vs (some (-1)))
    (h : Q (.ref s.heap.objs.size) { s with heap := s.heap.push { cls := .type "tuple", data := .seq (revG items.toList lo).toArray } })
    (hsz : items.size ≤ sizeLine) : wpAny (model prog w) A (getItem (.ref t) (.ref sl)) Q E s := by
  have htake : sizeOk (.seq (revG items.toList lo).toArray) := by
    show (revG items.toList lo).toArray.size ≤ sizeLine
    unfold revG
    rw [List.size_toArray, List.length_reverse, List.length_take, Array.length_toList]
    omega
  obtain ⟨os, hos, hcs, hds⟩ := id hs
  have hTs : s.TypeIs (.ref sl) "slice" := ⟨os, hos, hcs⟩
  unfold getItem
  try with_reducible refine wpAny_holding ?_
  first | refine wpAny_bind (wpAny_pure ?_) | skip
  refine wpAny_bind (wpAny_sequenceKey ht.typeIs (by decide) ?_)
  refine wpAny_bind (wpAny_callSpecial?_slot (name := Str.ofString "__getitem__") ht.typeIs PyProof.Rows.slot_tuple_getitem
    (wpAny_call_entry PyProof.Rows.slot_tuple_getitem ht.typeIs entry_tuple_getitem ?_ (args_tuple_getitem _ _)))
  show wpAny _ _ (Builtin.Tuple.tupleItemsOf (.ref t) >>= _) _ _ s
  refine wpAny_bind (tupleItemsOf_ ht ?_)
  refine wpAny_bind (wpAny_typeOf hTs ?_)
  rw [if_pos (by decide)]
  refine wpAny_bind (applied_rev hs pl pu ps ?_)
  have hno : ¬ (((startR lo items.size) == 0 && (-1 : Int) == 1 && (startR lo items.size + 1).toNat == items.size) = true) := by
    intro q
    rw [Bool.and_eq_true, Bool.and_eq_true] at q
    exact absurd q.1.2 (by decide)
  show wpAny _ _ (if ((startR lo items.size) == 0 && (-1 : Int) == 1 && (startR lo items.size + 1).toNat == items.size) = true then _ else _) _ _ s
  rw [if_neg hno, pick_rev]
  first
    | exact wpAny_bind (m := Builtin.Tuple.tupleExact _) (wpAny_newObj_type (wpAny_pure ⟨_, rfl, wpAny_pure h⟩) htake)
    | exact wpAny_bind (m := Builtin.Tuple.tupleExact _) (wpAny_newObj_type (wpAny_bind (wpAny_pure (wpAny_pure ⟨_, rfl, wpAny_pure h⟩))) htake)
    | exact wpAny_bind (wpAny_bind (m := Builtin.Tuple.tupleExact _) (wpAny_newObj_type (wpAny_pure (wpAny_pure ⟨_, rfl, wpAny_pure h⟩)) htake))
    | exact wpAny_bind (wpAny_bind (m := Builtin.Tuple.tupleExact _) (wpAny_newObj_type (wpAny_pure ⟨_, rfl, wpAny_pure h⟩) htake))
end
end DL

/-! the data layer: x[lo::-1] as a reading -/
namespace DL
open PySem PySem.Spec PyProof.Rows L2
section
variable {X : Cx} {te : TE} {tl : TO}
def rRevA (K : PySem.W.Frag) : V → Option Int → Hp → VK → Prop := fun x l H Q =>
  (∃ a xs, x = .ref a ∧ SqL K H a xs ∧ l = none ∧ ∀ p, H p = none → Q (.ref p) (upd H p (.lst (revG xs l)))) ∨
  (∃ a xs, x = .ref a ∧ SqT K H a xs ∧ ∀ p, H p = none → Q (.ref p) (upd H p (.tup (revG xs l))))
def tRevA (K : PySem.W.Frag) (te : TE) (tl : TO) : TE := fun σ H Q => te σ H fun x H1 => tl σ H1 fun l H2 => rRevA K x l H2 Q
theorem revG_none {α : Type} (xs : List α) : revG xs none = xs.reverse := by
  unfold revG startR
  have : ((xs.length : Int) - 1 + 1).toNat = xs.length := by omega
  dsimp only
  rw [this, List.take_length]
theorem revG_length {α : Type} (xs : List α) (l : Option Int) : (revG xs l).length ≤ xs.length := by
  unfold revG
  rw [List.length_reverse, List.length_take]
  omega
theorem pe_revA {e : Expr} {elo : Option Expr} {k : Nat} {p1 p2 p3 pos : Pos} (he : PE X e te) (hl : PO X elo tl) : PE X (.Subscript e (.Slice elo none (some (.UnaryOp .USub (.Constant (.int 1) k p1) p2)) p3) pos) (tRevA X.K te tl) := by
  refine ⟨fun pins s σ H Q I h => ?_⟩
  refine Subscript_ (thn (he.run pins s σ H _ I h) fun v s1 ⟨x, H1, I1, r1, q1⟩ => ?_)
  have hst : PO X (some (.UnaryOp .USub (.Constant (.int 1) k p1) p2)) (tPart (tUn (rU fun i => .int (-i)) (tC (.int 1)))) := po_some (pe_un un_neg pe_int)
  refine wpAny_Slice (thn (hl.run pins s1 σ H1 _ I1 q1) fun vl s2 ⟨l, H2, I2, pl, q2⟩ => ?_)
  refine thn (po_none.run pins s2 σ H2 (fun o H3 => o = none ∧ H3 = H2) I2 ⟨rfl, rfl⟩) fun vu s3 ⟨u, H3, I3, pu, eu, e3⟩ => ?_
  subst eu e3
  refine thn (hst.run pins s3 σ H3 (fun o H4 => o = some (-1) ∧ H4 = H3) I3 ⟨1, rfl, -1, rfl, rfl, rfl⟩) fun vs s4 ⟨o, H4, I4, ps, eo, e4⟩ => ?_
  subst eo e4
  have I5 : Inv X pins σ H4 { s4 with heap := s4.heap.push { cls := .type "slice", data := .fields #[vl, vu, vs] } } := I4.kept (t' := s4.toks) fun b ob q => Heap.get?_push_of_some _ q
  show wpAny (model X.prog X.w) X.A (subscriptTail e (.Slice elo none (some (.UnaryOp .USub (.Constant (.int 1) k p1) p2)) p3) v (.ref s4.heap.objs.size)) (EP X pins σ Q) X.xe { s4 with heap := s4.heap.push { cls := .type "slice", data := .fields #[vl, vu, vs] } }
  rcases q2 with ⟨a, xs, ex, hx, el, q⟩ | ⟨a, xs, ex, hx, q⟩
  · subst ex el
    cases r1
    obtain ⟨its, r, ht, hz⟩ := I5.list hx
    have hlen := r.length
    refine tail_any (ops := [.ref a, .ref s4.heap.objs.size]) ht.isList.typeIs (PySem.slot_list_getitem.lookup) ?_ (by with_unfolding_all rfl)
    refine wpAny_getItem_list_slice ht.isList (Heap.IsSliceOf.new _ vl vu vs) pl pu ps (by decide) ?_ (by rw [List.size_toArray]; omega)
    rw [PySem.W.krv_pick]
    rw [revG_none] at q
    refine ⟨.ref _, _, I5.laid (t' := s4.toks) (o := .lst xs.reverse) (fun b ob q => Heap.get?_push_of_some _ q) (Nat.le_refl _) ?_, rfl, q _ (I5.hok.fresh (Nat.le_refl _))⟩
    exact ⟨by rw [List.length_reverse]; exact hz, _, 0, r.reverse, Heap.get?_push_size _ rfl⟩
  · subst ex
    cases r1
    obtain ⟨its, r, ht, hz⟩ := I5.tuple hx
    have hlen : its.toArray.size = xs.length := by rw [List.size_toArray]; exact r.length.symm
    refine tail_any (ops := [.ref a, .ref s4.heap.objs.size]) ht.typeIs (PyProof.Rows.slot_tuple_getitem.lookup) ?_ (by with_unfolding_all rfl)
    refine getItem_tuple_rev ht (Heap.IsSliceOf.new _ vl vu vs) pl pu ps ?_ (by rw [hlen]; exact hz)
    refine ⟨.ref _, _, I5.laid (t' := s4.toks) (o := .tup (revG xs l)) (fun b ob q => Heap.get?_push_of_some _ q) (Nat.le_refl _) ?_, rfl, q _ (I5.hok.fresh (Nat.le_refl _))⟩
    refine ⟨Nat.le_trans (revG_length xs l) hz, _, ?_, IsTup.new _ _⟩
    unfold revG
    rw [show its.toArray.toList.length = xs.length from hlen]
    exact (r.take _).reverse
end
section
variable {Γ : Cn} {W : WX} {F H : Hp} {σ : L2.St} {env : En} {ow : Ow} {X : Cx}
def revD (d : D) (l : Option Int) : Option D := match d with
  | .list xs => match l with
    | none => some (.list (revG xs none))
    | some _ => none
  | .tuple xs => some (.tuple (revG xs l))
  | _ => none
def revM (o : Opd) (lo : Option (M D)) : M D := M.bind (runA [o]) fun ao => M.bind (partM lo) fun l e => match getA true e [o] ao with
  | some [d] => (revD d l).map fun z => Rs.ok z e
  | _ => none
theorem RpA.revG {K : Kf} {xs : List V} {ds : List D} (r : RpA K F xs ds) (l : Option Int) : RpA K F (revG xs l) (revG ds l) := by
  unfold DL.revG
  rw [r.length]
  exact (r.take _).reverse
theorem rev_go (hK : Γ.g.K = X.K) (R : Rep Γ F H σ env ow) {x : V} {d z : D} {l : Option Int} {Q : VK} (hx : RpX true Γ.g.K F H x d) (e : revD d l = some z)
    (k : ∀ v H' F', Rep Γ F' H' σ env ow → Stp F H ow F' H' → Rp Γ.g.K F' v z → Q v H') : rRevA X.K x l H Q := by
  unfold revD at e
  split at e
  · split at e
    · cases e
      obtain ⟨a, xs, rfl, q, t⟩ := rpx_list R.sm hx
      refine Or.inl ⟨a, xs, rfl, SqL.of q, rfl, fun p hp => ?_⟩
      obtain ⟨R2, S2⟩ := R.alloc (.lst (DL.revG xs none)) hp
      exact k _ _ _ R2 S2 (.lst upd_same ((t.revG none).mono S2.s1))
    · cases e
  · cases e
    obtain ⟨a, xs, rfl, q, q', t⟩ := rpx_tup R.sm hx
    refine Or.inr ⟨a, xs, rfl, by rw [← hK]; exact q, fun p hp => ?_⟩
    obtain ⟨R2, S2⟩ := R.alloc (.tup (DL.revG xs l)) hp
    exact k _ _ _ R2 S2 (.tup (SqT.of upd_same) ((t.revG l).mono S2.s1))
  · cases e
theorem e_rev {o : Expr} {elo : Option Expr} {op : Opd} {lo : Option (M D)} {k : Nat} {p1 p2 p3 pos : Pos} (hK : Γ.g.K = X.K) (ho : PE X o (tO Γ W op)) (hl : PO X elo (tPt Γ W lo)) :
    PE X (.Subscript o (.Slice elo none (some (.UnaryOp .USub (.Constant (.int 1) k p1) p2)) p3) pos) (tD Γ W (revM op lo)) :=
  PE.by (pe_revA ho hl) fun σ H Q ⟨env, F, ow, R, r, e, q⟩ => by
    rcases M.bind_some e with ⟨ao, e1, h1, h2⟩ | ⟨x, e1, h1, h2⟩
    · have main := tAs_of (W := W) (Qa := fun vs H1 => match vs with
        | [x] => tPt Γ W lo σ H1 fun l H2 => rRevA X.K x l H2 Q
        | _ => False) [op] R h1 fun vs H1 F1 R1 S1 A => ?_
      · exact main
      · have len1 : ∃ x, vs = [x] := by
          cases A with
          | sl _ t => cases t; exact ⟨_, rfl⟩
          | ex _ t => cases t; exact ⟨_, rfl⟩
        obtain ⟨x, rfl⟩ := len1
        dsimp only
        rcases M.bind_some h2 with ⟨l, e2, h3, h6⟩ | ⟨y, e2, h3, h4⟩
        · refine part_of R1 h3 fun H3 F3 R3 S3 => ?_
          cases z : getA true e2 [op] ao with
          | none => rw [z] at h6; cases h6
          | some ds =>
            rw [z] at h6
            have A3 : AtA Γ.g.K F3 σ [op] ao [x] := by
              cases A with
              | sl h t => cases t; exact .sl h .nil
              | ex h t => cases t; exact .ex (h.mono S3.s1) .nil
            have pr := R3.gets A3 z
            have l1 := getA_len z
            obtain ⟨d, rfl⟩ : ∃ d, ds = [d] := by
              cases ds with
              | nil => simp at l1
              | cons d t => cases t with
                | nil => exact ⟨d, rfl⟩
                | cons _ _ => simp at l1
            obtain ⟨w, h7, h8⟩ := Option.map_eq_some_iff.mp h6
            subst h8
            obtain ⟨x', ex, hx⟩ := pair1 pr
            cases ex
            exact rev_go hK R3 hx h7 fun v H' F' R' S' rv => q v H' F' R' (S1.trans S3 |>.trans S') rv
        · subst h4
          exact part_of R1 h3 (xGo.step q S1)
    · subst h2
      exact tAs_of (W := W) (Qa := fun vs H1 => match vs with
        | [x] => tPt Γ W lo σ H1 fun l H2 => rRevA X.K x l H2 Q
        | _ => False) [op] R h1 q
end
end DL

/-! the data layer: repr of data with dicts in it, so long as no list stands in it -/
namespace DL
open PySem PySem.Spec PyProof.Rows L2
mutual
def tame : D → Bool
  | .none => true
  | .bool _ => true
  | .int _ => true
  | .str _ => true
  | .list _ => false
  | .tuple xs => tameA xs
  | .dict xs => tameK xs
def tameA : List D → Bool
  | [] => true
  | d :: ds => tame d && tameA ds
def tameK : List (D × D) → Bool
  | [] => true
  | (_, d) :: ds => tame d && tameK ds
end
section
variable {X : Cx} {pins : List (Addr × Obj)} {σ : L2.St} {F H : Hp} {s : Shared}
theorem keys_read {es : List DictEntry} {kvs : List (Key × Value)} (p : Pairs (mixKind X.prog X.w) es kvs) : ∀ {xs : List (Key × V)} {ds : List (D × D)}, KV xs kvs → RpK X.K F xs ds →
    ReadsAll s.heap (es.map (·.key)) (ds.map (·.1)) [] := by
  induction p with
  | nil =>
    intro xs ds kv r
    cases kv
    cases r
    exact .nil
  | @cons e p es kvs hk hv t ih =>
    intro xs ds kv r
    cases kv with
    | cons h kt =>
      cases r with
      | @cons k v xs d ds h1 r =>
        have q := ih kt r
        have e1 : k = p.1 := h.1
        subst e1
        rcases keyIs_shape hk with ⟨i, t, e1, e2⟩ | ⟨x, t, e1, e2⟩
        · show ReadsAll s.heap (e.key :: es.map (·.key)) (keyD p.1 :: ds.map (·.1)) ([] ++ [])
          rw [e1, e2]
          exact .cons (.int i t) q
        · show ReadsAll s.heap (e.key :: es.map (·.key)) (keyD p.1 :: ds.map (·.1)) ([] ++ [])
          rw [e1, e2]
          exact .cons (.str x t) q
theorem pairs_vals {P : Program} {w : World} {es : List DictEntry} {kvs : List (Key × Value)} (p : Pairs (mixKind P w) es kvs) : es.map (·.val) = kvs.map (·.2) := by
  induction p with
  | nil => rfl
  | cons _ hv _ ih => rw [List.map_cons, List.map_cons, hv, ih]
mutual
theorem Rp.readsT (I : L2.Inv X pins σ H s) (sm : Same F H) : ∀ (d : D) (v : V) (u : Value), tame d = true → Rp X.K F v d → RelV v u → ∃ as, Reads s.heap u d as ∧ sysModules ∉ as
  | .none, _, _, _, h, r => by
    cases h
    cases r
    exact ⟨_, Reads.none, fun q => nomatch q⟩
  | .bool b, _, _, _, h, r => by
    cases h
    cases r
    exact ⟨_, Reads.bool b, fun q => nomatch q⟩
  | .int i, _, _, _, h, r => by
    cases h
    obtain ⟨t, rfl⟩ := r
    exact ⟨_, Reads.int i t, fun q => nomatch q⟩
  | .str x, _, _, _, h, r => by
    cases h
    obtain ⟨t, rfl⟩ := r
    exact ⟨_, Reads.str x t, fun q => nomatch q⟩
  | .list ds, _, _, c, _, _ => by simp [tame] at c
  | .tuple ds, _, _, c, h, r => by
    cases h with
    | tup hs ha =>
      cases r
      obtain ⟨its, rv, ⟨o, ho, hc, n, hd⟩, _⟩ := I.tuple (same_seqT sm hs)
      obtain ⟨as, hr, hn⟩ := RpA.readsT I sm ds _ its (by simpa [tame] using c) ha rv
      exact ⟨_, Reads.tuple ho hc hd hr, hn⟩
  | .dict ds, _, _, c, h, r => by
    cases h with
    | @dct a xs _ q rk =>
      cases r
      obtain ⟨hz, hm, vs, kv, o, es, ep, ho, hx, hd, hk, hp, hnd⟩ := dk_of I.hok (sm _ _ q)
      obtain ⟨bs, hb, hn⟩ := RpK.readsT I sm ds xs vs (by simpa [tame] using c) rk kv
      refine ⟨_, Reads.dict ho hx.1 hd (keys_read hp kv rk) (pairs_vals hp ▸ hb), fun hq => ?_⟩
      rcases List.mem_cons.mp (show sysModules ∈ a :: bs from hq) with e | e
      · rw [← e] at hm; exact absurd hm (by decide)
      · exact hn e
theorem RpA.readsT (I : L2.Inv X pins σ H s) (sm : Same F H) : ∀ (ds : List D) (vs : List V) (us : List Value), tameA ds = true → RpA X.K F vs ds → Vals vs us → ∃ as, ReadsAll s.heap us ds as ∧ sysModules ∉ as
  | [], _, _, _, h, r => by
    cases h
    cases r
    exact ⟨_, ReadsAll.nil, fun q => nomatch q⟩
  | d :: ds, _, _, c, h, r => by
    cases h with
    | cons h1 h2 =>
      cases r with
      | cons r1 r2 =>
        simp only [tameA, Bool.and_eq_true] at c
        obtain ⟨as, q1, n1⟩ := Rp.readsT I sm d _ _ c.1 h1 r1
        obtain ⟨bs, q2, n2⟩ := RpA.readsT I sm ds _ _ c.2 h2 r2
        exact ⟨_, ReadsAll.cons q1 q2, fun q => (List.mem_append.mp q).elim n1 n2⟩
theorem RpK.readsT (I : L2.Inv X pins σ H s) (sm : Same F H) : ∀ (ds : List (D × D)) (xs : List (Key × V)) (vs : List (Key × Value)), tameK ds = true → RpK X.K F xs ds → KV xs vs → ∃ as, ReadsAll s.heap (vs.map (·.2)) (ds.map (·.2)) as ∧ sysModules ∉ as
  | [], _, _, _, h, r => by
    cases h
    cases r
    exact ⟨_, ReadsAll.nil, fun q => nomatch q⟩
  | (_, d) :: ds, _, _, c, h, r => by
    cases h with
    | cons h1 h2 =>
      cases r with
      | cons r1 r2 =>
        simp only [tameK, Bool.and_eq_true] at c
        obtain ⟨as, q1, n1⟩ := Rp.readsT I sm d _ _ c.1 h1 r1.2
        obtain ⟨bs, q2, n2⟩ := RpK.readsT I sm ds _ _ c.2 h2 r2
        exact ⟨_, ReadsAll.cons q1 q2, fun q => (List.mem_append.mp q).elim n1 n2⟩
end
def rReprT (K : Kf) : List V → Hp → VK → Prop := fun xs H Q => rReprD K xs H Q ∨ ∃ (x : V) (d : D) (F : Hp), xs = [x] ∧ Same F H ∧ Rp K F x d ∧ tame d = true ∧ d.depth ≤ 64 ∧ d.showable = true ∧ d.shown.length ≤ sizeLine ∧ Q (.str d.shown) H
theorem call_reprT (hg : X.A.guards = some []) (hu : X.A.units + 100 < cLine) : CallR X (.builtin "repr") (rReprT X.K) := by
  intro pins s σ H xs us Q I r h
  rcases h with h | ⟨x, d, F, rfl, sm, hd, hc, h64, hs, hz, q⟩
  · exact call_reprD hg hu pins s σ H xs us Q I r h
  obtain ⟨u, rfl, ru⟩ := vals1 r
  have fin : ∀ t tk, EP X pins σ Q (.str d.shown t) { s with toks := tk } := fun t tk => ⟨.str d.shown, H, I.tok tk, ⟨t, rfl⟩, q⟩
  have onref : ∀ a, u = Value.ref a → wpAny (model X.prog X.w) X.A (call (.builtin "repr") [u]) (EP X pins σ Q) X.xe s := fun a e => by
    obtain ⟨as, rd, hn⟩ := Rp.readsT I sm d x u hc hd ru
    rw [e] at rd ⊢
    refine repr_of_reads' rd hs (fun _ => hn) hg (by omega) (fun _ _ z => z) (fun h' t tk kp => ?_) hz
    exact ⟨.str d.shown, H, I.kept (t' := tk) kp, ⟨t, rfl⟩, q⟩
  cases hd with
  | non =>
    cases (show u = Value.none from ru)
    exact PySem.P.repr_of_none (fin _ _)
  | bl b =>
    cases (show u = Value.bool b from ru)
    exact PySem.P.repr_of_bool (fin _ _)
  | int i =>
    obtain ⟨t, rfl⟩ := (show ∃ t, u = Value.int i t from ru)
    exact PySem.P.repr_of_int (by simpa [PyData.showable] using hs) (fin _ _)
  | str y =>
    obtain ⟨t, rfl⟩ := (show ∃ t, u = Value.str y t from ru)
    exact PySem.P.repr_of_str (fin _ _) hz
  | lst h k => exact onref _ ru
  | tup h k => exact onref _ ru
  | dct h k => exact onref _ ru
end
section
variable {Γ : Cn} {W : WX} {F H : Hp} {σ : L2.St} {env : En} {ow : Ow} {X : Cx}
def reprT : List D → Option D := fun ds => match ds with
  | [d] => if (d.canLay0 = true ∨ tame d = true) ∧ d.depth ≤ 64 ∧ d.showable = true ∧ d.shown.length ≤ 10000000 then some (.str d.shown) else none
  | _ => none
theorem rpx_tame {b : Bool} {K : Kf} {v : V} {d : D} (c : tame d = true) (h : RpX b K F H v d) : Rp K F v d := by
  rcases h with h | ⟨_, l, vs, ds, rfl, rfl, h1, h2⟩
  · exact h
  · simp [tame] at c
theorem p_reprT (hK : Γ.g.K = X.K) : Prim true Γ reprT (rReprT X.K) := by
  intro F H σ env ow vs ds z Q R hv e k
  unfold reprT at e
  split at e
  · rename_i d
    split at e
    · rename_i h
      obtain ⟨x, rfl, h1⟩ := pair1 hv
      cases e
      rw [hK] at h1
      rcases h.1 with c | c
      · exact Or.inl ⟨x, d, rfl, rpx_dp R.sm c h1, c, h.2.1, h.2.2.1, line_of h.2.2.2, k _ H F R Stp.refl (.str _)⟩
      · exact Or.inr ⟨x, d, F, rfl, R.sm, rpx_tame c h1, c, h.2.1, h.2.2.1, line_of h.2.2.2, k _ H F R Stp.refl (.str _)⟩
    · cases e
  · cases e
/-! ### displays of dicts: none, and one pair -/
theorem e_dict0 {pos : Pos} : PE X (.Dict [] [] pos) (tD Γ W fun e => some (.ok (.dict []) e)) :=
  PE.by pe_dnewK fun σ H Q ⟨env, F, ow, R, r, e, q⟩ => by
    cases e
    intro p hp
    obtain ⟨R2, S2⟩ := R.alloc (.dK []) hp
    exact q _ _ _ R2 S2 (.dct upd_same .nil)
theorem e_dict1 {x : Str} {i : Int} {j k : Nat} {p1 p2 pos : Pos} : PE X (.Dict [some (.Constant (.str x) j p1)] [.Constant (.int i) k p2] pos) (tD Γ W fun e => some (.ok (.dict [(.str x, .int i)]) e)) :=
  PE.by (pe_disp (pps_cons pe_str pe_int pps_nil) rfl rfl (by simp) (by simp)) fun σ H Q ⟨env, F, ow, R, r, e, q⟩ => by
    cases e
    intro p hp
    refine ⟨upd_same, [(.inr x, .int i)], rfl, by simp, ?_⟩
    obtain ⟨R2, S2⟩ := R.alloc (.dK [(.inr x, .int i)]) hp
    have e2 : upd (upd H p (.dK [])) p (.dK (mergeK [] [(Sum.inr x, V.int i)])) = upd H p (.dK [(.inr x, .int i)]) := by
      funext b
      unfold upd
      by_cases c : b = p <;> simp [c] <;> rfl
    rw [e2]
    exact q _ _ _ R2 S2 (.dct upd_same (.cons (.int i) .nil))
end
end DL

/-! the data layer: zip with strict=False of two lists or two tuples; sep.join; len(set(..)) of texts -/
namespace DL
open PySem PySem.Spec PyProof.Rows L2
/-! ### zip(a, b, strict=False) -/
abbrev strictK : List (Str × Value) := [(Str.ofString "strict", .bool false)]
theorem zipK_call (a b : Value) : checkTypeCall "zip" ⟨[a, b], strictK⟩ = pure () := by kernel_rfl
theorem zipK_new (a b : Value) : checkBuiltinCall "zip.__new__" ⟨[.type "zip", a, b], strictK⟩ = pure () := by kernel_rfl
theorem zipK_args (x a b : Value) : argsOk "object.__init__" ⟨[x, a, b], strictK⟩ := by unfold argsOk; kernel_rfl
section
variable {prog : Program} {w : World} {A : Around} {E : Value → Shared → Prop} {s : Shared}
theorem zipK_tup (m1 m2 : Addr) (us vs : Array Value) :
    Meets (Builtin.«zip.__new__» ⟨[.type "zip", .ref m1, .ref m2], strictK⟩) (fun _ R s => s.heap.IsTuple m1 us ∧ s.heap.IsTuple m2 vs ∧
      R (.ok (.ret (.ref (RZ.zipTH4 s.heap m1 m2).objs.size))) { s with heap := RZ.zipTH5 s.heap m1 m2 }) :=
  .of_wp fun prog w A R s h => by
    obtain ⟨hp, gs, dr, tks, oss⟩ := s
    obtain ⟨t1, t2, h⟩ := h
    have sz := sub_zip
    have e1 : (Str.ofString "strict" != ("strict" : Str)) = false := by decide +kernel
    have u1 : Heap.IsTuple (Shared.heap ⟨hp, gs, dr, tks, oss⟩) m1 us := t1
    have u2 : Heap.IsTuple (Shared.heap ⟨hp.push { cls := .type "tuple_iterator", data := .fields #[.ref m1, .int 0 0] }, gs, dr, tks, oss⟩) m2 vs := Heap.IsTuple.push t2 _
    wp_walk using wpAny_pyIter_tuple u1, wpAny_pyIter_tuple u2
    exact ⟨_, rfl, h⟩
theorem zipK_lst (m1 m2 : Addr) (us vs : Array Value) :
    Meets (Builtin.«zip.__new__» ⟨[.type "zip", .ref m1, .ref m2], strictK⟩) (fun _ R s => s.heap.IsList m1 us ∧ s.heap.IsList m2 vs ∧
      R (.ok (.ret (.ref (zipH4 s.heap m1 m2).objs.size))) { s with heap := zipH5 s.heap m1 m2 }) :=
  .of_wp fun prog w A R s h => by
    obtain ⟨hp, gs, dr, tks, oss⟩ := s
    obtain ⟨t1, t2, h⟩ := h
    have sz := sub_zip
    have e1 : (Str.ofString "strict" != ("strict" : Str)) = false := by decide +kernel
    have u1 : Heap.IsList (Shared.heap ⟨hp, gs, dr, tks, oss⟩) m1 us := t1
    have u2 : Heap.IsList (Shared.heap ⟨hp.push { cls := .type "list_iterator", data := .fields #[.ref m1, .int 0 0] }, gs, dr, tks, oss⟩) m2 vs := Heap.IsList.push t2 _
    wp_walk using wpAny_pyIter_list u1, wpAny_pyIter_list u2
    exact ⟨_, rfl, h⟩
/-- five new objects, one behind another -/
theorem push5 (h : Heap) {a b c d e : Obj} (fa : ∀ h : Heap, (h.push a).get? h.objs.size = some a) (fb : ∀ h : Heap, (h.push b).get? h.objs.size = some b) (fc : ∀ h : Heap, (h.push c).get? h.objs.size = some c) (fd : ∀ h : Heap, (h.push d).get? h.objs.size = some d)
    (fe : ∀ h : Heap, (h.push e).get? h.objs.size = some e) :
    (((((h.push a).push b).push c).push d).push e).objs.size = h.objs.size + 5 ∧ (((((h.push a).push b).push c).push d).push e).get? h.objs.size = some a ∧ (((((h.push a).push b).push c).push d).push e).get? (h.objs.size + 1) = some b ∧
      (((((h.push a).push b).push c).push d).push e).get? (h.objs.size + 2) = some c ∧ (((((h.push a).push b).push c).push d).push e).get? (h.objs.size + 3) = some d ∧ (((((h.push a).push b).push c).push d).push e).get? (h.objs.size + 4) = some e ∧
      ∀ x o, h.get? x = some o → (((((h.push a).push b).push c).push d).push e).get? x = some o := by
  have n1 : (h.push a).objs.size = h.objs.size + 1 := Heap.size_push ..
  have n2 : ((h.push a).push b).objs.size = h.objs.size + 2 := by rw [Heap.size_push, n1]
  have n3 : (((h.push a).push b).push c).objs.size = h.objs.size + 3 := by rw [Heap.size_push, n2]
  have n4 : ((((h.push a).push b).push c).push d).objs.size = h.objs.size + 4 := by rw [Heap.size_push, n3]
  have up : ∀ {g : Heap} {q : Obj} {x : Addr} {o : Obj}, g.get? x = some o → (g.push q).get? x = some o := fun z => Heap.get?_push_of_some _ z
  refine ⟨by rw [Heap.size_push, n4], up (up (up (up (fa h)))), ?_, ?_, ?_, ?_, fun x o z => up (up (up (up (up z))))⟩
  · rw [← n1]; exact up (up (up (fb _)))
  · rw [← n2]; exact up (up (fc _))
  · rw [← n3]; exact up (fd _)
  · rw [← n4]; exact fe _
/-- what stands behind a call of zip: z, its two iterators, the pairs -/
def ZipNew (it : Heap → Addr → Addr → Nat → Prop) (h h' : Heap) (m1 m2 : Addr) : Prop :=
  IsZip h' (h.objs.size + 4) (h.objs.size + 2) (h.objs.size + 3) .none ∧ IsPair h' (h.objs.size + 2) (.ref h.objs.size) (.ref (h.objs.size + 1)) ∧ IsPair h' (h.objs.size + 3) .none .none ∧ it h' h.objs.size m1 0 ∧ it h' (h.objs.size + 1) m2 0 ∧
    ∀ x o, h.get? x = some o → h'.get? x = some o
theorem zipK_T {m1 m2 : Addr} {us vs : Array Value} {Q : Value → Shared → Prop} (t1 : s.heap.IsTuple m1 us) (t2 : s.heap.IsTuple m2 vs)
    (k : ∀ h', ZipNew Heap.IsTupleIter s.heap h' m1 m2 → Q (.ref (s.heap.objs.size + 4)) { s with heap := h' }) : wpAny (model prog w) A (call (.type "zip") [.ref m1, .ref m2] strictK) Q E s := by
  refine callType_newKw PySem.F.called_zip (by decide) (zipK_call _ _) (zipK_new _ _) (fun x => zipK_args x _ _) PySem.F.entry_zip_new (zipK_tup m1 m2 us vs) ⟨t1, t2, ?_⟩
  have n4 : (RZ.zipTH4 s.heap m1 m2).objs.size = s.heap.objs.size + 4 := by simp only [Heap.size_push]
  show _ ∧ _
  rw [n4]
  obtain ⟨z, g0, g1, g2, g3, g4, kp⟩ := push5 s.heap (a := { cls := .type "tuple_iterator", data := .fields #[.ref m1, .int 0 0] }) (b := { cls := .type "tuple_iterator", data := .fields #[.ref m2, .int 0 0] })
    (c := { cls := .type "tuple", data := .seq #[.ref s.heap.objs.size, .ref (RZ.zipTH1 s.heap m1).objs.size] }) (d := { cls := .type "tuple", data := .seq #[.none, .none] })
    (e := { cls := .type "zip", data := .fields #[.none, .bool false, .bool false, .ref (RZ.zipTH2 s.heap m1 m2).objs.size, .ref (RZ.zipTH3 s.heap m1 m2).objs.size] }) (fa := fun h => Heap.get?_push_size h rfl) (fb := fun h => Heap.get?_push_size h rfl) (fc := fun h => Heap.get?_push_size h rfl) (fd := fun h => Heap.get?_push_size h rfl) (fe := fun h => Heap.get?_push_size h rfl)
  have n1 : (RZ.zipTH1 s.heap m1).objs.size = s.heap.objs.size + 1 := by simp only [Heap.size_push]
  have n2 : (RZ.zipTH2 s.heap m1 m2).objs.size = s.heap.objs.size + 2 := by simp only [Heap.size_push]
  have n3 : (RZ.zipTH3 s.heap m1 m2).objs.size = s.heap.objs.size + 3 := by simp only [Heap.size_push]
  have e2 : (RZ.zipTH5 s.heap m1 m2).get? (s.heap.objs.size + 2) = some { cls := .type "tuple", data := .seq #[.ref s.heap.objs.size, .ref (RZ.zipTH1 s.heap m1).objs.size] } := g2
  have e4 : (RZ.zipTH5 s.heap m1 m2).get? (s.heap.objs.size + 4) = some { cls := .type "zip", data := .fields #[.none, .bool false, .bool false, .ref (RZ.zipTH2 s.heap m1 m2).objs.size, .ref (RZ.zipTH3 s.heap m1 m2).objs.size] } := g4
  rw [n1] at e2
  rw [n2, n3] at e4
  exact ⟨⟨_, e4, rfl⟩, k (RZ.zipTH5 s.heap m1 m2) ⟨e4, e2, g3, ⟨_, g0, rfl, rfl⟩, ⟨_, g1, rfl, rfl⟩, kp⟩⟩
theorem zipK_L {m1 m2 : Addr} {us vs : Array Value} {Q : Value → Shared → Prop} (t1 : s.heap.IsList m1 us) (t2 : s.heap.IsList m2 vs)
    (k : ∀ h', ZipNew Heap.IsListIter s.heap h' m1 m2 → Q (.ref (s.heap.objs.size + 4)) { s with heap := h' }) : wpAny (model prog w) A (call (.type "zip") [.ref m1, .ref m2] strictK) Q E s := by
  refine callType_newKw PySem.F.called_zip (by decide) (zipK_call _ _) (zipK_new _ _) (fun x => zipK_args x _ _) PySem.F.entry_zip_new (zipK_lst m1 m2 us vs) ⟨t1, t2, ?_⟩
  have n4 : (zipH4 s.heap m1 m2).objs.size = s.heap.objs.size + 4 := by simp only [Heap.size_push]
  show _ ∧ _
  rw [n4]
  obtain ⟨z, g0, g1, g2, g3, g4, kp⟩ := push5 s.heap (a := { cls := .type "list_iterator", data := .fields #[.ref m1, .int 0 0] }) (b := { cls := .type "list_iterator", data := .fields #[.ref m2, .int 0 0] })
    (c := { cls := .type "tuple", data := .seq #[.ref s.heap.objs.size, .ref (zipH1 s.heap m1).objs.size] }) (d := { cls := .type "tuple", data := .seq #[.none, .none] })
    (e := { cls := .type "zip", data := .fields #[.none, .bool false, .bool false, .ref (zipH2 s.heap m1 m2).objs.size, .ref (zipH3 s.heap m1 m2).objs.size] }) (fa := fun h => Heap.get?_push_size h rfl) (fb := fun h => Heap.get?_push_size h rfl) (fc := fun h => Heap.get?_push_size h rfl) (fd := fun h => Heap.get?_push_size h rfl) (fe := fun h => Heap.get?_push_size h rfl)
  have n1 : (zipH1 s.heap m1).objs.size = s.heap.objs.size + 1 := by simp only [Heap.size_push]
  have n2 : (zipH2 s.heap m1 m2).objs.size = s.heap.objs.size + 2 := by simp only [Heap.size_push]
  have n3 : (zipH3 s.heap m1 m2).objs.size = s.heap.objs.size + 3 := by simp only [Heap.size_push]
  have e2 : (zipH5 s.heap m1 m2).get? (s.heap.objs.size + 2) = some { cls := .type "tuple", data := .seq #[.ref s.heap.objs.size, .ref (zipH1 s.heap m1).objs.size] } := g2
  have e4 : (zipH5 s.heap m1 m2).get? (s.heap.objs.size + 4) = some { cls := .type "zip", data := .fields #[.none, .bool false, .bool false, .ref (zipH2 s.heap m1 m2).objs.size, .ref (zipH3 s.heap m1 m2).objs.size] } := g4
  rw [n1] at e2
  rw [n2, n3] at e4
  exact ⟨⟨_, e4, rfl⟩, k (zipH5 s.heap m1 m2) ⟨e4, e2, g3, ⟨_, g0, rfl, rfl⟩, ⟨_, g1, rfl, rfl⟩, kp⟩⟩
end
end DL

set_option maxHeartbeats 400000
/-! the data layer: loops over zip with strict=False; sep.join; len(set(..)) of texts -/
namespace DL
open PySem PySem.Spec PyProof.Rows L2
section
variable {M : Model} {A : Around} {E : Value → Shared → Prop} {s : Shared} {env : Env}
theorem type_kw {pos : Pos} {T : String} {e : Expr} {more : List Expr} {kws : List Keyword} {Q : Value → Shared → Prop}
    (h : wpAny M A (spliced (backTo pos (starEach (e :: more) env))) (fun vs s₁ => wpAny M A (evalAll ((backToKw pos (keywordEach kws env)).map (·.2)))
      (fun us s₂ => wpAny M A (call (.type T) vs (((backToKw pos (keywordEach kws env)).filterMap (·.1)).zip us)) Q E s₂) E s₁) E s)
    (he : backTo pos (starEach (e :: more) env) = (false, eval e env) :: backTo pos (starEach more env) := by rfl)
    (hp : (backTo pos (starEach (e :: more) env)).any (·.1) = false := by rfl)
    (hs : (backToKw pos (keywordEach kws env)).all (·.1.isSome) = true := by rfl)
    (hn : (backToKw pos (keywordEach kws env)).any (·.1.isNone) = false := by rfl) :
    wpAny M A (callWith pos (.type T) [] (backTo pos (starEach (e :: more) env)) (backToKw pos (keywordEach kws env))) Q E s := by
  unfold callWith
  refine wpAny_bind (wpAny_holding (wpAny_mono (Q := fun a s₁ => wpAny M A (call (.type T) ([] ++ a.pos) a.kw) Q E s₁) ?_ (fun a s₁ h₁ => wpAny_bind (wpAny_standAt ?_)) fun _ _ x => x))
  · rw [he] at h ⊢
    exact evalArgs_kwB hs h
  · simp only [hp, hn, Bool.or_false]
    refine wpAny_bind (wpAny_pure ?_)
    exact wpAny_bind (wpAny_mono h₁ (fun r s₂ hr => wpAny_bind (wpAny_holding (wpAny_point (wpAny_pure hr)))) fun _ _ x => x)
end
section
variable {X : Cx}
theorem pi_zipF {e e2 : Expr} {ta : TA} {p pos tpos kp cp : Pos} {j : Nat} {elts : List Expr} {kk : Nat} (hg : Gl X "zip") (hm : X.mg "zip" = none) (ha : PA X [e, e2] ta)
    (hs : starEach [e, e2] X.env = [(false, eval e X.env), (false, eval e2 X.env)] := by rfl) (hs2 : starEach [e2] X.env = [(false, eval e2 X.env)] := by rfl) :
    PI X (.Tuple elts kk tpos) (.Call (.Name "zip" p) [e, e2] [⟨some "strict", .Constant (.bool false) j cp, kp⟩] pos) (RZ.iZipA X.K ta) := by
  refine ⟨fun pins s σ H R I h => ?_⟩
  have h1 : backTo pos (starEach [e, e2] X.env) = (false, eval e X.env) :: backTo pos (starEach [e2] X.env) := by rw [hs, hs2]; rfl
  have h2 : (backTo pos (starEach [e, e2] X.env)).any (·.1) = false := by rw [hs]; rfl
  refine wpAny_Call_Name_kw (ld_blt I hg hm PyProof.Rows.boot_zip ?_)
  refine type_kw ?_ h1 h2
  refine thn (ha.run pos pins s σ H _ I h) fun us s1 ⟨vs, H1, I1, r1, q1⟩ => ?_
  refine kws_cons ?_
  refine thn ((pe_bl (X := X) (b := false)).run pins s1 σ H1 (fun v H2 => v = .bl false ∧ H2 = H1) I1 ⟨rfl, rfl⟩) fun u s2 ⟨v, H2, I2, r2, q2⟩ => kws_nil ?_
  obtain ⟨rfl, rfl⟩ := q2
  obtain ⟨a, b, xs, ys, ex, q1⟩ := q1
  subst ex
  cases r1 with
  | cons r rr => cases rr with
    | cons r' rr =>
      cases rr
      cases r
      cases r'
      have kwd : (List.filterMap (fun x => x.fst) (backToKw pos (keywordEach [⟨some "strict", .Constant (.bool false) j cp, kp⟩] X.env))).zip [u] = strictK := by rw [show u = .bool false from r2]; rfl
      rw [kwd]
      have five : ∀ c, c ∈ [s2.heap.objs.size + 4, s2.heap.objs.size + 2, s2.heap.objs.size + 3, s2.heap.objs.size, s2.heap.objs.size + 1] → FpOk X pins H2 c := fun c hc => by
        simp only [List.mem_cons, List.not_mem_nil, or_false] at hc
        have up : s2.heap.objs.size ≤ c := by omega
        exact I2.fpOk up (I2.hok.fresh up)
      rcases q1 with ⟨sa, sb, q⟩ | ⟨sa, sb, q⟩
      · obtain ⟨us1, v1, t1, _⟩ := I2.list sa
        obtain ⟨us2, v2, t2, _⟩ := I2.list sb
        refine zipK_L t1.isList t2.isList fun h' ⟨z, p1, p2, i1, i2, kp⟩ => wpAny_pyIter_zip z ?_
        exact ⟨_, [s2.heap.objs.size + 4, s2.heap.objs.size + 2, s2.heap.objs.size + 3, s2.heap.objs.size, s2.heap.objs.size + 1], _, _, H2, rfl, I2.kept (t' := s2.toks) kp, turn_zip (PySem.W.ktu_apart s2.heap.objs.size a b t1.lt t2.lt), ⟨z, p1, ⟨_, _, p2⟩, i1, i2⟩, five, q⟩
      · obtain ⟨us1, v1, t1, _⟩ := I2.tuple sa
        obtain ⟨us2, v2, t2, _⟩ := I2.tuple sb
        obtain ⟨b1, g1, _⟩ := id t1
        obtain ⟨b2, g2, _⟩ := id t2
        refine zipK_T (show s2.heap.IsTuple a us1.toArray from t1) (show s2.heap.IsTuple b us2.toArray from t2) fun h' ⟨z, p1, p2, i1, i2, kp⟩ => wpAny_pyIter_zip z ?_
        exact ⟨_, [s2.heap.objs.size + 4, s2.heap.objs.size + 2, s2.heap.objs.size + 3, s2.heap.objs.size, s2.heap.objs.size + 1], _, _, H2, rfl, I2.kept (t' := s2.toks) kp, RZ.turn_zipT (PySem.W.ktu_apart s2.heap.objs.size a b (Heap.lt_size g1) (Heap.lt_size g2)), ⟨z, p1, ⟨_, _, p2⟩, i1, i2⟩, five, q⟩
end
section
variable {Γ : Cn} {W : WX} {F H : Hp} {σ : L2.St} {env : En} {ow : Ow} {X : Cx}
def pairL : List D → List D → List D
  | x :: xs, y :: ys => .tuple [x, y] :: pairL xs ys
  | _, _ => []
theorem pairL_get : ∀ {xs ys : List D} {i : Nat} {d : D}, (pairL xs ys)[i]? = some d → ∃ x y, xs[i]? = some x ∧ ys[i]? = some y ∧ d = .tuple [x, y]
  | [], _, i, d, h => by cases h
  | _ :: _, [], i, d, h => by cases h
  | x :: xs, y :: ys, 0, d, h => by cases h; exact ⟨x, y, rfl, rfl, rfl⟩
  | x :: xs, y :: ys, i + 1, d, h => pairL_get (xs := xs) (ys := ys) (i := i) h
theorem pairL_len : ∀ (xs ys : List D), (pairL xs ys).length = min xs.length ys.length
  | [], _ => by simp [pairL]
  | _ :: _, [] => by simp [pairL]
  | x :: xs, y :: ys => by simp [pairL, pairL_len xs ys]
def zipI (os : List Opd) : M (List D) := M.bind (runA os) fun as e => match getA false e os as with
  | some [.list xs, .list ys] => some (.ok (pairL xs ys) e)
  | some [.tuple xs, .tuple ys] => some (.ok (pairL xs ys) e)
  | _ => none
theorem feeds_zipT {a b : Addr} {us vs : List V} {xs ys : List D} (hK : Γ.g.K = X.K) (ha : SqT Γ.g.K F a us) (hb : SqT Γ.g.K F b vs) (ra : RpA Γ.g.K F us xs) (rb : RpA Γ.g.K F vs ys) : Feeds Γ (RZ.ItzT X.K a b) F (pairL xs ys) := fun F' H' σ env ow R s => by
  have h1 : SqT X.K H' a us := by rw [← hK]; exact same_seqT (s.trans R.sm) ha
  have h2 : SqT X.K H' b vs := by rw [← hK]; exact same_seqT (s.trans R.sm) hb
  rw [pairL_len]
  refine ⟨fun i hi => ?_, ⟨us, vs, h1, h2, by rw [ra.length, rb.length]; omega⟩, fun i d hd x H2 y => ?_⟩
  · have e1 : i < us.length := by rw [ra.length]; omega
    have e2 : i < vs.length := by rw [rb.length]; omega
    exact ⟨us, vs, us[i], vs[i], h1, h2, List.getElem?_eq_getElem e1, List.getElem?_eq_getElem e2⟩
  · obtain ⟨T, x1, y1, rfl, hT, rfl, f1, f2⟩ := y
    obtain ⟨u, v, g1, g2, rfl⟩ := pairL_get hd
    obtain ⟨w1, m1, n1⟩ := ra.get' g1
    obtain ⟨w2, m2, n2⟩ := rb.get' g2
    have e1 := f1 us h1
    have e2 := f2 vs h2
    rw [m1] at e1; rw [m2] at e2
    obtain rfl := Option.some.inj e1
    obtain rfl := Option.some.inj e2
    obtain ⟨R2, S2⟩ := R.alloc (.tup [w1, w2]) hT
    exact ⟨_, R2, S2, .tup (SqT.of upd_same) (.cons ((n1.mono s).mono S2.s1) (.cons ((n2.mono s).mono S2.s1) .nil))⟩
theorem feeds_zipL {a b : Addr} {us vs : List V} {xs ys : List D} (hK : Γ.g.K = X.K) (ha : F a = some (.lst us)) (hb : F b = some (.lst vs)) (ra : RpA Γ.g.K F us xs) (rb : RpA Γ.g.K F vs ys) : Feeds Γ (Itz X.K a b) F (pairL xs ys) := fun F' H' σ env ow R s => by
  have h1 : SqL X.K H' a us := SqL.of (R.sm _ _ (s _ _ ha))
  have h2 : SqL X.K H' b vs := SqL.of (R.sm _ _ (s _ _ hb))
  rw [pairL_len]
  refine ⟨fun i hi => ?_, ⟨us, vs, h1, h2, by rw [ra.length, rb.length]; omega⟩, fun i d hd x H2 y => ?_⟩
  · have e1 : i < us.length := by rw [ra.length]; omega
    have e2 : i < vs.length := by rw [rb.length]; omega
    exact ⟨us, vs, us[i], vs[i], h1, h2, List.getElem?_eq_getElem e1, List.getElem?_eq_getElem e2⟩
  · obtain ⟨T, x1, y1, rfl, hT, rfl, f1, f2⟩ := y
    obtain ⟨u, v, g1, g2, rfl⟩ := pairL_get hd
    obtain ⟨w1, m1, n1⟩ := ra.get' g1
    obtain ⟨w2, m2, n2⟩ := rb.get' g2
    have e1 := f1 us h1
    have e2 := f2 vs h2
    rw [m1] at e1; rw [m2] at e2
    obtain rfl := Option.some.inj e1
    obtain rfl := Option.some.inj e2
    obtain ⟨R2, S2⟩ := R.alloc (.tup [w1, w2]) hT
    exact ⟨_, R2, S2, .tup (SqT.of upd_same) (.cons ((n1.mono s).mono S2.s1) (.cons ((n2.mono s).mono S2.s1) .nil))⟩
theorem i_zipF {e e2 : Expr} {o o2 : Opd} {p pos tpos kp cp : Pos} {j : Nat} {elts : List Expr} {kk : Nat} (hK : Γ.g.K = X.K) (hg : Gl X "zip") (hm : X.mg "zip" = none) (ha : PA X [e, e2] (tAs Γ W [o, o2])) (hs : starEach [e, e2] X.env = [(false, eval e X.env), (false, eval e2 X.env)] := by rfl) (hs2 : starEach [e2] X.env = [(false, eval e2 X.env)] := by rfl) :
    PI X (.Tuple elts kk tpos) (.Call (.Name "zip" p) [e, e2] [⟨some "strict", .Constant (.bool false) j cp, kp⟩] pos) (tI Γ W (zipI [o, o2])) :=
  PI.by (pi_zipF hg hm ha hs hs2) fun σ H Q ⟨env, F, ow, R0, r, e, q⟩ => by
    rcases M.bind_some e with ⟨as, e1, h1, h2⟩ | ⟨x, e1, h1, h2⟩
    · refine tAs_of _ R0 h1 fun vs H' F' R' S A => ?_
      cases z : getA false e1 [o, o2] as with
      | none => rw [z] at h2; cases h2
      | some ds =>
        rw [z] at h2
        have pr := R'.gets A z
        (try dsimp only at h2)
        split at h2
        · rename_i xs ys hz
          cases h2
          obtain rfl := Option.some.inj hz
          obtain ⟨u, v, rfl, h3, h4⟩ := pair2 pr
          rcases h3 with h3 | ⟨hb, _⟩
          · rcases h4 with h4 | ⟨hb, _⟩
            · cases h3 with
              | lst g3 r3 => cases h4 with
                | lst g4 r4 => exact ⟨_, _, _, _, rfl, Or.inl ⟨by rw [← hK]; exact SqL.of (R'.sm _ _ g3), by rw [← hK]; exact SqL.of (R'.sm _ _ g4), q _ H' F' R' S (feeds_zipL hK g3 g4 r3 r4)⟩⟩
            · cases hb
          · cases hb
        · rename_i xs ys hz
          cases h2
          obtain rfl := Option.some.inj hz
          obtain ⟨u, v, rfl, h3, h4⟩ := pair2 pr
          rcases h3 with h3 | ⟨hb, _⟩
          · rcases h4 with h4 | ⟨hb, _⟩
            · cases h3 with
              | tup g3 r3 => cases h4 with
                | tup g4 r4 => exact ⟨_, _, _, _, rfl, Or.inr ⟨by rw [← hK]; exact same_seqT R'.sm g3, by rw [← hK]; exact same_seqT R'.sm g4, q _ H' F' R' S (feeds_zipT hK g3 g4 r3 r4)⟩⟩
            · cases hb
          · cases hb
        · cases h2
    · subst h2
      exact tAs_of _ R0 h1 q
/-! ### sep.join(texts) -/
def strsOf : List D → Option (List Str)
  | [] => some []
  | .str b :: r => (strsOf r).map (b :: ·)
  | _ => none
theorem strsOf_eq : ∀ {ds : List D} {bs : List Str}, strsOf ds = some bs → ds = bs.map PyData.str
  | [], bs, h => by cases h; rfl
  | d :: r, bs, h => by
    cases d with
    | str b =>
      unfold strsOf at h
      obtain ⟨ms, h1, h2⟩ := Option.map_eq_some_iff.mp h
      subst h2
      rw [strsOf_eq h1]; rfl
    | _ => cases h
theorem strsOf_map : ∀ (bs : List Str), strsOf (bs.map PyData.str) = some bs
  | [] => rfl
  | b :: bs => by
    show (strsOf (bs.map PyData.str)).map (b :: ·) = _
    rw [strsOf_map bs]; rfl
theorem rpa_strs {K : Kf} {F : Hp} : ∀ {vs : List V} {bs : List Str}, RpA K F vs (bs.map PyData.str) → vs = bs.map V.str
  | _, [], .nil => rfl
  | _, b :: bs, h => by
    cases h with
    | cons h t => cases h; rw [rpa_strs t]; rfl
def joinD (sep : Str) : List D → Option D := fun ds => match ds with
  | [.list xs] => (strsOf xs).bind fun ys => if (ys.map (·.length)).sum + ys.length * sep.length ≤ 10000000 then some (.str (Txt.join sep ys)) else none
  | _ => none
def rJoin (K : Kf) (sep : Str) : V → Hp → VK → Prop := fun x H Q => ∃ a p, ∃ ys : List Str, V.str sep = .str a ∧ [x] = [V.ref p] ∧ (SqL K H p (ys.map V.str) ∨ SqT K H p (ys.map V.str)) ∧
  (ys.map (·.length)).sum + ys.length * a.length ≤ 16777216 ∧ Q (.str (Txt.join a ys)) H
theorem p_join (sep : Str) : Prim true Γ (joinD sep) (r1 (rJoin X.K sep)) := by
  intro F H σ env ow vs ds z Q R hv e k
  unfold joinD at e
  split at e
  · rename_i xs
    obtain ⟨x, rfl, h1⟩ := pair1 hv
    cases hi : strsOf xs with
    | none => rw [hi] at e; cases e
    | some ys =>
      rw [hi] at e
      replace e : (if (ys.map (·.length)).sum + ys.length * sep.length ≤ 10000000 then some (PyData.str (Txt.join sep ys)) else none) = some z := e
      split at e
      · rename_i hz
        cases e
        obtain rfl := strsOf_eq hi
        obtain ⟨l, ws, rfl, q1, t1⟩ := rpx_list R.sm h1
        obtain rfl := rpa_strs t1
        exact ⟨sep, l, ys, rfl, rfl, Or.inl (SqL.of q1), by omega, k _ H F R Stp.refl (.str _)⟩
      · cases e
  · cases e
theorem e_join {sep : Str} {e : Expr} {o : Opd} {j : Nat} {cp apos pos : Pos} (ha : PE X e (tO Γ W o)) (hs : starEach [e] X.env = [(false, eval e X.env)] := by rfl) (hbase : attributeBase (.Constant (.str sep) j cp) "join" X.env (eval (.Constant (.str sep) j cp) X.env) = eval (.Constant (.str sep) j cp) X.env := by rfl) (hline : (apos.endLine == pos.line) = true := by rfl) :
    PE X (.Call (.Attribute (.Constant (.str sep) j cp) "join" apos) [e] [] pos) (tD Γ W (opM true (joinD sep) [o])) :=
  PE.by (pe_join pe_str ha hs hbase hline) fun σ H Q h => ⟨⟨sep, rfl⟩, tD_op (p_join (X := X) sep) h⟩
end
end DL

/-! the data layer: sets of texts made of lists, and how many there are -/
namespace DL
open PySem PySem.Spec PyProof.Rows L2
/-- how many texts there are, each once -/
def onceN (xs : List Str) : Nat → Nat
  | 0 => 0
  | i + 1 => if (xs.take i).any (· == xs.getD i Str.empty) = true then onceN xs i else onceN xs i + 1
theorem onceN_le (xs : List Str) : ∀ i, onceN xs i ≤ i
  | 0 => Nat.le_refl _
  | i + 1 => by
    have := onceN_le xs i
    unfold onceN
    split <;> omega
theorem take_any (xs : List Str) {i : Nat} (h : i < xs.length) (x : Str) : (xs.take (i + 1)).any (· == x) = ((xs.take i).any (· == x) || decide (x = xs.getD i Str.empty)) := by
  rw [List.take_add_one, List.any_append, List.getElem?_eq_getElem h, List.getD_eq_getElem?_getD, List.getElem?_eq_getElem h]
  congr 1
  simp only [Option.toList, List.any_cons, List.any_nil, Bool.or_false, Option.getD_some]
  by_cases e : x = xs[i]
  · subst e; simp
  · rw [decide_eq_false e]
    exact beq_eq_false_iff_ne.mpr fun z => e z.symm
section
variable {prog : Program} {w : World} {A : Around}
theorem setS_loop {R : Result → Shared → Prop} {I : Addr} {fp wr : List Addr} {G : Array GenState → Array GenState → Prop} {n : Nat} {P : Nat → Value → Prop} {St : Nat → Shared → Prop}
    (W : WalksS prog w A.in1 I fp wr G n P St) (S : Addr) (hSf : S ∉ fp) (xs : List Str) (hn : xs.length = n) (hval : ∀ i v, P i v → ∃ t, v = .str (xs.getD i Str.empty) t) (hb : n + 1 < scanBound) (k : Nat) :
    ∀ (i : Nat) (s : Shared), n - i = k → i ≤ n → St i s → s.heap.SetOf (PySem.strKind prog w) S (fun x => (xs.take i).any (· == x)) (onceN xs i) →
      (∀ s', Moved (S :: wr) G s s' → s'.heap.SetOf (PySem.strKind prog w) S (fun x => (xs.take n).any (· == x)) (onceN xs n) → R (.ok (.ret .none)) s') →
      codeAny (model prog w) A (.builtin "set.update.loop" ⟨[.ref S, .ref I], []⟩) R s := by
  have nw : S ∉ wr := fun z => hSf (W.sub _ z)
  have inc : ∀ b ∈ wr, b ∈ S :: wr := fun b z => List.mem_cons_of_mem _ z
  have sat : ∀ {h h' : Heap} {p : Str → Bool} {m : Nat}, h.SetOf (PySem.strKind prog w) S p m → (∀ o, h.get? S = some o → h'.get? S = some o) → h'.SetOf (PySem.strKind prog w) S p m := fun ⟨o, es, ep, t, ho, z⟩ q => ⟨o, es, ep, t, q o ho, z⟩
  induction k with
  | zero =>
    intro i s hk hi st hS hR
    obtain rfl : i = n := by omega
    refine codeAny_builtin PyProof.Rows.F.entry_set_update_loop ?_
    rw [Around.under_plainId PyProof.Rows.F.plain_set_update_loop _]
    show wpAny _ A.in1 (_ >>= _) _ _ s
    refine wpAny_bind (W.done s _ _ st fun s' mv => ?_)
    exact wpAny_pure (hR s' (mv.mono inc) (sat hS fun o q => mv.heap S _ nw q))
  | succ k ih =>
    intro i s hk hi st hS hR
    have lt : i < n := by omega
    refine codeAny_builtin PyProof.Rows.F.entry_set_update_loop ?_
    rw [Around.under_plainId PyProof.Rows.F.plain_set_update_loop _]
    show wpAny _ A.in1 (_ >>= _) _ _ s
    refine wpAny_bind (W.item i s _ _ lt st fun v s' hP st' mv => ?_)
    obtain ⟨t, rfl⟩ := hval i v hP
    have hS' := sat (h' := s'.heap) hS fun o q => mv.heap S _ nw q
    show wpAny _ A.in1 (holding [_] (setAdd S _) >>= _) _ _ s'
    refine wpAny_bind (wpAny_holding ?_)
    unfold setAdd
    refine wpAny_holding (wpAny_bind ((PySem.strKind prog w).pyHash (k := xs.getD i Str.empty) (strKind_is _ _ _ _) ?_))
    have few := onceN_le xs i
    refine wpAny_setAddHashed_of (knd := PySem.strKind prog w) (s := { s' with toks := s'.toks + 1 }) (strKind_is _ _ _ _) rfl hS' (by omega) fun h' sb R2 => ?_
    have R3 : h'.SetOf (PySem.strKind prog w) S (fun x => (xs.take (i + 1)).any (· == x)) (onceN xs (i + 1)) :=
      SetOf_congr R2 (fun x => (take_any xs (by omega) x).symm) rfl
    have fr : ∀ b o, b ≠ S → s'.heap.get? b = some o → h'.get? b = some o := fun b o nb q => (sb.2 b nb).trans q
    refine wpAny_pure ⟨plainId_quiet PyProof.Rows.F.plain_set_update_loop _, ih (i + 1) _ (by omega) lt ?_ R3 fun s2 mv2 hS2 => hR s2 ?_ hS2⟩
    · exact W.frame _ s' _ _ st' (Nat.le_succ _) fun b bf o q => fr b o (fun z => hSf (z ▸ bf)) q
    · exact Moved.trans W.gtrans ((mv.mono inc).then_heap (Nat.le_succ _) fun b o bn q => fr b o (fun z => bn (z ▸ List.mem_cons_self)) q) mv2
theorem setS_init {E : Value → Shared → Prop} {s : Shared} {S l : Addr} {led : Bool} {items : Array Value} {xs : List Str} {Q : Value → Shared → Prop} (hh : A.handled = none)
    (hS : s.heap.get? S = some { cls := .type "set", dict := none, data := .set #[] 0 (.fresh 0 0 led) })
    (hl : s.heap.IsList l items) (hi : StrsAre items.toList xs) (hb : items.size + 1 < scanBound) (hx : xs.length = items.size)
    (h : ∀ h' tk, h'.SetOf (PySem.strKind prog w) S (fun x => (xs.take items.size).any (· == x)) (onceN xs items.size) → (∀ b o, b ≠ S → s.heap.get? b = some o → h'.get? b = some o) →
      Q .none { s with heap := h', toks := tk }) :
    wpAny (model prog w) A (Builtin.«set.__init__» ⟨[.ref S, .ref l], []⟩) (fun f s' => ∃ v, f = .done (.ret v) ∧ Q v s') E s := by
  obtain ⟨ol, gl, cl, nl, dl⟩ := hl
  obtain ⟨c0, d0, data0, sl0⟩ := ol
  dsimp only at cl dl
  subst cl; subst dl
  have no1 := PySem.F.sub_list_set
  have no2 := PySem.F.sub_list_frozenset
  have no3 : (Value.type "list" == Value.type "dict") = false := by decide
  have isl : s.heap.IsList l items := ⟨_, gl, rfl, nl, rfl⟩
  have tyS : s.TypeIs (.ref S) "set" := ⟨_, hS, rfl⟩
  unfold Builtin.«set.__init__» noKeywords Builtin.Frozenset.updateFrom
  generalize hI : pyIter = it
  wp_walk
  subst hI
  have ltl := Heap.lt_size gl
  have ltS := Heap.lt_size hS
  have nSl : S ≠ l := fun z => by
    rw [z, gl] at hS
    have q : Value.type "list" = Value.type "set" := congrArg Obj.cls (Option.some.inj hS)
    exact absurd q (by decide)
  refine wpAny_pyIter_list isl (wpAny_bind (wpAny_runValue ?_))
  have fine : A.in1.handled = none := hh
  have off : S ∉ [s.heap.objs.size, l] := by
    simp only [List.mem_cons, List.not_mem_nil, or_false, not_or]
    exact ⟨Nat.ne_of_lt ltS, nSl⟩
  have vals : ∀ (i : Nat) (v : Value), items[i]? = some v → ∃ t, v = .str (xs.getD i Str.empty) t := fun i v q => SS.strs_at hi i v (by rw [Array.getElem?_toList]; exact q)
  refine setS_loop ((Walks.list fine _ l (Nat.ne_of_lt ltl) items).toS) S off xs hx vals hb (items.size - 0) 0 _ rfl (Nat.zero_le _) ⟨⟨_, Heap.get?_push_size _ rfl, rfl, rfl⟩, isl.push _⟩ ?_ fun s' mv R => ?_
  · exact ⟨_, #[], 0, _, Heap.get?_push_of_some _ hS, ⟨rfl, rfl, rfl⟩, rfl, fun e he => by simp at he, fun k => by simp, by decide, rfl, rfl⟩
  · obtain ⟨h', g', d', tk', os'⟩ := s'
    obtain rfl : g' = s.gens := mv.gens
    obtain rfl : d' = s.drawn := mv.drawn
    obtain rfl : os' = s.os := mv.os
    refine wpAny_pure (wpAny_pure ⟨_, rfl, h h' tk' R fun b o nb q => ?_⟩)
    have lb := Heap.lt_size q
    refine mv.heap b o ?_ (Heap.get?_push_of_some _ q)
    simp only [List.mem_cons, List.not_mem_nil, or_false, not_or]
    exact ⟨nb, Nat.ne_of_lt lb⟩
theorem setS_of {E : Value → Shared → Prop} {s : Shared} {l : Addr} {items : Array Value} {xs : List Str} {Q : Value → Shared → Prop} (hh : A.handled = none)
    (hl : s.heap.IsList l items) (hi : StrsAre items.toList xs) (hb : items.size + 1 < scanBound) (hx : xs.length = items.size)
    (h : ∀ h' tk, h'.SetOf (PySem.strKind prog w) s.heap.objs.size (fun x => (xs.take items.size).any (· == x)) (onceN xs items.size) →
      (∀ b o, s.heap.get? b = some o → h'.get? b = some o) → Q (.ref s.heap.objs.size) { s with heap := h', toks := tk }) :
    wpAny (model prog w) A (call (.type "set") [.ref l]) Q E s := by
  obtain ⟨first, more, mro⟩ := PySem.F.called_set.mro
  have isMade := PySem.F.called_set.made
  have isSub := PySem.F.called_set.sub
  refine wpAny_call (codeAny_of_tree ?_)
  show wpAny _ _ (callAny (Value.type "set") _) _ _ s
  refine wpAny_pure ⟨Code.quiet_builtin _ (by decide +kernel), codeAny_builtin PySem.F.entry_type_call ?_⟩
  rw [Around.under_plain (weight_type_call_type "set" [.ref l] []) rfl]
  have a1 := PySem.F.called_set.notType
  have a2 := PySem.F.called_set.canCreate
  have a3 := PySem.F.typeCall_set_1 (.ref l)
  repeat (any_goals (first | assumption | wp_step))
  generalize hled : (!w.params.followText "set-order") = led
  refine codeAny_mono (set_new_led (.ref l) (E := E) (Q := fun obj s₁ => obj = .ref s.heap.objs.size ∧ s₁ = { s with heap := s.heap.push { cls := .type "set", dict := none, data := .set #[] 0 (.fresh 0 0 led) } }) ⟨rfl, by rw [hled]⟩) fun r s₁ hr => ?_
  cases r with
  | error e => exact hr
  | ok fl => cases fl with
    | ret obj =>
      obtain ⟨rfl, rfl⟩ := hr
      have gS : (s.heap.push { cls := .type "set", dict := none, data := .set #[] 0 (.fresh 0 0 led) }).get? s.heap.objs.size = some _ := Heap.get?_push_size _ rfl
      have tS : Shared.TypeIs { s with heap := s.heap.push { cls := .type "set", dict := none, data := .set #[] 0 (.fresh 0 0 led) } } (.ref s.heap.objs.size) "set" := ⟨_, gS, rfl⟩
      have b1 := PySem.F.called_set.init.lookup
      have b2 := PySem.F.called_set.init.bind (.ref s.heap.objs.size)
      repeat (any_goals (first | assumption | wp_step))
      refine codeAny_mono (codeAny_call_builtin (R := wants (fun v s₂ => v = .none ∧ Q (.ref s.heap.objs.size) s₂) E) PySem.F.called_set.init.plain PySem.F.entry_set_init (check_set_init_1 tS ?_)) fun r₂ s₂ hr₂ => ?_
      · have z := setS_init (prog := prog) (w := w) (A := A.in1.in1) (E := E) (s := { s with heap := s.heap.push { cls := .type "set", dict := none, data := .set #[] 0 (.fresh 0 0 led) } }) (Q := fun v s₂ => v = .none ∧ Q (.ref s.heap.objs.size) s₂)
          hh gS (hl.push _) hi hb hx fun h' tk R kp => ⟨rfl, h h' tk R fun b o q => kp b o (Nat.ne_of_lt (Heap.lt_size q)) (Heap.get?_push_of_some _ q)⟩
        refine wpAny_mono z (fun f s' ⟨v, e, q⟩ => ?_) fun _ _ e => e
        subst e
        exact q
      · cases r₂ with
        | error e => exact hr₂
        | ok fl₂ => cases fl₂ with
          | ret r =>
            obtain ⟨rfl, hq⟩ := hr₂
            repeat (any_goals (first | assumption | wp_step))
          | _ => exact hr₂.elim
    | _ => exact hr.elim
end
section
variable {X : Cx}
def rOnce (K : Kf) : V → Hp → VK → Prop := fun x H Q => ∃ (l : Addr) (xs : List Str), x = .ref l ∧ SqL K H l (xs.map V.str) ∧ xs.length < 4000 ∧ Q (.int (onceN xs xs.length : Nat)) H
def tOnce (K : Kf) (te : TE) : TE := fun σ H Q => te σ H fun x H1 => rOnce K x H1 Q
theorem pe_once {a : Expr} {te : TE} {p1 p2 c1 c2 : Pos} (hc : X.calm = true) (gl : Gl X "len") (ml : X.mg "len" = none) (gs : Gl X "set") (ms : X.mg "set" = none) (ha : PE X a te)
    (na : starEach [a] X.env = [(false, eval a X.env)] := by rfl) : PE X (.Call (.Name "len" p1) [.Call (.Name "set" p2) [a] [] c2] [] c1) (tOnce X.K te) := by
  have na' : starEach [a] X.env = (false, eval a X.env) :: starEach [] X.env := na
  refine ⟨fun pins s σ H Q I h => ?_⟩
  refine Call_ (ld_blt I gl ml boot_len (PyProof.Rows.callWith_builtin1 (PyProof.Rows.args_cons ?_ rfl) rfl rfl))
  refine Call_ (ld_blt I gs ms boot_set (PyProof.Rows.callWith_type1 (PyProof.Rows.args_cons (thn (ha.run pins s σ H _ I h) fun u s1 ⟨x, H1, I1, r1, q1⟩ => PyProof.Rows.args_nil ?_) na') na' rfl))
  obtain ⟨l, xs, rfl, sq, few, q⟩ := q1
  cases r1
  obtain ⟨us, rv, t1, _⟩ := I1.list sq
  have ln : us.toArray.size = xs.length := by rw [List.size_toArray, ← rv.length, List.length_map]
  refine setS_of (I1.ok.hd hc) t1.isList (by simpa using strsAre_of rv) (by rw [ln]; unfold scanBound; omega) ln.symm fun h' tk hS kp => ?_
  refine PyProof.Rows.args_nil ?_
  rw [ln] at hS
  obtain ⟨o, es, ep, t, ho, ex, dd, _, _, _, ft, cnt⟩ := hS
  have le := onceN_le xs xs.length
  have I2 : Inv X pins σ H1 { s1 with heap := h', toks := tk } := I1.kept kp
  exact call_len_set ho ex dd ft (by rw [cnt] <;> omega) ⟨.int (onceN xs xs.length : Nat), H1, I2.tok _, ⟨_, by rw [cnt]⟩, q⟩
end
section
variable {Γ : Cn} {W : WX} {F H : Hp} {σ : L2.St} {env : En} {ow : Ow} {X : Cx}
/-- len(set(texts)) -/
def onceD : List D → Option D := fun ds => match ds with
  | [.list xs] => (strsOf xs).bind fun ys => if ys.length < 4000 then some (.int (onceN ys ys.length : Nat)) else none
  | _ => none
theorem p_once : Prim true Γ onceD (r1 (rOnce X.K)) := by
  intro F H σ env ow vs ds z Q R hv e k
  unfold onceD at e
  split at e
  · rename_i xs
    obtain ⟨x, rfl, h1⟩ := pair1 hv
    cases hi : strsOf xs with
    | none => rw [hi] at e; cases e
    | some ys =>
      rw [hi] at e
      replace e : (if ys.length < 4000 then some (PyData.int (onceN ys ys.length : Nat)) else none) = some z := e
      split at e
      · rename_i hz
        cases e
        obtain rfl := strsOf_eq hi
        obtain ⟨l, ws, rfl, q1, t1⟩ := rpx_list R.sm h1
        obtain rfl := rpa_strs t1
        exact ⟨l, ys, rfl, SqL.of q1, hz, k _ H F R Stp.refl (.int _)⟩
      · cases e
  · cases e
theorem e_once {a : Expr} {o : Opd} {p1 p2 c1 c2 : Pos} (hc : X.calm = true) (gl : Gl X "len") (ml : X.mg "len" = none) (gs : Gl X "set") (ms : X.mg "set" = none) (ha : PE X a (tO Γ W o)) (na : starEach [a] X.env = [(false, eval a X.env)] := by rfl) :
    PE X (.Call (.Name "len" p1) [.Call (.Name "set" p2) [a] [] c2] [] c1) (tD Γ W (opM true onceD [o])) :=
  PE.by (pe_once hc gl ml gs ms ha na) fun _ _ _ h => tD_op p_once h
end
end DL

open PySem PySem.Spec PyProof.Rows L2
namespace DL
section
variable {Γ : Cn} {W : WX} {F H : Hp} {σ : L2.St} {env : En} {ow : Ow} {X : Cx}
theorem s_pair0 {i j : Nat} {x y : Str} {k : Int} {kk c1 : Nat} {p1 p2 p3 p4 p5 p6 pos : Pos} (hi' : Γ.np ≤ i) (hc : X.calm = true) (hN : X.N.Nodup) (hij : i ≠ j) (hi : X.N[i]? = some x) (hj : X.N[j]? = some y) (hx : Loc X.env.scope x) (hy : Loc X.env.scope y)
    (fx : X.fn x = true ∨ X.env.scope.names.lookup x = some .local := by first | exact .inl rfl | exact .inr rfl) (fy : X.fn y = true ∨ X.env.scope.names.lookup y = some .local := by first | exact .inl rfl | exact .inr rfl)
    (hs : swapsWithSole [.Tuple [.Name x p1, .Name y p2] kk p3] (.Tuple [.List [] p4, .Constant (.int k) c1 p5] 0 p6) pos.line X.env = pure false := by rfl) (hw : swappedStores [.Tuple [.Name x p1, .Name y p2] kk p3] (.Tuple [.List [] p4, .Constant (.int k) c1 p5] 0 p6) X.env = pure none := by rfl)
    (h1 : (assignEach [.Tuple [.Name x p1, .Name y p2] kk p3] X.env).map (·.2) = [assign (.Tuple [.Name x p1, .Name y p2] kk p3) X.env] := by rfl)
    (hn : (assignEach [.Name x p1, .Name y p2] X.env).length = 2 := by rfl) (hst : (assignEach [.Name x p1, .Name y p2] X.env).findIdx? (·.1) = none := by rfl) 
    (a1 : (assignEach [.Name x p1, .Name y p2] X.env).map (·.2) = assign (.Name x p1) X.env :: (assignEach [.Name y p2] X.env).map (·.2) := by rfl) (a2 : (assignEach [.Name y p2] X.env).map (·.2) = assign (.Name y p2) X.env :: (assignEach [] X.env).map (·.2) := by rfl)
    (st : starEach [.List [] p4, .Constant (.int k) c1 p5] X.env = (false, eval (.List [] p4) X.env) :: starEach [.Constant (.int k) c1 p5] X.env := by rfl) (st2 : starEach [.Constant (.int k) c1 p5] X.env = (false, eval (.Constant (.int k) c1 p5) X.env) :: starEach [] X.env := by rfl) :
    PS X (.Assign [.Tuple [.Name x p1, .Name y p2] kk p3] (.Tuple [.List [] p4, .Constant (.int k) c1 p5] 0 p6) pos) (tS Γ W (seqM (newM (dispM []) i) (asgM (M.ret (.int k)) (setT j)))) :=
  PS.by (ps_asg (pe_tup (pa_cons (pe_lst pa_nil) (pa_cons pe_int pa_nil st2) st)) (pg_tup hc (pgs_cons (pg_name hN hi hx fx) (pgs_cons (pg_name hN hj hy fy) pgs_nil a2) a1) hn hst) hs hw h1) fun K σ H h => by
    obtain ⟨env, F, ow, R, r, e, h⟩ := h
    by_cases ho : Sl.open_ env i = true
    · have e1 : newM (dispM []) i env = some (.ok .nx (env.set i (.lst []))) := by
        show (if Sl.open_ env i = true then _ else _) = _
        rw [if_pos ho]
      unfold seqM at e
      rw [e1] at e
      replace e : (setT j (.int k) (env.set i (.lst []))).map (fun e' => Rs.ok O.nx e') = some r := e
      obtain ⟨e2, h3, h4⟩ := Option.map_eq_some_iff.mp e
      subst h4
      obtain ⟨s, q1, q2, q3⟩ := setT_some h3
      subst q3
      obtain ⟨t, g1, g2⟩ := open_some ho
      refine ⟨Nat.zero_le _, fun p hp => ⟨show 2 ≤ sizeLine by decide, fun T hT => ⟨T, [.ref p, .int k], rfl, SqT.of upd_same, rfl, _, _, rfl, _, _, rfl, rfl, ?_⟩⟩⟩
      have pT : p ≠ T := fun z => by rw [← z, upd_same] at hT; cases hT
      obtain ⟨R1, S1⟩ := R.alloc0 (.lst []) hp
      obtain ⟨R2, S2⟩ := R1.alloc0 (.tup [.ref p, .int k]) hT
      have n : NewL Γ F (upd (upd H p (.lst [])) T (.tup [.ref p, .int k])) ow p [] [] := ⟨by rw [upd_ne pT]; exact upd_same, R.none_F hp, ?_, ?_, .nil⟩
      · exact h _ _ _ _ ((R2.setLst g1 g2 n hi').setDat q1 q2 (.int k)) (S1.trans S2).s1
      · cases z : ow p with
        | none => rfl
        | some a => exact absurd hp (R.own p a z).1
      · cases z : Γ.H0 p with
        | none => rfl
        | some a => exact absurd hp (R.e6 p (by rw [z]; exact fun c => nomatch c))
    · exfalso
      have e1 : newM (dispM []) i env = none := by
        show (if Sl.open_ env i = true then _ else _) = _
        rw [if_neg ho]
      unfold seqM at e
      rw [e1] at e
      cases e
end
end DL

set_option maxHeartbeats 1000000
/-! the data layer: a class whose instances are books: methods, making, len -/
namespace DL
open PySem PySem.Spec PyProof.Rows L2
section
variable {X : Cx} {k : Nat} {f C : Addr} {fd : FuncData} {ps : List Str} {sp : Sp} {dvs : List V} {ds : List Value}
  {x m : Str} {p pos apos : Pos} {e o : Expr} {es : List Expr} {ta : TE} {t : TA} {W : WX}
/-- a statement that no way reaches -/
def noM : M O := fun _ => none
theorem s_no {Γ : Cn} {st : Stmt} : PS X st (tS Γ W noM) := PS.by ps_never fun K σ H ⟨_, _, _, _, _, e, _⟩ => nomatch e
def tMethG (C : Addr) (m : Str) (sp : Sp) (W : WX) (ta : TE) (t : TA) : TE := fun σ H Q => ta σ H fun x H1 => ∃ a dx fs, x = .ref a ∧ H1 a = some (.ins C dx fs) ∧ fs.lookup m = none ∧ t σ H1 fun vs H2 => sp (x :: vs) H2 Q (WE W σ)
theorem pe_methG {pl : Sem Bool} (ho : PE X o ta) (c : Cls X.K C) (mt : Meth X.K C m f) (F : FnG X.prog X.w X.K X.mg X.base k f fd ps sp) (hr : Room k X.A) (hgd : X.A.guards = some []) (tk : Takes X W) (hb : Binds X.K fd ps []) (ha : PA X (e :: es) t)
    (na : starEach (e :: es) X.env = (false, eval e X.env) :: starEach es X.env := by rfl) (np : (backTo pos (starEach es X.env)).any (·.1) = false := by rfl)
    (ht : eval (.Call (.Attribute o m apos) (e :: es) [] pos) X.env = (do
      let ov ← eval o X.env
      standAt apos.atName
      let (g, first) ← holding [ov] (getMethod ov m pl)
      callWith pos g first (backTo pos (starEach (e :: es) X.env)) (backToKw pos (keywordEach [] X.env))) := by rfl) :
    PE X (.Call (.Attribute o m apos) (e :: es) [] pos) (tMethG C m sp W ta t) where
  run := fun pins s σ H Q I h => by
    refine PySem.W.methodCall_KW (pl := pl) (thn (ho.run pins s σ H _ I h) fun u s1 ⟨y, H1, I1, ry, a, dx, fs, ey, ea, lk, q⟩ => ?_) ht
    subst ey
    obtain rfl : u = Value.ref a := ry
    refine getmeth_ok I1 ea c mt lk (PySem.W.callWith_K (first := [.ref a]) (h₀ := X.base) I.ok.mod.kin mt.kp (thn (ha.run pos pins s1 σ H1 _ I1 q) fun us s2 ⟨vs, H2, I2, r, q2⟩ => ⟨I2.kIn, ?_⟩) na np)
    exact call_g (us := .ref a :: us) (vs := .ref a :: vs) (dvs := []) F hr hgd tk hb .nil I2 (.cons rfl r) (by rw [List.append_nil]; exact q2)
def tMakeG (C : Addr) (sp : Sp) (dvs : List V) (W : WX) (t : TA) : TE := fun σ H Q => t σ H fun vs H1 => ∀ x dx, H1 x = none → H1 dx = none → dx ≠ x → sp (.ref x :: (vs ++ dvs)) (upd (upd H1 dx (.own x)) x (.ins C dx [])) (fun v H2 => v = .non ∧ Q (.ref x) H2) (WE W σ)
theorem run_makeG {pins : List (Addr × Obj)} {σ : L2.St} {H : Hp} {s : Shared} {Q : VK} {us : List Value} {vs : List V} (M : Mk X.K C f) (F : FnG X.prog X.w X.K X.mg X.base k f fd ps sp) (hr : Room (k + 1) X.A) (hgd : X.A.guards = some []) (tk : Takes X W) (hb : Binds X.K fd ps ds) (hd : Vals dvs ds)
    (I : Inv X pins σ H s) (r : Vals vs us)
    (h : ∀ x dx, H x = none → H dx = none → dx ≠ x → sp (.ref x :: (vs ++ dvs)) (upd (upd H dx (.own x)) x (.ins C dx [])) (fun v H2 => v = .non ∧ Q (.ref x) H2) (WE W σ)) :
    wpAny (model X.prog X.w) X.A (call (.ref C) us) (EP X pins σ Q) X.xe s := by
  have z := h (s.heap.objs.size + 1) s.heap.objs.size (I.hok.fresh (Nat.le_succ _)) (I.hok.fresh (Nat.le_refl _)) (Nat.ne_of_lt (Nat.lt_succ_self _))
  have J := Inv.made (C := C) I
  have r2 : Vals (V.ref (s.heap.objs.size + 1) :: (vs ++ dvs)) (Value.ref (s.heap.objs.size + 1) :: (us ++ ds)) := .cons rfl (r.append hd)
  have ln : (Value.ref (s.heap.objs.size + 1) :: us ++ ds).length = ps.length := by
    have q := r2.length
    rw [F.len _ _ _ _ z] at q
    exact q.symm
  refine wpAny_call (make_map (f := f) I.kIn M.makes M.init (beq_iff_eq.mp M.fn) (codeAny_mono (F.run _ X.stack _ _ ⟨Value.ref (s.heap.objs.size + 1) :: us, []⟩ (Value.ref (s.heap.objs.size + 1) :: (us ++ ds)) _ _ (WE W σ) (hr.make C us []) (by exact hgd)
    (J.env0.make C us []) (hb _ (Value.ref (s.heap.objs.size + 1) :: us) J.kIn ln) r2 z) fun r s' q => ?_))
  cases r with
  | error e => exact passAt tk σ pins _ _ e s' J q
  | ok fl => cases fl with
    | ret u =>
      obtain ⟨v, H', J3, rv, ev, q3⟩ := J.after q
      subst ev
      exact ⟨rv, ⟨V.ref (s.heap.objs.size + 1), H', J3, rfl, q3⟩⟩
    | _ => exact False.elim q
theorem pe_makeG (M : Mk X.K C f) (F : FnG X.prog X.w X.K X.mg X.base k f fd ps sp) (hr : Room (k + 1) X.A) (hgd : X.A.guards = some []) (tk : Takes X W) (hg : Gl X x) (hm : X.mg x = some (.ref C)) (hb : Binds X.K fd ps ds) (hd : Vals dvs ds) (ha : PA X (e :: es) t)
    (hdb : (x == ("__debug__" : Str)) = false := by decide) (na : starEach (e :: es) X.env = (false, eval e X.env) :: starEach es X.env := by rfl) (np : (backTo pos (starEach es X.env)).any (·.1) = false := by rfl) :
    PE X (.Call (.Name x p) (e :: es) [] pos) (tMakeG C sp dvs W t) where
  run := fun pins s σ H Q I h => wpAny_Call_Name_kw <| ld_glob I hg hm
    (PySem.W.callWith_K (h₀ := X.base) I.ok.mod.kin M.kp (thn (ha.run pos pins s σ H _ I h) fun us s1 ⟨vs, H1, I1, r, q⟩ => ⟨I1.kIn, run_makeG M F hr hgd tk hb hd I1 r q⟩) na np) hdb
/-- len(b), b an instance of a class with an own __len__ -/
def tLenG (C : Addr) (sp : Sp) (W : WX) (te : TE) : TE := fun σ H Q => te σ H fun x H1 => ∃ a dx fs, x = .ref a ∧ H1 a = some (.ins C dx fs) ∧ sp [x] H1 (fun v H2 => ∃ n : Nat, v = .int n ∧ n < 1073741824 ∧ Q (.int n) H2) (WE W σ)
theorem cr_int {P : Program} {w : World} {outer : List Env} {H : Hp} {s : Shared} {Q : VK} {E : XK} {r : Result} {s' : Shared} (h : CR (L2.CX P w) outer P w H s (fun v H2 => ∃ n : Nat, v = .int n ∧ n < 1073741824 ∧ Q (.int n) H2) E r s') :
    (∃ e, r = .error e ∧ L2.CX P w outer H s E e s') ∨ ∃ (n : Nat) (t : Tok), r = .ok (.ret (.int n t)) ∧ n < 1073741824 ∧ CR (L2.CX P w) outer P w H s Q E (.ok (.ret (.int n t))) s' := by
  cases r with
  | error e => exact Or.inl ⟨e, rfl, h⟩
  | ok fl => cases fl with
    | ret u =>
      obtain ⟨v, H', a1, a2, a3, a4, rv, n, rfl, hn, q⟩ := h
      obtain ⟨t, rfl⟩ := rv
      exact Or.inr ⟨n, t, rfl, hn, V.int n, H', a1, a2, a3, a4, ⟨t, rfl⟩, q⟩
    | next => exact False.elim h
    | brk => exact False.elim h
    | cont => exact False.elim h
theorem pe_lenG {fs0 : List (Str × V)} (c : Cls X.K C) (lk : Meth X.K C "__len__" f) (F : FnG X.prog X.w X.K X.mg X.base k f fd ps sp) (hr : Room (k + 1) X.A) (hgd : X.A.guards = some []) (tk : Takes X W) (hb : Binds X.K fd ps []) (hg : Gl X "len") (hm : X.mg "len" = none) (he : PE X e (ta))
    (na : starEach [e] X.env = (false, eval e X.env) :: starEach [] X.env := by rfl) : PE X (.Call (.Name "len" p) [e] [] pos) (tLenG C sp W ta) := by
  refine ⟨fun pins s σ H Q I h => ?_⟩
  refine Call_ (ld_blt I hg hm boot_len (PyProof.Rows.callWith_builtin1 (PyProof.Rows.args_cons (thn (he.run pins s σ H _ I h) fun u s1 ⟨v, H1, I1, r1, a, dx, fs, ev, ea, q⟩ => PyProof.Rows.args_nil ?_) na) na rfl))
  subst ev
  obtain rfl : u = Value.ref a := r1
  obtain ⟨mA, O, _, _, _, _⟩ := ins_get I1.hok ea
  obtain ⟨od, IA, _⟩ := O.look
  refine Calls.call_function_entry PySem.kind_len PySem.plain_len PySem.entry_len (PySem.args_len1 _) ?_
  unfold Builtin.«len»
  refine wpAny_bind (m := oneArg "len" _) (wpAny_pure ?_)
  refine wpAny_bind (m := callSpecial? (.ref a) (Str.ofString "__len__")) (PySem.W.special_fn (I1.kIn) IA lk.at_ (beq_iff_eq.mp lk.fn) ?_)
  have ln := F.len _ _ _ _ q
  refine wpAny_call (codeAny_mono (F.run X.A.in1 X.stack s1 H1 ⟨[.ref a], []⟩ [.ref a] [.ref a] _ _ hr.in1 (by exact hgd) I1.env0.in1 (by
    have z := hb s1 [.ref a] I1.kIn (by simpa using ln)
    simpa using z) (.cons rfl .nil) q) fun rr s' z => ?_)
  rcases cr_int z with ⟨e, rfl, z⟩ | ⟨n, t, rfl, hn, z⟩
  · exact passAt tk σ pins H1 s1 e s' I1 z
  · obtain ⟨v, H2, I2, rv, q2⟩ := I1.after z
    have ev : v = .int n := by
      cases v with
      | int i => obtain ⟨_, zz⟩ := rv; cases zz; rfl
      | str _ => obtain ⟨_, zz⟩ := rv; cases zz
      | byt _ => obtain ⟨_, zz⟩ := rv; cases zz
      | flt _ => obtain ⟨_, zz⟩ := rv; cases zz
      | _ => cases rv
    subst ev
    show wpAny _ _ (holding [_] (asIndex (.int n t)) >>= _) _ _ _
    refine wpAny_bind (wpAny_holding (wpAny_pure ?_))
    refine wpAny_bind (wpAny_letGo ?_)
    show wpAny _ _ (if ((n : Nat) : Int) < 0 then _ else _) _ _ _
    rw [if_neg (by omega)]
    show wpAny _ _ (if ((n : Nat) : Int) ≥ 2 ^ 63 then _ else _) _ _ _
    rw [if_neg (by omega)]
    exact wpAny_bind (wpAny_mkInt (wpAny_pure ⟨_, rfl, .int n, H2, I2.tok _, ⟨_, rfl⟩, q2⟩))
end
end DL

set_option maxHeartbeats 1000000
/-! the data layer: books: their methods, what the methods do with the row -/
namespace DL
open PySem PySem.Spec PyProof.Rows L2
/-- the class of books, as the layer wants it -/
structure Bk (K : Kf) (C : Addr) : Prop where
  cl : Cls K C
  row : NoAttr K C "row"
/-- a method that stands ready to be called -/
structure MDef (P : Program) (w : World) (K : Kf) (mg : Str → Option Value) (base : Heap) (g : Gx) (k : Nat) (nm : Str) (np : Nat) (m : FS) : Prop where
  ex : ∃ f fd ps, FnG P w K mg base k f fd ps (spG g np m) ∧ Meth K g.cb nm f ∧ Binds K fd ps []
section
variable {Γ : Cn} {W : WX} {F H : Hp} {σ : L2.St} {env : En} {ow : Ow} {X : Cx}
theorem Rep.book (R : Rep Γ F H σ env ow) {i : Nat} {ds : List D} (h : env[i]? = some (.book ds)) : ∃ b dx l vs, σ[i]? = some (some (.ref b)) ∧ Owns H ow i 0 b (.ins Γ.g.cb dx [("row", .ref l)]) ∧ Owns H ow i 1 l (.lst vs) ∧ RpA Γ.g.K F vs ds := by
  obtain ⟨o, h1, b, dx, l, vs, h2, q1, q2, r⟩ := R.at_ i _ h
  subst h2
  exact ⟨b, dx, l, vs, h1, q1, q2, r⟩
/-- b.m(..) -/
def callB (i : Nat) (f : FS) (os : List Opd) : M Rv := fun e => match e[i]? with
  | some (.book _) => callV f (.sl i :: os) e
  | _ => none
theorem callB_some {i : Nat} {f : FS} {os : List Opd} {e : En} {r : Rs Rv} (h : callB i f os e = some r) : ∃ ds, e[i]? = some (.book ds) ∧ callV f (.sl i :: os) e = some r := by
  unfold callB at h
  cases z : e[i]? with
  | none => rw [z] at h; cases h
  | some s =>
    rw [z] at h
    cases s with
    | book ds => exact ⟨ds, rfl, h⟩
    | _ => cases h
theorem no_row {nm : Str} {v : V} (h : (nm == ("row" : Str)) = false) : ([(("row" : Str), v)] : List (Str × V)).lookup nm = none := by
  simp only [List.lookup, h]
theorem meth_go {np : Nat} {f : FS} {nm : Str} {i : Nat} {os : List Opd} {Q : VK} (hnp : os.length + 1 = np) (hn : (nm == ("row" : Str)) = false) (h : tV Γ W (callB i f os) σ H Q) : tMethG Γ.g.cb nm (spG Γ.g np f) W (tVar i) (tAs Γ W os) σ H Q := by
  obtain ⟨env, F, ow, R, r, e, h⟩ := h
  obtain ⟨ds, eb, e⟩ := callB_some e
  obtain ⟨b, dx, l, vs, hv, q1, q2, rr⟩ := R.book eb
  have z := call_go (f := f) (os := .sl i :: os) ⟨env, F, ow, R, r, e, h⟩
  obtain ⟨v, hv2, z⟩ := z
  rw [hv] at hv2
  cases hv2
  subst hnp
  exact ⟨.ref b, hv, b, dx, _, rfl, q1.at_, no_row hn, z⟩
theorem e_meth {g : Gx} {k k' np : Nat} {m : FS} {nm : Str} {o e : Expr} {es : List Expr} {i : Nat} {os : List Opd} {apos pos : Pos} {pl : Sem Bool} (hg : Γ.g = g) (B : Bk X.K g.cb) (D : MDef X.prog X.w X.K X.mg X.base g k nm np m) (hnp : os.length + 1 = np) (hr : Room k' X.A) (hk : k ≤ k') (hgd : X.A.guards = some []) (tk : Takes X W)
    (hn : (nm == ("row" : Str)) = false) (ho : PE X o (tVar i)) (ha : PA X (e :: es) (tAs Γ W os))
    (na : starEach (e :: es) X.env = (false, eval e X.env) :: starEach es X.env := by rfl) (npl : (backTo pos (starEach es X.env)).any (·.1) = false := by rfl)
    (ht : eval (.Call (.Attribute o nm apos) (e :: es) [] pos) X.env = (do
      let ov ← eval o X.env
      standAt apos.atName
      let (g, first) ← holding [ov] (getMethod ov nm pl)
      callWith pos g first (backTo pos (starEach (e :: es) X.env)) (backToKw pos (keywordEach [] X.env))) := by rfl) :
    PE X (.Call (.Attribute o nm apos) (e :: es) [] pos) (tV Γ W (callB i m os)) := by
  obtain ⟨f, fd, ps, Fn, mt, hb⟩ := D.ex
  subst hg
  exact PE.by (pe_methG ho B.cl mt Fn (hr.mono hk) hgd tk hb ha na npl ht) fun σ H Q h => meth_go hnp hn h
/-- len(b) -/
def lenB (i : Nat) (f : FS) : M D := M.bind (callB i f []) fun rv e => match rv with
  | .dat (.int n) => if 0 ≤ n ∧ n < 1073741824 then some (.ok (.int n) e) else none
  | _ => none
theorem lenB_go {f : FS} {i : Nat} {Q : VK} (h : tD Γ W (lenB i f) σ H Q) : tLenG Γ.g.cb (spG Γ.g 1 f) W (tVar i) σ H Q := by
  have z : tV Γ W (callB i f []) σ H (fun v H2 => ∃ n : Nat, v = .int n ∧ n < 1073741824 ∧ Q (.int n) H2) := by
    obtain ⟨env, F, ow, R, r, e, h⟩ := h
    rcases M.bind_some e with ⟨rv, e1, h1, h2⟩ | ⟨x, e1, h1, h2⟩
    · cases rv with
      | dat d => cases d with
        | int n =>
          dsimp only at h2
          split at h2
          · rename_i hn
            cases h2
            refine tV_of R h1 fun v H' F' R' S rr => ?_
            have ev : v = .int n := by
              cases (show Rp Γ.g.K F' v (.int n) from rr)
              rfl
            subst ev
            obtain ⟨m, rfl⟩ := Int.eq_ofNat_of_zero_le hn.1
            exact ⟨m, rfl, by omega, h _ H' F' R' S rr⟩
          · cases h2
        | _ => cases h2
      | _ => cases h2
    · subst h2
      exact tV_of R h1 h
  obtain ⟨v, hv, b, dx, fs, ev, eb, _, q⟩ := meth_go (nm := "__len__") (np := 1) rfl (by decide +kernel) z
  exact ⟨v, hv, b, dx, fs, ev, eb, q⟩
theorem e_lenB {g : Gx} {k k' : Nat} {m : FS} {o : Expr} {i : Nat} {p pos : Pos} (hg : Γ.g = g) (B : Bk X.K g.cb) (D : MDef X.prog X.w X.K X.mg X.base g k "__len__" 1 m) (hr : Room k' X.A) (hk : k + 1 ≤ k') (hgd : X.A.guards = some []) (tk : Takes X W) (gl : Gl X "len") (ml : X.mg "len" = none) (ho : PE X o (tVar i))
    (na : starEach [o] X.env = (false, eval o X.env) :: starEach [] X.env := by rfl) : PE X (.Call (.Name "len" p) [o] [] pos) (tD Γ W (lenB i m)) := by
  obtain ⟨f, fd, ps, Fn, mt, hb⟩ := D.ex
  subst hg
  exact PE.by (pe_lenG (fs0 := []) B.cl mt Fn (hr.mono hk) hgd tk hb gl ml ho na) fun σ H Q h => lenB_go h
/-! ### within a method: self.row -/
def opRow (p : List D → Option D) (i : Nat) : M D := fun e => match e[i]? with
  | some (.book ds) => (p [.list ds]).map fun z => Rs.ok z e
  | _ => none
theorem row_go {p : List D → Option D} {r : List V → Hp → VK → Prop} {i : Nat} {Q : VK} (hK : Γ.g.K = X.K) (B : Bk X.K Γ.g.cb) (hp : Prim true Γ p r) (h : tD Γ W (opRow p i) σ H Q) : tCB r (tCons (tFld X.K (tVar i) "row") tNil) σ H Q := by
  obtain ⟨env, F, ow, R, rr, e, h⟩ := h
  unfold opRow at e
  cases z : env[i]? with
  | none => rw [z] at e; cases e
  | some s =>
    rw [z] at e
    cases s with
    | book ds =>
      obtain ⟨d, h1, h2⟩ := Option.map_eq_some_iff.mp e
      subst h2
      obtain ⟨b, dx, l, vs, hv, q1, q2, ra⟩ := R.book z
      refine ⟨.ref b, hv, b, Γ.g.cb, dx, _, .ref l, rfl, q1.at_, B.cl, B.row, rfl, ?_⟩
      exact hp F H σ env ow [.ref l] [.list ds] d Q R (.cons (Or.inr ⟨rfl, l, vs, ds, rfl, rfl, q2.at_, ra⟩) .nil) h1 fun v H' F' R' S rv => h v H' F' R' S rv
    | _ => cases e
/-- f(self.row), f a built-in function -/
theorem e_rowB {id : String} {r : List V → Hp → VK → Prop} {p : List D → Option D} {fx : Str} {o : Expr} {i : Nat} {pf pos apos : Pos} (hK : Γ.g.K = X.K) (B : Bk X.K Γ.g.cb) (hp : Prim true Γ p r) (hc : CallR X (.builtin id) r) (hg : Gl X fx) (hm : X.mg fx = none) (hv : bootBuiltins fx = some (.builtin id)) (ho : PE X o (tVar i))
    (hb : attributeBase o "row" X.env (eval o X.env) = eval o X.env := by rfl) (hn : fx ≠ "__name__" := by decide) (hdb : (fx == ("__debug__" : Str)) = false := by decide) (he : starEach [.Attribute o "row" apos] X.env = (false, eval (.Attribute o "row" apos) X.env) :: starEach [] X.env := by rfl) :
    PE X (.Call (.Name fx pf) [.Attribute o "row" apos] [] pos) (tD Γ W (opRow p i)) :=
  PE.by (pe_callB hc hg hm hv (pa_cons (pe_fld ho hb) pa_nil he) hn hdb he) fun _ _ _ h => row_go hK B hp h
/-- f(self.row), f a built-in class -/
theorem e_rowT {T : String} {r : List V → Hp → VK → Prop} {p : List D → Option D} {fx : Str} {o : Expr} {i : Nat} {pf pos apos : Pos} (hK : Γ.g.K = X.K) (B : Bk X.K Γ.g.cb) (hp : Prim true Γ p r) (hc : CallR X (.type T) r) (hg : Gl X fx) (hm : X.mg fx = none) (hv : bootBuiltins fx = some (.type T)) (ho : PE X o (tVar i))
    (hb : attributeBase o "row" X.env (eval o X.env) = eval o X.env := by rfl) (hn : fx ≠ "__name__" := by decide) (hdb : (fx == ("__debug__" : Str)) = false := by decide) (he : starEach [.Attribute o "row" apos] X.env = (false, eval (.Attribute o "row" apos) X.env) :: starEach [] X.env := by rfl) :
    PE X (.Call (.Name fx pf) [.Attribute o "row" apos] [] pos) (tD Γ W (opRow p i)) :=
  PE.by (pe_callTy hc hg hm hv (pa_cons (pe_fld ho hb) pa_nil he) hn hdb he) fun _ _ _ h => row_go hK B hp h
/-- the row is changed -/
def mutRow (i : Nat) (q : List D → List D → Option (D × List D)) (os : List Opd) : M D := fun e => match e[i]? with
  | some (.book _) => M.bind (runA os) (fun as e => match getA false e os as, e[i]? with
    | some ds, some (.book xs) => (q xs ds).map fun p => Rs.ok p.1 (e.set i (.book p.2))
    | _, _ => none) e
  | _ => none
theorem mutR_some {i : Nat} {q : List D → List D → Option (D × List D)} {os : List Opd} {e : En} {r : Rs D} (h : mutRow i q os e = some r) : ∃ x0, e[i]? = some (.book x0) ∧
    M.bind (runA os) (fun as e => match getA false e os as, e[i]? with
    | some ds, some (.book xs) => (q xs ds).map fun p => Rs.ok p.1 (e.set i (.book p.2))
    | _, _ => none) e = some r := by
  unfold mutRow at h
  cases z : e[i]? with
  | none => rw [z] at h; cases h
  | some s =>
    rw [z] at h
    cases s with
    | book xs => exact ⟨xs, rfl, h⟩
    | _ => cases h
theorem mutR_in {i : Nat} {q : List D → List D → Option (D × List D)} {os : List Opd} {as : List (Option D)} {e : En} {r : Rs D}
    (h : (match getA false e os as, e[i]? with
      | some ds, some (.book xs) => (q xs ds).map fun p => Rs.ok p.1 (e.set i (.book p.2))
      | _, _ => none) = some r) : ∃ ds xs z ys, getA false e os as = some ds ∧ e[i]? = some (.book xs) ∧ q xs ds = some (z, ys) ∧ r = .ok z (e.set i (.book ys)) := by
  cases h1 : getA false e os as with
  | none => rw [h1] at h; cases h
  | some ds =>
    rw [h1] at h
    cases h2 : e[i]? with
    | none => rw [h2] at h; cases h
    | some s =>
      rw [h2] at h
      cases s with
      | book xs =>
        obtain ⟨⟨z, ys⟩, h3, h4⟩ := Option.map_eq_some_iff.mp h
        exact ⟨ds, xs, z, ys, rfl, rfl, h3, h4.symm⟩
      | _ => cases h
theorem mutR_end {i : Nat} {q : List D → List D → Option (D × List D)} {r : V → List V → Hp → VK → Prop} (hq : PrimM q r) (R : Rep Γ F H σ env ow) {xs : List D} {ds : List D} {vs : List V} {z : D} {ys : List D} {Q : VK} {l : Addr}
    (e : env[i]? = some (.book xs)) (hl : ow l = some (i, 1)) (rv : RpA Γ.g.K F vs ds) (eq : q xs ds = some (z, ys))
    (h : ∀ v H' F', Rep Γ F' H' σ (env.set i (.book ys)) ow → Stp F H ow F' H' → Rp Γ.g.K F' v z → Q v H') : r (.ref l) vs H Q := by
  obtain ⟨b, dx, l', xv, hv, ow0, ow1, h4⟩ := R.book e
  have : l = l' := ow1.uq l hl
  subst this
  have nbl : b ≠ l := fun z => by
    have := ow0.own1
    rw [z, hl] at this
    cases this
  obtain ⟨v, zs, r1, r2, go⟩ := hq Γ.g.K F H l xv xs vs ds z ys Q ow1.at_ h4 rv eq
  obtain ⟨R', S'⟩ := R.write (r := 1) (o' := .lst zs) (s' := .book ys) e ow1 (fun o _ z => by
    obtain ⟨b2, dx2, l2, x2, e2, o1, o2, _⟩ := z
    have e3 : l2 = l := ow1.uq l2 o2.own1
    subst e3
    have e4 : b2 = b := ow0.uq b2 o1.own1
    subst e4
    exact ⟨b2, dx2, l2, zs, e2, ⟨o1.own1, o1.uq, by rw [upd_ne nbl]; exact o1.at_⟩, ⟨o2.own1, o2.uq, upd_same⟩, r2⟩) rfl
  exact go (h v _ F R' S' r1)
theorem mutR_go {i : Nat} {q : List D → List D → Option (D × List D)} {r : V → List V → Hp → VK → Prop} {os : List Opd} {Q : VK} (hK : Γ.g.K = X.K) (B : Bk X.K Γ.g.cb) (hq : PrimM q r) (h : tD Γ W (mutRow i q os) σ H Q) :
    tFld X.K (tVar i) "row" σ H fun x H1 => tyV X.K "list" x H1 ∧ tAs Γ W os σ H1 fun xs H2 => r x xs H2 Q := by
  obtain ⟨env, F, ow, R, rr, e, h⟩ := h
  obtain ⟨x0, e0, e⟩ := mutR_some e
  obtain ⟨b, dx, l, xv, hv, ow0, ow1, h4⟩ := R.book e0
  refine ⟨.ref b, hv, b, Γ.g.cb, dx, _, .ref l, rfl, ow0.at_, B.cl, B.row, rfl, Or.inl ⟨rfl, _, SqL.of ow1.at_⟩, ?_⟩
  rcases M.bind_some e with ⟨as, e1, h5, h6⟩ | ⟨x, e1, h5, h6⟩
  · obtain ⟨ds, xs, z, ys, g1, g2, g3, g4⟩ := mutR_in h6
    subst g4
    refine tAs_of os R h5 fun vs H' F' R' S A => ?_
    exact mutR_end hq R' g2 ow1.own1 (rpx_all (R'.gets A g1)) g3 fun v H2 F2 R2 S2 rv => h v H2 F2 R2 (S.trans S2) rv
  · subst h6
    exact tAs_of os R h5 h
theorem e_mutR {id : String} {o : Expr} {i : Nat} {q : List D → List D → Option (D × List D)} {r : V → List V → Hp → VK → Prop} {e : Expr} {es : List Expr} {os : List Opd} {apos rpos cpos : Pos} {name : Str}
    (hK : Γ.g.K = X.K) (B : Bk X.K Γ.g.cb) (hq : PrimM q r) (slot : Slot "list" name id) (hty : typeOf (.builtin id) = pure (.type "method_descriptor")) (hm : MtR X id r) (ho : PE X o (tVar i)) (ha : PA X (e :: es) (tAs Γ W os))
    (hb : attributeBase o "row" X.env (eval o X.env) = eval o X.env := by rfl) (hbase : attributeBase (.Attribute o "row" rpos) name X.env (eval (.Attribute o "row" rpos) X.env) = eval (.Attribute o "row" rpos) X.env := by rfl)
    (hfew : ((backTo cpos (starEach (e :: es) X.env)).all (fun x => !x.1) && (backToKw cpos (keywordEach [] X.env)).all (fun x => x.1.isSome)
      && decide ((e :: es).length + ([] : List Keyword).length + (if ([] : List Keyword).isEmpty then 0 else 1) < 30)) = true := by rfl)
    (hline : (apos.endLine == cpos.line) = true := by rfl) (hs : starEach (e :: es) X.env = (false, eval e X.env) :: starEach es X.env := by rfl) (hplain : (backTo cpos (starEach es X.env)).any (·.1) = false := by rfl) :
    PE X (.Call (.Attribute (.Attribute o "row" rpos) name apos) (e :: es) [] cpos) (tD Γ W (mutRow i q os)) :=
  PE.by (pe_bm PySem.F.plainAttrs_list slot hty hm (pe_fld ho hb) ha hbase hfew hline hs hplain) fun _ _ _ h => mutR_go hK B hq h
end
end DL

set_option maxHeartbeats 1000000
/-! the data layer: isinstance(x, (T, U)); a book made -/
namespace DL
open PySem PySem.Spec PyProof.Rows L2
section
variable {Γ : Cn} {W : WX} {F H : Hp} {σ : L2.St} {env : En} {ow : Ow} {X : Cx}
def isiD2 (T U : String) : List D → Option D := fun ds => match ds with
  | [d] => some (.bool (isB T d || isB U d))
  | _ => none
def rIs2 (K : Kf) (T U : String) : V → Hp → VK → Prop := fun x H Q => ∀ tp, H tp = none → rIsiT K [x, .ref tp] (upd H tp (.tup [.ty T, .ty U])) Q
theorem p_isi2 {T U : String} (hK : Γ.g.K = X.K) (hk : ∀ d : D, kitB (tyN d) T = some (isB T d)) (hu : ∀ d : D, kitB (tyN d) U = some (isB U d)) : Prim true Γ (isiD2 T U) (r1 (rIs2 X.K T U)) := by
  intro F H σ env ow vs ds z Q R hv e k
  unfold isiD2 at e
  split at e
  · rename_i d
    obtain ⟨x, rfl, h1⟩ := pair1 hv
    cases e
    intro tp htp
    obtain ⟨R2, S2⟩ := R.alloc0 (.tup [.ty T, .ty U]) htp
    have ty : TyX X.K (upd H tp (.tup [.ty T, .ty U])) x (.type (tyN d)) := by
      have h2 : RpX true Γ.g.K F (upd H tp (.tup [.ty T, .ty U])) x d := by
        rcases h1 with h1 | ⟨hb, l, ws, es, e1, e2, h3, h4⟩
        · exact Or.inl h1
        · exact Or.inr ⟨hb, l, ws, es, e1, e2, by rw [upd_ne (ne_of_none h3 htp)]; exact h3, h4⟩
      rw [← hK]; exact rpx_ty R2.sm h2
    refine ⟨x, tp, [.ty T, .ty U], .type (tyN d), [.type T, .type U], isB T d || isB U d, rfl, upd_same, .cons (.ty T) (.cons (.ty U) .nil), ty, ?_, k _ _ F R2 S2 (.bl _)⟩
    unfold PySem.W.kitAny
    rw [kit_ty (hk d)]
    cases isB T d with
    | true => rfl
    | false =>
      show PySem.W.kitAny X.K (.type (tyN d)) [.type U] = _
      unfold PySem.W.kitAny
      rw [kit_ty (hu d)]
      cases isB U d <;> rfl
  · cases e
theorem e_isi2 {T U : String} {x y : Str} {e : Expr} {o : Opd} {p p2 p3 p4 pos : Pos} {kk : Nat} (hK : Γ.g.K = X.K) (hk : ∀ d : D, kitB (tyN d) T = some (isB T d)) (hu : ∀ d : D, kitB (tyN d) U = some (isB U d)) (hg : Gl X "isinstance") (hm : X.mg "isinstance" = none) (gT : Gl X x) (mT : X.mg x = none) (bT : bootBuiltins x = some (.type T)) (gU : Gl X y) (mU : X.mg y = none) (bU : bootBuiltins y = some (.type U))
    (bI : bootBuiltins "isinstance" = some (.builtin "isinstance")) (ho : PE X e (tO Γ W o)) (hn : x ≠ "__name__" := by decide) (hd : (x == ("__debug__" : Str)) = false := by decide) (hn2 : y ≠ "__name__" := by decide) (hd2 : (y == ("__debug__" : Str)) = false := by decide)
    (he : starEach (e :: [Expr.Tuple [.Name x p2, .Name y p3] kk p4]) X.env = (false, eval e X.env) :: starEach [Expr.Tuple [.Name x p2, .Name y p3] kk p4] X.env := by rfl) (he2 : starEach [Expr.Tuple [.Name x p2, .Name y p3] kk p4] X.env = (false, eval (Expr.Tuple [.Name x p2, .Name y p3] kk p4) X.env) :: starEach [] X.env := by rfl)
    (h3 : starEach [Expr.Name x p2, .Name y p3] X.env = (false, eval (.Name x p2) X.env) :: starEach [Expr.Name y p3] X.env := by rfl) (h4 : starEach [Expr.Name y p3] X.env = (false, eval (.Name y p3) X.env) :: starEach [] X.env := by rfl) :
    PE X (.Call (.Name "isinstance" p) [e, .Tuple [.Name x p2, .Name y p3] kk p4] [] pos) (tD Γ W (opM true (isiD2 T U) [o])) :=
  PE.by (pe_callB call_isiT hg hm bI (pa_cons ho (pa_cons (pe_tup (pa_cons (pe_bltn (v := .ty T) gT mT bT rfl hn hd) (pa_cons (pe_bltn (v := .ty U) gU mU bU rfl hn2 hd2) pa_nil h4) h3)) pa_nil he2) he) (he := he)) fun σ H Q h => by
    have z := tD_op (r := r1 (rIs2 X.K T U)) (p_isi2 hK hk hu) h
    have mono : ∀ {o : Opd} {Qa Qb : V → Hp → Prop}, (∀ v H, Qa v H → Qb v H) → tO Γ W o σ H Qa → tO Γ W o σ H Qb := fun {o Qa Qb} hi hq => by
      cases o with
      | sl i =>
        obtain ⟨v, h1, h2⟩ := hq
        exact ⟨v, h1, hi _ _ h2⟩
      | ex m =>
        obtain ⟨env, F, ow, R, r, e, h⟩ := (show tD Γ W m σ H _ from hq)
        exact (show tD Γ W m σ H _ from ⟨env, F, ow, R, r, e, h.step Stp.refl fun d e' z v H' F' R' S rv => hi _ _ (z v H' F' R' S rv)⟩)
    exact mono (fun v H1 q => ⟨show 2 ≤ sizeLine by decide, fun tp htp => q tp htp⟩) z
end
end DL

set_option maxHeartbeats 1000000
/-! the data layer: __init__ of a book, a book made -/
namespace DL
open PySem PySem.Spec PyProof.Rows L2
/-- __init__'s promise: what f makes of the data is the row -/
def spI (g : Gx) (f : D → Option (List D)) : Sp := fun vs H Q _ => ∃ (F : Hp) (x dx : Addr) (v : V) (d : D) (ds : List D), vs = [.ref x, v] ∧ H x = some (.ins g.cb dx []) ∧ Same F H ∧ F x = none ∧ Rp g.K F v d ∧ f d = some ds ∧
  ∀ (l : Addr) (us : List V) (H' F' : Hp), Same F F' → Same F' H' → (∀ b o, H b = some o → b ≠ x → H' b = some o) → (∀ b, H b ≠ none → F' b = F b) → H l = none → F' l = none → H' l = some (.lst us) → H' x = some (.ins g.cb dx [("row", .ref l)]) → RpA g.K F' us ds → Q .non H'
/-- the row that is made where the test c lets the data through -/
def initF (c : M Bool) (n : Nat) (d : D) : Option (List D) := match c (.non :: .dat d :: List.replicate n .non) with
  | some (.ok false e) => match (e[1]? : Option Sl) with
    | some (Sl.dat d') => itemsOf d'
    | _ => none
  | _ => none
section
variable {P : Program} {w : World} {K : Kf} {mg : Str → Option Value} {base : Heap} {g : Gx}
theorem okI {qual : Str} {st : Stmt} {f : Addr} {fd : FuncData} {N : List Str} {k n : Nat} {c : M Bool} {test : Expr} {thn : List Stmt} {p1 p2 p3 p4 p5 p6 p7 : Pos} {dvs : List V} (F : FunD K "__init__" qual (defArgs st) (defBody st) (defScope st) dvs [] f fd) (S : FnScope N ["self", "strokes"] (defScope st)) (hN : N.length = 2 + n) (gK : g.K = K) (B : Bk K g.cb)
    (hbody : defBody st = [.If test thn [] p1, .Assign [.Attribute (.Name "self" p2) "row" p3] (.Call (.Name "list" p4) [.Name "strokes" p5] [] p6) p7]) 
    (hb : ∀ (Γ : Cn) (cdv : Value) (A : Around) (outer : List Env) (s : Shared) (H : Hp) (E : XK), Γ.g.K = K → Γ.np = 2 → Γ.g = g → Room k (A.deeper (envOfC qual (defScope st) s.heap.objs.size f cdv)) → A.guards = some [] →
      PT (cxOf (L2.CX P w) P w K mg base N qual (defScope st) f cdv A outer s H E) test (tB Γ (fun cls d _ H' => E cls d H') c) ∧ ∃ t, PSs (cxOf (L2.CX P w) P w K mg base N qual (defScope st) f cdv A outer s H E) thn t)
    (hself : ∀ (cdv : Value) (A : Around) (outer : List Env) (s : Shared) (H : Hp) (E : XK),
      PS (cxOf (L2.CX P w) P w K mg base N qual (defScope st) f cdv A outer s H E) (.Assign [.Attribute (.Name "self" p2) "row" p3] (.Call (.Name "list" p4) [.Name "strokes" p5] [] p6) p7) (sFld K (tVar 0) (tCB (fun xs H Q => ∃ p ys, xs = [.ref p] ∧ (SqL K H p ys ∨ SqT K H p ys) ∧ ∀ l, H l = none → Q (.ref l) (upd H l (.lst ys))) (tCons (tVar 1) tNil)) "row")) :
    FnG P w K mg base (k + 1) f fd ["self", "strokes"] (spI g (initF c n)) := by
  refine FunD.okG F S (fun vs H Q E h => ?_) fun cdv A outer s H vs Q E hr hg h => ?_
  · obtain ⟨F, x, dx, v, d, ds, rfl, _⟩ := h
    rfl
  · obtain ⟨F0, x, dx, v, d, ds, rfl, hx, sm, Fx, rv, ef, k2⟩ := h
    obtain ⟨ht, t, hthn⟩ := hb ⟨g, F0, H, fun _ => none, 2⟩ cdv A outer s H E gK rfl rfl hr hg
    have hs := hself cdv A outer s H E
    rw [hbody]
    refine ⟨_, pss_cons (ps_if ht hthn pss_nil) (pss_one hs), ?_⟩
    have Bg : Begin g F0 H (fun _ => none) [.ref x, v] [.non, .dat d] := by
      refine ⟨⟨rfl, fun i s hi => ?_⟩, sm, (fun a p z => nomatch z), (fun a p z => nomatch z)⟩
      match i, hi with
      | 0, hi => cases hi; exact ⟨_, rfl, trivial⟩
      | 1, hi => cases hi; exact ⟨_, rfl, _, rfl, rv⟩
      | i + 2, hi => simp at hi
    have R := Bg.rep (N := N) (n := n) hN
    unfold initF at ef
    cases ec : c (.non :: .dat d :: List.replicate n .non) with
    | none => rw [ec] at ef; cases ef
    | some r =>
      rw [ec] at ef
      cases r with
      | ex _ _ => cases ef
      | ok b e1 => cases b with
        | true => cases ef
        | false =>
          dsimp only at ef
          cases e2 : e1[1]? with
          | none => rw [e2] at ef; cases ef
          | some s1 =>
            rw [e2] at ef
            cases s1 with
            | dat d' =>
              dsimp only at ef
              refine tB_of R ec fun H1 F1 R1 S1 => iteF ?_
              obtain ⟨o, g1, u, g2, g3⟩ := R1.at_ 1 _ e2
              subst g2
              obtain ⟨o0, z0⟩ : ∃ o0, (L2.start N [.ref x, v])[0]? = some o0 := by
                cases q : (L2.start N [.ref x, v])[0]? with
                | none =>
                  have := R.len
                  have hlen : (L2.start N [.ref x, v]).length = 2 + n := by rw [this]; simp; omega
                  rw [List.getElem?_eq_none_iff] at q
                  omega
                | some o => exact ⟨o, rfl⟩
              have self0 : (L2.start N [.ref x, v])[0]? = some (some (.ref x)) := rfl
              obtain ⟨a, ys, rfl, q1, ra⟩ := rpx_items (b := true) R1.sm (Or.inl g3) ef
              refine ⟨_, g1, a, ys, rfl, by rw [← gK]; exact q1, fun l hl => ?_⟩
              have hx1 : H1 x = some (.ins g.cb dx []) := R1.e1 x _ hx rfl
              have nxl : x ≠ l := ne_of_none hx1 hl
              refine ⟨_, self0, x, g.cb, dx, [], rfl, by rw [upd_ne nxl]; exact hx1, B.cl, B.row, by decide, ?_⟩
              have F1x : F1 x = none := by rw [R1.e3 x (by show H x ≠ none; rw [hx]; exact fun z => nomatch z)]; exact Fx
              refine k2 l ys _ F1 S1.s1 (fun b o hb => ?_) (fun b o hb hbx => ?_) (fun b hb => R1.e3 b hb) (R1.h0 hl) (R1.none_F hl) (by rw [upd_ne nxl.symm]; exact upd_same) (by rw [upd_same]; rfl) ra
              · have nb : b ≠ x := fun z => by rw [z, F1x] at hb; cases hb
                have nbl : b ≠ l := fun z => by rw [z, R1.none_F hl] at hb; cases hb
                rw [upd_ne nb, upd_ne nbl]
                exact R1.sm b o hb
              · have h1b := R1.e1 b o hb rfl
                have nbl : b ≠ l := ne_of_none h1b hl
                rw [upd_ne hbx, upd_ne nbl]
                exact h1b
            | _ => cases ef
end
/-- a class whose instances can be made -/
structure KDef (P : Program) (w : World) (K : Kf) (mg : Str → Option Value) (base : Heap) (g : Gx) (k : Nat) (nm : Str) (f : D → Option (List D)) : Prop where
  ex : ∃ fi fd ps, FnG P w K mg base k fi fd ps (spI g f) ∧ Mk K g.cb fi ∧ Binds K fd ps [] ∧ mg nm = some (.ref g.cb)
section
variable {Γ : Cn} {W : WX} {F H : Hp} {σ : L2.St} {env : En} {ow : Ow} {X : Cx}
/-- Book(x), x frozen data -/
def makeB (f : D → Option (List D)) (o : Opd) : M Rv := M.bind (runA [o]) fun as e => match getA false e [o] as with
  | some [d] => (f d).map fun ds => Rs.ok (.book ds) e
  | _ => none
theorem make_go {f : D → Option (List D)} {o : Opd} {Q : VK} (h : tV Γ W (makeB f o) σ H Q) : tMakeG Γ.g.cb (spI Γ.g f) [] W (tAs Γ W [o]) σ H Q := by
  obtain ⟨env, F, ow, R, r, e, h⟩ := h
  rcases M.bind_some e with ⟨as, e1, h1, h2⟩ | ⟨x, e1, h1, h2⟩
  · refine tAs_of _ R h1 fun vs H1 F1 R1 S1 A => ?_
    cases z : getA false e1 [o] as with
    | none => rw [z] at h2; cases h2
    | some ds =>
      rw [z] at h2
      match ds, z, h2 with
      | [d], z, h2 =>
        obtain ⟨us, h3, h4⟩ := Option.map_eq_some_iff.mp h2
        subst h4
        obtain ⟨v, rfl, rv⟩ := pair1 (R1.gets A z)
        rcases rv with rv | ⟨hb, _⟩
        · intro x dx hx hdx ndx
          have nx : ∀ {b : Addr}, H1 b ≠ none → b ≠ x := fun hb z => hb (by rw [z]; exact hx)
          have nd : ∀ {b : Addr}, H1 b ≠ none → b ≠ dx := fun hb z => hb (by rw [z]; exact hdx)
          refine ⟨F1, x, dx, v, d, us, rfl, upd_same, fun b o hb => ?_, R1.none_F hx, rv, h3, fun l ws H' F' s1 s2 kp kf hl fl al ax ra => ⟨rfl, ?_⟩⟩
          · have hb1 : H1 b ≠ none := by rw [R1.sm b o hb]; exact fun z => nomatch z
            rw [upd_ne (nx hb1), upd_ne (nd hb1)]
            exact R1.sm b o hb
          · have up : ∀ {b : Addr} {o : HO}, H1 b = some o → (upd (upd H1 dx (.own x)) x (.ins Γ.g.cb dx [])) b = some o := fun {b o} hb => by
              have hb1 : H1 b ≠ none := by rw [hb]; exact fun z => nomatch z
              rw [upd_ne (nx hb1), upd_ne (nd hb1)]; exact hb
            have nl : l ≠ x := fun z => by rw [z, upd_same] at hl; cases hl
            have ndl : l ≠ dx := fun z => by rw [z, upd_ne ndx, upd_same] at hl; cases hl
            have h1l : H1 l = none := by rw [upd_ne nl, upd_ne ndl] at hl; exact hl
            have fx : F' x = none := by rw [kf x (by rw [upd_same]; exact fun z => nomatch z)]; exact R1.none_F hx
            have keepH : ∀ b o, H1 b = some o → H' b = some o := fun b o hb => kp b o (up hb) (nx (by rw [hb]; exact fun z => nomatch z))
            have S : Stp F1 H1 ow F' H' := ⟨s1, fun b o hb _ => keepH b o hb, fun b hb => kf b (by
              cases q : H1 b with
              | none => exact absurd q hb
              | some o => rw [up q]; exact fun z => nomatch z), fun b hb => by
              cases q : H1 b with
              | none => exact absurd q hb
              | some o => rw [keepH b o q]; exact fun z => nomatch z⟩
            have R2 : Rep Γ F' H' σ e1 ow := R1.step S (fun b o hb => s2 b o hb) fun b o p ho hb => keepH b o hb
            refine h _ H' F' R2 (S1.trans S) ⟨x, dx, l, ws, rfl, ?_, ?_, nl.symm, ax, fx, R1.ow0 hx, R1.h0 hx, al, fl, R1.ow0 h1l, R1.h0 h1l, ra⟩
            · cases q : H x with
              | none => rfl
              | some o => exact absurd hx (S1.s4 x (by rw [q]; exact fun z => nomatch z))
            · cases q : H l with
              | none => rfl
              | some o => exact absurd h1l (S1.s4 l (by rw [q]; exact fun z => nomatch z))
        · cases hb
  · subst h2
    exact tAs_of _ R h1 h
theorem e_make {g : Gx} {k k' : Nat} {f : D → Option (List D)} {nm : Str} {e : Expr} {o : Opd} {p pos : Pos} (hg : Γ.g = g) (D : KDef X.prog X.w X.K X.mg X.base g k nm f) (hr : Room k' X.A) (hk : k + 1 ≤ k') (hgd : X.A.guards = some []) (tk : Takes X W) (gx : Gl X nm) (ha : PE X e (tO Γ W o))
    (hdb : (nm == ("__debug__" : Str)) = false := by decide) (na : starEach [e] X.env = (false, eval e X.env) :: starEach [] X.env := by rfl) : PE X (.Call (.Name nm p) [e] [] pos) (tV Γ W (makeB f o)) := by
  obtain ⟨fi, fd, ps, Fn, mk, hb, hm⟩ := D.ex
  subst hg
  exact PE.by (pe_makeG mk Fn (hr.mono hk) hgd tk gx hm hb .nil (pa_cons ha pa_nil na) hdb na) fun σ H Q h => make_go h
end
end DL

set_option maxHeartbeats 1000000
/-! the data layer: a call with a book that is made for it -/
namespace DL
open PySem PySem.Spec PyProof.Rows L2
section
variable {Γ : Cn} {W : WX} {F H F' H' : Hp} {σ : L2.St} {env : En} {ow : Ow} {X : Cx}
theorem Rep.step2 (R : Rep Γ F H σ env ow) (bad : Addr → Prop) (hb : ∀ a, bad a → Γ.H0 a = none) (s1 : Same F F') (s2 : ∀ a o, ¬ bad a → H a = some o → H' a = some o) (s3 : ∀ a, H a ≠ none → F' a = F a) (s4 : ∀ a, H a ≠ none → H' a ≠ none) (sm : Same F' H') (k : ∀ a p, ow a = some p → ¬ bad a) : Rep Γ F' H' σ env ow where
  len := R.len
  at_ := fun i s e => by
    obtain ⟨o, h1, h2⟩ := R.at_ i s e
    exact ⟨o, h1, h2.keep s1 fun a o p h3 h4 => s2 a o (k a p h3) h4⟩
  sm := sm
  own := fun a p e => by
    obtain ⟨h1, h2⟩ := R.own a p e
    exact ⟨s4 a h1, (s3 a h1).trans h2⟩
  e1 := fun b o h n => s2 b o (fun z => by rw [hb b z] at h; cases h) (R.e1 b o h n)
  e2 := R.e2.trans s1
  e3 := fun b h => (s3 b (R.e6 b h)).trans (R.e3 b h)
  e4 := R.e4
  e5 := R.e5
  e6 := fun b h => s4 b (R.e6 b h)
  e7 := R.e7
  e8 := R.e8
/-- f(Book(x), ..) -/
def callT (fB : D → Option (List D)) (f : FS) (o : Opd) (os : List Opd) : M Rv := M.bind (makeB fB o) fun rv => M.bind (runA os) fun as e => match rv, getA false e os as with
  | .book ds, some es => (match f (.book ds :: es.map Sl.dat) with
    | some (.ok (.dat d) _) => some (.ok (.dat d) e)
    | _ => none)
  | _, _ => none
theorem rpx_alls {K : Kf} {vs : List V} {ds : List D} (h : Paired (RpX false K F H) vs ds) : RpA K F vs ds := rpx_all h
theorem callT_go {fB : D → Option (List D)} {f : FS} {o : Opd} {os : List Opd} {np : Nat} {Q : VK} (hnp : os.length + 1 = np) (h : tV Γ W (callT fB f o os) σ H Q) : tCons (tV Γ W (makeB fB o)) (tAs Γ W os) σ H fun vs H1 => spG Γ.g np f vs H1 Q (WE W σ) := by
  obtain ⟨env, F, ow, R, r, e, h⟩ := h
  rcases M.bind_some e with ⟨rv, e1, h1, h2⟩ | ⟨x, e1, h1, h2⟩
  · refine tV_of R h1 fun v H1 F1 R1 S1 z => ?_
    rcases M.bind_some h2 with ⟨as, e2, h3, h4⟩ | ⟨x, e2, h3, h4⟩
    · refine tAs_of os R1 h3 fun ws H2 F2 R2 S2 A => ?_
      cases g : getA false e2 os as with
      | none =>
        rw [g] at h4
        cases rv <;> cases h4
      | some es =>
        rw [g] at h4
        cases rv with
        | book ds =>
          dsimp only at h4
          have ra := rpx_alls (R2.gets A g)
          obtain ⟨b, dx, l, us, rfl, n1, n2, n3, n4, n5, n6, n7, n8⟩ := z
          have lb : H2 b = some (.ins Γ.g.cb dx [("row", .ref l)]) := S2.s2 b _ n4 n6
          have ll : H2 l = some (.lst us) := S2.s2 l _ n8.at_ n8.ow
          have fb : F2 b = none := by rw [S2.s3 b (by rw [n4]; exact fun z => nomatch z)]; exact n5
          have fl : F2 l = none := by rw [S2.s3 l (by rw [n8.at_]; exact fun z => nomatch z)]; exact n8.fr
          cases q : f (.book ds :: es.map Sl.dat) with
          | none => rw [q] at h4; cases h4
          | some rf =>
            rw [q] at h4
            cases rf with
            | ex _ _ => cases h4
            | ok rv2 ar => cases rv2 with
              | dat d =>
                cases h4
                have lw : ws.length = es.length := ra.length
                have lo : os.length = es.length := by rw [← getA_len g]
                refine ⟨F2, fun a => if a = b then some (0, 0) else if a = l then some (0, 1) else none, .book ds :: es.map Sl.dat, ?_, by rw [List.length_cons, List.length_map]; omega, _, q, ?_⟩
                · refine ⟨⟨by rw [List.length_cons, List.length_cons, List.length_map, lw], fun i s hi => ?_⟩, R2.sm, fun a p hp => ?_, fun a p hp => ?_⟩
                  · cases i with
                    | zero =>
                      cases hi
                      refine ⟨.ref b, rfl, b, dx, l, us, rfl, ⟨by simp, fun a ha => ?_, lb⟩, ⟨by simp [n3.symm], fun a ha => ?_, ll⟩, n8.r.mono S2.s1⟩
                      · by_cases ab : a = b
                        · exact ab
                        · by_cases al : a = l
                          · simp [ab, al] at ha
                            exact absurd al (fun z => by subst z; simp [ab] at ha)
                          · simp [ab, al] at ha
                      · by_cases ab : a = b
                        · simp [ab] at ha
                        · by_cases al : a = l
                          · exact al
                          · simp [ab, al] at ha
                    | succ i =>
                      have hi' : (es.map Sl.dat)[i]? = some s := by simpa using hi
                      obtain ⟨w, d', g1, rfl, g2⟩ := ra.all_get i s hi'
                      exact ⟨w, by simpa using g1, w, rfl, g2⟩
                  · by_cases ab : a = b
                    · rw [ab]; exact ⟨by rw [lb]; exact (fun z => nomatch z), fb⟩
                    · by_cases al : a = l
                      · rw [al]; exact ⟨by rw [ll]; exact (fun z => nomatch z), fl⟩
                      · simp [ab, al] at hp
                  · have p0 : p.1 = 0 := by
                      by_cases ab : a = b
                      · simp [ab] at hp; rw [← hp]
                      · by_cases al : a = l
                        · simp [ab, al] at hp
                          split at hp <;> (cases hp <;> rfl)
                        · simp [ab, al] at hp
                    rw [p0]
                    exact ⟨_, rfl, rfl⟩
                · intro v3 H3 F3 S3 sm3 B3 L3 rr
                  have off : ∀ a, a ≠ b → a ≠ l → (if a = b then some (0, 0) else if a = l then some (0, 1) else none : Option (Nat × Nat)) = none := fun a x y => by rw [if_neg x, if_neg y]
                  have R3 : Rep Γ F3 H3 σ e2 ow := R2.step2 (fun a => a = b ∨ a = l) (fun a ha => by
                    rcases ha with rfl | rfl
                    · exact n7
                    · exact n8.h0) S3.s1 (fun a o' ha ho => S3.s2 a o' ho (off a (fun z => ha (Or.inl z)) fun z => ha (Or.inr z))) S3.s3 S3.s4 sm3 fun a p ha hbad => by
                      rcases hbad with rfl | rfl
                      · rw [n6] at ha; cases ha
                      · rw [n8.ow] at ha; cases ha
                  have S12 := S1.trans S2
                  have nb : ∀ {a : Addr}, H a ≠ none → a ≠ b ∧ a ≠ l := fun ha => ⟨fun z => ha (by rw [z]; exact n1), fun z => ha (by rw [z]; exact n2)⟩
                  refine h v3 H3 F3 R3 ⟨S12.s1.trans S3.s1, fun a o' ha ho => ?_, fun a ha => (S3.s3 a (S12.s4 a ha)).trans (S12.s3 a ha), fun a ha => S3.s4 a (S12.s4 a ha)⟩ rr
                  obtain ⟨x, y⟩ := nb (a := a) (by rw [ha]; exact fun z => nomatch z)
                  exact S3.s2 a o' (S12.s2 a o' ha ho) (off a x y)
              | _ => cases h4
        | _ => cases h4
    · subst h4
      exact tAs_of os R1 h3 (xGo.step h S1)
  · subst h2
    exact tV_of R h1 h
theorem e_callT {g : Gx} {k k' np n : Nat} {m : M O} {fB : D → Option (List D)} {x nB : Str} {p pos pB posB : Pos} {e : Expr} {es : List Expr} {o : Opd} {os : List Opd} (hg : Γ.g = g) (D : Def X.prog X.w X.K X.mg X.base g k x np (bodyF n m)) (hnp : os.length + 1 = np) (hr : Room k' X.A) (hk : k ≤ k') (hgd : X.A.guards = some []) (tk : Takes X W) (gx : Gl X x)
    (hB : PE X (.Call (.Name nB pB) [e] [] posB) (tV Γ W (makeB fB o))) (ha : PA X es (tAs Γ W os))
    (hdb : (x == ("__debug__" : Str)) = false := by decide) (he : starEach (.Call (.Name nB pB) [e] [] posB :: es) X.env = (false, eval (.Call (.Name nB pB) [e] [] posB) X.env) :: starEach es X.env := by rfl) (hpl : (backTo pos (starEach es X.env)).any (·.1) = false := by rfl) :
    PE X (.Call (.Name x p) (.Call (.Name nB pB) [e] [] posB :: es) [] pos) (tV Γ W (callT fB (bodyF n m) o os)) := by
  obtain ⟨f, fd, ps, Fn, hm, hkp, hb⟩ := D.ex
  subst hg
  refine PE.by (pe_callG Fn (hr.mono hk) hgd tk gx hm hkp hb .nil (pa_cons hB ha he) hdb he hpl) fun σ H Q h => ?_
  have z := callT_go hnp h
  have e0 : (fun (vs : List V) (H1 : Hp) => spG Γ.g np (bodyF n m) (vs ++ []) H1 Q (WE W σ)) = fun vs H1 => spG Γ.g np (bodyF n m) vs H1 Q (WE W σ) := by
    funext vs H1
    rw [List.append_nil]
  show tCons _ _ σ H (fun (vs : List V) (H1 : Hp) => spG Γ.g np (bodyF n m) (vs ++ []) H1 Q (WE W σ))
  rw [e0]
  exact z
end
end DL

set_option maxHeartbeats 1000000
/-! the data layer: a book is let go -/
namespace DL
open PySem PySem.Spec PyProof.Rows L2
section
variable {Γ : Cn} {W : WX} {F H : Hp} {σ : L2.St} {env : En} {ow : Ow} {X : Cx}
theorem Rep.drop (R : Rep Γ F H σ env ow) {i : Nat} {ds : List D} (hi : Γ.np ≤ i) (h : env[i]? = some (.book ds)) : ∃ ow', Rep Γ F H σ (env.set i .non) ow' := by
  have hl : i < env.length := (List.getElem?_eq_some_iff.mp h).1
  refine ⟨fun a => match ow a with
    | some p => if p.1 = i then none else some p
    | none => none, ?_⟩
  have keep : ∀ a p, ow a = some p → p.1 ≠ i → (match ow a with
    | some p => if p.1 = i then none else some p
    | none => none) = some p := fun a p h1 h2 => by rw [h1]; exact if_neg h2
  have back : ∀ a p, (match ow a with
    | some p => if p.1 = i then none else some p
    | none => none) = some p → ow a = some p ∧ p.1 ≠ i := fun a p h1 => by
    cases q : ow a with
    | none => rw [q] at h1; cases h1
    | some t =>
      rw [q] at h1
      dsimp only at h1
      split at h1
      · cases h1
      · rename_i z; cases h1; exact ⟨rfl, z⟩
  have go : ∀ {j r : Nat} {l : Addr} {o : HO}, j ≠ i → Owns H ow j r l o → Owns H (fun a => match ow a with
    | some p => if p.1 = i then none else some p
    | none => none) j r l o := fun hj q => ⟨keep _ _ q.own1 hj, fun a ha => q.uq a (back a _ ha).1, q.at_⟩
  refine ⟨by rw [List.length_set]; exact R.len, fun j s hj => ?_, R.sm, fun a p ha => R.own a p (back a p ha).1, R.e1, R.e2, R.e3, fun b p hb => ?_, fun b p hb h0 => R.e5 b p (back b p hb).1 h0, R.e6, R.e7, fun a p ha => ?_⟩
  · by_cases hij : j = i
    · subst hij
      rw [List.getElem?_set_self hl] at hj
      cases hj
      obtain ⟨o, h1, _⟩ := R.at_ j _ h
      exact ⟨o, h1, trivial⟩
    · rw [List.getElem?_set_ne (Ne.symm hij)] at hj
      obtain ⟨o, h1, h2⟩ := R.at_ j s hj
      refine ⟨o, h1, ?_⟩
      cases s with
      | non => trivial
      | dat d => exact h2
      | lst ds => obtain ⟨l, vs, e, q, r⟩ := h2; exact ⟨l, vs, e, go hij q, r⟩
      | book ds => obtain ⟨b, dx, l, vs, e, q1, q2, r⟩ := h2; exact ⟨b, dx, l, vs, e, go hij q1, go hij q2, r⟩
      | exn x => exact h2
      | scr ns => exact h2
  · have q := R.e4 b p hb
    have := (R.e7 b p hb).1
    exact keep b p q (by omega)
  · obtain ⟨h1, h2⟩ := back a p ha
    obtain ⟨s, h3, h4⟩ := R.e8 a p h1
    exact ⟨s, by rw [List.getElem?_set_ne (Ne.symm h2)]; exact h3, h4⟩
def dropB (i : Nat) (m : M O) : M O := fun e => match e[i]? with
  | some (.book _) => m (e.set i .non)
  | _ => m e
theorem s_drop {i : Nat} {m : M O} {st : Stmt} (hi : Γ.np ≤ i) (h : PS X st (tS Γ W m)) : PS X st (tS Γ W (dropB i m)) :=
  PS.by h fun K σ H ⟨env, F, ow, R, r, e, h⟩ => by
    unfold dropB at e
    split at e
    · rename_i ds q
      obtain ⟨ow', R'⟩ := R.drop hi q
      exact ⟨_, F, ow', R', r, e, h⟩
    · exact ⟨env, F, ow, R, r, e, h⟩
end
end DL

set_option maxHeartbeats 1000000
/-! the data layer: a tuple, so many times -/
namespace DL
open PySem PySem.Spec PyProof.Rows L2
section
variable {Γ : Cn} {W : WX} {F H : Hp} {σ : L2.St} {env : En} {ow : Ow} {X : Cx}
def mulTD : List D → Option D := fun ds => match ds with
  | [.tuple (x :: xs), .int k] => if 2 ≤ k ∧ k ≤ 1000 ∧ xs.length < 1000 then some (.tuple (List.replicate k.toNat (x :: xs)).flatten) else none
  | _ => none
theorem RpA.rep {K : Kf} {vs : List V} {ds : List D} (r : RpA K F vs ds) : ∀ n : Nat, RpA K F (List.replicate n vs).flatten (List.replicate n ds).flatten
  | 0 => .nil
  | n + 1 => by
    rw [List.replicate_succ, List.replicate_succ, List.flatten_cons, List.flatten_cons]
    exact r.append (RpA.rep r n)
theorem p_mulT (hK : Γ.g.K = X.K) : Prim true Γ mulTD (r2 (rRepT X.K)) := by
  intro F H σ env ow vs ds z Q R hv e k
  unfold mulTD at e
  split at e
  · rename_i x xs n
    split at e
    · rename_i hn
      cases e
      obtain ⟨u, v, rfl, h1, h2⟩ := pair2 hv
      obtain ⟨l, us, rfl, q1, q2, q3⟩ := rpx_tup R.sm h1
      rw [rpx_int h2]
      have ln := q3.length
      rw [List.length_cons] at ln
      refine ⟨l, n, us, rfl, rfl, by rw [← hK]; exact q1, fun z => by rw [z] at ln; simp at ln, hn.1, hn.2.1, by omega, fun p hp => ?_⟩
      obtain ⟨R2, S2⟩ := R.alloc (.tup (List.replicate n.toNat us).flatten) hp
      exact k _ _ _ R2 S2 (.tup (SqT.of upd_same) ((q3.rep n.toNat).mono S2.s1))
    · cases e
  · cases e
end
end DL

set_option maxHeartbeats 1000000
/-! the data layer: own lists lent to a call, to a book's making -/
namespace DL
open PySem PySem.Spec PyProof.Rows L2
section
variable {K : Kf} {F F' : Hp}
/-- a heap that keeps all but lists -/
def NoL (F F' : Hp) : Prop := ∀ a o, F a = some o → (∀ us, o ≠ .lst us) → F' a = some o
theorem less_seqT {a : Addr} {xs : List V} (hl : NoL F F') (h : SqT K F a xs) : SqT K F' a xs := by
  rcases h with (h | ⟨o, h⟩) | h
  · exact Or.inl (Or.inl (hl _ _ h (fun _ z => nomatch z)))
  · exact Or.inl (Or.inr ⟨o, hl _ _ h (fun _ z => nomatch z)⟩)
  · exact Or.inr h
mutual
theorem Rp.less (hl : NoL F F') : ∀ (d : D) {v : V}, tame d = true → Rp K F v d → Rp K F' v d
  | .none, _, _, .non => .non
  | .bool _, _, _, .bl b => .bl b
  | .int _, _, _, .int i => .int i
  | .str _, _, _, .str x => .str x
  | .list ds, _, c, _ => by simp [tame] at c
  | .tuple ds, _, c, .tup h r => .tup (less_seqT hl h) (RpA.less hl ds (by simpa [tame] using c) r)
  | .dict ds, _, c, .dct h r => .dct (hl _ _ h (fun _ z => nomatch z)) (RpK.less hl ds (by simpa [tame] using c) r)
theorem RpA.less (hl : NoL F F') : ∀ (ds : List D) {vs : List V}, tameA ds = true → RpA K F vs ds → RpA K F' vs ds
  | [], _, _, .nil => .nil
  | d :: ds, _, c, .cons h r => by
    simp only [tameA, Bool.and_eq_true] at c
    exact .cons (Rp.less hl d c.1 h) (RpA.less hl ds c.2 r)
theorem RpK.less (hl : NoL F F') : ∀ (ds : List (D × D)) {vs : List (Key × V)}, tameK ds = true → RpK K F vs ds → RpK K F' vs ds
  | [], _, _, .nil => .nil
  | (kd, d) :: ds, _, c, r => by
    simp only [tameK, Bool.and_eq_true] at c
    cases r with
    | cons h r => exact .cons (Rp.less hl d c.1 h) (RpK.less hl ds c.2 r)
end
end
section
variable {Γ : Cn} {W : WX} {F H F' H' : Hp} {σ : L2.St} {env : En} {ow : Ow} {X : Cx}
/-- all own lists frozen, but for slot b's things -/
def lendF (F H : Hp) (ow : Ow) (b : Nat) : Hp := fun a => match ow a with
  | none => F a
  | some p => if p.1 = b then none else match H a with
    | some (.lst us) => some (.lst us)
    | _ => none
def backF (F : Hp) (ow : Ow) : Hp := fun a => match ow a with
  | none => F a
  | some _ => none
theorem lendF_none {a : Addr} {b : Nat} (h : ow a = none) : lendF F H ow b a = F a := by unfold lendF; rw [h]
theorem lendF_case (F H : Hp) (ow : Ow) (b : Nat) (a : Addr) : (ow a = none ∧ lendF F H ow b a = F a) ∨ ((∃ p, ow a = some p) ∧ (lendF F H ow b a = none ∨ ∃ us, H a = some (.lst us) ∧ lendF F H ow b a = some (.lst us))) := by
  cases h : ow a with
  | none => exact Or.inl ⟨rfl, lendF_none h⟩
  | some p =>
    refine Or.inr ⟨⟨p, rfl⟩, ?_⟩
    unfold lendF
    rw [h]
    dsimp only
    by_cases q : p.1 = b
    · rw [if_pos q]; exact Or.inl rfl
    · rw [if_neg q]
      cases z : H a with
      | none => exact Or.inl rfl
      | some o => cases o with
        | lst us => exact Or.inr ⟨us, rfl, rfl⟩
        | _ => exact Or.inl rfl
theorem Rep.lendS (R : Rep Γ F H σ env ow) (b : Nat) : Same F (lendF F H ow b) ∧ Same (lendF F H ow b) H := by
  refine ⟨fun a o h => ?_, fun a o h => ?_⟩
  · cases z : ow a with
    | none => rw [lendF_none z]; exact h
    | some p => rw [(R.own a p z).2] at h; cases h
  · rcases lendF_case F H ow b a with ⟨_, e⟩ | ⟨_, e | ⟨us, e1, e2⟩⟩
    · rw [e] at h; exact R.sm a o h
    · rw [e] at h; cases h
    · rw [e2] at h; rw [e1, h]
/-- data in the lent heap, for what slots and values tell -/
theorem Rep.lends (R : Rep Γ F H σ env ow) {b : Nat} (hb : ∀ ds, env[b]? ≠ some (.lst ds)) : ∀ {os : List Opd} {as : List (Option D)} {vs : List V} {ds : List D}, AtA Γ.g.K F σ os as vs → getA true env os as = some ds → RpA Γ.g.K (lendF F H ow b) vs ds
  | _, _, _, _, .nil, e => by cases e; exact .nil
  | _, _, _, ds, .sl (i := i) (os := os) (as := as) (v := v) h t, e => by
    unfold getA at e
    cases q : DL.look true env i with
    | none => rw [q] at e; cases e
    | some d =>
      rw [q] at e
      obtain ⟨r, h1, h2⟩ := Option.map_eq_some_iff.mp e
      subst h2
      refine .cons ?_ (R.lends hb t h1)
      unfold DL.look at q
      cases w : env[i]? with
      | none => rw [w] at q; cases q
      | some s =>
        rw [w] at q
        obtain ⟨o, p1, p2⟩ := R.at_ i s w
        rw [h] at p1
        cases p1
        cases s with
        | dat d' =>
          cases q
          obtain ⟨v', e1, r1⟩ := p2
          cases e1
          exact r1.mono (R.lendS b).1
        | lst ds' =>
          cases q
          obtain ⟨l, xs, e1, q1, r1⟩ := p2
          cases e1
          refine .lst ?_ (r1.mono (R.lendS b).1)
          have ib : i ≠ b := fun z => hb ds' (by rw [← z]; exact w)
          unfold lendF
          rw [q1.own1]
          dsimp only
          rw [if_neg ib, q1.at_]
        | _ => cases q
  | _, _, _, ds, .ex h t, e => by
    unfold getA at e
    obtain ⟨r, h1, h2⟩ := Option.map_eq_some_iff.mp e
    subst h2
    exact .cons (h.mono (R.lendS b).1) (R.lends hb t h1)
theorem backF_noL (R : Rep Γ F H σ env ow) {b : Nat} (s3 : ∀ a, H a ≠ none → F' a = lendF F H ow b a) : NoL F' (backF F' ow) := fun a o h n => by
  cases z : ow a with
  | none => unfold backF; rw [z]; exact h
  | some p =>
    have e := s3 a (R.own a p z).1
    rcases lendF_case F H ow b a with ⟨z', _⟩ | ⟨_, q | ⟨us, _, q⟩⟩
    · rw [z] at z'; cases z'
    · rw [e, q] at h; cases h
    · rw [e, q] at h; cases h; exact absurd rfl (n us)
theorem backF_same (F' : Hp) (ow : Ow) : Same (backF F' ow) F' := fun a o h => by
  unfold backF at h
  cases z : ow a with
  | none => rw [z] at h; exact h
  | some p => rw [z] at h; cases h
theorem backF_from (R : Rep Γ F H σ env ow) {b : Nat} (s1 : Same (lendF F H ow b) F') : Same F (backF F' ow) := fun a o h => by
  cases z : ow a with
  | none => unfold backF; rw [z]; exact s1 a o (by rw [lendF_none z]; exact h)
  | some p => rw [(R.own a p z).2] at h; cases h
theorem backF_at (R : Rep Γ F H σ env ow) {b : Nat} (s3 : ∀ a, H a ≠ none → F' a = lendF F H ow b a) (a : Addr) (ha : H a ≠ none) : backF F' ow a = F a := by
  cases z : ow a with
  | none => unfold backF; rw [z]; dsimp only; rw [s3 a ha, lendF_none z]
  | some p => unfold backF; rw [z]; exact ((R.own a p z).2).symm
/-! ### f(book, ..), own lists lent -/
def callL (f : FS) (b : Nat) (os : List Opd) : M Rv := fun e => match e[b]? with
  | some (.book _) => M.bind (runA os) (fun as e => match e[b]?, getA true e os as with
    | some (.book ds), some es => (match f (.book ds :: es.map Sl.dat) with
      | some (.ok (.dat d) (.book ds' :: _)) => if tame d = true ∧ tameA ds' = true then some (.ok (.dat d) (e.set b (.book ds'))) else none
      | _ => none)
    | _, _ => none) e
  | _ => none
theorem callL_go {f : FS} {b : Nat} {os : List Opd} {np : Nat} {Q : VK} (hnp : os.length + 1 = np) (h : tV Γ W (callL f b os) σ H Q) : tCons (tVar b) (tAs Γ W os) σ H fun vs H1 => spG Γ.g np f vs H1 Q (WE W σ) := by
  obtain ⟨env, F, ow, R, r, e, h⟩ := h
  unfold callL at e
  cases eb : env[b]? with
  | none => rw [eb] at e; cases e
  | some sb =>
  rw [eb] at e
  cases sb with
  | book ds0 =>
    dsimp only at e
    obtain ⟨bk, _, _, _, hv, _⟩ := R.book eb
    refine ⟨.ref bk, hv, ?_⟩
    rcases M.bind_some e with ⟨as, e2, h3, h4⟩ | ⟨x, e2, h3, h4⟩
    · refine tAs_of os R h3 fun ws H2 F2 R2 S2 A => ?_
      cases w : e2[b]? with
      | none => rw [w] at h4; cases h4
      | some s2 =>
      rw [w] at h4
      cases s2 with
      | book ds =>
        cases g : getA true e2 os as with
        | none => rw [g] at h4; cases h4
        | some es =>
        rw [g] at h4
        dsimp only at h4
        cases q : f (.book ds :: es.map Sl.dat) with
        | none => rw [q] at h4; cases h4
        | some rf =>
        rw [q] at h4
        cases rf with
        | ex _ _ => cases h4
        | ok rv2 ar =>
        cases rv2 with
        | dat d =>
          cases ar with
          | nil => cases h4
          | cons s' rest =>
          cases s' with
          | book ds' =>
            dsimp only at h4
            split at h4
            · rename_i tm
              cases h4
              have hnl : ∀ ds, e2[b]? ≠ some (.lst ds) := fun _ z => by rw [w] at z; cases z
              have ra := R2.lends hnl A g
              obtain ⟨ls1, ls2⟩ := R2.lendS b
              obtain ⟨bk2, dx, l, us, hv2, q1, q2, rr2⟩ := R2.book w
              rw [hv] at hv2
              cases hv2
              have A0 : AtA Γ.g.K F2 σ [.sl b] [none] [.ref bk] := .sl hv .nil
              have e0 : slotsOf e2 [.sl b] [none] = some [.book ds] := by simp only [slotsOf, w]; rfl
              have nd : (ownIx e2 [.sl b]).Nodup := by simp only [ownIx, w]; simp [Sl.owns]
              have B0 := R2.begin A0 e0 nd
              have own1 : ∀ a p, owC [.sl b] ow a = some p → lendF F2 H2 ow b a = none := fun a p ha => by
                unfold owC at ha
                cases z : ow a with
                | none => rw [z] at ha; cases ha
                | some t =>
                  rw [z] at ha
                  obtain ⟨k, g1, _⟩ := Option.map_eq_some_iff.mp ha
                  have tb : b = t.1 := by
                    unfold findSl at g1
                    split at g1
                    · assumption
                    · unfold findSl at g1; cases g1
                  unfold lendF
                  rw [z]
                  dsimp only
                  rw [if_pos tb.symm]
              have lw : ws.length = es.length := ra.length
              have lo : os.length = es.length := by rw [← getA_len g]
              refine ⟨lendF F2 H2 ow b, owC [.sl b] ow, .book ds :: es.map Sl.dat, ⟨⟨by rw [List.length_cons, List.length_cons, List.length_map, lw], fun i s hi => ?_⟩, ls2, fun a p hp => ⟨(B0.own a p hp).1, own1 a p hp⟩, fun a p hp => ?_⟩, by rw [List.length_cons, List.length_map]; omega, _, q, ?_⟩
              · cases i with
                | zero =>
                  obtain ⟨v, k1, k2⟩ := B0.a.at_ 0 (.book ds) rfl
                  cases hi
                  cases k1
                  exact ⟨_, rfl, k2.keep ls1 fun _ _ _ _ z => z⟩
                | succ i =>
                  have hi' : (es.map Sl.dat)[i]? = some s := by simpa using hi
                  obtain ⟨w', d', g1, rfl, g2⟩ := ra.all_get i s hi'
                  exact ⟨w', by simpa using g1, w', rfl, g2⟩
              · obtain ⟨s, k1, k2⟩ := B0.e8 a p hp
                cases hp1 : p.1 with
                | zero => exact ⟨_, rfl, rfl⟩
                | succ n => rw [hp1] at k1; simp at k1
              · intro v3 H3 F3 S3 sm3 B3 L3 rr
                have nl : NoL F3 (backF F3 ow) := backF_noL R2 S3.s3
                have S4 : Stp F2 H2 (owC [.sl b] ow) (backF F3 ow) H3 := ⟨backF_from R2 S3.s1, S3.s2, fun a ha => backF_at R2 S3.s3 a ha, S3.s4⟩
                have sm4 : Same (backF F3 ow) H3 := (backF_same F3 ow).trans sm3
                have B4 : Ags Γ.g (backF F3 ow) H3 (owC [.sl b] ow) [.ref bk] [.book ds'] := ⟨rfl, fun i s hi => by
                  cases i with
                  | zero =>
                    cases hi
                    obtain ⟨v, k1, b', dx', l', us', k2, k3, k4, k5⟩ := B3.at_ 0 (.book ds') rfl
                    cases k1
                    exact ⟨_, rfl, b', dx', l', us', k2, k3, k4, k5.less nl _ tm.2⟩
                  | succ i => simp at hi⟩
                have L4 : Left [Sl.book ds] [Sl.book ds'] := ⟨rfl, fun i s s' k1 k2 => by
                  cases i with
                  | zero => cases k1; cases k2; rfl
                  | succ i => simp at k1⟩
                obtain ⟨R4, S5⟩ := R2.after A0 e0 nd S4 sm4 B4 L4
                exact h v3 H3 (backF F3 ow) R4 (S2.trans S5) (Rp.less nl d tm.1 rr)
            · cases h4
          | _ => cases h4
        | _ => cases h4
      | _ => cases h4
    · subst h4
      exact tAs_of os R h3 h
  | _ => cases e
theorem e_callL {g : Gx} {k k' np n : Nat} {m : M O} {x : Str} {p pos : Pos} {e : Expr} {es : List Expr} {b : Nat} {os : List Opd} (hg : Γ.g = g) (D : Def X.prog X.w X.K X.mg X.base g k x np (bodyF n m)) (hnp : os.length + 1 = np) (hr : Room k' X.A) (hk : k ≤ k') (hgd : X.A.guards = some []) (tk : Takes X W) (gx : Gl X x)
    (hB : PE X e (tVar b)) (ha : PA X es (tAs Γ W os))
    (hdb : (x == ("__debug__" : Str)) = false := by decide) (he : starEach (e :: es) X.env = (false, eval e X.env) :: starEach es X.env := by rfl) (hpl : (backTo pos (starEach es X.env)).any (·.1) = false := by rfl) :
    PE X (.Call (.Name x p) (e :: es) [] pos) (tV Γ W (callL (bodyF n m) b os)) := by
  obtain ⟨f, fd, ps, Fn, hm, hkp, hb⟩ := D.ex
  subst hg
  refine PE.by (pe_callG Fn (hr.mono hk) hgd tk gx hm hkp hb .nil (pa_cons hB ha he) hdb he hpl) fun σ H Q h => ?_
  have z := callL_go hnp h
  have e0 : (fun (vs : List V) (H1 : Hp) => spG Γ.g np (bodyF n m) (vs ++ []) H1 Q (WE W σ)) = fun vs H1 => spG Γ.g np (bodyF n m) vs H1 Q (WE W σ) := by
    funext vs H1
    rw [List.append_nil]
  show tCons _ _ σ H (fun (vs : List V) (H1 : Hp) => spG Γ.g np (bodyF n m) (vs ++ []) H1 Q (WE W σ))
  rw [e0]
  exact z
/-! ### Book(x), x an own list -/
def makeL (f : D → Option (List D)) (o : Opd) : M Rv := M.bind (runA [o]) fun as e => match getA true e [o] as with
  | some [d] => match f d with
    | some ds => if tameA ds = true then some (.ok (.book ds) e) else none
    | none => none
  | _ => none
theorem makeL_go {f : D → Option (List D)} {o : Opd} {Q : VK} (h : tV Γ W (makeL f o) σ H Q) : tMakeG Γ.g.cb (spI Γ.g f) [] W (tAs Γ W [o]) σ H Q := by
  obtain ⟨env, F, ow, R, r, e, h⟩ := h
  rcases M.bind_some e with ⟨as, e1, h1, h2⟩ | ⟨x, e1, h1, h2⟩
  · refine tAs_of _ R h1 fun vs H1 F1 R1 S1 A => ?_
    cases z : getA true e1 [o] as with
    | none => rw [z] at h2; cases h2
    | some ds =>
      rw [z] at h2
      match ds, z, h2 with
      | [d], z, h2 =>
        dsimp only at h2
        cases h3 : f d with
        | none => rw [h3] at h2; cases h2
        | some us =>
        rw [h3] at h2
        dsimp only at h2
        split at h2
        · rename_i tm
          cases h2
          have ra0 := R1.lends (b := e1.length) (fun ds z => by rw [List.getElem?_eq_none (Nat.le_refl _)] at z; cases z) A z
          obtain ⟨ls1, ls2⟩ := R1.lendS e1.length
          match vs, ra0 with
          | [v], .cons rv .nil =>
          intro x dx hx hdx ndx
          have nx : ∀ {b : Addr}, H1 b ≠ none → b ≠ x := fun hb z => hb (by rw [z]; exact hx)
          have nd : ∀ {b : Addr}, H1 b ≠ none → b ≠ dx := fun hb z => hb (by rw [z]; exact hdx)
          have lx : ∀ {b : Addr}, H1 b = none → lendF F1 H1 ow e1.length b = none := fun {b} hb => by
            cases q : lendF F1 H1 ow e1.length b with
            | none => rfl
            | some o => rw [ls2 b o q] at hb; cases hb
          refine ⟨lendF F1 H1 ow e1.length, x, dx, v, d, us, rfl, upd_same, fun b o hb => ?_, lx hx, rv, h3, fun l ws H' F' s1 s2 kp kf hl fl al ax ra => ⟨rfl, ?_⟩⟩
          · have hb1 : H1 b ≠ none := by rw [ls2 b o hb]; exact fun z => nomatch z
            rw [upd_ne (nx hb1), upd_ne (nd hb1)]
            exact ls2 b o hb
          · have up : ∀ {b : Addr} {o : HO}, H1 b = some o → (upd (upd H1 dx (.own x)) x (.ins Γ.g.cb dx [])) b = some o := fun {b o} hb => by
              have hb1 : H1 b ≠ none := by rw [hb]; exact fun z => nomatch z
              rw [upd_ne (nx hb1), upd_ne (nd hb1)]; exact hb
            have nl : l ≠ x := fun z => by rw [z, upd_same] at hl; cases hl
            have ndl : l ≠ dx := fun z => by rw [z, upd_ne ndx, upd_same] at hl; cases hl
            have h1l : H1 l = none := by rw [upd_ne nl, upd_ne ndl] at hl; exact hl
            have fx : F' x = none := by rw [kf x (by rw [upd_same]; exact fun z => nomatch z)]; exact lx hx
            have keepH : ∀ b o, H1 b = some o → H' b = some o := fun b o hb => kp b o (up hb) (nx (by rw [hb]; exact fun z => nomatch z))
            have kf' : ∀ b, H1 b ≠ none → F' b = lendF F1 H1 ow e1.length b := fun b hb => kf b (by
              cases q : H1 b with
              | none => exact absurd q hb
              | some o => rw [up q]; exact fun z => nomatch z)
            have nL : NoL F' (backF F' ow) := backF_noL R1 kf'
            have S : Stp F1 H1 ow (backF F' ow) H' := ⟨backF_from R1 s1, fun b o hb _ => keepH b o hb, fun b hb => backF_at R1 kf' b hb, fun b hb => by
              cases q : H1 b with
              | none => exact absurd q hb
              | some o => rw [keepH b o q]; exact fun z => nomatch z⟩
            have R2 : Rep Γ (backF F' ow) H' σ e1 ow := R1.step S ((backF_same F' ow).trans s2) fun b o p ho hb => keepH b o hb
            have bn : ∀ {a : Addr}, F' a = none → backF F' ow a = none := fun {a} ha => by
              cases q : backF F' ow a with
              | none => rfl
              | some o => rw [backF_same F' ow a o q] at ha; cases ha
            refine h _ H' (backF F' ow) R2 (S1.trans S) ⟨x, dx, l, ws, rfl, ?_, ?_, nl.symm, ax, bn fx, R1.ow0 hx, R1.h0 hx, al, bn fl, R1.ow0 h1l, R1.h0 h1l, ra.less nL _ tm⟩
            · cases q : H x with
              | none => rfl
              | some o => exact absurd hx (S1.s4 x (by rw [q]; exact fun z => nomatch z))
            · cases q : H l with
              | none => rfl
              | some o => exact absurd h1l (S1.s4 l (by rw [q]; exact fun z => nomatch z))
        · cases h2
  · subst h2
    exact tAs_of _ R h1 h
theorem e_makeL {g : Gx} {k k' : Nat} {f : D → Option (List D)} {nm : Str} {e : Expr} {o : Opd} {p pos : Pos} (hg : Γ.g = g) (D : KDef X.prog X.w X.K X.mg X.base g k nm f) (hr : Room k' X.A) (hk : k + 1 ≤ k') (hgd : X.A.guards = some []) (tk : Takes X W) (gx : Gl X nm) (ha : PE X e (tO Γ W o))
    (hdb : (nm == ("__debug__" : Str)) = false := by decide) (na : starEach [e] X.env = (false, eval e X.env) :: starEach [] X.env := by rfl) : PE X (.Call (.Name nm p) [e] [] pos) (tV Γ W (makeL f o)) := by
  obtain ⟨fi, fd, ps, Fn, mk, hb, hm⟩ := D.ex
  subst hg
  exact PE.by (pe_makeG mk Fn (hr.mono hk) hgd tk gx hm hb .nil (pa_cons ha pa_nil na) hdb na) fun σ H Q h => makeL_go h
end
end DL

set_option maxHeartbeats 1000000
/-! the data layer: methods without arguments, calls with keywords, list(range(n)) -/
namespace DL
open PySem PySem.Spec PyProof.Rows L2
section
variable {X : Cx} {k : Nat} {f C : Addr} {fd : FuncData} {ps : List Str} {sp : Sp} {dvs : List V} {ds : List Value}
  {x m : Str} {p pos apos : Pos} {e o : Expr} {es : List Expr} {ta : TE} {t : TA} {W : WX}
theorem pe_methG0 {pl : Sem Bool} (ho : PE X o ta) (c : Cls X.K C) (mt : Meth X.K C m f) (F : FnG X.prog X.w X.K X.mg X.base k f fd ps sp) (hr : Room k X.A) (hgd : X.A.guards = some []) (tk : Takes X W) (hb : Binds X.K fd ps [])
    (ht : eval (.Call (.Attribute o m apos) [] [] pos) X.env = (do
      let ov ← eval o X.env
      standAt apos.atName
      let (g, first) ← holding [ov] (getMethod ov m pl)
      callWith pos g first (backTo pos (starEach [] X.env)) (backToKw pos (keywordEach [] X.env))) := by rfl) :
    PE X (.Call (.Attribute o m apos) [] [] pos) (tMethG C m sp W ta tNil) where
  run := fun pins s σ H Q I h => by
    refine PySem.W.methodCall_KW (pl := pl) (thn (ho.run pins s σ H _ I h) fun u s1 ⟨y, H1, I1, ry, a, dx, fs, ey, ea, lk, q⟩ => ?_) ht
    subst ey
    obtain rfl : u = Value.ref a := ry
    refine getmeth_ok I1 ea c mt lk (PySem.W.callWith_K0 (first := [.ref a]) I1.kIn mt.kp ?_)
    exact call_g (us := [.ref a]) (vs := [.ref a]) (dvs := []) F hr hgd tk hb .nil I1 (.cons rfl .nil) (by exact q)
end
section
variable {Γ : Cn} {W : WX} {F H : Hp} {σ : L2.St} {env : En} {ow : Ow} {X : Cx}
theorem e_meth0 {g : Gx} {k k' : Nat} {m : FS} {nm : Str} {o : Expr} {i : Nat} {apos pos : Pos} {pl : Sem Bool} (hg : Γ.g = g) (B : Bk X.K g.cb) (D : MDef X.prog X.w X.K X.mg X.base g k nm 1 m) (hr : Room k' X.A) (hk : k ≤ k') (hgd : X.A.guards = some []) (tk : Takes X W)
    (hn : (nm == ("row" : Str)) = false) (ho : PE X o (tVar i))
    (ht : eval (.Call (.Attribute o nm apos) [] [] pos) X.env = (do
      let ov ← eval o X.env
      standAt apos.atName
      let (g, first) ← holding [ov] (getMethod ov nm pl)
      callWith pos g first (backTo pos (starEach [] X.env)) (backToKw pos (keywordEach [] X.env))) := by rfl) :
    PE X (.Call (.Attribute o nm apos) [] [] pos) (tV Γ W (callB i m [])) := by
  obtain ⟨f, fd, ps, Fn, mt, hb⟩ := D.ex
  subst hg
  exact PE.by (pe_methG0 ho B.cl mt Fn (hr.mono hk) hgd tk hb ht) fun σ H Q h => meth_go (os := []) rfl hn h
/-! ### f(a, .., k = v) -/
theorem tAs_mono (os : List Opd) : ∀ {σ : L2.St} {H : Hp} {Qa Qb : List V → Hp → Prop}, (∀ vs H, Qa vs H → Qb vs H) → tAs Γ W os σ H Qa → tAs Γ W os σ H Qb := by
  induction os with
  | nil => intro σ H Qa Qb hi hq; exact hi _ _ hq
  | cons o os ih =>
    intro σ H Qa Qb hi hq
    cases o with
    | sl i =>
      obtain ⟨v, h1, h2⟩ := hq
      exact ⟨v, h1, ih (fun vs H z => hi _ _ z) h2⟩
    | ex m =>
      obtain ⟨env, F, ow, R, r, e, h⟩ := (show tD Γ W m σ H _ from hq)
      refine (show tD Γ W m σ H _ from ⟨env, F, ow, R, r, e, h.step Stp.refl fun d e' z v H' F' R' S rv => ?_⟩)
      exact ih (fun vs H z => hi _ _ z) (z v H' F' R' S rv)
theorem tAs_app (kos : List Opd) : ∀ (os : List Opd) {σ : L2.St} {H : Hp} {Q : List V → Hp → Prop}, tAs Γ W (os ++ kos) σ H Q → tAs Γ W os σ H fun vs H1 => vs.length = os.length ∧ tAs Γ W kos σ H1 fun zs H2 => zs.length = kos.length ∧ Q (vs ++ zs) H2
  | [], σ, H, Q, h => by
    refine ⟨rfl, ?_⟩
    have len : ∀ (ks : List Opd) {H : Hp} {Q : List V → Hp → Prop}, tAs Γ W ks σ H Q → tAs Γ W ks σ H fun zs H2 => zs.length = ks.length ∧ Q zs H2 := fun ks => by
      induction ks with
      | nil => intro H Q h; exact ⟨rfl, h⟩
      | cons o ks ih =>
        intro H Q h
        cases o with
        | sl i =>
          obtain ⟨v, h1, h2⟩ := h
          refine ⟨v, h1, ?_⟩
          have z := ih h2
          exact tAs_mono ks (fun vs H ⟨a, b⟩ => ⟨by rw [List.length_cons, List.length_cons, a], b⟩) z
        | ex m =>
          obtain ⟨env, F, ow, R, r, e, h⟩ := (show tD Γ W m σ H _ from h)
          refine (show tD Γ W m σ H _ from ⟨env, F, ow, R, r, e, h.step Stp.refl fun d e' z v H' F' R' S rv => ?_⟩)
          exact tAs_mono ks (fun vs H ⟨a, b⟩ => ⟨by rw [List.length_cons, List.length_cons, a], b⟩) (ih (z v H' F' R' S rv))
    exact len kos h
  | o :: os, σ, H, Q, h => by
    cases o with
    | sl i =>
      obtain ⟨v, h1, h2⟩ := h
      exact ⟨v, h1, tAs_mono os (fun vs H ⟨a, b⟩ => ⟨by rw [List.length_cons, List.length_cons, a], b⟩) (tAs_app kos os h2)⟩
    | ex m =>
      obtain ⟨env, F, ow, R, r, e, h⟩ := (show tD Γ W m σ H _ from h)
      refine (show tD Γ W m σ H _ from ⟨env, F, ow, R, r, e, h.step Stp.refl fun d e' z v H' F' R' S rv => ?_⟩)
      exact tAs_mono os (fun vs H ⟨a, b⟩ => ⟨by rw [List.length_cons, List.length_cons, a], b⟩) (tAs_app kos os (z v H' F' R' S rv))
structure DefW (P : Program) (w : World) (K : Kf) (mg : Str → Option Value) (base : Heap) (g : Gx) (k : Nat) (nm : Str) (np : Nat) (ks : List Str) (m : FS) : Prop where
  ex : ∃ f fd ps, FnG P w K mg base k f fd ps (spG g (np + ks.length) m) ∧ mg nm = some (.ref f) ∧ PySem.W.keepIn K (.ref f) = true ∧ ∀ (s : Shared) (us ws : List Value), us.length = np → ws.length = ks.length → BindsTo s fd ⟨us, ks.zip ws⟩ (ps.zip (us ++ ws))
theorem e_callW {g : Gx} {k k' np : Nat} {m : FS} {ks : List Str} {kws : List Keyword} {x : Str} {p pos : Pos} {e : Expr} {es : List Expr} {os kos : List Opd} (hg : Γ.g = g) (D : DefW X.prog X.w X.K X.mg X.base g k x np ks m) (hnp : os.length = np) (hnk : kos.length = ks.length) (hr : Room k' X.A) (hk : k ≤ k') (hgd : X.A.guards = some []) (tk : Takes X W) (gx : Gl X x)
    (ha : PA X (e :: es) (tAs Γ W os)) (hkw : PK X kws (tAs Γ W kos)) (hall : (backToKw pos (keywordEach kws X.env)).all (·.1.isSome) = true := by rfl) (hks : (backToKw pos (keywordEach kws X.env)).filterMap (·.1) = ks := by rfl)
    (hdb : (x == ("__debug__" : Str)) = false := by decide) (he : starEach (e :: es) X.env = (false, eval e X.env) :: starEach es X.env := by rfl)
    (hpl : ((backTo pos (starEach (e :: es) X.env)).any (·.1) || (backToKw pos (keywordEach kws X.env)).any (·.1.isNone)) = false := by rfl) :
    PE X (.Call (.Name x p) (e :: es) kws pos) (tV Γ W (callV m (os ++ kos))) := by
  obtain ⟨f, fd, ps, Fn, hm, hkp, hb⟩ := D.ex
  subst hg
  refine ⟨fun pins s σ H Q I h => ?_⟩
  have z := tAs_app kos os (call_go h)
  refine wpAny_Call_Name_kw (ld_glob I gx hm ?_ hdb)
  refine PySem.W.callWith_KW (h₀ := X.base) I.ok.mod.kin hkp hall (thn (ha.run pos pins s σ H _ I z) fun us s1 ⟨vs, H1, I1, r, lv, q⟩ => ?_) hpl he
  refine thn (hkw.run pos pins s1 σ H1 _ I1 q) fun ws s2 ⟨zs, H2, I2, rz, lz, q2⟩ => ⟨I2.kIn, ?_⟩
  rw [hks]
  have q3 : spG Γ.g (np + ks.length) m (vs ++ zs) H2 Q (WE W σ) := by
    rw [List.length_append, hnp, hnk] at q2; exact q2
  refine wpAny_call (codeAny_mono (run_g Fn (hr.mono hk) hgd tk I2 (hb s2 us ws (by rw [← r.length, lv, hnp]) (by rw [← rz.length, lz, hnk])) (r.append rz) q3) fun rr s' q => ?_)
  cases rr with
  | error e => exact q
  | ok fl => cases fl <;> exact q
/-! ### list(range(n)) -/
def lrgM (o : Opd) : M (List D) := M.bind (runA [o]) fun as e => match getA true e [o] as with
  | some [.int j] => if -1000000 ≤ j ∧ j ≤ 1000000 then some (.ok (rangeL 0 j.toNat) e) else none
  | _ => none
theorem rg_rpa {K : Kf} {F : Hp} : ∀ ks : List Nat, RpA K F (ks.map fun (i : Nat) => V.int (0 + (i : Int))) (ks.map fun (k : Nat) => PyData.int (0 + (k : Int)))
  | [] => .nil
  | k :: ks => .cons (.int _) (rg_rpa ks)
theorem e_listRg {a : Expr} {o : Opd} {p pos pr posr : Pos} (hc : X.calm = true) (gl : Gl X "list") (ml : X.mg "list" = none) (hg : Gl X "range") (hm : X.mg "range" = none) (ha : PE X a (tO Γ W o))
    (hs : starEach [a] X.env = (false, eval a X.env) :: starEach [] X.env := by rfl) (na : starEach [.Call (.Name "range" pr) [a] [] posr] X.env = (false, eval (.Call (.Name "range" pr) [a] [] posr) X.env) :: starEach [] X.env := by rfl) :
    PE X (.Call (.Name "list" p) [.Call (.Name "range" pr) [a] [] posr] [] pos) (tL Γ W (lrgM o)) :=
  PE.by (pe_listRg hc gl ml (prg_1 hg hm ha hs) na) fun σ H Q ⟨env, F, ow, R0, r, e, q⟩ => by
    refine (show tAs Γ W [o] σ H (fun vs H1 => match vs with
      | [x] => ∃ n, x = V.int n ∧ RgOk 0 n ∧ ∀ l, H1 l = none → Q (.ref l) (upd H1 l (.lst (rgV 0 n)))
      | _ => False) from ?_)
    rcases M.bind_some e with ⟨as, e1, h1, h2⟩ | ⟨x, e1, h1, h2⟩
    · refine tAs_of _ R0 h1 fun vs H' F' R' S A => ?_
      cases z : getA true e1 [o] as with
      | none => rw [z] at h2; cases h2
      | some ds =>
        rw [z] at h2
        have pr := R'.gets A z
        (try dsimp only at h2)
        split at h2
        · rename_i j hz
          split at h2
          · rename_i hb
            cases h2
            obtain rfl := Option.some.inj hz
            obtain ⟨y, rfl, h3⟩ := pair1 pr
            rw [rpx_int h3]
            refine ⟨j, rfl, ⟨by decide, by decide, by omega, by omega, by omega⟩, fun l hl => ?_⟩
            obtain ⟨R2, S2⟩ := R'.alloc0 (.lst (rgV 0 j)) hl
            refine q l (rgV 0 j) _ F' R2 (S.trans S2) ?_ ⟨upd_same, R'.none_F hl, R'.ow0 hl, R'.h0 hl, ?_⟩
            · cases z : H l with
              | none => rfl
              | some o => exact absurd hl (S.s4 l (by rw [z]; exact fun z => nomatch z))
            · unfold rgV rangeL
              rw [Int.sub_zero]
              exact rg_rpa _
          · cases h2
        · cases h2
    · subst h2
      exact tAs_of _ R0 h1 q
end
end DL

set_option maxHeartbeats 1000000
/-! the data layer: enumerate(a tuple) -/
namespace DL
open PySem PySem.Spec PyProof.Rows L2
theorem meets_enum_tup (v : Addr) (items : Array Value) :
    Meets (Builtin.«enumerate.__new__» ⟨[.type "enumerate", .ref v], []⟩) (fun _ R s => s.heap.IsTuple v items ∧
      R (.ok (.ret (.ref (s.heap.push { cls := .type "tuple_iterator", data := .fields #[.ref v, .int 0 0] }).objs.size))) { s with heap := (s.heap.push { cls := .type "tuple_iterator", data := .fields #[.ref v, .int 0 0] }).push { cls := .type "enumerate", data := .fields #[.none, .bool false, .ref s.heap.objs.size, rawInt 0, .none, .none] } }) :=
  .of_wp fun prog w A R s h => by
    obtain ⟨hp, g, d, tk, os⟩ := s; obtain ⟨h1, h⟩ := h
    have hsub := sub_enumerate
    have h1' : Heap.IsTuple (Shared.heap ⟨hp, g, d, tk, os⟩) v items := h1
    obtain ⟨⟨c0, dct, dt, sl⟩, hl, hc, n, hd⟩ := id h1
    replace hc : c0 = .type "tuple" := hc
    replace hd : dt = .seq items n := hd
    subst hc hd
    wp_walk using PySem.AutoSeq1.wpAny_loadPart' hl
    refine wpAny_stack_any fun st => wpAny_pure ?_
    split
    · rename_i c _ _ _ _ _
      cases (c == Value.type "enumerate")
      · wp_walk using PySem.AutoSeq1.wpAny_loadPart' hl, wpAny_pyIter_tuple h1'
        exact ⟨_, rfl, h⟩
      · wp_walk using PySem.AutoSeq1.wpAny_loadPart' hl, wpAny_pyIter_tuple h1'
        exact ⟨_, rfl, h⟩
    · wp_walk using PySem.AutoSeq1.wpAny_loadPart' hl, wpAny_pyIter_tuple h1'
      exact ⟨_, rfl, h⟩
theorem call_enumerate_tup {prog : Program} {w : World} {A : Around} {E : Value → Shared → Prop} {s : Shared} {l : Addr} {items : Array Value} {Q : Value → Shared → Prop} (hL : s.heap.IsTuple l items)
    (h : ∀ h', IsEnum h' (s.heap.objs.size + 1) s.heap.objs.size 0 .none → h'.IsTupleIter s.heap.objs.size l 0 → h'.objs.size = s.heap.objs.size + 2 →
      (∀ b o, s.heap.get? b = some o → h'.get? b = some o) → Q (.ref (s.heap.objs.size + 1)) { s with heap := h' }) :
    wpAny (model prog w) A (call (.type "enumerate") [.ref l]) Q E s := by
  refine callType_new F.called_enumerate (by decide) (F.typeCall_enumerate_1 _) (F.newCall_enumerate_1 _) (fun obj => F.args_object_init_2 obj _) F.entry_enumerate_new
    (meets_enum_tup l items) ⟨hL, ?_⟩
  have hz : (s.heap.push { cls := .type "tuple_iterator", data := .fields #[.ref l, .int 0 0] }).objs.size = s.heap.objs.size + 1 := Heap.size_push ..
  show _ ∧ _
  rw [hz]
  have he : IsEnum ((s.heap.push { cls := .type "tuple_iterator", data := .fields #[.ref l, .int 0 0] }).push
      { cls := .type "enumerate", data := .fields #[.none, .bool false, .ref s.heap.objs.size, rawInt 0, .none, .none] }) (s.heap.objs.size + 1) s.heap.objs.size 0 .none := by
    have := Heap.get?_push_size (s.heap.push { cls := .type "tuple_iterator", data := .fields #[.ref l, .int 0 0] })
      (o := { cls := .type "enumerate", data := .fields #[.none, .bool false, .ref s.heap.objs.size, rawInt 0, .none, .none] }) rfl
    rw [hz] at this; exact this
  refine ⟨⟨_, he, rfl⟩, h _ he ⟨_, Heap.get?_push_of_some _ (Heap.get?_push_size _ rfl), rfl, rfl⟩ (by rw [Heap.size_push, hz]) fun b o x => Heap.get?_push_of_some _ (Heap.get?_push_of_some _ x)⟩
/-- the tuple at a as it stands at each turn, each item in a new pair -/
def IteT (K : PySem.W.Frag) (a : Addr) : It :=
  ⟨fun i H => ∃ (xs : List V) (x : V), SqT K H a xs ∧ xs[i]? = some x, fun i H v H' => ∃ T x, v = .ref T ∧ H T = none ∧ H' = upd H T (.tup [.int (i : Nat), x]) ∧ ∀ xs, SqT K H a xs → xs[i]? = some x, fun i H => ∃ xs : List V, SqT K H a xs ∧ xs.length ≤ i⟩
theorem turn_enumT {P : Program} {w : World} {K : PySem.W.Frag} {elts : List Expr} {kk : Nat} {tpos : Pos} (a e it : Addr) :
    Turn P w K (.Tuple elts kk tpos) (IteT K a) [e, it] e (fun i h => (∃ old, IsEnum h e it ((i : Nat) : Int) old) ∧ h.IsTupleIter it a i ∧ e ≠ it) where
  mem := by simp
  obj := fun i h st b hb => by
    obtain ⟨⟨old, he⟩, ⟨o, ho, hc, hd⟩, _⟩ := st
    have e' : b = e ∨ b = it := by simpa using hb
    rcases e' with z | z
    · rw [z]; exact ⟨_, he, fun v q => nomatch q⟩
    · rw [z]; exact ⟨o, ho, fun v q => by rw [hd] at q; cases q⟩
  keep := fun i h h' st k => let ⟨⟨old, he⟩, hi, hne⟩ := st; ⟨⟨old, k e (by simp) _ he⟩, hi.at fun o q => k it (by simp) o q, hne⟩
  item := by
    intro X hP hw hK hc i pins s σ H E I hf st hg
    subst hP hw hK
    obtain ⟨⟨old, he⟩, hit, hne⟩ := st
    obtain ⟨xs, x, hq, hx⟩ := hg
    obtain ⟨its, rv, p, hz⟩ := I.tuple hq
    have pt : s.heap.IsTuple a its.toArray := p
    obtain ⟨u, hu, ru⟩ := rv.get hx
    have hel : e < s.heap.objs.size := Heap.lt_size he
    have hil : it < s.heap.objs.size := by obtain ⟨_, q, _⟩ := hit; exact Heap.lt_size q
    have ait : a ≠ it := fun z => by
      obtain ⟨o, ho, hc1, _⟩ := hit
      obtain ⟨o2, ho2, hc2, _⟩ := pt
      rw [z, ho] at ho2
      cases ho2
      rw [hc1] at hc2
      exact absurd (Value.type.inj hc2) (by decide)
    have ae : a ≠ e := fun z => by
      obtain ⟨o2, ho2, hc2, _⟩ := pt
      rw [z, he] at ho2
      cases ho2
      exact absurd (Value.type.inj hc2) (by decide)
    have hil2 : i < its.toArray.size := by
      have := (List.getElem?_eq_some_iff.mp hu).1
      simpa using this
    refine wpAny_pyNext_enum_itemD (Draws.tuple (show X.A.in1.handled = none from I.ok.hd hc) it a ait its.toArray) he ⟨hit, pt⟩ hil2 hne (by simp [hne, Ne.symm ae]) fun x' h' tk hP ho hit' hT hsz hk => ?_
    have ex : x' = u := by
      have h0 : its.toArray[i]? = some u := by simpa using hu
      rw [hP] at h0
      exact Option.some.inj h0
    subst ex
    refine ⟨_, rfl, wpAny_letOwnedTupleGo_enum (s := { s with heap := h', toks := tk + 1 }) ho fun h'' he' sb => ?_⟩
    have hT2 : h''.get? s.heap.objs.size = some { cls := .type "tuple", data := .seq #[.int i tk, x'] } := (sb.2 _ (Nat.ne_of_gt hel)).trans hT
    have new : ObjOk X.prog X.w (upd H s.heap.objs.size (.tup [.int (i : Nat), x])) h'' s.heap.objs.size (.tup [.int (i : Nat), x]) :=
      ⟨by show 2 ≤ sizeLine; decide, [.int i tk, x'], .cons ⟨_, rfl⟩ (.cons ru .nil), ⟨_, hT2, rfl, _, rfl⟩⟩
    have I1 : Inv X pins σ (upd H s.heap.objs.size (.tup [.int (i : Nat), x])) { s with heap := h'', toks := tk + 1 } :=
      I.turnedNew (ch := [e, it]) (fun b ob hb q => (sb.2 b (fun z => hb (by simp [z]))).trans (hk b ob (fun z => hb (by simp [z])) (fun z => hb (by simp [z])) q)) hf (Nat.le_refl _) new
    refine ⟨.ref s.heap.objs.size, _, I1, rfl, ⟨_, x, rfl, I.hok.fresh (Nat.le_refl _), rfl, fun ys hy => by rw [I.tuple_inj hy hq]; exact hx⟩, ⟨⟨x', ?_⟩, hit'.1.at fun o q => (sb.2 it (Ne.symm hne)).trans q, hne⟩, fun b hb => ?_⟩
    · have e1 : ((i + 1 : Nat) : Int) = (i : Int) + 1 := by omega
      rw [e1]; exact he'
    · have hb' : b < s.heap.objs.size := by
        have e' : b = e ∨ b = it := by simpa using hb
        rcases e' with z | z
        · rw [z]; exact hel
        · rw [z]; exact hil
      rw [upd_ne (Nat.ne_of_lt hb')]
      exact (hf b hb).1
  done := by
    intro X hP hw hK hc i pins s σ H E I hf st hg
    subst hP hw hK
    obtain ⟨⟨old, he⟩, hit, hne⟩ := st
    obtain ⟨xs, hq, hx⟩ := hg
    obtain ⟨its, rv, p, hz⟩ := I.tuple hq
    have pt : s.heap.IsTuple a its.toArray := p
    obtain ⟨f0, f1, f2, f3, f4, f5⟩ := hf it (by simp)
    have hl := rv.length
    have hT : s.TypeIs (.ref e) "enumerate" := ⟨_, he, rfl⟩
    unfold pyNext
    refine wpAny_bind (wpAny_attempt (wpAny_callSpecial?_slot (name := Str.ofString "__next__") hT F.slot_enumerate_next
      (wpAny_call_entry F.slot_enumerate_next hT F.entry_enumerate_next ?_ (F.args_enumerate_next_1 _))))
    show wpAny _ _ (field (.ref e) 2 >>= _) _ _ _
    refine wpAny_bind (wpAny_field he rfl (x := .ref it) rfl ?_)
    refine wpAny_bind (wpAny_nextOf_tuple_end (show X.A.in1.handled = none from I.ok.hd hc) hit pt (by simp; omega) fun h' x he' hx' => ?_)
    obtain ⟨o, ho, hc⟩ := hx'
    refine wpAny_bind (wpAny_isInstance (T := "StopIteration") (b := true) ⟨o, ho, hc⟩ isSubtype_stop ?_)
    exact wpAny_pure ⟨rfl, I.turned (t' := s.toks) (fun b o hb q => he' b o hb q) f0 f1 f3 f4 f5⟩
  self := fun A i s Q E st h => let ⟨⟨_, he⟩, _⟩ := st; wpAny_pyIter_enum he h
def iEnu (K : PySem.W.Frag) (ta : TA) : TI := fun σ H R => ta σ H fun vs H1 => ∃ a, vs = [.ref a] ∧ (((∃ xs, SqL K H1 a xs) ∧ R (Ite K a) H1) ∨ ((∃ xs, SqT K H1 a xs) ∧ R (IteT K a) H1))
theorem pi_enu {X : Cx} {e : Expr} {ta : TA} {p pos tpos : Pos} {elts : List Expr} {kk : Nat} (hg : Gl X "enumerate") (hm : X.mg "enumerate" = none) (ha : PA X [e] ta) (hs : starEach [e] X.env = [(false, eval e X.env)] := by rfl) :
    PI X (.Tuple elts kk tpos) (.Call (.Name "enumerate" p) [e] [] pos) (iEnu X.K ta) := by
  refine ⟨fun pins s σ H R I h => ?_⟩
  refine Call_ (ld_blt I hg hm boot_enumerate (PyProof.Rows.callWith_type1 (thn (ha.run pos pins s σ H _ I h) fun us s1 ⟨vs, H1, I1, r1, q1⟩ => ?_) hs rfl))
  obtain ⟨a, ex, q⟩ := q1
  subst ex
  cases r1 with
  | cons r rr =>
    cases rr
    cases r
    have fr : ∀ b ∈ [s1.heap.objs.size + 1, s1.heap.objs.size], s1.heap.objs.size ≤ b := fun b hb => by
      have e' : b = s1.heap.objs.size + 1 ∨ b = s1.heap.objs.size := by simpa using hb
      rcases e' with z | z
      · rw [z]; exact Nat.le_add_right _ _
      · rw [z]; exact Nat.le_refl _
    rcases q with ⟨⟨xs, hq⟩, q⟩ | ⟨⟨xs, hq⟩, q⟩
    · obtain ⟨its, rv, p', hz⟩ := I1.list hq
      refine call_enumerate_list p'.isList fun h' he hit hsz hk => wpAny_pyIter_enum he ?_
      have I2 : Inv X pins σ H1 { s1 with heap := h' } := I1.kept (t' := s1.toks) hk
      exact ⟨s1.heap.objs.size + 1, [s1.heap.objs.size + 1, s1.heap.objs.size], _, _, H1, rfl, I2, turn_enum a (s1.heap.objs.size + 1) s1.heap.objs.size, ⟨⟨.none, he⟩, hit, Nat.succ_ne_self _⟩, fun b hb => I1.fpOk (fr b hb) (I1.hok.fresh (fr b hb)), q⟩
    · obtain ⟨its, rv, p', hz⟩ := I1.tuple hq
      refine call_enumerate_tup (show s1.heap.IsTuple a its.toArray from p') fun h' he hit hsz hk => wpAny_pyIter_enum he ?_
      have I2 : Inv X pins σ H1 { s1 with heap := h' } := I1.kept (t' := s1.toks) hk
      exact ⟨s1.heap.objs.size + 1, [s1.heap.objs.size + 1, s1.heap.objs.size], _, _, H1, rfl, I2, turn_enumT a (s1.heap.objs.size + 1) s1.heap.objs.size, ⟨⟨.none, he⟩, hit, Nat.succ_ne_self _⟩, fun b hb => I1.fpOk (fr b hb) (I1.hok.fresh (fr b hb)), q⟩
section
variable {Γ : Cn} {W : WX} {F H : Hp} {σ : L2.St} {env : En} {ow : Ow} {X : Cx}
def enuI (os : List Opd) : M (List D) := M.bind (runA os) fun as e => match getA false e os as with
  | some [.list xs] => some (.ok (enumL 0 xs) e)
  | some [.tuple xs] => some (.ok (enumL 0 xs) e)
  | _ => none
theorem feeds_enumT {a : Addr} {vs : List V} {ds : List D} (hK : Γ.g.K = X.K) (h : SqT Γ.g.K F a vs) (r : RpA Γ.g.K F vs ds) : Feeds Γ (IteT X.K a) F (enumL 0 ds) := fun F' H' σ env ow R s => by
  have hH : SqT X.K H' a vs := by rw [← hK]; exact same_seqT (s.trans R.sm) h
  rw [enumL_len]
  refine ⟨fun i hi => ?_, ⟨vs, hH, by rw [r.length]; exact Nat.le_refl _⟩, fun i d hd x H2 y => ?_⟩
  · have hv : i < vs.length := by rw [r.length]; exact hi
    exact ⟨vs, vs[i], hH, List.getElem?_eq_getElem hv⟩
  · obtain ⟨T, x', rfl, hT, rfl, hy⟩ := y
    obtain ⟨z, h1, rfl⟩ := enumL_get hd
    obtain ⟨v, g1, g2⟩ := r.get' h1
    have := hy vs hH
    rw [g1] at this
    have ev : v = x' := Option.some.inj this
    subst ev
    obtain ⟨R2, S2⟩ := R.alloc (.tup [.int (i : Nat), v]) hT
    refine ⟨_, R2, S2, .tup (SqT.of upd_same) (.cons ?_ (.cons ((g2.mono s).mono S2.s1) .nil))⟩
    rw [Nat.zero_add]
    exact .int _
theorem i_enu {e : Expr} {o : Opd} {p pos tpos : Pos} {elts : List Expr} {kk : Nat} (hK : Γ.g.K = X.K) (hg : Gl X "enumerate") (hm : X.mg "enumerate" = none) (ha : PA X [e] (tAs Γ W [o])) (hs : starEach [e] X.env = [(false, eval e X.env)] := by rfl) :
    PI X (.Tuple elts kk tpos) (.Call (.Name "enumerate" p) [e] [] pos) (tI Γ W (enuI [o])) :=
  PI.by (pi_enu hg hm ha hs) fun σ H Q ⟨env, F, ow, R0, r, e, q⟩ => by
    rcases M.bind_some e with ⟨as, e1, h1, h2⟩ | ⟨x, e1, h1, h2⟩
    · refine tAs_of _ R0 h1 fun vs H' F' R' S A => ?_
      cases z : getA false e1 [o] as with
      | none => rw [z] at h2; cases h2
      | some ds =>
        rw [z] at h2
        have pr := R'.gets A z
        (try dsimp only at h2)
        split at h2
        · rename_i xs hz
          cases h2
          obtain rfl := Option.some.inj hz
          obtain ⟨y, rfl, h3⟩ := pair1 pr
          rcases h3 with h3 | ⟨hb, _⟩
          · cases h3 with
            | lst h r => exact ⟨_, rfl, Or.inl ⟨⟨_, by rw [← hK]; exact SqL.of (R'.sm _ _ h)⟩, q _ H' F' R' S (feeds_enum hK h r)⟩⟩
          · cases hb
        · rename_i xs hz
          cases h2
          obtain rfl := Option.some.inj hz
          obtain ⟨y, rfl, h3⟩ := pair1 pr
          rcases h3 with h3 | ⟨hb, _⟩
          · cases h3 with
            | tup h r => exact ⟨_, rfl, Or.inr ⟨⟨_, by rw [← hK]; exact same_seqT R'.sm h⟩, q _ H' F' R' S (feeds_enumT hK h r)⟩⟩
          · cases hb
        · cases h2
    · subst h2
      exact tAs_of _ R0 h1 q
end
end DL

set_option maxHeartbeats 1000000
/-! the data layer: xs[::-1] as a new list of its own -/
namespace DL
open PySem PySem.Spec PyProof.Rows L2
section
variable {Γ : Cn} {W : WX} {F H : Hp} {σ : L2.St} {env : En} {ow : Ow} {X : Cx}
def revLM (o : Opd) : M (List D) := M.bind (runA [o]) fun as e => match getA true e [o] as with
  | some [.list xs] => some (.ok xs.reverse e)
  | _ => none
theorem e_revL {a : Expr} {o : Opd} {k : Nat} {p1 p2 p3 pos : Pos} (hK : Γ.g.K = X.K) (ha : PE X a (tO Γ W o)) :
    PE X (.Subscript a (.Slice none none (some (.UnaryOp .USub (.Constant (.int 1) k p1) p2)) p3) pos) (tL Γ W (revLM o)) :=
  PE.by (pe_revA ha po_none) fun σ H Q ⟨env, F, ow, R0, r, e, q⟩ => by
    refine (show tAs Γ W [o] σ H (fun vs H1 => match vs with
      | [x] => rRevA X.K x none H1 Q
      | _ => False) from ?_)
    rcases M.bind_some e with ⟨as, e1, h1, h2⟩ | ⟨x, e1, h1, h2⟩
    · refine tAs_of _ R0 h1 fun vs H' F' R' S A => ?_
      cases z : getA true e1 [o] as with
      | none => rw [z] at h2; cases h2
      | some ds =>
        rw [z] at h2
        have pr := R'.gets A z
        (try dsimp only at h2)
        split at h2
        · rename_i xs hz
          cases h2
          obtain rfl := Option.some.inj hz
          obtain ⟨y, rfl, h3⟩ := pair1 pr
          obtain ⟨a, ys, rfl, q1, t⟩ := rpx_list R'.sm h3
          refine Or.inl ⟨a, ys, rfl, SqL.of q1, rfl, fun l hl => ?_⟩
          obtain ⟨R2, S2⟩ := R'.alloc0 (.lst (DL.revG ys none)) hl
          refine q l (DL.revG ys none) _ F' R2 (S.trans S2) ?_ ⟨upd_same, R'.none_F hl, R'.ow0 hl, R'.h0 hl, ?_⟩
          · cases z : H l with
            | none => rfl
            | some o => exact absurd hl (S.s4 l (by rw [z]; exact fun z => nomatch z))
          · rw [revG_none]; exact t.reverse
        · cases h2
    · subst h2
      exact tAs_of _ R0 h1 q
end
end DL

set_option maxHeartbeats 1000000
/-! the data layer: a list times an int -/
namespace DL
open PySem PySem.Spec PyProof.Rows L2
section
variable {Γ : Cn} {W : WX} {F H : Hp} {σ : L2.St} {env : En} {ow : Ow} {X : Cx}
def mulLD : List D → Option D := fun ds => match ds with
  | [.list xs, .int k] => if 0 ≤ k ∧ k ≤ 1000 ∧ xs.length ≤ 1000 then some (.list (List.replicate k.toNat xs).flatten) else none
  | _ => none
theorem p_mulL : Prim true Γ mulLD (r2 rRep) := by
  intro F H σ env ow vs ds z Q R hv e k
  unfold mulLD at e
  split at e
  · rename_i xs n
    split at e
    · rename_i hn
      cases e
      obtain ⟨u, v, rfl, h1, h2⟩ := pair2 hv
      obtain ⟨l, us, rfl, q1, q3⟩ := rpx_list R.sm h1
      rw [rpx_int h2]
      have ln := q3.length
      refine ⟨l, n, us, rfl, rfl, q1, by omega, by omega, ?_, fun p hp => ?_⟩
      · rw [ln, sizeLine_eq]
        have : n.toNat ≤ 1000 := by omega
        have := Nat.mul_le_mul hn.2.2 this
        omega
      · obtain ⟨R2, S2⟩ := R.alloc (.lst (List.replicate n.toNat us).flatten) hp
        exact k _ _ _ R2 S2 (.lst upd_same ((q3.rep n.toNat).mono S2.s1))
    · cases e
  · cases e
end
end DL

namespace MR
open PySem PySem.Spec PyProof.Rows L2 DL
--@ F_law_e_pen_b545
noncomputable def m_law_e_pen_b545 : M O :=
  retLM (dispM [.ex (listD (scrM 0 60)), .ex (M.ret (.int 0)), .ex (M.ret (.int 0))])
noncomputable def F_law_e_pen_b545 : FS := bodyF 0 m_law_e_pen_b545
--@ F_is_whole_8291
noncomputable def m_is_whole_8291 : M O :=
  retM (andD (opM true (isiD "int") [.sl 0]) (andD (notD (opM true (isiD "bool") [.sl 0])) (opM true geD [.sl 0, .sl 1])))
noncomputable def F_is_whole_8291 : FS := bodyF 0 m_is_whole_8291
--@ F_is_place_f9e3
noncomputable def m_is_place_f9e3 : M O :=
  retM (andD (datM (callV (withDef [.int 0] F_is_whole_8291) [.sl 0])) (opM true leD [.sl 0, .ex (M.ret (.int 1000000000))]))
noncomputable def F_is_place_f9e3 : FS := bodyF 0 m_is_place_f9e3
--@ F_is_stretch_a332
noncomputable def m_is_stretch_a332 : M O :=
  seqM (ifM (orB (notB (boolM (opM true (isiD "tuple") [.sl 0]))) (boolM (opM true neD [.ex (opM true lenD [.sl 0]), .ex (M.ret (.int 2))]))) (retM (M.ret (.bool false))) (nxM))
  (retM (andD (datM (callV F_is_place_f9e3 [.ex (opM true ixD [.sl 0, .ex (M.ret (.int 0))])])) (andD (datM (callV F_is_place_f9e3 [.ex (opM true ixD [.sl 0, .ex (M.ret (.int 1))])])) (opM true leD [.ex (opM true ixD [.sl 0, .ex (M.ret (.int 0))]), .ex (opM true ixD [.sl 0, .ex (M.ret (.int 1))])]))))
noncomputable def F_is_stretch_a332 : FS := bodyF 0 m_is_stretch_a332
--@ F_is_name_1400
noncomputable def m_is_name_1400 : M O :=
  retM (andD (opM true (isiD "str") [.sl 0]) (andD (chainM leD leD (.ex (M.ret (.int 1))) (.ex (opM true lenD [.sl 0])) (.ex (M.ret (.int 8)))) (opM true allD [.ex (listD (compM (signI (varM 0)) [1] (setT 1) (M.ret true) (opM true inSgD [.sl 1, .ex (M.ret (.str "abcdefghijklmnopqrstuvwxyz"))])))])))
noncomputable def F_is_name_1400 : FS := bodyF 1 m_is_name_1400
--@ F_is_colour_4bfc
noncomputable def m_is_colour_4bfc : M O :=
  retM (datM (callV F_is_name_1400 [.sl 0]))
noncomputable def F_is_colour_4bfc : FS := bodyF 0 m_is_colour_4bfc
--@ F_is_stroke_3746
noncomputable def m_is_stroke_3746 : M O :=
  retM (andD (opM true (isiD "tuple") [.sl 0]) (andD (opM true eqD [.ex (opM true lenD [.sl 0]), .ex (M.ret (.int 3))]) (andD (datM (callV F_is_stretch_a332 [.ex (sliceM (.sl 0) none (some (M.ret (.int 2))))])) (datM (callV F_is_colour_4bfc [.ex (opM true ixD [.sl 0, .ex (M.ret (.int 2))])])))))
noncomputable def F_is_stroke_3746 : FS := bodyF 0 m_is_stroke_3746
--@ F_Book___init___0ec0
noncomputable def m_Book___init___0ec0 : M Bool :=
  orB (notB (boolM (opM true (isiD2 "tuple" "list") [.sl 1]))) (notB (boolM (opM true allD [.ex (listD (compM (seqI (varM 1)) [2] (setT 2) (M.ret true) (datM (callV F_is_stroke_3746 [.sl 2]))))])))
noncomputable def F_Book___init___0ec0 : D → Option (List D) := initF m_Book___init___0ec0 1
--@ F_law_e_fresh_f570
noncomputable def m_law_e_fresh_f570 : M O :=
  seqM (asgM (opM true ixD [.sl 0, .ex (M.ret (.int 1))]) (setT 1))
  (seqM (setM 0 (opM true addD [.sl 1, .ex (M.ret (.int 1))]) (M.ret (.int 1)))
  (seqM (asgM (M.ret (.int 0)) (setT 2))
  (seqM (ifM (boolM (opM true neD [.ex (opM true ixD [.sl 0, .ex (M.ret (.int 0))]), .ex (listD (dispM []))])) (asgM (opM true divD [.ex (opM true ixD [.ex (opM true ixD [.sl 0, .ex (M.ret (.int 0))]), .ex (opM true modD [.ex (opM true mulD [.sl 1, .ex (M.ret (.int 7))]), .ex (opM true lenD [.ex (opM true ixD [.sl 0, .ex (M.ret (.int 0))])])])]), .ex (opM true addD [.ex (M.ret (.int 1)), .ex (opM true divD [.sl 1, .ex (opM true lenD [.ex (opM true ixD [.sl 0, .ex (M.ret (.int 0))])])])])]) (setT 2)) (nxM))
  (seqM (ifM (boolM (opM true ltD [.sl 1, .ex (opM true lenD [.ex (opM true ixD [.sl 0, .ex (M.ret (.int 0))])])])) (asgM (opM true ixD [.ex (opM true ixD [.sl 0, .ex (M.ret (.int 0))]), .sl 1]) (setT 2)) (nxM))
  (seqM (ifM (boolM (opM true geD [.sl 2, .ex (opM true powD [.ex (M.ret (.int 10)), .ex (M.ret (.int 18))])])) (retM (varM 2)) (nxM))
  (seqM (asgM (opM true ixD [.ex (listD (dispM [.ex (M.ret (.int 2147483647)), .ex (M.ret (.int 2147483629)), .ex (M.ret (.int 2147483587)), .ex (M.ret (.int 2147483579)), .ex (M.ret (.int 2147483563)), .ex (M.ret (.int 2147483549)), .ex (M.ret (.int 2147483543))])), .ex (opM true modD [.sl 1, .ex (M.ret (.int 7))])]) (setT 3))
  (seqM (asgM (opM true ixD [.ex (listD (dispM [.ex (M.ret (.int 2147483497)), .ex (M.ret (.int 2147483489)), .ex (M.ret (.int 2147483477)), .ex (M.ret (.int 2147483423)), .ex (M.ret (.int 2147483399))])), .ex (opM true modD [.sl 1, .ex (M.ret (.int 5))])]) (setT 4))
  (seqM (asgM (opM true modD [.ex (opM true powD [.ex (opM true addD [.ex (opM true addD [.ex (opM true modD [.sl 2, .sl 3]), .ex (opM true mulD [.ex (M.ret (.int 31)), .sl 1])]), .ex (M.ret (.int 5))]), .ex (M.ret (.int 5))]), .sl 3]) (setT 5))
  (seqM (asgM (opM true modD [.ex (opM true powD [.ex (opM true addD [.ex (opM true addD [.sl 5, .ex (opM true modD [.sl 2, .sl 4])]), .ex (opM true mulD [.sl 1, .sl 1])]), .ex (M.ret (.int 3))]), .sl 4]) (setT 6))
  (retM (opM true addD [.ex (opM true mulD [.ex (opM true addD [.sl 5, .ex (M.ret (.int 3))]), .sl 4]), .sl 6])))))))))))
noncomputable def F_law_e_fresh_f570 : FS := bodyF 6 m_law_e_fresh_f570
--@ F_law_e_take_2efe
noncomputable def m_law_e_take_2efe : M O :=
  seqM (ifM (boolM (opM true ltD [.ex (opM true ixD [.sl 0, .ex (M.ret (.int 2))]), .sl 1])) (setM 0 (datM (callV F_law_e_fresh_f570 [.sl 0])) (M.ret (.int 2))) (nxM))
  (seqM (asgM (opM true modD [.ex (opM true ixD [.sl 0, .ex (M.ret (.int 2))]), .sl 1]) (setT 2))
  (seqM (setM 0 (opM true divD [.ex (opM true ixD [.sl 0, .ex (M.ret (.int 2))]), .sl 1]) (M.ret (.int 2)))
  (retM (varM 2))))
noncomputable def F_law_e_take_2efe : FS := bodyF 1 m_law_e_take_2efe
--@ F_law_e_bends_8798
noncomputable def m_law_e_bends_8798 : M O :=
  seqM (asgM (opM true ixD [.ex (listD (dispM [.ex (M.ret (.int 0)), .ex (M.ret (.int 999999960)), .ex (M.ret (.int 500))])), .ex (datM (callV F_law_e_take_2efe [.sl 0, .ex (M.ret (.int 3))]))]) (setT 1))
  (seqM (asgM (opM true ixD [.ex (listD (dispM [.ex (listD (dispM [])), .ex (listD (dispM [.ex (M.ret (.int 0))])), .ex (listD (dispM [.ex (opM true powD [.ex (M.ret (.int 10)), .ex (M.ret (.int 9))])])), .ex (listD (dispM [.ex (M.ret (.int 0)), .ex (opM true powD [.ex (M.ret (.int 10)), .ex (M.ret (.int 9))])]))])), .ex (datM (callV F_law_e_take_2efe [.sl 0, .ex (M.ret (.int 4))]))]) (setT 2))
  (seqM (forM (rangeI [.ex (opM true addD [.ex (M.ret (.int 4)), .ex (datM (callV F_law_e_take_2efe [.sl 0, .ex (M.ret (.int 5))]))])]) (setT 3) (asgM (opM true addD [.sl 2, .ex (listD (dispM [.ex (ifD (boolM (opM true eqD [.ex (datM (callV F_law_e_take_2efe [.sl 0, .ex (M.ret (.int 6))])), .ex (M.ret (.int 0))])) (datM (callV F_law_e_take_2efe [.sl 0, .ex (opM true addD [.ex (opM true powD [.ex (M.ret (.int 10)), .ex (M.ret (.int 9))]), .ex (M.ret (.int 1))])])) (opM true addD [.sl 1, .ex (datM (callV F_law_e_take_2efe [.sl 0, .ex (M.ret (.int 40))]))]))]))]) (setT 2)))
  (retM (opM true usortD [.sl 2]))))
noncomputable def F_law_e_bends_8798 : FS := bodyF 3 m_law_e_bends_8798
--@ F_law_e_lines_867a
noncomputable def m_law_e_lines_867a : M O :=
  seqM (newM (dispM []) 4)
  (seqM (forM (rangeI [.ex (datM (callV F_law_e_take_2efe [.sl 0, .ex (opM true addD [.sl 3, .ex (M.ret (.int 1))])]))]) (setT 5) (seqM (parM 6 7 [.ex (opM true ixD [.sl 1, .ex (datM (callV F_law_e_take_2efe [.sl 0, .ex (opM true lenD [.sl 1])]))]), .ex (opM true ixD [.sl 1, .ex (datM (callV F_law_e_take_2efe [.sl 0, .ex (opM true lenD [.sl 1])]))])])
  (seqM (parM 8 9 [.ex (opM true min2D [.sl 6, .sl 7]), .ex (opM true max2D [.sl 6, .sl 7])])
  (seqM (ifM (andB (boolM (opM true leD [.ex (opM true addD [.sl 8, .ex (M.ret (.int 1))]), .sl 9])) (boolM (opM true eqD [.ex (datM (callV F_law_e_take_2efe [.sl 0, .ex (M.ret (.int 4))])), .ex (M.ret (.int 0))]))) (asgM (opM true ixD [.ex (listD (dispM [.ex (tupM [.ex (opM true addD [.sl 8, .ex (M.ret (.int 1))]), .sl 9]), .ex (tupM [.sl 8, .ex (opM true subD [.sl 9, .ex (M.ret (.int 1))])]), .ex (tupM [.sl 8, .sl 8])])), .ex (datM (callV F_law_e_take_2efe [.sl 0, .ex (M.ret (.int 3))]))]) (tupT 2 (consT (setT 8) (consT (setT 9) (nilT))))) (nxM))
  (exprM (mutM 4 qAppend [.ex (tupM [.sl 8, .sl 9, .ex (opM true ixD [.sl 2, .ex (datM (callV F_law_e_take_2efe [.sl 0, .ex (opM true lenD [.sl 2])]))])])]))))))
  (retO 4))
noncomputable def F_law_e_lines_867a : FS := bodyF 6 m_law_e_lines_867a
--@ F_law_e_tones_2b05
noncomputable def m_law_e_tones_2b05 : M O :=
  seqM (newM (dispM []) 1)
  (seqM (forM (rangeI [.ex (opM true addD [.ex (M.ret (.int 2)), .ex (datM (callV F_law_e_take_2efe [.sl 0, .ex (M.ret (.int 2))]))])]) (setT 2) (seqM (asgM (listD (compM (rangeI [.ex (opM true ixD [.ex (listD (dispM [.ex (M.ret (.int 1)), .ex (M.ret (.int 3)), .ex (M.ret (.int 8))])), .ex (datM (callV F_law_e_take_2efe [.sl 0, .ex (M.ret (.int 3))]))])]) [4] (setT 4) (M.ret true) (opM true ixD [.ex (M.ret (.str "abcdefghijklmnopqrstuvwxyz")), .ex (datM (callV F_law_e_take_2efe [.sl 0, .ex (M.ret (.int 26))]))]))) (setT 3))
  (exprM (mutM 1 qAppend [.ex (opM true (joinD "") [.sl 3])]))))
  (frzM 1 (retM (ifD (boolM (opM true eqD [.ex (opM true onceD [.sl 1]), .ex (opM true lenD [.sl 1])])) (varM 1) (listD (dispM [.ex (M.ret (.str "red")), .ex (M.ret (.str "blue")), .ex (M.ret (.str "green"))]))))))
noncomputable def F_law_e_tones_2b05 : FS := bodyF 4 m_law_e_tones_2b05
--@ F_Book_take_d1bd
noncomputable def m_Book_take_d1bd : M O :=
  seqM (ifM (orB (notB (boolM (datM (callV (withDef [.int 0] F_is_whole_8291) [.sl 1])))) (boolM (opM true geD [.sl 1, .ex (opRow lenD 0)]))) (noM) (nxM))
  (retM (mutRow 0 qPopAt [.sl 1]))
noncomputable def F_Book_take_d1bd : FS := bodyF 0 m_Book_take_d1bd
--@ F_Book_put_4d53
noncomputable def m_Book_put_4d53 : M O :=
  seqM (ifM (orB (notB (boolM (datM (callV (withDef [.int 0] F_is_whole_8291) [.sl 1])))) (boolM (opM true gtD [.sl 1, .ex (opRow lenD 0)]))) (noM) (nxM))
  (seqM (ifM (notB (boolM (datM (callV F_is_stroke_3746 [.sl 2])))) (noM) (nxM))
  (exprM (mutRow 0 qInsert [.sl 1, .sl 2])))
noncomputable def F_Book_put_4d53 : FS := bodyF 0 m_Book_put_4d53
--@ F_law_e_exchanged_cdac
noncomputable def m_law_e_exchanged_cdac : M O :=
  seqM (asgM (datM (callV F_law_e_take_2efe [.sl 0, .ex (M.ret (.int 3))])) (setT 4))
  (seqM (ifM (andB (boolM (opM true neD [.sl 2, .ex (listD (dispM []))])) (boolM (opM true ltD [.sl 4, .ex (M.ret (.int 2))]))) (seqM (asgM (datM (callV F_law_e_take_2efe [.sl 0, .ex (opM true lenD [.sl 2])])) (setT 5))
  (seqM (exprM (mutM 2 qPopAt [.sl 5]))
  (exprM (datM (callB 1 F_Book_take_d1bd [.sl 5]))))) (nxM))
  (ifM (boolM (opM true neD [.sl 4, .ex (M.ret (.int 1))])) (seqM (asgM (datM (callV F_law_e_take_2efe [.sl 0, .ex (opM true addD [.ex (opM true lenD [.sl 2]), .ex (M.ret (.int 1))])])) (setT 5))
  (seqM (exprM (mutM 2 qInsert [.sl 5, .ex (tupM [.ex (opM true ixD [.sl 3, .ex (M.ret (.int 0))]), .ex (opM true ixD [.sl 3, .ex (datM (callV F_law_e_take_2efe [.sl 0, .ex (opM true lenD [.sl 3])]))]), .ex (M.ret (.str "new"))])]))
  (exprM (datM (callB 1 F_Book_put_4d53 [.sl 5, .ex (opM true ixD [.sl 2, .sl 5])]))))) (nxM)))
noncomputable def F_law_e_exchanged_cdac : FS := bodyF 2 m_law_e_exchanged_cdac
--@ F_Book_strokes_0c4a
noncomputable def m_Book_strokes_0c4a : M O :=
  retM (opRow tupleD 0)
noncomputable def F_Book_strokes_0c4a : FS := bodyF 0 m_Book_strokes_0c4a
--@ F_laid_over_1d5d
noncomputable def m_laid_over_1d5d : M O :=
  seqM (asgM (listD (compM (seqI (varM 0)) [5, 6, 7] (tupT 3 (consT (setT 5) (consT (setT 6) (consT (setT 7) (nilT))))) (boolM (opM true ltD [.sl 5, .sl 1])) (tupM [.sl 5, .ex (opM true min2D [.sl 6, .ex (opM true subD [.sl 1, .ex (M.ret (.int 1))])]), .sl 7]))) (setT 4))
  (seqM (asgM (listD (compM (seqI (varM 0)) [5, 6, 7] (tupT 3 (consT (setT 5) (consT (setT 6) (consT (setT 7) (nilT))))) (boolM (opM true gtD [.sl 6, .sl 2])) (tupM [.ex (opM true max2D [.sl 5, .ex (opM true addD [.sl 2, .ex (M.ret (.int 1))])]), .sl 6, .sl 7]))) (setT 8))
  (retM (opM true addD [.ex (opM true addD [.sl 4, .ex (listD (dispM [.ex (tupM [.sl 1, .sl 2, .sl 3])]))]), .sl 8])))
noncomputable def F_laid_over_1d5d : FS := bodyF 5 m_laid_over_1d5d
--@ F_painted_9069
noncomputable def m_painted_9069 : M O :=
  seqM (asgM (listD (dispM [.ex (tupM [.ex (M.ret (.int 0)), .ex (M.ret (.int 1000000000)), .ex (M.ret .none)])])) (setT 1))
  (seqM (forM (enuI [.sl 0]) (tupT 2 (consT (setT 2) (consT (tupT 3 (consT (setT 3) (consT (setT 4) (consT (setT 5) (nilT))))) (nilT)))) (asgM (datM (callV F_laid_over_1d5d [.sl 1, .sl 3, .sl 4, .sl 2])) (setT 1)))
  (retM (varM 1)))
noncomputable def F_painted_9069 : FS := bodyF 5 m_painted_9069
--@ F_Book___len___5744
noncomputable def m_Book___len___5744 : M O :=
  retM (opRow lenD 0)
noncomputable def F_Book___len___5744 : FS := bodyF 0 m_Book___len___5744
--@ F_is_moment_1ac7
noncomputable def m_is_moment_1ac7 : M O :=
  retM (andD (datM (callV F_is_place_f9e3 [.sl 1])) (opM true leD [.sl 1, .ex (lenB 0 F_Book___len___5744)]))
noncomputable def F_is_moment_1ac7 : FS := bodyF 0 m_is_moment_1ac7
--@ F_done_by_bd12
noncomputable def m_done_by_bd12 : M O :=
  seqM (ifM (boolM (opM true isND [.sl 1, .ex (M.ret .none)])) (retM (datM (callB 0 F_Book_strokes_0c4a []))) (nxM))
  (seqM (ifM (notB (boolM (datM (callV F_is_moment_1ac7 [.sl 0, .sl 1])))) (noM) (nxM))
  (retM (sliceM (.ex (datM (callB 0 F_Book_strokes_0c4a []))) none (some (varM 1)))))
noncomputable def F_done_by_bd12 : FS := bodyF 0 m_done_by_bd12
--@ F_picture_c350
noncomputable def m_picture_c350 : M O :=
  retM (opM true tupleD [.ex (datM (callV F_painted_9069 [.ex (datM (callV F_done_by_bd12 [.sl 0, .sl 1]))]))])
noncomputable def F_picture_c350 : FS := bodyF 0 m_picture_c350
--@ F_law_e_as_one_9db9
noncomputable def m_law_e_as_one_9db9 : M O :=
  seqM (newM (dispM []) 1)
  (seqM (forM (seqI (varM 0)) (tupT 3 (consT (setT 2) (consT (setT 3) (consT (setT 4) (nilT))))) (ifM (andB (boolM (opM true neD [.sl 1, .ex (listD (dispM []))])) (andB (boolM (opM true eqD [.ex (opM true addD [.ex (opM true ixD [.ex (opM true ixD [.sl 1, .ex (opM true negD [.ex (M.ret (.int 1))])]), .ex (M.ret (.int 1))]), .ex (M.ret (.int 1))]), .sl 2])) (boolM (opM true eqD [.ex (opM true ixD [.ex (opM true ixD [.sl 1, .ex (opM true negD [.ex (M.ret (.int 1))])]), .ex (M.ret (.int 2))]), .sl 4])))) (setM 1 (tupM [.ex (opM true ixD [.ex (opM true ixD [.sl 1, .ex (opM true negD [.ex (M.ret (.int 1))])]), .ex (M.ret (.int 0))]), .sl 3, .sl 4]) (opM true negD [.ex (M.ret (.int 1))])) (exprM (mutM 1 qAppend [.ex (tupM [.sl 2, .sl 3, .sl 4])]))))
  (retM (opM true tupleD [.sl 1])))
noncomputable def F_law_e_as_one_9db9 : FS := bodyF 4 m_law_e_as_one_9db9
--@ F_law_e_cells_22ca
noncomputable def m_law_e_cells_22ca : M O :=
  seqM (asgM (listD (dispM [.ex (M.ret (.int 0))])) (setT 1))
  (seqM (forM (seqI (varM 0)) (setT 2) (asgM (opM true addD [.sl 1, .ex (listD (dispM [.ex (opM true ixD [.sl 2, .ex (M.ret (.int 0))]), .ex (opM true addD [.ex (opM true ixD [.sl 2, .ex (M.ret (.int 1))]), .ex (M.ret (.int 1))])]))]) (setT 1)))
  (seqM (asgM (opM true addD [.ex (opM true usortD [.ex (listD (compM (seqI (varM 1)) [3] (setT 3) (boolM (opM true leD [.sl 3, .ex (opM true powD [.ex (M.ret (.int 10)), .ex (M.ret (.int 9))])])) (varM 3)))]), .ex (listD (dispM [.ex (opM true addD [.ex (opM true powD [.ex (M.ret (.int 10)), .ex (M.ret (.int 9))]), .ex (M.ret (.int 1))])]))]) (setT 1))
  (retLM (compM (rangeI [.ex (opM true subD [.ex (opM true lenD [.sl 1]), .ex (M.ret (.int 1))])]) [4] (setT 4) (M.ret true) (tupM [.ex (opM true ixD [.sl 1, .sl 4]), .ex (opM true subD [.ex (opM true ixD [.sl 1, .ex (opM true addD [.sl 4, .ex (M.ret (.int 1))])]), .ex (M.ret (.int 1))])])))))
noncomputable def F_law_e_cells_22ca : FS := bodyF 4 m_law_e_cells_22ca
--@ F_law_e_at_2cf3
noncomputable def m_law_e_at_2cf3 : M O :=
  seqM (asgM (M.ret .none) (setT 2))
  (seqM (forM (enuI [.sl 0]) (tupT 2 (consT (setT 3) (consT (setT 4) (nilT)))) (ifM (boolM (chainM leD leD (.ex (opM true ixD [.sl 4, .ex (M.ret (.int 0))])) (.sl 1) (.ex (opM true ixD [.sl 4, .ex (M.ret (.int 1))])))) (asgM (varM 3) (setT 2)) (nxM)))
  (retM (varM 2)))
noncomputable def F_law_e_at_2cf3 : FS := bodyF 3 m_law_e_at_2cf3
--@ F_law_e_due_d123
noncomputable def m_law_e_due_d123 : M O :=
  retM (datM (callV F_law_e_as_one_9db9 [.ex (listD (compM (seqI (listD (lstM (callV F_law_e_cells_22ca [.sl 0])))) [1] (setT 1) (M.ret true) (opM true addD [.sl 1, .ex (tupM [.ex (datM (callV F_law_e_at_2cf3 [.sl 0, .ex (opM true ixD [.sl 1, .ex (M.ret (.int 0))])]))])])))]))
noncomputable def F_law_e_due_d123 : FS := bodyF 1 m_law_e_due_d123
--@ F_law_e_right_52d8
noncomputable def m_law_e_right_52d8 : M O :=
  seqM (forM (rangeI [.ex (opM true addD [.ex (opM true lenD [.sl 1]), .ex (M.ret (.int 1))])]) (setT 2) (ifM (boolM (opM true neD [.ex (opM true reprD [.ex (datM (callV F_picture_c350 [.sl 0, .sl 2]))]), .ex (opM true reprD [.ex (datM (callV F_law_e_due_d123 [.ex (sliceM (.sl 1) none (some (varM 2)))]))])])) (retM (M.ret (.bool false))) (nxM)))
  (seqM (ifM (boolM (opM true neD [.ex (listD (dispM [.ex (opM true reprD [.ex (datM (callV (withDef [.none] F_picture_c350) [.sl 0]))]), .ex (opM true reprD [.ex (datM (callV F_picture_c350 [.sl 0, .ex (M.ret .none)]))])])), .ex (opM true mulLD [.ex (listD (dispM [.ex (opM true reprD [.ex (datM (callV F_law_e_due_d123 [.sl 1]))])])), .ex (M.ret (.int 2))])])) (retM (M.ret (.bool false))) (nxM))
  (retM (opM true eqD [.ex (opM true reprD [.ex (datM (callB 0 F_Book_strokes_0c4a []))]), .ex (opM true reprD [.ex (opM true tupleD [.sl 1])])])))
noncomputable def F_law_e_right_52d8 : FS := bodyF 1 m_law_e_right_52d8
--@ F_law_682b
noncomputable def m_law_682b : M O :=
  seqM (newM (lstM (callV F_law_e_pen_b545 [.sl 0])) 1)
  (seqM (forM (rangeI [.ex (M.ret (.int 4))]) (setT 2) (seqM (asgM (datM (callV F_law_e_bends_8798 [.sl 1])) (setT 3))
  (seqM (frzM 4 (newM (lstM (callV F_law_e_lines_867a [.sl 1, .sl 3, .ex (datM (callV F_law_e_tones_2b05 [.sl 1])), .ex (M.ret (.int 8))])) 4))
  (seqM (dropB 5 (newB (makeB F_Book___init___0ec0 (.ex (opM true tupleD [.sl 4]))) 5))
  (forM (rangeI [.ex (M.ret (.int 3))]) (setT 6) (seqM (ifM (notB (boolM (datM (callL F_law_e_right_52d8 5 [.sl 4])))) (retM (M.ret (.bool false))) (nxM))
  (exprM (datM (callV F_law_e_exchanged_cdac [.sl 1, .sl 5, .sl 4, .sl 3])))))))))
  (retM (M.ret (.bool true))))
noncomputable def F_law_682b : FS := bodyF 6 m_law_682b
end MR
/-! rows of stretches: plain mathematics -/
namespace QA
def inS (S : List (Int × Int)) (x : Int) : Prop := ∃ p ∈ S, p.1 ≤ x ∧ x ≤ p.2
structure Row (R : List (Int × Int)) : Prop where
  up : R.Pairwise fun p q => p.2 + 1 < q.1
  ok : ∀ p ∈ R, p.1 ≤ p.2
theorem Row.tail {p : Int × Int} {R : List (Int × Int)} (h : Row (p :: R)) : Row R := ⟨(List.pairwise_cons.mp h.up).2, fun q hq => h.ok q (List.mem_cons_of_mem _ hq)⟩
theorem Row.above {p : Int × Int} {R : List (Int × Int)} (h : Row (p :: R)) {x : Int} (hx : inS R x) : p.2 + 1 < x := by
  obtain ⟨q, hq, h1, h2⟩ := hx
  have := (List.pairwise_cons.mp h.up).1 q hq
  omega
theorem Row.least {p : Int × Int} {R : List (Int × Int)} (h : Row (p :: R)) {x : Int} (hx : inS (p :: R) x) : p.1 ≤ x := by
  obtain ⟨q, hq, h1, h2⟩ := hx
  rcases List.mem_cons.mp hq with e | hq
  · rw [← e]; exact h1
  · have := h.above ⟨q, hq, h1, h2⟩
    have := h.ok p (List.mem_cons_self ..)
    omega
theorem inS_cons {p : Int × Int} {R : List (Int × Int)} {x : Int} : inS (p :: R) x ↔ (p.1 ≤ x ∧ x ≤ p.2) ∨ inS R x := by
  constructor
  · rintro ⟨q, hq, h⟩
    rcases List.mem_cons.mp hq with e | hq
    · rw [← e]; exact Or.inl h
    · exact Or.inr ⟨q, hq, h⟩
  · rintro (h | ⟨q, hq, h⟩)
    · exact ⟨p, List.mem_cons_self .., h⟩
    · exact ⟨q, List.mem_cons_of_mem _ hq, h⟩
theorem inS_app {A B : List (Int × Int)} {x : Int} : inS (A ++ B) x ↔ inS A x ∨ inS B x := by
  constructor
  · rintro ⟨q, hq, h⟩
    rcases List.mem_append.mp hq with hq | hq
    · exact Or.inl ⟨q, hq, h⟩
    · exact Or.inr ⟨q, hq, h⟩
  · rintro (⟨q, hq, h⟩ | ⟨q, hq, h⟩)
    · exact ⟨q, List.mem_append_left _ hq, h⟩
    · exact ⟨q, List.mem_append_right _ hq, h⟩
theorem inS_one {p : Int × Int} {x : Int} : inS [p] x ↔ (p.1 ≤ x ∧ x ≤ p.2) := by
  rw [inS_cons]
  constructor
  · rintro (h | ⟨q, hq, _⟩)
    · exact h
    · cases hq
  · exact Or.inl
theorem inS_nil {x : Int} : ¬ inS [] x := fun ⟨_, h, _⟩ => nomatch h
theorem inS_perm {A B : List (Int × Int)} (h : A.Perm B) {x : Int} : inS A x ↔ inS B x :=
  ⟨fun ⟨q, hq, z⟩ => ⟨q, h.mem_iff.mp hq, z⟩, fun ⟨q, hq, z⟩ => ⟨q, h.mem_iff.mpr hq, z⟩⟩
theorem row_unique : ∀ {R R' : List (Int × Int)}, Row R → Row R' → (∀ x, inS R x ↔ inS R' x) → R = R'
  | [], [], _, _, _ => rfl
  | [], p :: R', _, h', h => absurd ((h p.1).mpr (inS_cons.mpr (Or.inl ⟨Int.le_refl _, h'.ok p (List.mem_cons_self ..)⟩))) inS_nil
  | p :: R, [], h0, _, h => absurd ((h p.1).mp (inS_cons.mpr (Or.inl ⟨Int.le_refl _, h0.ok p (List.mem_cons_self ..)⟩))) inS_nil
  | p :: R, q :: R', h0, h', h => by
    have kp := h0.ok p (List.mem_cons_self ..)
    have kq := h'.ok q (List.mem_cons_self ..)
    have e1 : p.1 = q.1 := by
      have a := h'.least ((h p.1).mp (inS_cons.mpr (Or.inl ⟨Int.le_refl _, kp⟩)))
      have b := h0.least ((h q.1).mpr (inS_cons.mpr (Or.inl ⟨Int.le_refl _, kq⟩)))
      omega
    have e2 : p.2 = q.2 := by
      rcases Int.lt_trichotomy p.2 q.2 with l | e | l
      · exfalso
        rcases inS_cons.mp ((h (p.2 + 1)).mpr (inS_cons.mpr (Or.inl ⟨by omega, by omega⟩))) with z | z
        · omega
        · have := h0.above z; omega
      · exact e
      · exfalso
        rcases inS_cons.mp ((h (q.2 + 1)).mp (inS_cons.mpr (Or.inl ⟨by omega, by omega⟩))) with z | z
        · omega
        · have := h'.above z; omega
    have et : R = R' := row_unique h0.tail h'.tail fun x => ⟨fun z => by
        have a := h0.above z
        rcases inS_cons.mp ((h x).mp (inS_cons.mpr (Or.inr z))) with w | w
        · omega
        · exact w, fun z => by
        have a := h'.above z
        rcases inS_cons.mp ((h x).mpr (inS_cons.mpr (Or.inr z))) with w | w
        · omega
        · exact w⟩
    rw [et, Prod.ext e1 e2]
theorem Row.app {R : List (Int × Int)} {p : Int × Int} (h : Row R) (hp : p.1 ≤ p.2) (hl : ∀ q ∈ R, q.2 + 1 < p.1) : Row (R ++ [p]) := by
  refine ⟨?_, fun q hq => ?_⟩
  · rw [List.pairwise_append]
    refine ⟨h.up, List.pairwise_singleton _ _, fun a ha b hb => ?_⟩
    rw [List.mem_singleton.mp hb]
    exact hl a ha
  · rcases List.mem_append.mp hq with z | z
    · exact h.ok q z
    · rw [List.mem_singleton.mp z]; exact hp
theorem Row.front {R : List (Int × Int)} {p : Int × Int} (h : Row (R ++ [p])) : Row R ∧ (∀ q ∈ R, q.2 + 1 < p.1) ∧ p.1 ≤ p.2 := by
  obtain ⟨u, k⟩ := h
  rw [List.pairwise_append] at u
  exact ⟨⟨u.1, fun q hq => k q (List.mem_append_left _ hq)⟩, fun q hq => u.2.2 q hq p (List.mem_singleton.mpr rfl), k p (List.mem_append_right _ (List.mem_singleton.mpr rfl))⟩
theorem Row.last {R : List (Int × Int)} {p : Int × Int} (h : Row (R ++ [p])) {b : Int} (hb : p.1 ≤ b) : Row (R ++ [(p.1, b)]) := by
  obtain ⟨a, c, d⟩ := h.front
  exact a.app hb c
/-! ### joined -/
def jstep (F : List (Int × Int)) (p : Int × Int) : List (Int × Int) := match F.getLast? with
  | some q => if p.1 ≤ q.2 + 1 then F.dropLast ++ [(q.1, max q.2 p.2)] else F ++ [p]
  | none => [p]
theorem jstep_ok {F : List (Int × Int)} {p : Int × Int} (h : Row F) (hp : p.1 ≤ p.2) (hl : ∀ q ∈ F, q.1 ≤ p.1) : Row (jstep F p) ∧ (∀ x, inS (jstep F p) x ↔ inS F x ∨ (p.1 ≤ x ∧ x ≤ p.2)) ∧ ∀ q ∈ jstep F p, q.1 ≤ p.1 := by
  unfold jstep
  cases z : F.getLast? with
  | none =>
    rw [List.getLast?_eq_none_iff] at z
    subst z
    refine ⟨⟨List.pairwise_singleton _ _, fun q hq => by rw [List.mem_singleton.mp hq]; exact hp⟩, fun x => ?_, fun q hq => by rw [List.mem_singleton.mp hq]; exact Int.le_refl _⟩
    rw [inS_one]
    exact ⟨Or.inr, fun h => h.elim (fun z => absurd z inS_nil) id⟩
  | some q =>
    obtain ⟨G, rfl⟩ : ∃ G, F = G ++ [q] := by
      rw [List.getLast?_eq_some_iff] at z
      exact z
    obtain ⟨hG, hq, kq⟩ := h.front
    have lq := hl q (List.mem_append_right _ (List.mem_singleton.mpr rfl))
    dsimp only
    by_cases c : p.1 ≤ q.2 + 1
    · rw [if_pos c, List.dropLast_concat]
      refine ⟨h.last (by omega), fun x => ?_, fun r hr => ?_⟩
      · rw [inS_app, inS_app, inS_one, inS_one]
        dsimp only
        constructor
        · rintro (z | ⟨z1, z2⟩)
          · exact Or.inl (Or.inl z)
          · by_cases w : x ≤ q.2
            · exact Or.inl (Or.inr ⟨z1, w⟩)
            · exact Or.inr ⟨by omega, by omega⟩
        · rintro ((z | ⟨z1, z2⟩) | ⟨z1, z2⟩)
          · exact Or.inl z
          · exact Or.inr ⟨z1, by omega⟩
          · exact Or.inr ⟨by omega, by omega⟩
      · rcases List.mem_append.mp hr with w | w
        · exact hl r (List.mem_append_left _ w)
        · rw [List.mem_singleton.mp w]; exact lq
    · rw [if_neg c]
      refine ⟨h.app hp fun r hr => ?_, fun x => ?_, fun r hr => ?_⟩
      · rcases List.mem_append.mp hr with w | w
        · have := hq r w; omega
        · rw [List.mem_singleton.mp w]; omega
      · rw [inS_app, inS_one]
      · rcases List.mem_append.mp hr with w | w
        · exact hl r w
        · rw [List.mem_singleton.mp w]; exact Int.le_refl _
theorem jfold_ok : ∀ {T F : List (Int × Int)}, Row F → (∀ p ∈ T, p.1 ≤ p.2) → T.Pairwise (fun p q => p.1 ≤ q.1) → (∀ p ∈ T, ∀ q ∈ F, q.1 ≤ p.1) → Row (T.foldl jstep F) ∧ ∀ x, inS (T.foldl jstep F) x ↔ inS F x ∨ inS T x
  | [], F, h, _, _, _ => ⟨h, fun x => ⟨Or.inl, fun z => z.elim id fun z => absurd z inS_nil⟩⟩
  | p :: T, F, h, k, u, l => by
    obtain ⟨a, b, c⟩ := jstep_ok h (k p (List.mem_cons_self ..)) (l p (List.mem_cons_self ..))
    rw [List.pairwise_cons] at u
    obtain ⟨d, e⟩ := jfold_ok (T := T) a (fun q hq => k q (List.mem_cons_of_mem _ hq)) u.2 fun t ht q hq => Int.le_trans (c q hq) (u.1 t ht)
    refine ⟨d, fun x => ?_⟩
    rw [List.foldl_cons, e, b, inS_cons, or_assoc]
/-! ### the law's rows -/
structure Cells (cs : List (Int × Int)) : Prop where
  ok : ∀ (j : Nat) c, cs[j]? = some c → c.1 ≤ c.2
  nx : ∀ (j : Nat) c d, cs[j]? = some c → cs[j + 1]? = some d → d.1 = c.2 + 1
def rstep (cs : List (Int × Int)) (fs : List Bool) (F : List (Int × Int)) (k : Nat) : List (Int × Int) := match fs[k]?, cs[k]? with
  | some true, some c => if 0 < k ∧ fs[k - 1]? = some true then (match F.getLast? with
      | some q => F.dropLast ++ [(q.1, c.2)]
      | none => F) else F ++ [c]
  | _, _ => F
structure RInv (cs : List (Int × Int)) (fs : List Bool) (k : Nat) (F : List (Int × Int)) : Prop where
  row : Row F
  mem : ∀ x, inS F x ↔ ∃ (j : Nat) (c : Int × Int), j < k ∧ fs[j]? = some true ∧ cs[j]? = some c ∧ c.1 ≤ x ∧ x ≤ c.2
  z : k = 0 → F = []
  t : ∀ c, 0 < k → fs[k - 1]? = some true → cs[k - 1]? = some c → ∃ G q, F = G ++ [q] ∧ q.2 = c.2
  f : ∀ c, 0 < k → fs[k - 1]? = some false → cs[k - 1]? = some c → ∀ q ∈ F, q.2 < c.1
theorem RInv.start {cs : List (Int × Int)} {fs : List Bool} : RInv cs fs 0 [] :=
  ⟨⟨List.Pairwise.nil, fun _ h => nomatch h⟩, fun x => ⟨fun z => absurd z inS_nil, fun ⟨_, _, h, _⟩ => absurd h (Nat.not_lt_zero _)⟩, fun _ => rfl, fun _ h => absurd h (Nat.lt_irrefl 0), fun _ h => absurd h (Nat.lt_irrefl 0)⟩
theorem RInv.next {cs : List (Int × Int)} {fs : List Bool} {k : Nat} {F : List (Int × Int)} (C : Cells cs) (I : RInv cs fs k F) (hl : fs.length = cs.length) (hk : k < cs.length) : RInv cs fs (k + 1) (rstep cs fs F k) := by
  obtain ⟨c, hc⟩ : ∃ c, cs[k]? = some c := ⟨_, List.getElem?_eq_getElem hk⟩
  obtain ⟨b, hb⟩ : ∃ b, fs[k]? = some b := ⟨_, List.getElem?_eq_getElem (by omega)⟩
  have okc := C.ok k c hc
  -- what lies before
  have low : ∀ q ∈ F, q.2 < c.1 := fun q hq => by
    cases k with
    | zero => rw [I.z rfl] at hq; cases hq
    | succ k =>
      obtain ⟨d, hd⟩ : ∃ d, cs[k]? = some d := ⟨_, List.getElem?_eq_getElem (by omega)⟩
      obtain ⟨b', hb'⟩ : ∃ b, fs[k]? = some b := ⟨_, List.getElem?_eq_getElem (by omega)⟩
      have e := C.nx k d c hd hc
      have okd := C.ok k d hd
      cases b' with
      | true =>
        obtain ⟨G, r, e1, e2⟩ := I.t d (Nat.succ_pos k) hb' hd
        subst e1
        obtain ⟨_, g1, g2⟩ := I.row.front
        rcases List.mem_append.mp hq with w | w
        · have := g1 q w; omega
        · rw [List.mem_singleton.mp w]; omega
      | false =>
        have := I.f d (Nat.succ_pos k) hb' hd q hq
        omega
  have memS : ∀ x, (∃ (j : Nat) (d : Int × Int), j < k + 1 ∧ fs[j]? = some true ∧ cs[j]? = some d ∧ d.1 ≤ x ∧ x ≤ d.2) ↔ inS F x ∨ (b = true ∧ c.1 ≤ x ∧ x ≤ c.2) := fun x => by
    rw [I.mem]
    constructor
    · rintro ⟨j, d, h1, h2, h3, h4⟩
      by_cases e : j = k
      · subst e
        rw [hc] at h3; cases h3
        rw [hb] at h2
        exact Or.inr ⟨Option.some.inj h2, h4⟩
      · exact Or.inl ⟨j, d, by omega, h2, h3, h4⟩
    · rintro (⟨j, d, h1, h2⟩ | ⟨rfl, h⟩)
      · exact ⟨j, d, by omega, h2⟩
      · exact ⟨k, c, Nat.lt_succ_self k, hb, hc, h⟩
  unfold rstep
  rw [hb, hc]
  cases b with
  | false =>
    refine ⟨I.row, fun x => ?_, fun h => absurd h (Nat.succ_ne_zero k), fun d _ h => ?_, fun d _ _ h => ?_⟩
    · rw [memS]; exact ⟨Or.inl, fun z => z.elim id fun w => nomatch w.1⟩
    · rw [Nat.add_sub_cancel, hb] at h; cases h
    · rw [Nat.add_sub_cancel, hc] at h; cases h; exact low
  | true =>
    dsimp only
    by_cases g : 0 < k ∧ fs[k - 1]? = some true
    · rw [if_pos g]
      obtain ⟨d, hd⟩ : ∃ d, cs[k - 1]? = some d := ⟨_, List.getElem?_eq_getElem (by omega)⟩
      obtain ⟨G, q, rfl, e2⟩ := I.t d g.1 g.2 hd
      have e := C.nx (k - 1) d c hd (by rw [Nat.sub_add_cancel g.1]; exact hc)
      obtain ⟨_, g1, g2⟩ := I.row.front
      have gl : (G ++ [q]).getLast? = some q := List.getLast?_concat ..
      rw [gl]
      dsimp only
      rw [List.dropLast_concat]
      refine ⟨I.row.last (by omega), fun x => ?_, fun h => absurd h (Nat.succ_ne_zero k), fun d' _ _ h => ?_, fun d' _ h => ?_⟩
      · rw [memS, inS_app, inS_app, inS_one, inS_one]
        dsimp only
        constructor
        · rintro (z | ⟨z1, z2⟩)
          · exact Or.inl (Or.inl z)
          · by_cases w : x ≤ q.2
            · exact Or.inl (Or.inr ⟨z1, w⟩)
            · exact Or.inr ⟨rfl, by omega, z2⟩
        · rintro ((z | ⟨z1, z2⟩) | ⟨_, z1, z2⟩)
          · exact Or.inl z
          · exact Or.inr ⟨z1, by omega⟩
          · exact Or.inr ⟨by omega, z2⟩
      · rw [Nat.add_sub_cancel, hc] at h; cases h
        exact ⟨G, _, rfl, rfl⟩
      · rw [Nat.add_sub_cancel, hb] at h; cases h
    · rw [if_neg g]
      have low2 : ∀ q ∈ F, q.2 + 1 < c.1 := fun q hq => by
        cases k with
        | zero => rw [I.z rfl] at hq; cases hq
        | succ k =>
          obtain ⟨d, hd⟩ : ∃ d, cs[k]? = some d := ⟨_, List.getElem?_eq_getElem (by omega)⟩
          obtain ⟨b', hb'⟩ : ∃ b, fs[k]? = some b := ⟨_, List.getElem?_eq_getElem (by omega)⟩
          have e := C.nx k d c hd hc
          have okd := C.ok k d hd
          cases b' with
          | true => exact absurd ⟨Nat.succ_pos k, hb'⟩ g
          | false => have := I.f d (Nat.succ_pos k) hb' hd q hq; omega
      refine ⟨I.row.app okc low2, fun x => ?_, fun h => absurd h (Nat.succ_ne_zero k), fun d' _ _ h => ?_, fun d' _ h => ?_⟩
      · rw [memS, inS_app, inS_one]
        constructor
        · rintro (z | z)
          · exact Or.inl z
          · exact Or.inr ⟨rfl, z⟩
        · rintro (z | ⟨_, z⟩)
          · exact Or.inl z
          · exact Or.inr z
      · rw [Nat.add_sub_cancel, hc] at h; cases h
        exact ⟨F, _, rfl, rfl⟩
      · rw [Nat.add_sub_cancel, hb] at h; cases h
end QA

/-! cells between bends: plain mathematics -/
namespace QA
def top : Int := 1000000000
def cellsOf : List Int → List (Int × Int)
  | [] => []
  | [a] => [(a, top)]
  | a :: b :: r => (a, b - 1) :: cellsOf (b :: r)
theorem cells_len : ∀ ns : List Int, (cellsOf ns).length = ns.length
  | [] => rfl
  | [a] => rfl
  | a :: b :: r => by
    show (cellsOf (b :: r)).length + 1 = _
    rw [cells_len (b :: r)]; rfl
theorem cells_zip : ∀ ns : List Int, ns ≠ [] → ns.zip ((ns.drop 1).map (fun x => x - 1) ++ [top]) = cellsOf ns
  | [], h => absurd rfl h
  | [a], _ => rfl
  | a :: b :: r, _ => by
    show (a, b - 1) :: (b :: r).zip (((b :: r).drop 1).map (fun x => x - 1) ++ [top]) = _
    rw [cells_zip (b :: r) (fun h => nomatch h)]; rfl
theorem cells_head {a : Int} {r : List Int} : ∃ t, cellsOf (a :: r) = t ∧ ∃ c cs, t = c :: cs ∧ c.1 = a := by
  cases r with
  | nil => exact ⟨_, rfl, _, _, rfl, rfl⟩
  | cons b r => exact ⟨_, rfl, _, _, rfl, rfl⟩
structure Bends (ns : List Int) : Prop where
  up : ns.Pairwise (· < ·)
  le : ∀ x ∈ ns, x ≤ top
theorem Bends.tail {a : Int} {r : List Int} (h : Bends (a :: r)) : Bends r := ⟨(List.pairwise_cons.mp h.up).2, fun x hx => h.le x (List.mem_cons_of_mem _ hx)⟩
theorem cells_ok : ∀ {ns : List Int}, Bends ns → Cells (cellsOf ns)
  | [], _ => ⟨fun j c h => by simp [cellsOf] at h, fun j c d h => by simp [cellsOf] at h⟩
  | [a], h => ⟨fun j c e => by
      have l := h.le a (List.mem_cons_self ..)
      cases j with
      | zero => cases e; exact l
      | succ j => simp [cellsOf] at e, fun j c d e f => by simp [cellsOf] at f⟩
  | a :: b :: r, h => by
    have C := cells_ok h.tail
    have lt : a < b := (List.pairwise_cons.mp h.up).1 b (List.mem_cons_self ..)
    refine ⟨fun j c e => ?_, fun j c d e f => ?_⟩
    · cases j with
      | zero => cases e; show a ≤ b - 1; omega
      | succ j => exact C.ok j c e
    · cases j with
      | zero =>
        cases e
        obtain ⟨t, e1, c, cs, e2, e3⟩ := cells_head (a := b) (r := r)
        have f' : (cellsOf (b :: r))[0]? = some d := f
        rw [e1, e2] at f'
        have ed : c = d := Option.some.inj f'
        show d.1 = b - 1 + 1
        rw [← ed, e3]; omega
      | succ j => exact C.nx j c d e f
/-- a place lies in a cell -/
theorem cells_cover : ∀ {a : Int} {r : List Int} {x : Int}, a ≤ x → x ≤ top → ∃ c ∈ cellsOf (a :: r), c.1 ≤ x ∧ x ≤ c.2
  | a, [], x, h1, h2 => ⟨(a, top), List.mem_singleton.mpr rfl, h1, h2⟩
  | a, b :: r, x, h1, h2 => by
    by_cases h : x < b
    · exact ⟨(a, b - 1), List.mem_cons_self .., h1, by show x ≤ b - 1; omega⟩
    · obtain ⟨c, hc, z⟩ := cells_cover (a := b) (r := r) (x := x) (by omega) h2
      exact ⟨c, List.mem_cons_of_mem _ hc, z⟩
/-- no bend within a cell -/
theorem cells_in : ∀ {ns : List Int}, Bends ns → ∀ c ∈ cellsOf ns, c.1 ∈ ns ∧ c.2 ≤ top ∧ ∀ y ∈ ns, y ≤ c.1 ∨ c.2 < y
  | [], _, c, h => nomatch h
  | [a], _, c, h => by
    rw [List.mem_singleton.mp h]
    exact ⟨List.mem_singleton.mpr rfl, Int.le_refl _, fun y hy => Or.inl (by rw [List.mem_singleton.mp hy]; exact Int.le_refl _)⟩
  | a :: b :: r, hb, c, h => by
    have p1 := List.pairwise_cons.mp hb.up
    have p2 := List.pairwise_cons.mp p1.2
    rcases List.mem_cons.mp h with e | h
    · subst e
      refine ⟨List.mem_cons_self .., ?_, fun y hy => ?_⟩
      · have := hb.le b (List.mem_cons_of_mem _ (List.mem_cons_self ..))
        show b - 1 ≤ top; omega
      · rcases List.mem_cons.mp hy with e | hy
        · exact Or.inl (by rw [e]; exact Int.le_refl _)
        · right
          show b - 1 < y
          rcases List.mem_cons.mp hy with e | hy
          · omega
          · have := p2.1 y hy; omega
    · obtain ⟨h1, h2, h3⟩ := cells_in hb.tail c h
      refine ⟨List.mem_cons_of_mem _ h1, h2, fun y hy => ?_⟩
      rcases List.mem_cons.mp hy with e | hy
      · left
        have := p1.1 c.1 h1
        omega
      · exact h3 y hy
/-- stretches on the wall -/
def Good (S : List (Int × Int)) : Prop := ∀ p ∈ S, 0 ≤ p.1 ∧ p.1 ≤ p.2 ∧ p.2 ≤ top
/-- the ends of S are among the bends -/
def Ends (S : List (Int × Int)) (ns : List Int) : Prop := ∀ p ∈ S, p.1 ∈ ns ∧ (p.2 < top → p.2 + 1 ∈ ns)
theorem flat {S : List (Int × Int)} {ns : List Int} (hb : Bends ns) (he : Ends S ns) {c : Int × Int} (hc : c ∈ cellsOf ns) {x : Int} (h1 : c.1 ≤ x) (h2 : x ≤ c.2) : inS S x ↔ inS S c.1 := by
  obtain ⟨i1, i2, i3⟩ := cells_in hb c hc
  constructor
  · rintro ⟨p, hp, q1, q2⟩
    obtain ⟨e1, _⟩ := he p hp
    refine ⟨p, hp, ?_, by omega⟩
    rcases i3 p.1 e1 with z | z
    · exact z
    · omega
  · rintro ⟨p, hp, q1, q2⟩
    refine ⟨p, hp, by omega, ?_⟩
    by_cases l : p.2 < top
    · rcases i3 _ ((he p hp).2 l) with z | z
      · omega
      · omega
    · omega
/-- the law's row: the places of the cells that fit -/
theorem rowed_mem {S : List (Int × Int)} {r : List Int} {F : List (Int × Int)} {fs : List Bool} (hb : Bends (0 :: r)) (hg : ∀ x, inS S x → 0 ≤ x ∧ x ≤ top) (hf : ∀ c ∈ cellsOf (0 :: r), ∀ x, c.1 ≤ x → x ≤ c.2 → (inS S x ↔ inS S c.1))
    (hfs : ∀ (j : Nat) c, (cellsOf (0 :: r))[j]? = some c → (fs[j]? = some true ↔ inS S c.1)) (I : RInv (cellsOf (0 :: r)) fs (cellsOf (0 :: r)).length F) (x : Int) : inS F x ↔ inS S x := by
  rw [I.mem]
  constructor
  · rintro ⟨j, c, h1, h2, h3, h4, h5⟩
    exact (hf c (List.mem_of_getElem? h3) x h4 h5).mpr ((hfs j c h3).mp h2)
  · intro h
    obtain ⟨g1, g2⟩ := hg x h
    obtain ⟨c, hc, z1, z2⟩ := cells_cover (r := r) g1 g2
    obtain ⟨j, hj⟩ := List.mem_iff_getElem?.mp hc
    exact ⟨j, c, (List.getElem?_eq_some_iff.mp hj).1, (hfs j c hj).mpr ((hf c hc x z1 z2).mp h), hj, z1, z2⟩
theorem good_in {S : List (Int × Int)} (h : Good S) {x : Int} (hx : inS S x) : 0 ≤ x ∧ x ≤ top := by
  obtain ⟨p, hp, h1, h2⟩ := hx
  have := h p hp
  omega
end QA

/-! data of the laws: what may be shown, compared, sorted -/
namespace QA
open PySem PySem.Spec PyProof.Rows DL
theorem sk_of (s : String) : PyData.strOk (Str.ofString s) = true := by
  unfold PyData.strOk
  rw [Array.all_eq_true]
  intro i hi
  have hm : (Str.ofString s).cps[i] ∈ (Str.ofString s).cps.toList := by simp
  have : (Str.ofString s).cps.toList = s.toList.map Char.toNat := by
    rw [Str.ofString_eq_toList]
  rw [this] at hm
  obtain ⟨c, _, hc⟩ := List.mem_map.mp hm
  rw [← hc]
  have := c.valid
  refine decide_eq_true ?_
  rcases this with h | h
  · show c.val.toNat < 0x110000
    have : c.val.toNat < 0xd800 := h
    omega
  · exact h.2
theorem sk_app {x y : Str} (h1 : PyData.strOk x = true) (h2 : PyData.strOk y = true) : PyData.strOk (x ++ y) = true := by
  unfold PyData.strOk at *
  show (x.cps ++ y.cps).all _ = true
  rw [Array.all_append, h1, h2]; rfl
theorem sk_from : ∀ (ts : List Str) (k : Nat) (acc : Str), (∀ t ∈ ts, PyData.strOk t = true) → PyData.strOk acc = true → PyData.strOk (textFrom k acc ts) = true
  | [], _, _, _, h => h
  | t :: r, k, acc, ht, h => sk_from r (k + 1) _ (fun u hu => ht u (List.mem_cons_of_mem _ hu)) (sk_app (sk_app h (sk_of _)) (ht t (List.mem_cons_self ..)))
theorem sk_join : ∀ (ts : List Str), (∀ t ∈ ts, PyData.strOk t = true) → PyData.strOk (Str.join ", " ts) = true
  | [], _ => sk_of ""
  | [x], h => h x (List.mem_cons_self ..)
  | x :: y :: r, h => sk_app (sk_app (h x (List.mem_cons_self ..)) (sk_of _)) (sk_join (y :: r) fun u hu => h u (List.mem_cons_of_mem _ hu))
structure Pl (k w : Nat) (d : D) : Prop where
  lay : d.canLay0 = true
  dep : d.depth ≤ k
  sh : d.showable = true
  len : d.shown.length ≤ w
  ok : PyData.strOk d.shown = true
theorem Pl.mono {k w k' w' : Nat} {d : D} (h : Pl k w d) (hk : k ≤ k') (hw : w ≤ w') : Pl k' w' d := ⟨h.lay, Nat.le_trans h.dep hk, h.sh, Nat.le_trans h.len hw, h.ok⟩
theorem Pl.int {i : Int} {n : Nat} (hn : 0 < n) (hn2 : n ≤ 1920) (h : i.natAbs < 2 ^ n) : Pl 0 (n + 1) (.int i) := by
  have hl : i.natAbs.log2 < n := by
    by_cases z : i.natAbs = 0
    · rw [z]; exact hn
    · exact (Nat.log2_lt z).mpr h
  refine ⟨by simp [PyData.canLay0], by simp [PyData.depth], by simp [PyData.showable]; omega, ?_, ?_⟩
  · simp only [PyData.shown]
    have := int_text_length_le hn hl
    show (Str.ofString (toString i)).length ≤ _
    rw [PySem.ofString_length]; exact this
  · simp only [PyData.shown]
    exact sk_of _
theorem Pl.bool {b : Bool} : Pl 0 5 (.bool b) := ⟨by simp [PyData.canLay0], by simp [PyData.depth], by simp [PyData.showable], by
  simp only [PyData.shown]
  cases b <;> decide, by
  simp only [PyData.shown]
  cases b <;> exact sk_of _⟩
theorem Pl.none : Pl 0 4 .none := ⟨by simp [PyData.canLay0], by simp [PyData.depth], by simp [PyData.showable], by
  simp only [PyData.shown]; decide, by
  simp only [PyData.shown]; exact sk_of _⟩
theorem pl_all {k w : Nat} : ∀ {xs : List D}, (∀ x ∈ xs, Pl k w x) → PyData.canLayAll0 xs = true ∧ PyData.depthAll xs ≤ k ∧ PyData.showableAll xs = true ∧ piled (PyData.shownAll xs) ≤ (w + 2) * xs.length ∧ (PyData.shownAll xs).length = xs.length
  | [], _ => ⟨by simp [PyData.canLayAll0], by simp [PyData.depthAll], by simp [PyData.showableAll], by simp [PyData.shownAll, piled], by simp [PyData.shownAll]⟩
  | x :: xs, h => by
    obtain ⟨a, b, c, d, e⟩ := pl_all (xs := xs) fun y hy => h y (List.mem_cons_of_mem _ hy)
    obtain ⟨p1, p2, p3, p4⟩ := h x (List.mem_cons_self ..)
    refine ⟨by simp [PyData.canLayAll0, p1, a], by simp only [PyData.depthAll]; omega, by simp [PyData.showableAll, p3, c], ?_, by simp only [PyData.shownAll, List.length_cons, e]⟩
    simp only [PyData.shownAll, piled_cons, List.length_cons, Nat.mul_add]
    omega
theorem pl_oks {k w : Nat} : ∀ {xs : List D}, (∀ x ∈ xs, Pl k w x) → ∀ t ∈ PyData.shownAll xs, PyData.strOk t = true
  | [], _, t, h => by simp [PyData.shownAll] at h
  | x :: xs, h, t, ht => by
    simp only [PyData.shownAll] at ht
    rcases List.mem_cons.mp ht with z | z
    · rw [z]; exact (h x (List.mem_cons_self ..)).ok
    · exact pl_oks (xs := xs) (fun y hy => h y (List.mem_cons_of_mem _ hy)) t z
theorem textFrom_le : ∀ (ts : List Str) (k : Nat) (acc : Str), (textFrom k acc ts).length ≤ acc.length + piled ts
  | [], k, acc => by simp [textFrom, piled]
  | t :: r, k, acc => by
    have := textFrom_le r (k + 1) (acc ++ (if k > 0 then ", " else "" : String) ++ t)
    rw [textFrom, piled_cons]
    refine Nat.le_trans this ?_
    rw [strLen_append, strLen_append]
    have : (Str.ofString (if k > 0 then ", " else "" : String)).length ≤ 2 := by
      split <;> decide
    omega
theorem Pl.list {k w : Nat} {xs : List D} (h : ∀ x ∈ xs, Pl k w x) : Pl (k + 1) ((w + 2) * xs.length + 2) (.list xs) := by
  obtain ⟨a, b, c, d, e⟩ := pl_all h
  refine ⟨by simp only [PyData.canLay0]; exact a, by simp only [PyData.depth]; omega, by simp only [PyData.showable]; exact c, ?_, by
    simp only [PyData.shown, listText]
    exact sk_app (sk_from _ _ _ (pl_oks h) (sk_of _)) (sk_of _)⟩
  simp only [PyData.shown, listText]
  rw [strLen_append]
  have h1 := textFrom_le (PyData.shownAll xs) 0 "["
  have e1 : (Str.ofString "[").length = 1 := by decide
  have e2 : (Str.ofString "]").length = 1 := by decide
  omega
theorem Pl.tuple {k w : Nat} {xs : List D} (h : ∀ x ∈ xs, Pl k w x) : Pl (k + 1) ((w + 2) * xs.length + 3) (.tuple xs) := by
  obtain ⟨a, b, c, d, e⟩ := pl_all h
  refine ⟨by simp only [PyData.canLay0]; exact a, by simp only [PyData.depth]; omega, by simp only [PyData.showable]; exact c, ?_, by
    simp only [PyData.shown, tupleText]
    exact sk_app (sk_app (sk_of _) (sk_join _ (pl_oks h))) (sk_of _)⟩
  simp only [PyData.shown, tupleText]
  rw [strLen_append, strLen_append]
  have e1 : (Str.ofString "(").length = 1 := by decide
  have e2 : (Str.ofString (if (PyData.shownAll xs).length == 1 then ",)" else ")" : String)).length ≤ 2 := by split <;> decide
  have h1 : (Str.join ", " (PyData.shownAll xs)).length ≤ piled (PyData.shownAll xs) := by
    cases z : PyData.shownAll xs with
    | nil => exact Nat.le_of_eq (by decide)
    | cons t r => have := join_length_add (t :: r) (fun h => nomatch h); omega
  omega
theorem Pl.shaped {k w : Nat} {d : D} (h : Pl k w d) (hk : k ≤ 64) : SeqAt.shaped d = true := by
  unfold SeqAt.shaped
  rw [h.lay, decide_eq_true (Nat.le_trans h.dep hk)]; rfl
theorem Pl.repr {k w : Nat} {d : D} (h : Pl k w d) (hk : k ≤ 64) (hw : w ≤ 10000000) : reprD [d] = some (.str d.shown) := by
  unfold reprD
  exact if_pos ⟨h.lay, Nat.le_trans h.dep hk, h.sh, Nat.le_trans h.len hw⟩
theorem Pl.str {k w : Nat} {d : D} (h : Pl k w d) : SeqAt.shaped (.str d.shown) = true := by
  unfold SeqAt.shaped
  simp only [PyData.canLay0, PyData.depth, h.ok]
  rfl
theorem ne_ok {d e : D} (h1 : SeqAt.shaped d = true) (h2 : SeqAt.shaped e = true) : neD [d, e] = some (.bool (!PyData.eqv d e)) := if_pos ⟨h1, h2⟩
theorem eq_ok {d e : D} (h1 : SeqAt.shaped d = true) (h2 : SeqAt.shaped e = true) : eqD [d, e] = some (.bool (PyData.eqv d e)) := if_pos ⟨h1, h2⟩
theorem shaped_str (x : Str) (h : PyData.canLay0 (.str x) = true) : SeqAt.shaped (.str x) = true := by
  unfold SeqAt.shaped
  rw [h]; rfl
/-! ### pairs -/
def pD (p : Int × Int) : D := .tuple [.int p.1, .int p.2]
def psD (S : List (Int × Int)) : List D := S.map pD
def InW (n : Nat) (p : Int × Int) : Prop := p.1.natAbs < 2 ^ n ∧ p.2.natAbs < 2 ^ n
theorem pl_pD {n : Nat} (hn : 0 < n) (hn2 : n ≤ 1920) {p : Int × Int} (h : InW n p) : Pl 1 ((n + 3) * 2 + 3) (pD p) := by
  have : Pl 1 ((n + 1 + 2) * [PyData.int p.1, PyData.int p.2].length + 3) (.tuple [.int p.1, .int p.2]) := Pl.tuple (k := 0) (w := n + 1) fun x hx => ?_
  · exact this
  rcases List.mem_cons.mp hx with e | hx
  · rw [e]; exact Pl.int hn hn2 h.1
  · rw [List.mem_singleton.mp hx]; exact Pl.int hn hn2 h.2
/-! ### sorting -/
theorem dle_pD {p q : Int × Int} (h : PySem.W.dataLe false id (pD p) (pD q) = true) : p.1 ≤ q.1 := by
  have h' : (!PyProof.Rows.lexLt PyProof.Rows.itemOrd (PySem.W.keyToks (pD q)) (PySem.W.keyToks (pD p))) = true := h
  simp only [pD, PySem.W.keyToks, PySem.W.keyToksAll, List.cons_append, List.nil_append] at h'
  rw [PyProof.Rows.lexLt, PyProof.Rows.lexLt] at h'
  have e1 : ∀ a b : Int, PyProof.Rows.itemLt (Sum.inl a) (Sum.inl b) = decide (a < b) := fun a b => rfl
  simp only [e1] at h'
  by_cases c : q.1 < p.1
  · rw [decide_eq_true c] at h'
    simp at h'
  · omega
theorem dle_int {p q : Int} (h : PySem.W.dataLe false id (.int p) (.int q) = true) : p ≤ q := by
  have h' : (!PyProof.Rows.lexLt PyProof.Rows.itemOrd (PySem.W.keyToks (.int q)) (PySem.W.keyToks (.int p))) = true := h
  simp only [PySem.W.keyToks] at h'
  rw [PyProof.Rows.lexLt] at h'
  have e1 : ∀ a b : Int, PyProof.Rows.itemLt (Sum.inl a) (Sum.inl b) = decide (a < b) := fun a b => rfl
  simp only [e1] at h'
  by_cases c : q < p
  · rw [decide_eq_true c] at h'
    simp at h'
  · omega
theorem sorted_pairwise (ds : List D) : (sortedL ds).Pairwise fun a b => PySem.W.dataLe false id a b = true := PySem.W.sort_pairwise (PySem.W.sortLe_total _ _ _) ds
theorem sorted_perm (ds : List D) : (sortedL ds).Perm ds := List.mergeSort_perm _ _
theorem perm_map {α β : Type} {f : α → β} : ∀ {l : List β} {m : List α}, l.Perm (m.map f) → ∃ m' : List α, l = m'.map f ∧ m'.Perm m := fun {l m} h => by
  induction m generalizing l with
  | nil => exact ⟨[], by rw [List.map_nil] at h; exact List.Perm.eq_nil h, List.Perm.refl _⟩
  | cons a m ih =>
    rw [List.map_cons] at h
    have hm : f a ∈ l := h.mem_iff.mpr (List.mem_cons_self ..)
    obtain ⟨l1, l2, rfl⟩ := List.append_of_mem hm
    have h2 : (l1 ++ l2).Perm (m.map f) := by
      have h3 : (f a :: (l1 ++ l2)).Perm (f a :: m.map f) := (List.perm_middle.symm).trans h
      exact (List.perm_cons (f a)).mp h3
    obtain ⟨m', e, hp⟩ := ih h2
    have e1 : l1 = (m'.take l1.length).map f := by
      rw [List.map_take, ← e, List.take_left]
    have e2 : l2 = (m'.drop l1.length).map f := by
      rw [List.map_drop, ← e, List.drop_left]
    refine ⟨m'.take l1.length ++ a :: m'.drop l1.length, by rw [List.map_append, List.map_cons, ← e1, ← e2], ?_⟩
    refine List.perm_middle.trans ?_
    rw [List.take_append_drop]
    exact List.Perm.cons a hp
theorem sorted_psD (S : List (Int × Int)) : ∃ T, sortedL (psD S) = psD T ∧ T.Perm S ∧ T.Pairwise fun p q => p.1 ≤ q.1 := by
  obtain ⟨T, e, h⟩ := perm_map (f := pD) (m := S) (sorted_perm (psD S))
  refine ⟨T, e, h, ?_⟩
  have := sorted_pairwise (psD S)
  rw [e, List.pairwise_map] at this
  exact this.imp dle_pD
theorem sorted_ints (ns : List Int) : ∃ T : List Int, sortedL (ns.map PyData.int) = T.map PyData.int ∧ T.Perm ns ∧ T.Pairwise (· ≤ ·) := by
  obtain ⟨T, e, h⟩ := perm_map (f := PyData.int) (m := ns) (sorted_perm (ns.map PyData.int))
  refine ⟨T, e, h, ?_⟩
  have := sorted_pairwise (ns.map PyData.int)
  rw [e, List.pairwise_map] at this
  exact this.imp dle_int
theorem sortOk_psD {S : List (Int × Int)} {n : Nat} (hn : 0 < n) (hn2 : n ≤ 1920) (h : ∀ p ∈ S, InW n p) : sortOk (psD S) = true := by
  unfold sortOk
  have hp : ∀ d ∈ psD S, Pl 1 ((n + 3) * 2 + 3) d := fun d hd => by
    obtain ⟨p, hp, rfl⟩ := List.mem_map.mp hd
    exact pl_pD hn hn2 (h p hp)
  have a := (pl_all hp).1
  have b : allAlike (psD S) = true := by
    unfold allAlike
    rw [List.all_eq_true]
    intro d hd
    rw [List.all_eq_true]
    intro e he
    obtain ⟨p, _, rfl⟩ := List.mem_map.mp hd
    obtain ⟨q, _, rfl⟩ := List.mem_map.mp he
    simp [pD, PySem.W.alike, PySem.W.alikeAll]
  have c : sortable (psD S) = true := by
    unfold sortable
    rw [Bool.or_eq_true]
    left
    rw [List.all_eq_true]
    intro d hd
    obtain ⟨p, _, rfl⟩ := List.mem_map.mp hd
    rfl
  have d : ((psD S).all fun d => decide (d.depth ≤ 64)) = true := by
    rw [List.all_eq_true]
    intro d hd
    exact decide_eq_true (Nat.le_trans (hp d hd).dep (by decide))
  rw [a, b, c, d]; rfl
theorem sortOk_ints (ns : List Int) : sortOk (ns.map PyData.int) = true := by
  unfold sortOk
  have a : PyData.canLayAll0 (ns.map PyData.int) = true := by
    induction ns with
    | nil => simp [PyData.canLayAll0]
    | cons n ns ih => simp [PyData.canLayAll0, PyData.canLay0] at ih ⊢; exact ih
  have b : allAlike (ns.map PyData.int) = true := by
    unfold allAlike
    rw [List.all_eq_true]
    intro d hd
    rw [List.all_eq_true]
    intro e he
    obtain ⟨p, _, rfl⟩ := List.mem_map.mp hd
    obtain ⟨q, _, rfl⟩ := List.mem_map.mp he
    simp [PySem.W.alike]
  have c : sortable (ns.map PyData.int) = true := by
    unfold sortable
    rw [Bool.or_eq_true]
    right
    rw [List.all_eq_true]
    intro d hd
    obtain ⟨p, _, rfl⟩ := List.mem_map.mp hd
    rfl
  have d : ((ns.map PyData.int).all fun d => decide (d.depth ≤ 64)) = true := by
    rw [List.all_eq_true]
    intro d hd
    obtain ⟨p, _, rfl⟩ := List.mem_map.mp hd
    simp [PyData.depth]
  rw [a, b, c, d]; rfl
end QA

set_option maxHeartbeats 1000000
/-! rows of parts (low, high, giver): a plain law -/
namespace QA
abbrev Pt := Int × Int × Option Nat
/-- parts one behind the other, from s to e - 1 -/
def RowE : Int → Int → List Pt → Prop
  | s, e, [] => s = e
  | s, e, (a, b, _) :: r => a = s ∧ a ≤ b ∧ RowE (b + 1) e r
def valR : List Pt → Int → Option Nat
  | [], _ => none
  | (_, b, g) :: r, p => if p ≤ b then g else valR r p
def headG : List Pt → Option (Option Nat)
  | [] => none
  | (_, _, g) :: _ => some g
/-- neighbours have unlike givers -/
def Coarse : List Pt → Prop
  | [] => True
  | (_, _, g) :: r => headG r ≠ some g ∧ Coarse r
theorem RowE.le : ∀ {r : List Pt} {s e : Int}, RowE s e r → s ≤ e
  | [], s, e, h => by unfold RowE at h; omega
  | (a, b, g) :: r, s, e, h => by
    obtain ⟨h1, h2, h3⟩ := h
    have := h3.le
    omega
theorem RowE.unique : ∀ {r r' : List Pt} {s e : Int}, RowE s e r → RowE s e r' → Coarse r → Coarse r' → (∀ p, s ≤ p → p < e → valR r p = valR r' p) → r = r'
  | [], [], _, _, _, _, _, _, _ => rfl
  | [], (a, b, g) :: r', s, e, h, h', _, _, _ => by
    obtain ⟨h1, h2, h3⟩ := h'
    have := h3.le
    unfold RowE at h
    omega
  | (a, b, g) :: r, [], s, e, h, h', _, _, _ => by
    obtain ⟨h1, h2, h3⟩ := h
    have := h3.le
    unfold RowE at h'
    omega
  | (a, b, g) :: r, (a', b', g') :: r', s, e, h, h', c, c', v => by
    obtain ⟨h1, h2, h3⟩ := h
    obtain ⟨h1', h2', h3'⟩ := h'
    have l3 := h3.le
    have l3' := h3'.le
    have v0 := v s (by omega) (by omega)
    unfold valR at v0
    rw [if_pos (by omega), if_pos (by omega)] at v0
    have step : ∀ {a a' b b' : Int} {r r' : List Pt} {g : Option Nat}, b < b' → b' < e → s ≤ b → RowE (b + 1) e r → headG r ≠ some g → (∀ p, s ≤ p → p < e → valR ((a, b, g) :: r) p = valR ((a', b', g) :: r') p) → False := fun {a a' b b' r r' g} hb hb' hs hr hg hv => by
      have w := hv (b + 1) (by omega) (by omega)
      unfold valR at w
      rw [if_neg (by omega), if_pos (by omega)] at w
      cases r with
      | nil => unfold RowE at hr; omega
      | cons q t =>
        obtain ⟨qa, qb, qg⟩ := q
        obtain ⟨k1, k2, _⟩ := hr
        unfold valR at w
        rw [if_pos (by omega)] at w
        exact hg (by show some qg = some g; rw [w])
    subst v0
    have eb : b = b' := by
      rcases Int.lt_trichotomy b b' with q | q | q
      · exact (step q (by omega) (by omega) h3 c.1 v).elim
      · exact q
      · exact (step (a := a') (a' := a) q (by omega) (by omega) h3' c'.1 fun p p0 p1 => (v p p0 p1).symm).elim
    subst eb
    subst h1
    subst h1'
    have ih := RowE.unique h3 h3' c.2 c'.2 fun p p0 p1 => by
      have w := v p (by omega) p1
      unfold valR at w
      rw [if_neg (by omega), if_neg (by omega)] at w
      exact w
    rw [ih]
theorem RowE.app : ∀ {r1 r2 : List Pt} {s m e : Int}, RowE s m r1 → RowE m e r2 → RowE s e (r1 ++ r2)
  | [], _, s, m, e, h, h2 => by unfold RowE at h; subst h; exact h2
  | (a, b, g) :: r, r2, s, m, e, h, h2 => ⟨h.1, h.2.1, h.2.2.app h2⟩
theorem valR_hi : ∀ {r1 r2 : List Pt} {s m p : Int}, RowE s m r1 → m ≤ p → valR (r1 ++ r2) p = valR r2 p
  | [], _, _, _, _, _, _ => rfl
  | (a, b, g) :: r, r2, s, m, p, h, hp => by
    have := h.2.2.le
    show (if p ≤ b then g else valR (r ++ r2) p) = _
    rw [if_neg (by omega)]
    exact valR_hi h.2.2 hp
theorem valR_lo : ∀ {r1 r2 : List Pt} {s m p : Int}, RowE s m r1 → s ≤ p → p < m → valR (r1 ++ r2) p = valR r1 p
  | [], r2, s, m, p, h, hs, hp => by unfold RowE at h; omega
  | (a, b, g) :: r, r2, s, m, p, h, hs, hp => by
    show (if p ≤ b then g else valR (r ++ r2) p) = (if p ≤ b then g else valR r p)
    by_cases q : p ≤ b
    · rw [if_pos q, if_pos q]
    · rw [if_neg q, if_neg q]
      exact valR_lo h.2.2 (by omega) hp
/-! ### a stretch laid over -/
def bef (lo : Int) : List Pt → List Pt
  | [] => []
  | (a, b, g) :: r => if a < lo then (a, min b (lo - 1), g) :: bef lo r else bef lo r
def beh (hi : Int) : List Pt → List Pt
  | [] => []
  | (a, b, g) :: r => if hi < b then (max a (hi + 1), b, g) :: beh hi r else beh hi r
theorem bef_nil : ∀ {r : List Pt} {lo s e : Int}, RowE s e r → lo ≤ s → bef lo r = []
  | [], _, _, _, _, _ => rfl
  | (a, b, g) :: r, lo, s, e, h, hl => by
    obtain ⟨h1, h2, h3⟩ := h
    unfold bef
    rw [if_neg (by omega)]
    exact bef_nil h3 (by omega)
theorem bef_row : ∀ {r : List Pt} {lo s e : Int}, RowE s e r → s ≤ lo → lo ≤ e → RowE s lo (bef lo r) ∧ ∀ p, s ≤ p → p < lo → valR (bef lo r) p = valR r p
  | [], lo, s, e, h, h0, h1 => by
    unfold RowE at h
    refine ⟨?_, fun p p0 p1 => rfl⟩
    show s = lo
    omega
  | (a, b, g) :: r, lo, s, e, h, h0, h1 => by
    obtain ⟨k1, k2, k3⟩ := h
    unfold bef
    by_cases q : a < lo
    · rw [if_pos q]
      by_cases z : b + 1 ≤ lo
      · obtain ⟨i1, i2⟩ := bef_row k3 z h1
        have mb : min b (lo - 1) = b := by omega
        rw [mb]
        refine ⟨⟨k1, k2, i1⟩, fun p p0 p1 => ?_⟩
        show (if p ≤ b then g else valR (bef lo r) p) = (if p ≤ b then g else valR r p)
        by_cases y : p ≤ b
        · rw [if_pos y, if_pos y]
        · rw [if_neg y, if_neg y]; exact i2 p (by omega) p1
      · have mb : min b (lo - 1) = lo - 1 := by omega
        rw [mb, bef_nil k3 (by omega)]
        refine ⟨⟨k1, by omega, by show lo - 1 + 1 = lo; omega⟩, fun p p0 p1 => ?_⟩
        show (if p ≤ lo - 1 then g else none) = (if p ≤ b then g else valR r p)
        rw [if_pos (by omega), if_pos (by omega)]
    · rw [if_neg q, bef_nil k3 (by omega)]
      refine ⟨by show s = lo; omega, fun p p0 p1 => by omega⟩
theorem beh_all : ∀ {r : List Pt} {hi s e : Int}, RowE s e r → hi + 1 ≤ s → beh hi r = r
  | [], _, _, _, _, _ => rfl
  | (a, b, g) :: r, hi, s, e, h, hl => by
    obtain ⟨h1, h2, h3⟩ := h
    unfold beh
    have ma : max a (hi + 1) = a := by omega
    rw [if_pos (by omega), ma, beh_all h3 (by omega)]
theorem beh_row : ∀ {r : List Pt} {hi s e : Int}, RowE s e r → s ≤ hi + 1 → hi + 1 ≤ e → RowE (hi + 1) e (beh hi r) ∧ ∀ p, hi + 1 ≤ p → p < e → valR (beh hi r) p = valR r p
  | [], hi, s, e, h, h0, h1 => by
    unfold RowE at h
    refine ⟨?_, fun p p0 p1 => rfl⟩
    show hi + 1 = e
    omega
  | (a, b, g) :: r, hi, s, e, h, h0, h1 => by
    obtain ⟨k1, k2, k3⟩ := h
    unfold beh
    by_cases q : hi < b
    · rw [if_pos q, beh_all k3 (by omega)]
      refine ⟨⟨by omega, by omega, k3⟩, fun p p0 p1 => rfl⟩
    · rw [if_neg q]
      obtain ⟨i1, i2⟩ := beh_row k3 (by omega) h1
      refine ⟨i1, fun p p0 p1 => ?_⟩
      show _ = (if p ≤ b then g else valR r p)
      rw [if_neg (by omega)]
      exact i2 p p0 p1
/-- givers of a row -/
def Has (r : List Pt) (g : Option Nat) : Prop := ∃ a b, (a, b, g) ∈ r
theorem bef_has : ∀ {r : List Pt} {lo : Int} {g : Option Nat}, Has (bef lo r) g → Has r g
  | [], _, _, ⟨a, b, h⟩ => nomatch h
  | (a, b, g) :: r, lo, g', ⟨x, y, h⟩ => by
    unfold bef at h
    have nx : ∀ {x y}, (x, y, g') ∈ bef lo r → Has ((a, b, g) :: r) g' := fun {x y} h => by
      obtain ⟨u, v, k⟩ := bef_has ⟨x, y, h⟩
      exact ⟨u, v, List.mem_cons_of_mem _ k⟩
    split at h
    · rcases List.mem_cons.mp h with q | q
      · cases q; exact ⟨a, b, List.mem_cons_self ..⟩
      · exact nx q
    · exact nx h
theorem beh_has : ∀ {r : List Pt} {hi : Int} {g : Option Nat}, Has (beh hi r) g → Has r g
  | [], _, _, ⟨a, b, h⟩ => nomatch h
  | (a, b, g) :: r, hi, g', ⟨x, y, h⟩ => by
    unfold beh at h
    have nx : ∀ {x y}, (x, y, g') ∈ beh hi r → Has ((a, b, g) :: r) g' := fun {x y} h => by
      obtain ⟨u, v, k⟩ := beh_has ⟨x, y, h⟩
      exact ⟨u, v, List.mem_cons_of_mem _ k⟩
    split at h
    · rcases List.mem_cons.mp h with q | q
      · cases q; exact ⟨a, b, List.mem_cons_self ..⟩
      · exact nx q
    · exact nx h
theorem bef_head : ∀ {r : List Pt} {lo s e : Int}, RowE s e r → headG (bef lo r) = none ∨ headG (bef lo r) = headG r
  | [], _, _, _, _ => Or.inl rfl
  | (a, b, g) :: r, lo, s, e, h => by
    unfold bef
    by_cases q : a < lo
    · rw [if_pos q]; exact Or.inr rfl
    · rw [if_neg q, bef_nil h.2.2 (by have := h.1; have := h.2.1; omega)]; exact Or.inl rfl
theorem bef_coarse : ∀ {r : List Pt} {lo s e : Int}, RowE s e r → Coarse r → Coarse (bef lo r)
  | [], _, _, _, _, _ => trivial
  | (a, b, g) :: r, lo, s, e, h, c => by
    unfold bef
    by_cases q : a < lo
    · rw [if_pos q]
      refine ⟨?_, bef_coarse h.2.2 c.2⟩
      rcases bef_head (lo := lo) h.2.2 with z | z
      · rw [z]; exact fun w => nomatch w
      · rw [z]; exact c.1
    · rw [if_neg q]; exact bef_coarse h.2.2 c.2
theorem beh_coarse : ∀ {r : List Pt} {hi s e : Int}, RowE s e r → Coarse r → Coarse (beh hi r)
  | [], _, _, _, _, _ => trivial
  | (a, b, g) :: r, hi, s, e, h, c => by
    unfold beh
    by_cases q : hi < b
    · rw [if_pos q, beh_all h.2.2 (by omega)]
      exact c
    · rw [if_neg q]; exact beh_coarse h.2.2 c.2
theorem coarse_app : ∀ {r1 r2 : List Pt}, Coarse r1 → Coarse r2 → (∀ g, Has r1 g → headG r2 ≠ some g) → Coarse (r1 ++ r2)
  | [], _, _, c2, _ => c2
  | (a, b, g) :: r, r2, c1, c2, h => by
    refine ⟨?_, coarse_app c1.2 c2 fun g' ⟨x, y, k⟩ => h g' ⟨x, y, List.mem_cons_of_mem _ k⟩⟩
    cases r with
    | nil => exact h g ⟨a, b, List.mem_cons_self ..⟩
    | cons q t => exact c1.1
def laidR (r : List Pt) (lo hi : Int) (g : Option Nat) : List Pt := (bef lo r ++ [(lo, hi, g)]) ++ beh hi r
theorem head_has {r : List Pt} {g : Option Nat} (h : headG r = some g) : Has r g := by
  cases r with
  | nil => cases h
  | cons q t =>
    obtain ⟨a, b, k⟩ := q
    cases h
    exact ⟨a, b, List.mem_cons_self ..⟩
theorem laid_row {r : List Pt} {s e lo hi : Int} {g : Option Nat} (h : RowE s e r) (c : Coarse r) (h0 : s ≤ lo) (h1 : lo ≤ hi) (h2 : hi + 1 ≤ e) (n : ¬ Has r g) :
    RowE s e (laidR r lo hi g) ∧ Coarse (laidR r lo hi g) ∧ (∀ p, s ≤ p → p < e → valR (laidR r lo hi g) p = if lo ≤ p ∧ p ≤ hi then g else valR r p) ∧ ∀ g', Has (laidR r lo hi g) g' → g' = g ∨ Has r g' := by
  obtain ⟨b1, b2⟩ := bef_row h h0 (by omega)
  obtain ⟨d1, d2⟩ := beh_row h (by omega) h2
  have m : RowE lo (hi + 1) [(lo, hi, g)] := ⟨rfl, h1, rfl⟩
  have bm := b1.app m
  refine ⟨bm.app d1, ?_, fun p p0 p1 => ?_, fun g' ⟨x, y, k⟩ => ?_⟩
  · unfold laidR
    rw [List.append_assoc]
    refine coarse_app (bef_coarse h c) (show Coarse ((lo, hi, g) :: beh hi r) from ⟨fun z => n (beh_has (head_has z)), beh_coarse h c⟩) fun g' hg z => ?_
    have z' : some g = some g' := z
    cases z'
    exact n (bef_has hg)
  · unfold laidR
    by_cases q : p < hi + 1
    · rw [valR_lo bm p0 q]
      by_cases y : p < lo
      · rw [valR_lo b1 p0 y, b2 p p0 y, if_neg (by omega)]
      · rw [valR_hi b1 (by omega), if_pos ⟨by omega, by omega⟩]
        show (if p ≤ hi then g else none) = g
        rw [if_pos (by omega)]
    · rw [valR_hi bm (by omega), d2 p (by omega) p1, if_neg (by omega)]
  · unfold laidR at k
    rcases List.mem_append.mp k with q | q
    · rcases List.mem_append.mp q with q | q
      · exact Or.inr (bef_has ⟨x, y, q⟩)
      · cases List.mem_singleton.mp q; exact Or.inl rfl
    · exact Or.inr (beh_has ⟨x, y, q⟩)
end QA

set_option maxHeartbeats 1000000
/-! rows of parts: painted stroke by stroke, and joined of cells, are one -/
namespace QA
def paintR : List (Int × Int) → Nat → List Pt → List Pt
  | [], _, r => r
  | (lo, hi) :: ls, i, r => paintR ls (i + 1) (laidR r lo hi (some i))
def lastO : List (Int × Int) → Nat → Option Nat → Int → Option Nat
  | [], _, f, _ => f
  | (lo, hi) :: ls, i, f, p => lastO ls (i + 1) (if lo ≤ p ∧ p ≤ hi then some i else f) p
def In (E : Int) (l : Int × Int) : Prop := 0 ≤ l.1 ∧ l.1 ≤ l.2 ∧ l.2 + 1 ≤ E
theorem paint_ok {E : Int} : ∀ (ls : List (Int × Int)) (i : Nat) (r : List Pt), (∀ l ∈ ls, In E l) → RowE 0 E r → Coarse r → (∀ g, Has r g → g = none ∨ ∃ j, j < i ∧ g = some j) →
    RowE 0 E (paintR ls i r) ∧ Coarse (paintR ls i r) ∧ ∀ p, 0 ≤ p → p < E → valR (paintR ls i r) p = lastO ls i (valR r p) p
  | [], i, r, _, h, c, _ => ⟨h, c, fun p _ _ => rfl⟩
  | (lo, hi) :: ls, i, r, hl, h, c, k => by
    obtain ⟨l0, l1, l2⟩ := hl (lo, hi) (List.mem_cons_self ..)
    have n : ¬ Has r (some i) := fun z => by
      rcases k _ z with q | ⟨j, hj, q⟩
      · cases q
      · cases q; omega
    obtain ⟨a1, a2, a3, a4⟩ := laid_row h c l0 l1 l2 n
    obtain ⟨b1, b2, b3⟩ := paint_ok ls (i + 1) (laidR r lo hi (some i)) (fun l hl' => hl l (List.mem_cons_of_mem _ hl')) a1 a2 fun g hg => by
      rcases a4 g hg with q | q
      · exact Or.inr ⟨i, by omega, q⟩
      · rcases k g q with q | ⟨j, hj, q⟩
        · exact Or.inl q
        · exact Or.inr ⟨j, by omega, q⟩
    refine ⟨b1, b2, fun p p0 p1 => ?_⟩
    show valR (paintR ls (i + 1) (laidR r lo hi (some i))) p = lastO ls (i + 1) (if lo ≤ p ∧ p ≤ hi then some i else valR r p) p
    rw [b3 p p0 p1, a3 p p0 p1]
/-! ### neighbours joined -/
def addR : List Pt → Pt → List Pt
  | [], x => [x]
  | [(a, b, g')], (lo, hi, g) => if b + 1 = lo ∧ g' = g then [(a, hi, g)] else [(a, b, g'), (lo, hi, g)]
  | q :: q2 :: r, x => q :: addR (q2 :: r) x
theorem add_ok : ∀ {acc : List Pt} {s m hi : Int} {g : Option Nat}, RowE s m acc → Coarse acc → m ≤ hi →
    RowE s (hi + 1) (addR acc (m, hi, g)) ∧ Coarse (addR acc (m, hi, g)) ∧ (∀ p, s ≤ p → p < hi + 1 → valR (addR acc (m, hi, g)) p = if p < m then valR acc p else g) ∧ (acc ≠ [] → headG (addR acc (m, hi, g)) = headG acc)
  | [], s, m, hi, g, h, c, hm => by
    unfold RowE at h
    refine ⟨⟨h.symm, hm, rfl⟩, ⟨(fun z => nomatch z), trivial⟩, fun p p0 p1 => ?_, fun z => absurd rfl z⟩
    show (if p ≤ hi then g else none) = _
    rw [if_pos (by omega), if_neg (by omega)]
  | [(a, b, g')], s, m, hi, g, h, c, hm => by
    obtain ⟨h1, h2, h3⟩ := h
    unfold RowE at h3
    by_cases q : g' = g
    · subst q
      have e : addR [(a, b, g')] (m, hi, g') = [(a, hi, g')] := if_pos ⟨h3, rfl⟩
      rw [e]
      refine ⟨⟨h1, by omega, rfl⟩, ⟨(fun z => nomatch z), trivial⟩, fun p p0 p1 => ?_, fun _ => rfl⟩
      show (if p ≤ hi then g' else none) = if p < m then (if p ≤ b then g' else none) else g'
      rw [if_pos (by omega)]
      by_cases y : p < m
      · rw [if_pos y, if_pos (by omega)]
      · rw [if_neg y]
    · have e : addR [(a, b, g')] (m, hi, g) = [(a, b, g'), (m, hi, g)] := if_neg fun z => q z.2
      rw [e]
      refine ⟨⟨h1, h2, h3.symm, hm, rfl⟩, ⟨(fun z => q (by cases z; rfl)), (fun z => nomatch z), trivial⟩, fun p p0 p1 => ?_, fun _ => rfl⟩
      show (if p ≤ b then g' else if p ≤ hi then g else none) = if p < m then (if p ≤ b then g' else none) else g
      by_cases y : p < m
      · rw [if_pos y, if_pos (by omega), if_pos (by omega)]
      · rw [if_neg y, if_neg (by omega), if_pos (by omega)]
  | (a, b, g') :: q2 :: r, s, m, hi, g, h, c, hm => by
    obtain ⟨h1, h2, h3⟩ := h
    obtain ⟨i1, i2, i3, i4⟩ := add_ok (g := g) h3 c.2 hm
    refine ⟨⟨h1, h2, i1⟩, ⟨?_, i2⟩, fun p p0 p1 => ?_, fun _ => rfl⟩
    · rw [i4 (fun z => nomatch z)]; exact c.1
    · show (if p ≤ b then g' else valR (addR (q2 :: r) (m, hi, g)) p) = if p < m then (if p ≤ b then g' else valR (q2 :: r) p) else g
      have := h3.le
      by_cases y : p ≤ b
      · rw [if_pos y, if_pos (by omega), if_pos y]
      · rw [if_neg y, if_neg y]
        exact i3 p (by omega) p1
def mergeL : List Pt → List Pt → List Pt
  | acc, [] => acc
  | acc, x :: r => mergeL (addR acc x) r
theorem merge_ok : ∀ {cs acc : List Pt} {s m e : Int}, RowE s m acc → Coarse acc → RowE m e cs →
    RowE s e (mergeL acc cs) ∧ Coarse (mergeL acc cs) ∧ ∀ p, s ≤ p → p < e → valR (mergeL acc cs) p = if p < m then valR acc p else valR cs p
  | [], acc, s, m, e, h, c, k => by
    unfold RowE at k
    subst k
    refine ⟨h, c, fun p p0 p1 => ?_⟩
    rw [if_pos p1]; rfl
  | (a, b, g) :: cs, acc, s, m, e, h, c, k => by
    obtain ⟨k1, k2, k3⟩ := k
    subst k1
    obtain ⟨a1, a2, a3, _⟩ := add_ok (g := g) h c k2
    obtain ⟨b1, b2, b3⟩ := merge_ok a1 a2 k3
    refine ⟨b1, b2, fun p p0 p1 => ?_⟩
    have := h.le
    show valR (mergeL (addR acc (a, b, g)) cs) p = if p < a then valR acc p else (if p ≤ b then g else valR cs p)
    rw [b3 p p0 p1]
    by_cases y : p < b + 1
    · rw [if_pos y, a3 p p0 y]
      by_cases z : p < a
      · rw [if_pos z, if_pos z]
      · rw [if_neg z, if_neg z, if_pos (by omega)]
    · rw [if_neg y, if_neg (by omega), if_neg (by omega)]
/-! ### cells -/
def cellsR (f : Int → Option Nat) : List Int → List Pt
  | a :: b :: r => (a, b - 1, f a) :: cellsR f (b :: r)
  | _ => []
theorem wcells_ok {f : Int → Option Nat} {E : Int} : ∀ {r : List Int} {a : Int}, (a :: r).Pairwise (· < ·) → (a :: r).getLast (fun z => nomatch z) = E → (∀ x p, x ∈ a :: r → x ≤ p → p < E → (∀ y ∈ a :: r, ¬ (x < y ∧ y ≤ p)) → f x = f p) →
    RowE a E (cellsR f (a :: r)) ∧ ∀ p, a ≤ p → p < E → valR (cellsR f (a :: r)) p = f p
  | [], a, h, l, k => by
    have e : a = E := l
    subst e
    exact ⟨rfl, fun p p0 p1 => by omega⟩
  | b :: r, a, h, l, k => by
    obtain ⟨h1, h2⟩ := List.pairwise_cons.mp h
    have ab := h1 b (List.mem_cons_self ..)
    have l2 : (b :: r).getLast (fun z => nomatch z) = E := by rw [← l]; rfl
    obtain ⟨i1, i2⟩ := wcells_ok (f := f) h2 l2 fun x p hx hp pe hn => k x p (List.mem_cons_of_mem _ hx) hp pe fun y hy => by
      rcases List.mem_cons.mp hy with q | q
      · intro z
        have := (List.pairwise_cons.mp h2).1
        have bx : b ≤ x := by
          rcases List.mem_cons.mp hx with w | w
          · omega
          · have := this x w; omega
        omega
      · exact hn y q
    have eb : b - 1 + 1 = b := by omega
    refine ⟨⟨rfl, by omega, by rw [eb]; exact i1⟩, fun p p0 p1 => ?_⟩
    show (if p ≤ b - 1 then f a else valR (cellsR f (b :: r)) p) = f p
    by_cases y : p ≤ b - 1
    · rw [if_pos y]
      refine k a p (List.mem_cons_self ..) p0 p1 fun z hz w => ?_
      rcases List.mem_cons.mp hz with q | q
      · omega
      · rcases List.mem_cons.mp q with q | q
        · omega
        · have := (List.pairwise_cons.mp h2).1 z q; omega
    · rw [if_neg y]
      exact i2 p (by omega) p1
theorem last_same {x p : Int} : ∀ (ls : List (Int × Int)) (i : Nat) (f : Option Nat), (∀ l ∈ ls, (l.1 ≤ x ∧ x ≤ l.2) ↔ (l.1 ≤ p ∧ p ≤ l.2)) → lastO ls i f x = lastO ls i f p
  | [], _, _, _ => rfl
  | (lo, hi) :: ls, i, f, h => by
    have h0 := h (lo, hi) (List.mem_cons_self ..)
    show lastO ls (i + 1) (if lo ≤ x ∧ x ≤ hi then some i else f) x = lastO ls (i + 1) (if lo ≤ p ∧ p ≤ hi then some i else f) p
    have e : (if lo ≤ x ∧ x ≤ hi then some i else f) = (if lo ≤ p ∧ p ≤ hi then some i else f) := by
      by_cases q : lo ≤ x ∧ x ≤ hi
      · rw [if_pos q, if_pos (h0.mp q)]
      · rw [if_neg q, if_neg fun z => q (h0.mpr z)]
    rw [e]
    exact last_same ls (i + 1) _ fun l hl => h l (List.mem_cons_of_mem _ hl)
/-- both readings of the wall -/
theorem wall_eq {ls : List (Int × Int)} {r : List Int} {N : Int} (hN : 0 ≤ N) (hl : ∀ l ∈ ls, In (N + 1) l) (up : (0 :: r).Pairwise (· < ·)) (la : (0 :: r).getLast (fun z => nomatch z) = N + 1) (hm : ∀ l ∈ ls, l.1 ∈ 0 :: r ∧ (l.2 + 1 ≤ N → l.2 + 1 ∈ 0 :: r)) :
    paintR ls 0 [(0, N, none)] = mergeL [] (cellsR (lastO ls 0 none) (0 :: r)) := by
  obtain ⟨a1, a2, a3⟩ := paint_ok (E := N + 1) ls 0 [(0, N, none)] hl ⟨rfl, hN, rfl⟩ ⟨(fun z => nomatch z), trivial⟩ fun g ⟨a, b, k⟩ => by
    cases List.mem_singleton.mp k; exact Or.inl rfl
  obtain ⟨b1, b2⟩ := wcells_ok (f := lastO ls 0 none) up la fun x p hx hp pe hn => by
    refine last_same ls 0 none fun l hl' => ?_
    obtain ⟨m1, m2⟩ := hm l hl'
    have n1 := hn l.1 m1
    constructor
    · intro ⟨q1, q2⟩
      refine ⟨by omega, ?_⟩
      by_cases z : p ≤ l.2
      · exact z
      · exfalso
        exact hn (l.2 + 1) (m2 (by omega)) ⟨by omega, by omega⟩
    · intro ⟨q1, q2⟩
      refine ⟨?_, by omega⟩
      by_cases z : l.1 ≤ x
      · exact z
      · exact absurd ⟨by omega, q1⟩ n1
  obtain ⟨c1, c2, c3⟩ := merge_ok (acc := []) (s := 0) (m := 0) rfl trivial b1
  refine RowE.unique a1 c1 a2 c2 fun p p0 p1 => ?_
  rw [a3 p p0 p1, c3 p p0 p1, if_neg (by omega), b2 p p0 p1]
  congr 1
  show (if p ≤ N then none else none) = none
  rw [if_pos (by omega)]
end QA

/-! helpers, those of the earlier texts that this law can use -/
namespace QA
open PySem PySem.Spec PyProof.Rows DL MR
def penS (cs : List Int) (n v : Int) : Sl := .lst [.list (cs.map .int), .int n, .int v]
def one_ (c n : Int) : Int := (c % 1000000009 * (n + 3) + 99991 * n + 23) ^ 3 % 2147483587
def two_ (c n : Int) : Int := (one_ c n * (n + 7) + c % 65521 + 2) ^ 5 % 2147483563
def three_ (c n : Int) : Int := (two_ c n * two_ c n + one_ c n + 5 * n) % 2147483549
def mix (c n : Int) : Int := (three_ c n * 2147483587 + two_ c n) * 2147483563 + one_ c n
theorem one_b (c n : Int) : 0 ≤ one_ c n ∧ one_ c n < 2147483587 := ⟨Int.emod_nonneg _ (by decide), Int.emod_lt_of_pos _ (by decide)⟩
theorem two_b (c n : Int) : 0 ≤ two_ c n ∧ two_ c n < 2147483563 := ⟨Int.emod_nonneg _ (by decide), Int.emod_lt_of_pos _ (by decide)⟩
theorem base1 (c n : Int) (h0 : 0 ≤ n) (h1 : n ≤ 4294967296) : (c % 1000000009 * (n + 3) + 99991 * n + 23).natAbs < 2 ^ 64 := by
  have a1 : 0 ≤ c % 1000000009 := Int.emod_nonneg _ (by decide)
  have a2 : c % 1000000009 < 1000000009 := Int.emod_lt_of_pos _ (by decide)
  have a3 : 0 ≤ c % 1000000009 * (n + 3) := Int.mul_nonneg a1 (by omega)
  have a4 : c % 1000000009 * (n + 3) ≤ 1000000009 * (n + 3) := Int.mul_le_mul_of_nonneg_right (by omega) (by omega)
  omega
theorem base2 (c n : Int) (h0 : 0 ≤ n) (h1 : n ≤ 4294967296) : (one_ c n * (n + 7) + c % 65521 + 2).natAbs < 2 ^ 64 := by
  obtain ⟨a1, a2⟩ := one_b c n
  have b1 : 0 ≤ c % 65521 := Int.emod_nonneg _ (by decide)
  have b2 : c % 65521 < 65521 := Int.emod_lt_of_pos _ (by decide)
  have a3 : 0 ≤ one_ c n * (n + 7) := Int.mul_nonneg a1 (by omega)
  have a4 : one_ c n * (n + 7) ≤ 2147483587 * (n + 7) := Int.mul_le_mul_of_nonneg_right (by omega) (by omega)
  omega
/-- arithmetic, one operation each, as the mirrors ask it -/
theorem pow_ok {i : Int} {k : Nat} (h : i.natAbs < 2 ^ 64) (hk : k ≤ 1000000) : powD [.int i, .int (k : Int)] = some (.int (i ^ k)) := by
  unfold powD intDc
  dsimp only
  rw [if_pos (decide_eq_true ⟨Int.natCast_nonneg k, by omega, h⟩)]
  rfl
theorem mul_ok {i j : Int} (h : (-(2 ^ 64) < i ∧ i < 2 ^ 64) ∨ (-(2 ^ 64) < j ∧ j < 2 ^ 64)) : mulD [.int i, .int j] = some (.int (i * j)) := if_pos (decide_eq_true h)
theorem mod_ok {i j : Int} (h : 0 < j) : modD [.int i, .int j] = some (.int (i % j)) := if_pos (decide_eq_true h)
theorem div_ok {i j : Int} (h : 0 < j ∧ j < 1073741824) : divD [.int i, .int j] = some (.int (i / j)) := if_pos (decide_eq_true h)
theorem atI_nat {α : Type} {xs : List α} {i : Nat} {a : α} (h : xs[i]? = some a) : L2.atI xs (i : Int) = some a := by
  unfold L2.atI L2.ixN
  have hl := (List.getElem?_eq_some_iff.mp h).1
  rw [if_pos (Int.natCast_nonneg i), if_pos (by omega)]
  exact h
theorem fresh_go {cs : List Int} {n v c : Int} (h0 : 0 ≤ n) (h1 : n ≤ 4294967296) (m : M O)
    (hm : m = seqM (asgM (opM true modD [.ex (opM true powD [.ex (opM true addD [.ex (opM true addD [.ex (opM true mulD [.ex (opM true modD [.sl 2, .ex (M.ret (.int 1000000009))]), .ex (opM true addD [.sl 1, .ex (M.ret (.int 3))])]), .ex (opM true mulD [.ex (M.ret (.int 99991)), .sl 1])]), .ex (M.ret (.int 23))]), .ex (M.ret (.int 3))]), .ex (M.ret (.int 2147483587))]) (setT 3))
  (seqM (asgM (opM true modD [.ex (opM true powD [.ex (opM true addD [.ex (opM true addD [.ex (opM true mulD [.sl 3, .ex (opM true addD [.sl 1, .ex (M.ret (.int 7))])]), .ex (opM true modD [.sl 2, .ex (M.ret (.int 65521))])]), .ex (M.ret (.int 2))]), .ex (M.ret (.int 5))]), .ex (M.ret (.int 2147483563))]) (setT 4))
  (seqM (asgM (opM true modD [.ex (opM true addD [.ex (opM true addD [.ex (opM true mulD [.sl 4, .sl 4]), .sl 3]), .ex (opM true mulD [.ex (M.ret (.int 5)), .sl 1])]), .ex (M.ret (.int 2147483549))]) (setT 5))
  (retM (opM true addD [.ex (opM true mulD [.ex (opM true addD [.ex (opM true mulD [.sl 5, .ex (M.ret (.int 2147483587))]), .sl 4]), .ex (M.ret (.int 2147483563))]), .sl 3]))))) :
    ∃ e, m [penS cs (n + 1) v, .dat (.int n), .dat (.int c), .non, .non, .non] = some (.ok (.rt (.dat (.int (mix c n)))) (penS cs (n + 1) v :: e)) := by
  refine ⟨[.dat (.int n), .dat (.int c), .dat (.int (one_ c n)), .dat (.int (two_ c n)), .dat (.int (three_ c n))], ?_⟩
  have p1 : powD [.int (c % 1000000009 * (n + 3) + 99991 * n + 23), .int 3] = some (.int ((c % 1000000009 * (n + 3) + 99991 * n + 23) ^ 3)) := pow_ok (k := 3) (base1 c n h0 h1) (by decide)
  have p2 : powD [.int (one_ c n * (n + 7) + c % 65521 + 2), .int 5] = some (.int ((one_ c n * (n + 7) + c % 65521 + 2) ^ 5)) := pow_ok (k := 5) (base2 c n h0 h1) (by decide)
  have m1 : mulD [.int (c % 1000000009), .int (n + 3)] = some (.int (c % 1000000009 * (n + 3))) := mul_ok (Or.inr ⟨by omega, by omega⟩)
  have m2 : mulD [.int 99991, .int n] = some (.int (99991 * n)) := mul_ok (Or.inl ⟨by decide, by decide⟩)
  have m3 : mulD [.int (one_ c n), .int (n + 7)] = some (.int (one_ c n * (n + 7))) := mul_ok (Or.inr ⟨by omega, by omega⟩)
  have m4 : mulD [.int (two_ c n), .int (two_ c n)] = some (.int (two_ c n * two_ c n)) := mul_ok (Or.inr ⟨by have := (two_b c n).1; omega, by have := (two_b c n).2; omega⟩)
  have m5 : mulD [.int 5, .int n] = some (.int (5 * n)) := mul_ok (Or.inl ⟨by decide, by decide⟩)
  have m6 : ∀ x, mulD [.int x, .int 2147483587] = some (.int (x * 2147483587)) := fun x => mul_ok (Or.inr ⟨by decide, by decide⟩)
  have m7 : ∀ x, mulD [.int x, .int 2147483563] = some (.int (x * 2147483563)) := fun x => mul_ok (Or.inr ⟨by decide, by decide⟩)
  have d1 : ∀ x, modD [.int x, .int 1000000009] = some (.int (x % 1000000009)) := fun x => mod_ok (by decide)
  have d2 : ∀ x, modD [.int x, .int 2147483587] = some (.int (x % 2147483587)) := fun x => mod_ok (by decide)
  have d3 : ∀ x, modD [.int x, .int 65521] = some (.int (x % 65521)) := fun x => mod_ok (by decide)
  have d4 : ∀ x, modD [.int x, .int 2147483563] = some (.int (x % 2147483563)) := fun x => mod_ok (by decide)
  have d5 : ∀ x, modD [.int x, .int 2147483549] = some (.int (x % 2147483549)) := fun x => mod_ok (by decide)
  have o1 : (c % 1000000009 * (n + 3) + 99991 * n + 23) ^ 3 % 2147483587 = one_ c n := rfl
  have o2 : (one_ c n * (n + 7) + c % 65521 + 2) ^ 5 % 2147483563 = two_ c n := rfl
  have o3 : (two_ c n * two_ c n + one_ c n + 5 * n) % 2147483549 = three_ c n := rfl
  have o4 : (three_ c n * 2147483587 + two_ c n) * 2147483563 + one_ c n = mix c n := rfl
  subst hm
  simp only [penS, seqM, asgM, M.bind, M.ret, opM, runA, getA, look, setT, retM, addD, held, List.getElem?_cons_zero, List.getElem?_cons_succ, Option.map_some, List.set_cons_zero, List.set_cons_succ, if_true, reduceCtorEq, m1, m2, m3, m4, m5, m6, m7, d1, d2, d3, d4, d5, p1, p2, o1, o2, o3, o4]
theorem seq_nx {a b : M O} {e e' : En} (h : a e = some (.ok .nx e')) : seqM a b e = b e' := by unfold seqM; rw [h]
theorem seq_rt {a b : M O} {e e' : En} {v : Rv} (h : a e = some (.ok (.rt v) e')) : seqM a b e = some (.ok (.rt v) e') := by unfold seqM; rw [h]
theorem body_rt {n : Nat} {m : M O} {args e as : List Sl} {rv : Rv} (h : m (args ++ List.replicate n .non) = some (.ok (.rt rv) e)) (hf : fin args e = some as) : bodyF n m args = some (.ok rv as) := by
  unfold bodyF; rw [h]
  show (fin args e).map _ = _
  rw [hf]; rfl
theorem body_nx {n : Nat} {m : M O} {args e as : List Sl} (h : m (args ++ List.replicate n .non) = some (.ok .nx e)) (hf : fin args e = some as) : bodyF n m args = some (.ok (.dat .none) as) := by
  unfold bodyF; rw [h]
  show (fin args e).map _ = _
  rw [hf]; rfl
theorem bind_ok {α β : Type} {m : M α} {f : α → M β} {e e' : En} {a : α} (h : m e = some (.ok a e')) : M.bind m f e = f a e' := by unfold M.bind; rw [h]
theorem seq_nx' {a b : M O} {e e' : En} {r : Option (Rs O)} (h : a e = some (.ok .nx e')) (k : b e' = r) : seqM a b e = r := by rw [seq_nx h]; exact k
theorem call_i {F : FS} {i : Nat} {m : M D} {env env' : En} {s s' x : Sl} {d : D} {rv : Rv} (hh : held env i = true) (hm : m env = some (.ok d env')) (h : env'[i]? = some s) (ho : s.owns = true) (ho' : s'.owns = true) (hF : F [s, .dat d] = some (.ok rv [s', x])) :
    callV F [.sl i, .ex m] env = some (.ok rv (env'.set i s')) := by
  have hs : slotsOf env' [.sl i, .ex m] [none, some d] = some [s, .dat d] := by
    unfold slotsOf
    rw [h]
    cases s <;> first | rfl | cases ho
  have hx : ownIx env' [.sl i, .ex m] = [i] := by
    unfold ownIx
    rw [h]
    show (if s.owns = true then i :: _ else _) = _
    rw [if_pos ho]; rfl
  have hb : backS env' [.sl i, .ex m] [s', x] = env'.set i s' := by
    unfold backS
    rw [if_pos ho']; rfl
  unfold callV M.bind runA
  simp only [hh, if_true, M.bind, runA, hm, M.ret, hs, hx, hF, hb, List.nodup_cons, List.not_mem_nil, not_false_eq_true, List.nodup_nil, and_self]
theorem datM_ok {m : M Rv} {e e' : En} {d : D} (h : m e = some (.ok (.dat d) e')) : datM m e = some (.ok d e') := by unfold datM; rw [bind_ok h]
theorem lstM_ok {m : M Rv} {e e' : En} {d : List D} (h : m e = some (.ok (.lst d) e')) : lstM m e = some (.ok d e') := by unfold lstM; rw [bind_ok h]
/-- a pen from which k more may be drawn -/
def Pen (k : Nat) (s : Sl) : Prop := ∃ (cs : List Int) (n v : Int), s = penS cs n v ∧ 0 ≤ n ∧ n + k ≤ 4294967296
theorem Pen.mono {k k' : Nat} {s : Sl} (h : Pen k s) (hk : k' ≤ k) : Pen k' s := by
  obtain ⟨cs, n, v, e, a, b⟩ := h
  exact ⟨cs, n, v, e, a, by omega⟩
theorem Pen.owns {k : Nat} {s : Sl} (h : Pen k s) : s.owns = true := by obtain ⟨cs, n, v, rfl, _⟩ := h; rfl
theorem Pen.lst {k : Nat} {s : Sl} (h : Pen k s) : ∃ ds, s = .lst ds := by obtain ⟨cs, n, v, rfl, _⟩ := h; exact ⟨_, rfl⟩
theorem ret_ok {α : Type} (a : α) (e : En) : M.ret a e = some (.ok a e) := rfl
theorem shaped_int (i : Int) : SeqAt.shaped (.int i) = true := by simp [SeqAt.shaped, PyData.canLay0, PyData.depth]
theorem eq_int (i j : Int) : eqD [.int i, .int j] = some (.bool (decide (i = j))) := by
  rw [eq_ok (shaped_int i) (shaped_int j)]
  simp only [PyData.eqv]
  rfl
structure LotOk (L : List Int) : Prop where
  up : L.Pairwise (· ≤ ·)
  on : ∀ x ∈ L, 0 ≤ x ∧ x ≤ 1000000000
theorem gap_at {d : Int} (h0 : 0 ≤ d) (h1 : d < 6) : ∃ w : Int, L2.atI [PyData.int 0, .int 0, .int 1, .int 2, .int 50, .int 10000000] d = some (.int w) ∧ 0 ≤ w ∧ w ≤ 10000000 := by
  have : d = 0 ∨ d = 1 ∨ d = 2 ∨ d = 3 ∨ d = 4 ∨ d = 5 := by omega
  rcases this with rfl | rfl | rfl | rfl | rfl | rfl
  · exact ⟨0, rfl, by decide, by decide⟩
  · exact ⟨0, rfl, by decide, by decide⟩
  · exact ⟨1, rfl, by decide, by decide⟩
  · exact ⟨2, rfl, by decide, by decide⟩
  · exact ⟨50, rfl, by decide, by decide⟩
  · exact ⟨10000000, rfl, by decide, by decide⟩
theorem p107 : powD [.int 10, .int 7] = some (.int 10000000) := rfl
theorem p109 : powD [.int 10, .int 9] = some (.int 1000000000) := rfl
theorem qapp {xs : List D} {d : D} (h : xs.length < 1000000) : qAppend xs [d] = some (.none, xs ++ [d]) := by
  unfold qAppend
  first
    | exact if_pos h
    | rfl
theorem setT_ok {i : Nat} {d : D} {e : En} {s : Sl} (h : e[i]? = some s) (ho : s.owns = false) : setT i d e = some (e.set i (.dat d)) := by
  unfold setT; rw [h]
  cases s <;> first | rfl | cases ho
theorem for_nil {g : Tg} {b : M O} {e : En} : forL g b [] e = some (.ok .nx e) := rfl
theorem for_cons {g : Tg} {b : M O} {d : D} {ds : List D} {e e1 e2 : En} (h1 : g d e = some e1) (h2 : b e1 = some (.ok .nx e2)) : forL g b (d :: ds) e = forL g b ds e2 := by
  show (match g d e with
    | none => none
    | some e1 => match b e1 with
      | some (.ok .nx e') => forL g b ds e'
      | some (.ok .ct e') => forL g b ds e'
      | some (.ok .bk e') => some (.ok .nx e')
      | r => r) = _
  rw [h1]
  dsimp only
  rw [h2]
theorem range1 {m : M D} {e : En} {n : Nat} (h : m e = some (.ok (.int (n : Int)) e)) (hn : n ≤ 1000000) : rangeI [.ex m] e = some (.ok (rangeL 0 n) e) := by
  unfold rangeI
  have hr : runA [.ex m] e = some (.ok [some (.int (n : Int))] e) := by
    show M.bind m _ e = _
    rw [bind_ok h]; rfl
  rw [bind_ok hr]
  exact if_pos ⟨by omega, by omega⟩
theorem rangeL_len {lo : Int} {n : Nat} : (rangeL lo n).length = n := by simp [rangeL]
theorem for_ok {mi : M (List D)} {g : Tg} {b : M O} {e e1 : En} {ds : List D} {r : Option (Rs O)} (h : mi e = some (.ok ds e1)) (k : forL g b ds e1 = r) : DL.forM mi g b e = r := by
  unfold DL.forM; rw [bind_ok h]; exact k
theorem if_ok {c : M Bool} {a b : M O} {e e1 : En} {k : Bool} (h : c e = some (.ok k e1)) : ifM c a b e = (if k = true then a else b) e1 := by
  unfold ifM; rw [bind_ok h]
theorem set_last {L : List Int} {x : Int} (h : L ≠ []) : ∃ G, L.map PyData.int ≠ [] ∧ (∃ y, L = G ++ [y]) ∧ (L.map PyData.int).set (L.length - 1) (.int x) = (G ++ [x]).map .int := by
  obtain ⟨G, y, rfl⟩ : ∃ G y, L = G ++ [y] := ⟨L.dropLast, L.getLast h, (List.dropLast_concat_getLast h).symm⟩
  refine ⟨G, by simp, ⟨y, rfl⟩, ?_⟩
  simp [List.map_append]
theorem LotOk.top {G : List Int} {y : Int} (h : LotOk (G ++ [y])) : LotOk (G ++ [1000000000]) := by
  obtain ⟨u, o⟩ := h
  rw [List.pairwise_append] at u
  refine ⟨?_, fun x hx => ?_⟩
  · rw [List.pairwise_append]
    exact ⟨u.1, List.pairwise_singleton _ _, fun a ha b hb => by rw [List.mem_singleton.mp hb]; exact (o a (List.mem_append_left _ ha)).2⟩
  · rcases List.mem_append.mp hx with z | z
    · exact o x (List.mem_append_left _ z)
    · rw [List.mem_singleton.mp z]; exact ⟨by decide, Int.le_refl _⟩
theorem ixN_last {n : Nat} (h : 0 < n) : L2.ixN n (-1) = some (n - 1) := by
  unfold L2.ixN
  rw [if_neg (by decide), if_pos (by omega)]
  exact congrArg some (by omega)
/-- a call with an own list and data, both by slots -/
theorem call_ss {F : FS} {i j : Nat} {env : En} {s s' x : Sl} {d : D} {rv : Rv} (h : env[i]? = some s) (hj : env[j]? = some (.dat d)) (ho : ∃ ds, s = .lst ds) (ho' : s'.owns = true) (hF : F [s, .dat d] = some (.ok rv [s', x])) (hx : x.owns = false) :
    callV F [.sl i, .sl j] env = some (.ok rv (env.set i s')) := by
  obtain ⟨ds, rfl⟩ := ho
  have h1 : held env i = true := by unfold held; rw [h]
  have h2 : held env j = true := by unfold held; rw [hj]
  have hs : slotsOf env [.sl i, .sl j] [none, none] = some [.lst ds, .dat d] := by
    unfold slotsOf
    rw [h]
    unfold slotsOf
    rw [hj]; rfl
  have hx2 : ownIx env [.sl i, .sl j] = [i] := by
    unfold ownIx
    rw [h]
    show (if Sl.owns (.lst ds) = true then i :: _ else _) = _
    rw [if_pos (show Sl.owns (.lst ds) = true from rfl)]
    unfold ownIx
    rw [hj]; rfl
  have hb : backS env [.sl i, .sl j] [s', x] = env.set i s' := by
    unfold backS
    rw [if_pos ho']
    unfold backS
    rw [if_neg (by rw [hx]; exact Bool.false_ne_true)]; rfl
  unfold callV M.bind runA
  simp only [h1, if_true, M.bind, runA, h2, M.ret, hs, hx2, hF, hb, List.nodup_cons, List.not_mem_nil, not_false_eq_true, List.nodup_nil, and_self]
def On (p : Int × Int) : Prop := 0 ≤ p.1 ∧ p.1 ≤ p.2 ∧ p.2 ≤ 1000000000
theorem sort_two (d1 d2 : Int) : ∃ i j, sortD [.list [.int d1, .int d2]] = some (.list [.int i, .int j]) ∧ i ≤ j ∧ (i = d1 ∨ i = d2) ∧ (j = d1 ∨ j = d2) := by
  obtain ⟨T, h1, h2, h3⟩ := sorted_ints [d1, d2]
  have hl : T.length = 2 := h2.length_eq
  match T, hl with
  | [i, j], _ =>
    refine ⟨i, j, ?_, ?_, ?_, ?_⟩
    · show (if sortOk ([d1, d2].map PyData.int) = true then some (PyData.list (sortedL ([d1, d2].map PyData.int))) else none) = _
      rw [if_pos (sortOk_ints _), h1]; rfl
    · exact (List.pairwise_cons.mp h3).1 j (List.mem_singleton.mpr rfl)
    · have := h2.mem_iff.mp (show i ∈ [i, j] from List.mem_cons_self ..)
      simpa using this
    · have := h2.mem_iff.mp (show j ∈ [i, j] by simp)
      simpa using this
theorem lot_at {L : List Int} {i : Int} (h0 : 0 ≤ i) (h1 : i < (L.length : Int)) : ∃ (n : Nat) (x : Int), i = n ∧ L[n]? = some x ∧ L2.atI (L.map PyData.int) i = some (.int x) := by
  obtain ⟨n, rfl⟩ := Int.eq_ofNat_of_zero_le h0
  have hn : n < L.length := by omega
  exact ⟨n, L[n], rfl, List.getElem?_eq_getElem hn, atI_nat (by rw [List.getElem?_map, List.getElem?_eq_getElem hn]; rfl)⟩
theorem LotOk.mono {L : List Int} (h : LotOk L) {i j : Nat} {x y : Int} (hi : L[i]? = some x) (hj : L[j]? = some y) (hij : i ≤ j) : x ≤ y := by
  obtain ⟨a, ea⟩ := List.getElem?_eq_some_iff.mp hi
  obtain ⟨b, eb⟩ := List.getElem?_eq_some_iff.mp hj
  rcases Nat.lt_or_eq_of_le hij with l | l
  · have := List.pairwise_iff_getElem.mp h.up i j a b l
    rw [ea, eb] at this; exact this
  · subst l
    rw [ea] at eb
    omega
theorem comp_nil {vs : List Nat} {g : Tg} {c : M Bool} {el : M D} {e : En} : compL vs g c el [] e = some (.ok [] e) := rfl
theorem comp_cons {vs : List Nat} {g : Tg} {c : M Bool} {el : M D} {d z : D} {ds r : List D} {e e1 e2 e3 : En} (ho : vs.all (Sl.open_ e) = true) (hg : g d (wipeE e vs) = some e1) (hc : c e1 = some (.ok true e1)) (he : el e1 = some (.ok z e2)) (hr : compL vs g c el ds (backE e e2 vs) = some (.ok r e3)) :
    compL vs g c el (d :: ds) e = some (.ok (z :: r) e3) := by
  show (if vs.all (Sl.open_ e) = true then (match g d (wipeE e vs) with
    | none => none
    | some e1 => match M.bind c (fun k => if k = true then M.bind el fun y => M.ret [y] else M.ret []) e1 with
      | some (.ok ys e2) => M.bind (compL vs g c el ds) (fun r => M.ret (ys ++ r)) (backE e e2 vs)
      | _ => none) else none) = _
  rw [if_pos ho, hg]
  dsimp only
  rw [bind_ok hc, if_pos rfl, bind_ok he]
  show M.bind (compL vs g c el ds) (fun r => M.ret ([z] ++ r)) (backE e e2 vs) = _
  rw [bind_ok hr]; rfl
theorem comp_skip {vs : List Nat} {g : Tg} {c : M Bool} {el : M D} {d : D} {ds r : List D} {e e1 e3 : En} (ho : vs.all (Sl.open_ e) = true) (hg : g d (wipeE e vs) = some e1) (hc : c e1 = some (.ok false e1)) (hr : compL vs g c el ds (backE e e1 vs) = some (.ok r e3)) :
    compL vs g c el (d :: ds) e = some (.ok r e3) := by
  show (if vs.all (Sl.open_ e) = true then (match g d (wipeE e vs) with
    | none => none
    | some e1 => match M.bind c (fun k => if k = true then M.bind el fun y => M.ret [y] else M.ret []) e1 with
      | some (.ok ys e2) => M.bind (compL vs g c el ds) (fun r => M.ret (ys ++ r)) (backE e e2 vs)
      | _ => none) else none) = _
  rw [if_pos ho, hg]
  dsimp only
  rw [bind_ok hc, if_neg Bool.false_ne_true]
  show M.bind (compL vs g c el ds) (fun r => M.ret ([] ++ r)) (backE e e1 vs) = _
  rw [bind_ok hr]; rfl
theorem comp_ok {mi : M (List D)} {vs : List Nat} {g : Tg} {c : M Bool} {el : M D} {ds r : List D} {e e1 e2 : En} (h : mi e = some (.ok ds e1)) (hl : ds.length ≤ 1000000) (hr : compL vs g c el ds e1 = some (.ok r e2)) : compM mi vs g c el e = some (.ok r e2) := by
  unfold compM
  rw [bind_ok h, if_pos hl, hr]
theorem listD_ok {m : M (List D)} {e e' : En} {ds : List D} (h : m e = some (.ok ds e')) : listD m e = some (.ok (.list ds) e') := by unfold listD; rw [bind_ok h]; rfl
theorem asg_ok {m : M D} {g : Tg} {e e1 e2 : En} {d : D} (h : m e = some (.ok d e1)) (hg : g d e1 = some e2) : asgM m g e = some (.ok .nx e2) := by
  unfold asgM; rw [bind_ok h]
  show (g d e1).map _ = _
  rw [hg]; rfl
theorem new_ok {m : M (List D)} {i : Nat} {e e1 : En} {ds : List D} (h : m e = some (.ok ds e1)) (ho : Sl.open_ e1 i = true) : newM m i e = some (.ok .nx (e1.set i (.lst ds))) := by
  unfold newM; rw [bind_ok h]
  exact if_pos ho
theorem ret_o {m : M D} {e e' : En} {d : D} (h : m e = some (.ok d e')) : retM m e = some (.ok (.rt (.dat d)) e') := by unfold retM; rw [bind_ok h]; rfl
theorem op_ok {p : List D → Option D} {os : List Opd} {e e1 : En} {as : List (Option D)} {ds : List D} {z : D} (h : runA os e = some (.ok as e1)) (hg : getA true e1 os as = some ds) (hp : p ds = some z) : opM true p os e = some (.ok z e1) := by
  unfold opM; rw [bind_ok h, hg]
  dsimp only
  rw [hp]
theorem call_pure {F : FS} {os : List Opd} {env env' : En} {as : List (Option D)} {ss ss' : List Sl} {rv : Rv} (hr : runA os env = some (.ok as env')) (hs : slotsOf env' os as = some ss) (hx : ownIx env' os = []) (hF : F ss = some (.ok rv ss')) (hb : backS env' os ss' = env') : callV F os env = some (.ok rv env') := by
  unfold callV
  rw [bind_ok hr, hs]
  dsimp only
  rw [hx, if_pos List.nodup_nil, hF]
  dsimp only
  rw [hb]
theorem run_sl {i : Nat} {os : List Opd} {env e' : En} {as : List (Option D)} (h : held env i = true) (k : runA os env = some (.ok as e')) : runA (.sl i :: os) env = some (.ok (none :: as) e') := by
  show (if held env i = true then M.bind (runA os) (fun as => M.ret (none :: as)) env else none) = _
  rw [if_pos h, bind_ok k]; rfl
theorem run_ex {m : M D} {d : D} {os : List Opd} {env e1 e' : En} {as : List (Option D)} (h : m env = some (.ok d e1)) (k : runA os e1 = some (.ok as e')) : runA (.ex m :: os) env = some (.ok (some d :: as) e') := by
  show M.bind m (fun d => M.bind (runA os) fun as => M.ret (some d :: as)) env = _
  rw [bind_ok h, bind_ok k]; rfl
theorem or_no {a b : M Bool} {e : En} (ha : a e = some (.ok false e)) (hb : b e = some (.ok false e)) : orB a b e = some (.ok false e) := by
  unfold orB
  rw [bind_ok ha, if_neg Bool.false_ne_true]; exact hb
theorem if_no {c : M Bool} {a b : M O} {e : En} {r : Option (Rs O)} (h : c e = some (.ok false e)) (k : b e = r) : ifM c a b e = r := by
  rw [if_ok h, if_neg Bool.false_ne_true]; exact k
theorem nd_ok {m : M D} {e : En} {b : Bool} (h : m e = some (.ok (.bool b) e)) : notD m e = some (.ok (.bool (!b)) e) := by
  unfold notD boolM
  rw [bind_ok (bind_ok h |>.trans rfl)]; rfl
theorem ad_ok {a b : M D} {e : En} {x y : Bool} (ha : a e = some (.ok (.bool x) e)) (hb : x = true → b e = some (.ok (.bool y) e)) : andD a b e = some (.ok (.bool (x && y)) e) := by
  unfold andD boolM
  rw [bind_ok (bind_ok ha |>.trans rfl)]
  cases x with
  | true => rw [if_pos rfl, Bool.true_and]; exact hb rfl
  | false => rw [if_neg Bool.false_ne_true, Bool.false_and]; rfl
theorem bm_ok {m : M D} {e : En} {b : Bool} (h : m e = some (.ok (.bool b) e)) : boolM m e = some (.ok b e) := by
  unfold boolM; rw [bind_ok h]
theorem nb_ok {m : M Bool} {e : En} {b : Bool} (h : m e = some (.ok b e)) : notB m e = some (.ok (!b) e) := by
  unfold notB; rw [bind_ok h]; rfl
def wholeB : D → Bool
  | .int i => decide (0 ≤ i)
  | _ => false
def placeB : D → Bool
  | .int i => decide (0 ≤ i) && decide (i ≤ 1000000000)
  | _ => false
theorem no_int {d : D} {n : Nat} {b : M D} {e : En} (h : e[0]? = some (.dat d)) (hi : isB "int" d = false) : andD (opM true (isiD "int") [.sl 0]) b e = some (.ok (.bool false) e) := by
  have : opM true (isiD "int") [.sl 0] e = some (.ok (.bool false) e) := by
    refine op_ok (as := [none]) (ds := [d]) (run_sl ?_ rfl) ?_ (by show some (PyData.bool (isB "int" d)) = _; rw [hi])
    · unfold held; rw [h]
    · simp only [getA, look, h]; rfl
  exact ad_ok (y := false) this (fun h => nomatch h)
theorem whole_any (d : D) : F_is_whole_8291 [.dat d, .dat (.int 0)] = some (.ok (.dat (.bool (wholeB d))) [.dat d, .dat (.int 0)]) := by
  refine body_rt (e := [.dat d, .dat (.int 0)]) ?_ rfl
  show m_is_whole_8291 [.dat d, .dat (.int 0)] = _
  unfold m_is_whole_8291
  cases d with
  | int i =>
    have g1 : opM true geD [.sl 0, .sl 1] [.dat (.int i), .dat (.int 0)] = some (.ok (.bool (decide (0 ≤ i))) [.dat (.int i), .dat (.int 0)]) := op_ok (as := [none, none]) (ds := [.int i, .int 0]) rfl rfl rfl
    exact ret_o (ad_ok (x := true) rfl fun _ => ad_ok (x := true) (nd_ok (b := false) rfl) fun _ => g1)
  | bool b => exact ret_o (ad_ok (x := true) (y := false) rfl fun _ => ad_ok (x := false) (y := false) (nd_ok (b := true) rfl) (fun h => nomatch h))
  | none => exact ret_o (no_int (n := 0) rfl rfl)
  | str x => exact ret_o (no_int (n := 0) rfl rfl)
  | list x => exact ret_o (no_int (n := 0) rfl rfl)
  | tuple x => exact ret_o (no_int (n := 0) rfl rfl)
  | dict x => exact ret_o (no_int (n := 0) rfl rfl)
theorem place_any (d : D) : F_is_place_f9e3 [.dat d] = some (.ok (.dat (.bool (placeB d))) [.dat d]) := by
  have w2 : withDef [.int 0] F_is_whole_8291 [.dat d] = some (.ok (.dat (.bool (wholeB d))) [.dat d]) := by
    show (match F_is_whole_8291 [.dat d, .dat (.int 0)] with
      | some (.ok rv a) => some (Rf.ok rv (a.take 1))
      | some (.ex x a) => some (Rf.ex x (a.take 1))
      | none => none) = _
    rw [whole_any]; rfl
  refine body_rt (e := [.dat d]) ?_ rfl
  show m_is_place_f9e3 [.dat d] = _
  unfold m_is_place_f9e3
  have c1 : datM (callV (withDef [.int 0] F_is_whole_8291) [.sl 0]) [.dat d] = some (.ok (.bool (wholeB d)) [.dat d]) := datM_ok (call_pure (as := [none]) (ss := [.dat d]) rfl rfl rfl w2 rfl)
  cases d with
  | int i => exact ret_o (ad_ok (x := decide (0 ≤ i)) (y := decide (i ≤ 1000000000)) c1 fun _ => op_ok (as := [none, some (.int 1000000000)]) (ds := [.int i, .int 1000000000]) rfl rfl rfl)
  | _ => exact ret_o (ad_ok (x := false) (y := false) c1 (fun h => nomatch h))
def spanB : D → Bool
  | .tuple [a, b] => placeB a && (placeB b && match a, b with
    | .int i, .int j => decide (i ≤ j)
    | _, _ => false)
  | _ => false
noncomputable def spanM (G : FS) : M O :=
  seqM (ifM (orB (notB (boolM (opM true (isiD "tuple") [.sl 0]))) (boolM (opM true neD [.ex (opM true lenD [.sl 0]), .ex (M.ret (.int 2))]))) (retM (M.ret (.bool false))) (nxM))
  (retM (andD (datM (callV G [.ex (opM true ixD [.sl 0, .ex (M.ret (.int 0))])])) (andD (datM (callV G [.ex (opM true ixD [.sl 0, .ex (M.ret (.int 1))])])) (opM true leD [.ex (opM true ixD [.sl 0, .ex (M.ret (.int 0))]), .ex (opM true ixD [.sl 0, .ex (M.ret (.int 1))])]))))
theorem or_y1 {a b : M Bool} {e : En} (ha : a e = some (.ok true e)) : orB a b e = some (.ok true e) := by
  unfold orB; rw [bind_ok ha]; rfl
theorem or_n1 {a b : M Bool} {e : En} {k : Bool} (ha : a e = some (.ok false e)) (hb : b e = some (.ok k e)) : orB a b e = some (.ok k e) := by
  unfold orB; rw [bind_ok ha, if_neg Bool.false_ne_true]; exact hb
theorem no_tup {d : D} {b : M Bool} (hi : isB "tuple" d = false) : orB (notB (boolM (opM true (isiD "tuple") [.sl 0]))) b [.dat d] = some (.ok true [.dat d]) := by
  have : opM true (isiD "tuple") [.sl 0] [.dat d] = some (.ok (.bool false) [.dat d]) := op_ok (as := [none]) (ds := [d]) rfl rfl (by show some (PyData.bool (isB "tuple" d)) = _; rw [hi])
  exact or_y1 (nb_ok (b := false) (bm_ok this))
theorem span_no {G : FS} {d : D} (h : orB (notB (boolM (opM true (isiD "tuple") [.sl 0]))) (boolM (opM true neD [.ex (opM true lenD [.sl 0]), .ex (M.ret (.int 2))])) [.dat d] = some (.ok true [.dat d])) : spanM G [.dat d] = some (.ok (.rt (.dat (.bool false))) [.dat d]) := by
  unfold spanM
  refine seq_rt ?_
  rw [if_ok h, if_pos rfl]
  rfl
theorem span_any {G : FS} (hG : ∀ d, G [.dat d] = some (.ok (.dat (.bool (placeB d))) [.dat d])) (d : D) : spanM G [.dat d] = some (.ok (.rt (.dat (.bool (spanB d)))) [.dat d]) := by
  cases d with
  | tuple xs =>
    have l0 : opM true lenD [.sl 0] [.dat (.tuple xs)] = some (.ok (.int xs.length) [.dat (.tuple xs)]) := rfl
    have n0 : boolM (opM true neD [.ex (opM true lenD [.sl 0]), .ex (M.ret (.int 2))]) [.dat (.tuple xs)] = some (.ok (!decide ((xs.length : Int) = 2)) [.dat (.tuple xs)]) := bm_ok (op_ok (as := [some (.int xs.length), some (.int 2)]) (ds := [.int xs.length, .int 2]) (run_ex l0 (run_ex rfl rfl)) rfl (by
      rw [ne_ok (shaped_int _) (shaped_int 2)]
      simp [PyData.eqv]
      rfl))
    have o1 := or_n1 (a := notB (boolM (opM true (isiD "tuple") [.sl 0]))) (e := [.dat (.tuple xs)]) (nb_ok (b := true) (bm_ok rfl)) n0
    match xs, o1 with
    | [], o1 => exact span_no o1
    | [a], o1 => exact span_no o1
    | a :: b :: c :: r, o1 =>
      refine span_no ?_
      rw [o1]
      have : ¬ (((a :: b :: c :: r).length : Int) = 2) := by simp only [List.length_cons]; omega
      rw [decide_eq_false this]; rfl
    | [a, b], o1 =>
      unfold spanM
      refine seq_nx' (if_no o1 rfl) ?_
      have x0 : opM true ixD [.sl 0, .ex (M.ret (.int 0))] [.dat (.tuple [a, b])] = some (.ok a [.dat (.tuple [a, b])]) := rfl
      have x1 : opM true ixD [.sl 0, .ex (M.ret (.int 1))] [.dat (.tuple [a, b])] = some (.ok b [.dat (.tuple [a, b])]) := rfl
      have c0 : datM (callV G [.ex (opM true ixD [.sl 0, .ex (M.ret (.int 0))])]) [.dat (.tuple [a, b])] = some (.ok (.bool (placeB a)) [.dat (.tuple [a, b])]) := datM_ok (call_pure (as := [some a]) (ss := [.dat a]) (run_ex x0 rfl) rfl rfl (hG a) rfl)
      have c1 : datM (callV G [.ex (opM true ixD [.sl 0, .ex (M.ret (.int 1))])]) [.dat (.tuple [a, b])] = some (.ok (.bool (placeB b)) [.dat (.tuple [a, b])]) := datM_ok (call_pure (as := [some b]) (ss := [.dat b]) (run_ex x1 rfl) rfl rfl (hG b) rfl)
      refine ret_o (ad_ok (x := placeB a) c0 fun ha => ad_ok (x := placeB b) c1 fun hb => ?_)
      cases a with
      | int i => cases b with
        | int j => exact op_ok (as := [some (.int i), some (.int j)]) (ds := [.int i, .int j]) (run_ex x0 (run_ex x1 rfl)) rfl rfl
        | _ => exact nomatch hb
      | _ => exact nomatch ha
  | _ => exact span_no (no_tup rfl)
theorem stretch_any (d : D) : F_is_stretch_a332 [.dat d] = some (.ok (.dat (.bool (spanB d))) [.dat d]) := body_rt (e := [.dat d]) (span_any place_any d) rfl
def signB (c : Nat) : Bool := decide (97 ≤ c) && decide (c ≤ 122)
def one (c : Nat) : D := .str ⟨#[c]⟩
theorem alpha_in (c : Nat) : inSgD [one c, .str "abcdefghijklmnopqrstuvwxyz"] = some (.bool (signB c)) := by
  show some (PyData.bool (decide (c ∈ (Str.ofString "abcdefghijklmnopqrstuvwxyz").cps.toList))) = _
  have e : (Str.ofString "abcdefghijklmnopqrstuvwxyz").cps.toList = List.range' 97 26 := by decide +kernel
  rw [e]
  congr 2
  unfold signB
  rw [← Bool.decide_and]
  congr 1
  simp only [List.mem_range'_1, eq_iff_iff]
  omega
theorem le_sign (a c : Nat) : leSD [one a, one c] = some (.bool (decide (a ≤ c))) := by
  show some (PyData.bool (!decide ([c] < [a]))) = _
  congr 2
  have : ([c] < [a]) ↔ c < a := by rw [List.cons_lt_cons_iff]; simp [List.not_lt_nil]
  by_cases h : a ≤ c
  · rw [decide_eq_true h, decide_eq_false (by rw [this]; omega)]; rfl
  · rw [decide_eq_false h, decide_eq_true (by rw [this]; omega)]; rfl
theorem chain_i {i j k : Int} {ma mb mc : M D} {e : En} (ha : ma e = some (.ok (.int i) e)) (hb : mb e = some (.ok (.int j) e)) (hc : mc e = some (.ok (.int k) e)) :
    chainM leD leD (.ex ma) (.ex mb) (.ex mc) e = some (.ok (.bool (decide (i ≤ j) && decide (j ≤ k))) e) := by
  unfold chainM
  rw [bind_ok (show runA [.ex ma, .ex mb] e = some (.ok [some (.int i), some (.int j)] e) from run_ex ha (run_ex hb rfl))]
  show (match some (PyData.bool (decide (i ≤ j))) with
    | some (.bool true) => _
    | some (.bool false) => _
    | _ => none) = _
  by_cases h : i ≤ j
  · rw [decide_eq_true h, Bool.true_and]
    dsimp only
    rw [bind_ok (run_ex hc (show runA [] _ = some (.ok [] _) from rfl))]
    rfl
  · rw [decide_eq_false h, Bool.false_and]
theorem chain_s {x : Str} {c : Nat} : chainM leSD leSD (.ex (M.ret (.str "a"))) (.sl 1) (.ex (M.ret (.str "z"))) [.dat (.str x), .dat (one c)] = some (.ok (.bool (signB c)) [.dat (.str x), .dat (one c)]) := by
  unfold chainM
  rw [bind_ok (show runA [.ex (M.ret (.str "a")), .sl 1] [.dat (.str x), .dat (one c)] = some (.ok [some (.str "a"), none] [.dat (.str x), .dat (one c)]) from rfl)]
  show (match leSD [one 97, one c] with
    | some (.bool true) => _
    | some (.bool false) => _
    | _ => none) = _
  rw [le_sign]
  unfold signB
  by_cases h : 97 ≤ c
  · rw [decide_eq_true h, Bool.true_and]
    dsimp only
    rw [bind_ok (show runA [.ex (M.ret (.str "z"))] [.dat (.str x), .dat (one c)] = some (.ok [some (.str "z")] [.dat (.str x), .dat (one c)]) from rfl)]
    show (leSD [one c, one 122]).map _ = _
    rw [le_sign]
    rfl
  · rw [decide_eq_false h, Bool.false_and]
theorem name_loop {x : Str} : ∀ (cs : List Nat), compL [1] (setT 1) (M.ret true) (opM true inSgD [.sl 1, .ex (M.ret (.str "abcdefghijklmnopqrstuvwxyz"))]) (cs.map one) [.dat (.str x), .non] = some (.ok (cs.map fun c => PyData.bool (signB c)) [.dat (.str x), .non])
  | [] => rfl
  | c :: cs => by
    have he : opM true inSgD [.sl 1, .ex (M.ret (.str "abcdefghijklmnopqrstuvwxyz"))] [.dat (.str x), .dat (one c)] = some (.ok (.bool (signB c)) [.dat (.str x), .dat (one c)]) :=
      op_ok (as := [none, some (.str "abcdefghijklmnopqrstuvwxyz")]) (ds := [one c, .str "abcdefghijklmnopqrstuvwxyz"]) rfl rfl (alpha_in c)
    exact comp_cons (e1 := [.dat (.str x), .dat (one c)]) rfl rfl rfl he (name_loop cs)
theorem dye_loop {x : Str} : ∀ (cs : List Nat), compL [1] (setT 1) (notB (boolM (chainM leSD leSD (.ex (M.ret (.str "a"))) (.sl 1) (.ex (M.ret (.str "z")))))) (varM 1) (cs.map one) [.dat (.str x), .non] = some (.ok ((cs.filter fun c => !signB c).map one) [.dat (.str x), .non])
  | [] => rfl
  | c :: cs => by
    have hc : notB (boolM (chainM leSD leSD (.ex (M.ret (.str "a"))) (.sl 1) (.ex (M.ret (.str "z"))))) [.dat (.str x), .dat (one c)] = some (.ok (!signB c) [.dat (.str x), .dat (one c)]) := nb_ok (bm_ok chain_s)
    have ih := dye_loop (x := x) cs
    rw [List.filter_cons]
    cases z : signB c with
    | true =>
      rw [z] at hc
      exact comp_skip (e1 := [.dat (.str x), .dat (one c)]) rfl rfl hc ih
    | false =>
      rw [z] at hc
      exact comp_cons (e1 := [.dat (.str x), .dat (one c)]) rfl rfl hc rfl ih
theorem bools_of : ∀ (bs : List Bool), boolsOf (bs.map PyData.bool) = some bs
  | [] => rfl
  | b :: bs => by rw [List.map_cons, boolsOf, bools_of bs]; rfl
theorem ones_lay : ∀ (cs : List Nat), (∀ c ∈ cs, c < 1114112) → PyData.canLayAll0 (cs.map one) = true ∧ PyData.depthAll (cs.map one) = 0
  | [], _ => ⟨by simp [PyData.canLayAll0], by simp [PyData.depthAll]⟩
  | c :: cs, h => by
    obtain ⟨h1, h2⟩ := ones_lay cs fun x hx => h x (List.mem_cons_of_mem _ hx)
    have hc := h c (List.mem_cons_self ..)
    rw [List.map_cons]
    exact ⟨by simp [PyData.canLayAll0, one, PyData.canLay0, h1, PyData.strOk, hc], by simp [PyData.depthAll, one, PyData.depth, h2]⟩
theorem eq_none (cs : List Nat) (h : ∀ c ∈ cs, c < 1114112) : eqD [.list (cs.map one), .list []] = some (.bool cs.isEmpty) := by
  obtain ⟨h1, h2⟩ := ones_lay cs h
  rw [eq_ok (by simp [SeqAt.shaped, PyData.canLay0, PyData.depth, h1, h2]) (by simp [SeqAt.shaped, PyData.canLay0, PyData.canLayAll0, PyData.depth, PyData.depthAll])]
  cases cs with
  | nil => simp [PyData.eqv, PyData.eqvAll]
  | cons c cs => simp [PyData.eqv, PyData.eqvAll]
def lenB (n : Int) : Bool := decide (1 ≤ n) && decide (n ≤ 8)
def nameB : D → Bool
  | .str x => lenB x.length && x.cps.toList.all signB
  | _ => false
/-- a text is short and its signs are code points -/
def Txt : D → Prop
  | .str x => x.length ≤ 1000 ∧ ∀ c ∈ x.cps.toList, c < 1114112
  | _ => True
theorem len_x {x : Str} {s : Sl} (h : x.length ≤ 1000) : opM true lenD [.sl 0] [.dat (.str x), s] = some (.ok (.int x.length) [.dat (.str x), s]) :=
  op_ok (as := [none]) (ds := [.str x]) rfl rfl (by show (if x.length ≤ 10000000 then _ else _) = _; rw [if_pos (by omega)])
theorem name_any {d : D} (h : Txt d) : F_is_name_1400 [.dat d] = some (.ok (.dat (.bool (nameB d))) [.dat d]) := by
  refine body_rt (e := [.dat d, .non]) ?_ rfl
  show m_is_name_1400 [.dat d, .non] = _
  unfold m_is_name_1400
  cases d with
  | str x =>
    have c1 := chain_i (e := [.dat (.str x), .non]) (i := 1) (j := x.length) (k := 8) (ma := M.ret (.int 1)) (mc := M.ret (.int 8)) rfl (len_x h.1) rfl
    have hl : (x.cps.toList.map one).length ≤ 1000000 := by rw [List.length_map, Array.length_toList]; exact Nat.le_trans h.1 (by decide)
    have c2 : opM true allD [.ex (listD (compM (signI (varM 0)) [1] (setT 1) (M.ret true) (opM true inSgD [.sl 1, .ex (M.ret (.str "abcdefghijklmnopqrstuvwxyz"))])))] [.dat (.str x), .non] = some (.ok (.bool (x.cps.toList.all signB)) [.dat (.str x), .non]) := by
      refine op_ok (as := [some (.list (x.cps.toList.map fun c => PyData.bool (signB c)))]) (ds := [.list (x.cps.toList.map fun c => PyData.bool (signB c))]) (run_ex (listD_ok (comp_ok (ds := x.cps.toList.map one) rfl hl (name_loop _))) rfl) rfl ?_
      show (boolsOf _).map _ = _
      rw [show (x.cps.toList.map fun c => PyData.bool (signB c)) = (x.cps.toList.map signB).map PyData.bool by rw [List.map_map]; rfl, bools_of]
      simp
    exact ret_o (ad_ok (x := true) rfl fun _ => ad_ok c1 fun _ => c2)
  | _ => exact ret_o (ad_ok (x := false) (y := false) rfl (fun h => nomatch h))
theorem no_str {d : D} {b : M Bool} (hi : isB "str" d = false) : orB (notB (boolM (opM true (isiD "str") [.sl 0]))) b [.dat d, .non] = some (.ok true [.dat d, .non]) := by
  have : opM true (isiD "str") [.sl 0] [.dat d, .non] = some (.ok (.bool false) [.dat d, .non]) := op_ok (as := [none]) (ds := [d]) rfl rfl (by show some (PyData.bool (isB "str" d)) = _; rw [hi])
  exact or_y1 (nb_ok (b := false) (bm_ok this))
theorem if_ret {c : M Bool} {b k : M O} {e : En} (h : c e = some (.ok true e)) : seqM (ifM c (retM (M.ret (.bool false))) b) k e = some (.ok (.rt (.dat (.bool false))) e) := by
  refine seq_rt ?_
  rw [if_ok h, if_pos rfl]
  rfl
theorem all_filter (cs : List Nat) : (cs.filter fun c => !signB c).isEmpty = cs.all signB := by
  induction cs with
  | nil => rfl
  | cons c cs ih =>
    rw [List.filter_cons, List.all_cons]
    cases signB c with
    | true => simpa using ih
    | false => rfl
theorem colour_any {d : D} (h : Txt d) : F_is_colour_4bfc [.dat d] = some (.ok (.dat (.bool (nameB d))) [.dat d]) := by
  refine body_rt (e := [.dat d]) ?_ rfl
  show m_is_colour_4bfc [.dat d] = _
  unfold m_is_colour_4bfc
  exact ret_o (datM_ok (call_pure (as := [none]) (ss := [.dat d]) rfl rfl rfl (name_any h) rfl))
def rowB : D → Bool
  | .tuple [a, b, c] => spanB (.tuple [a, b]) && nameB c
  | _ => false
noncomputable def rowM (S N : FS) : M O :=
  retM (andD (opM true (isiD "tuple") [.sl 0]) (andD (opM true eqD [.ex (opM true lenD [.sl 0]), .ex (M.ret (.int 3))]) (andD (datM (callV S [.ex (sliceM (.sl 0) none (some (M.ret (.int 2))))])) (datM (callV N [.ex (opM true ixD [.sl 0, .ex (M.ret (.int 2))])])))))
def Txt3 : D → Prop
  | .tuple [_, _, c] => Txt c
  | _ => True
theorem rowM_any {S N : FS} (hS : ∀ d, S [.dat d] = some (.ok (.dat (.bool (spanB d))) [.dat d])) (hN : ∀ d, Txt d → N [.dat d] = some (.ok (.dat (.bool (nameB d))) [.dat d])) {d : D} (h : Txt3 d) :
    rowM S N [.dat d] = some (.ok (.rt (.dat (.bool (rowB d)))) [.dat d]) := by
  unfold rowM
  cases d with
  | tuple xs =>
    have l0 : opM true lenD [.sl 0] [.dat (.tuple xs)] = some (.ok (.int xs.length) [.dat (.tuple xs)]) := rfl
    have n0 : opM true eqD [.ex (opM true lenD [.sl 0]), .ex (M.ret (.int 3))] [.dat (.tuple xs)] = some (.ok (.bool (decide ((xs.length : Int) = 3))) [.dat (.tuple xs)]) :=
      op_ok (as := [some (.int xs.length), some (.int 3)]) (ds := [.int xs.length, .int 3]) (run_ex l0 (run_ex rfl rfl)) rfl (eq_int _ _)
    match xs, n0, h with
    | [], n0, _ => exact ret_o (ad_ok (x := true) (y := false) rfl fun _ => ad_ok (x := false) (y := false) n0 (fun h => nomatch h))
    | [a], n0, _ => exact ret_o (ad_ok (x := true) (y := false) rfl fun _ => ad_ok (x := false) (y := false) n0 (fun h => nomatch h))
    | [a, b], n0, _ => exact ret_o (ad_ok (x := true) (y := false) rfl fun _ => ad_ok (x := false) (y := false) n0 (fun h => nomatch h))
    | a :: b :: c :: f :: r, n0, _ =>
      have : ¬ (((a :: b :: c :: f :: r).length : Int) = 3) := by simp only [List.length_cons]; omega
      rw [decide_eq_false this] at n0
      exact ret_o (ad_ok (x := true) (y := false) rfl fun _ => ad_ok (x := false) (y := false) n0 (fun h => nomatch h))
    | [a, b, c], n0, h =>
      have s0 : sliceM (.sl 0) none (some (M.ret (.int 2))) [.dat (.tuple [a, b, c])] = some (.ok (.tuple [a, b]) [.dat (.tuple [a, b, c])]) := rfl
      have x2 : opM true ixD [.sl 0, .ex (M.ret (.int 2))] [.dat (.tuple [a, b, c])] = some (.ok c [.dat (.tuple [a, b, c])]) := rfl
      have c0 : datM (callV S [.ex (sliceM (.sl 0) none (some (M.ret (.int 2))))]) [.dat (.tuple [a, b, c])] = some (.ok (.bool (spanB (.tuple [a, b]))) [.dat (.tuple [a, b, c])]) := datM_ok (call_pure (as := [some (.tuple [a, b])]) (ss := [.dat (.tuple [a, b])]) (run_ex s0 rfl) rfl rfl (hS _) rfl)
      have c1 : datM (callV N [.ex (opM true ixD [.sl 0, .ex (M.ret (.int 2))])]) [.dat (.tuple [a, b, c])] = some (.ok (.bool (nameB c)) [.dat (.tuple [a, b, c])]) := datM_ok (call_pure (as := [some c]) (ss := [.dat c]) (run_ex x2 rfl) rfl rfl (hN _ h) rfl)
      exact ret_o (ad_ok (x := true) rfl fun _ => ad_ok (x := true) n0 fun _ => ad_ok c0 fun _ => c1)
  | _ => exact ret_o (ad_ok (x := false) (y := false) rfl (fun h => nomatch h))
theorem stroke_any {d : D} (h : Txt3 d) : F_is_stroke_3746 [.dat d] = some (.ok (.dat (.bool (rowB d))) [.dat d]) := body_rt (e := [.dat d]) (rowM_any stretch_any (fun _ => colour_any) h) rfl
theorem Pl.reprT {k w : Nat} {d : D} (h : Pl k w d) (hk : k ≤ 64) (hw : w ≤ 10000000) : reprT [d] = some (.str d.shown) := by
  unfold DL.reprT
  dsimp only
  rw [if_pos ⟨Or.inl h.lay, Nat.le_trans h.dep hk, h.sh, Nat.le_trans h.len hw⟩]
theorem eq_same {s : Str} (h : SeqAt.shaped (.str s) = true) : eqD [.str s, .str s] = some (.bool true) := by
  rw [eq_ok h h]
  simp [PyData.eqv]
def verd (d : D) : D := .list [.bool (placeB d), .bool (spanB d), .bool (nameB d), .bool (rowB d)]
theorem pl_verd (d : D) : Pl 1 30 (verd d) := by
  have : Pl 1 ((5 + 2) * [PyData.bool (placeB d), .bool (spanB d), .bool (nameB d), .bool (rowB d)].length + 2) (verd d) := Pl.list (k := 0) (w := 5) fun x hx => by
    simp only [List.mem_cons, List.not_mem_nil, or_false] at hx
    rcases hx with rfl | rfl | rfl | rfl <;> exact Pl.bool
  exact this
/-- a thing that can be judged -/
structure Jd (d : D) : Prop where
  t1 : Txt d
  t3 : Txt3 d
  rp : ∃ t : Str, reprT [d] = some (.str t) ∧ SeqAt.shaped (.str t) = true
theorem disp4 {a b c f : M D} {w x y z : D} {e : En} (ha : a e = some (.ok w e)) (hb : b e = some (.ok x e)) (hc : c e = some (.ok y e)) (hf : f e = some (.ok z e)) : listD (dispM [.ex a, .ex b, .ex c, .ex f]) e = some (.ok (.list [w, x, y, z]) e) := by
  refine listD_ok ?_
  unfold dispM
  rw [bind_ok (run_ex ha (run_ex hb (run_ex hc (run_ex hf (show runA [] _ = some (.ok [] _) from rfl)))))]
  rfl
def kd (b : Bool) (d : D) : Bool := if b = true then tame d else d.canLay0
/-- fine: of one kind (without lists, or without dicts), shallow, short when shown -/
structure Fn (b : Bool) (k w : Nat) (d : D) : Prop where
  kn : kd b d = true
  dep : d.depth ≤ k
  sh : d.showable = true
  len : d.shown.length ≤ w
  ok : PyData.strOk d.shown = true
theorem Fn.mono {b : Bool} {k w k' w' : Nat} {d : D} (h : Fn b k w d) (hk : k ≤ k') (hw : w ≤ w') : Fn b k' w' d := ⟨h.kn, Nat.le_trans h.dep hk, h.sh, Nat.le_trans h.len hw, h.ok⟩
theorem fn_all {b : Bool} {k w : Nat} : ∀ {xs : List D}, (∀ x ∈ xs, Fn b k w x) → kd b (.tuple xs) = true ∧ PyData.depthAll xs ≤ k ∧ PyData.showableAll xs = true ∧ piled (PyData.shownAll xs) ≤ (w + 2) * xs.length ∧ (PyData.shownAll xs).length = xs.length
  | [], _ => ⟨by cases b <;> simp [kd, tame, tameA, PyData.canLay0, PyData.canLayAll0], by simp [PyData.depthAll], by simp [PyData.showableAll], by simp [PyData.shownAll, piled], by simp [PyData.shownAll]⟩
  | x :: xs, h => by
    obtain ⟨a, b1, c, d, e⟩ := fn_all (xs := xs) fun y hy => h y (List.mem_cons_of_mem _ hy)
    obtain ⟨p1, p2, p3, p4⟩ := h x (List.mem_cons_self ..)
    refine ⟨by cases b <;> simp_all [kd, tame, tameA, PyData.canLay0, PyData.canLayAll0], by simp only [PyData.depthAll]; omega, by simp [PyData.showableAll, p3, c], ?_, by simp only [PyData.shownAll, List.length_cons, e]⟩
    simp only [PyData.shownAll, piled_cons, List.length_cons, Nat.mul_add]
    omega
theorem fn_oks {b : Bool} {k w : Nat} : ∀ {xs : List D}, (∀ x ∈ xs, Fn b k w x) → ∀ t ∈ PyData.shownAll xs, PyData.strOk t = true
  | [], _, t, h => by simp [PyData.shownAll] at h
  | x :: xs, h, t, ht => by
    simp only [PyData.shownAll] at ht
    rcases List.mem_cons.mp ht with z | z
    · rw [z]; exact (h x (List.mem_cons_self ..)).ok
    · exact fn_oks (xs := xs) (fun y hy => h y (List.mem_cons_of_mem _ hy)) t z
theorem Fn.tuple {bb : Bool} {k w : Nat} {xs : List D} (h : ∀ x ∈ xs, Fn bb k w x) : Fn bb (k + 1) ((w + 2) * xs.length + 3) (.tuple xs) := by
  obtain ⟨a, b, c, d, e⟩ := fn_all h
  refine ⟨a, by simp only [PyData.depth]; omega, by simp only [PyData.showable]; exact c, ?_, by
    simp only [PyData.shown, tupleText]
    exact sk_app (sk_app (sk_of _) (sk_join _ (fn_oks h))) (sk_of _)⟩
  simp only [PyData.shown, tupleText]
  rw [strLen_append, strLen_append]
  have e1 : (Str.ofString "(").length = 1 := by decide
  have e2 : (Str.ofString (if (PyData.shownAll xs).length == 1 then ",)" else ")" : String)).length ≤ 2 := by split <;> decide
  have h1 : (Str.join ", " (PyData.shownAll xs)).length ≤ piled (PyData.shownAll xs) := by
    cases z : PyData.shownAll xs with
    | nil => exact Nat.le_of_eq (by decide)
    | cons t r => have := join_length_add (t :: r) (fun h => nomatch h); omega
  omega
theorem Pl.fn {k w : Nat} {d : D} (h : Pl k w d) : Fn false k w d := ⟨h.lay, h.dep, h.sh, h.len, h.ok⟩
theorem Fn.jd {b : Bool} {k w : Nat} {d : D} (h : Fn b k w d) (hk : k ≤ 64) (hw : w ≤ 10000000) (t1 : Txt d) (t3 : Txt3 d) : Jd d := by
  refine ⟨t1, t3, d.shown, ?_, ?_⟩
  · unfold DL.reprT
    dsimp only
    have kn : d.canLay0 = true ∨ tame d = true := by
      have := h.kn
      cases b with
      | true => exact Or.inr this
      | false => exact Or.inl this
    rw [if_pos ⟨kn, Nat.le_trans h.dep hk, h.sh, Nat.le_trans h.len hw⟩]
  · unfold SeqAt.shaped
    simp only [PyData.canLay0, PyData.depth, h.ok]
    rfl
def odd1 : List D := [.none, .bool true, .bool false, .int (-1), .int 0, .int 1, .int 1000000000, .int 1000000001, .int 1000000000000000000000000000000000000000, .str "", .str "a", .str "zzzzzzzz", .str "zzzzzzzzz", .str "A", .str "a1"]
def odd2 : List D := [.str " a", .str "a ", .str "a\n", .str "{", .str "red", .tuple [], .list [], .dict [], .tuple [.int 0], .tuple [.int 0, .int 0], .tuple [.int 1, .int 0], .tuple [.int 0, .int 1000000000], .tuple [.int 0, .int 1000000001]]
def odd3 : List D := [.list [.int 0, .int 0], .tuple [.int 0, .int 0, .str "a"], .tuple [.int 0, .int 0, .int 0], .tuple [.int 0, .str "a"], .tuple [.bool true, .int 1], .tuple [.int 0, .bool true, .str "a"], .tuple [.tuple [.int 0, .int 0], .str "a"], .dict [(.str "a", .int 0)]]
def oddL : List D := odd1 ++ odd2 ++ odd3 ++ [.tuple [.int 0, .int 0, .str "a", .str "a"]]
theorem oddL_len : oddL.length = 37 := rfl
theorem frz_ok {i : Nat} {m : M O} {e : En} {ds : List D} {r : Option (Rs O)} (h : e[i]? = some (.lst ds)) (k : m (e.set i (.dat (.list ds))) = r) : frzM i m e = r := by
  unfold frzM; rw [h]; exact k
def fnB (b : Bool) (k w : Nat) (d : D) : Bool := kd b d && (decide (d.depth ≤ k) && (d.showable && (decide (d.shown.length ≤ w) && PyData.strOk d.shown)))
theorem fn_of {b : Bool} {k w : Nat} {d : D} (h : fnB b k w d = true) : Fn b k w d := by
  unfold fnB at h
  simp only [Bool.and_eq_true, decide_eq_true_eq] at h
  exact ⟨h.1, h.2.1, h.2.2.1, h.2.2.2.1, h.2.2.2.2⟩
theorem odd_all : (oddL.all fun d => fnB true 3 60 d || fnB false 3 60 d) = true := by decide +kernel
theorem odd_fn {d : D} (h : d ∈ oddL) : ∃ b, Fn b 3 60 d := by
  have := List.all_eq_true.mp odd_all d h
  rcases (Bool.or_eq_true _ _).mp this with q | q
  · exact ⟨true, fn_of q⟩
  · exact ⟨false, fn_of q⟩
def txtB : D → Bool
  | .str x => decide (x.length ≤ 1000) && x.cps.toList.all fun c => decide (c < 1114112)
  | _ => true
theorem txt_of {d : D} (h : txtB d = true) : Txt d := by
  cases d with
  | str x =>
    simp only [txtB, Bool.and_eq_true, decide_eq_true_eq, List.all_eq_true] at h
    exact h
  | _ => exact trivial
def txt3B : D → Bool
  | .tuple [_, _, c] => txtB c
  | _ => true
theorem txt3_of {d : D} (h : txt3B d = true) : Txt3 d := by
  unfold txt3B at h
  split at h
  · exact txt_of h
  · rename_i hn
    unfold Txt3
    split
    · exact absurd rfl (hn _ _ _)
    · trivial
theorem odd_txt : (oddL.all fun d => txtB d && txt3B d) = true := by decide +kernel
theorem odd_jd {d : D} (h : d ∈ oddL) : Jd d := by
  obtain ⟨b, q⟩ := odd_fn h
  have t := List.all_eq_true.mp odd_txt d h
  rw [Bool.and_eq_true] at t
  exact q.jd (by decide) (by decide) (txt_of t.1) (txt3_of t.2)
theorem odd_tx {d : D} (h : d ∈ oddL) : Txt d := by
  have t := List.all_eq_true.mp odd_txt d h
  rw [Bool.and_eq_true] at t
  exact txt_of t.1
def pool : List D := [.str "red", .str "blue", .str "a", .str "ochre", .str "zzzzzzzz", .str "green"]
theorem pool_str {d : D} (h : d ∈ pool) : ∃ x : Str, d = .str x ∧ 1 ≤ x.length ∧ x.length ≤ 8 ∧ Fn true 0 20 d ∧ Fn false 0 20 d ∧ Txt d := by
  have c : (pool.all fun d => match d with
    | .str x => decide (1 ≤ x.length) && decide (x.length ≤ 8) && fnB true 0 20 d && fnB false 0 20 d && txtB d
    | _ => false) = true := by decide +kernel
  have q := List.all_eq_true.mp c d h
  cases d with
  | str x =>
    simp only [Bool.and_eq_true, decide_eq_true_eq] at q
    exact ⟨x, rfl, q.1.1.1.1, q.1.1.1.2, fn_of q.1.1.2, fn_of q.1.2, txt_of q.2⟩
  | _ => exact nomatch q
def rwD (p : Int × Int) (y : D) : D := .tuple [.int p.1, .int p.2, y]
/-- what a tuple can be bent to -/
inductive Bent (xs : List D) : D → Prop where
  | put (i : Nat) (o : D) (hi : i < xs.length) (ho : o ∈ oddL) : Bent xs (.tuple (xs.take i ++ [o] ++ xs.drop (i + 1)))
  | cut (i : Nat) (hi : i < xs.length) : Bent xs (.tuple (xs.take i ++ xs.drop (i + 1)))
  | dup (i : Nat) (hi : i < xs.length) : Bent xs (.tuple (xs.take (i + 1) ++ xs.drop i))
  | rev : Bent xs (.tuple xs.reverse)
  | lst : Bent xs (.list xs)
theorem cut_lo (xs : List D) (i : Nat) (hi : i ≤ xs.length) : cutG xs none (some (i : Int)) = xs.take i := by
  unfold cutG
  rw [HT.sIx_none, HT.sIx_nat, List.drop_zero, Nat.sub_zero, Nat.min_eq_left hi]
theorem cut_hi (xs : List D) (i : Nat) (hi : i ≤ xs.length) : cutG xs (some (i : Int)) none = xs.drop i := by
  unfold cutG
  rw [HT.sIx_none, HT.sIx_nat, Nat.min_eq_left hi]
  exact List.take_of_length_le (by rw [List.length_drop]; omega)
theorem rev_none (xs : List D) : revD (.tuple xs) none = some (.tuple xs.reverse) := by
  show some (PyData.tuple (revG xs none)) = _
  rw [revG_none]
section
variable {s w u : Sl} {xs : List D} {i : Nat}
theorem sl_lo (hi : i ≤ xs.length) : sliceM (.sl 1) none (some (varM 3)) [s, .dat (.tuple xs), w, .dat (.int i), u] = some (.ok (.tuple (xs.take i)) [s, .dat (.tuple xs), w, .dat (.int i), u]) := by
  show some (Rs.ok (PyData.tuple (cutG xs none (some (i : Int)))) [s, .dat (.tuple xs), w, .dat (.int i), u]) = _
  rw [cut_lo xs i hi]
theorem sl_hi (hi : i ≤ xs.length) : sliceM (.sl 1) (some (varM 3)) none [s, .dat (.tuple xs), w, .dat (.int i), u] = some (.ok (.tuple (xs.drop i)) [s, .dat (.tuple xs), w, .dat (.int i), u]) := by
  show some (Rs.ok (PyData.tuple (cutG xs (some (i : Int)) none)) [s, .dat (.tuple xs), w, .dat (.int i), u]) = _
  rw [cut_hi xs i hi]
theorem sl_lo1 (hi : i < xs.length) : sliceM (.sl 1) none (some (opM true addD [.sl 3, .ex (M.ret (.int 1))])) [s, .dat (.tuple xs), w, .dat (.int i), u] = some (.ok (.tuple (xs.take (i + 1))) [s, .dat (.tuple xs), w, .dat (.int i), u]) := by
  show some (Rs.ok (PyData.tuple (cutG xs none (some ((i : Int) + 1)))) [s, .dat (.tuple xs), w, .dat (.int i), u]) = _
  have := cut_lo xs (i + 1) hi
  rw [show ((i : Int) + 1) = ((i + 1 : Nat) : Int) by omega, this]
theorem sl_hi1 (hi : i < xs.length) : sliceM (.sl 1) (some (opM true addD [.sl 3, .ex (M.ret (.int 1))])) none [s, .dat (.tuple xs), w, .dat (.int i), u] = some (.ok (.tuple (xs.drop (i + 1))) [s, .dat (.tuple xs), w, .dat (.int i), u]) := by
  show some (Rs.ok (PyData.tuple (cutG xs (some ((i : Int) + 1)) none)) [s, .dat (.tuple xs), w, .dat (.int i), u]) = _
  have := cut_hi xs (i + 1) hi
  rw [show ((i : Int) + 1) = ((i + 1 : Nat) : Int) by omega, this]
theorem add_tup {a b : List D} (h : a.length + b.length ≤ 1000000) : addD [.tuple a, .tuple b] = some (.tuple (a ++ b)) := if_pos h
theorem rev_row : revM (.sl 1) none [s, .dat (.tuple xs), w, .dat (.int i), u] = some (.ok (.tuple xs.reverse) [s, .dat (.tuple xs), w, .dat (.int i), u]) := by
  show some (Rs.ok (PyData.tuple (revG xs none)) [s, .dat (.tuple xs), w, .dat (.int i), u]) = _
  rw [revG_none]
end
/-- an int or a text of a row: of both kinds -/
def It (x : D) : Prop := Fn true 0 40 x ∧ Fn false 0 40 x ∧ Txt x
theorem txt3_all {ys : List D} (h : ∀ y ∈ ys, Txt y) : Txt3 (.tuple ys) := by
  unfold Txt3
  split
  · rename_i e; cases e; exact h _ (by simp)
  · trivial
theorem tup_jd {b : Bool} {ys : List D} (hl : ys.length ≤ 100) (h : ∀ y ∈ ys, Fn b 3 60 y) (ht : ∀ y ∈ ys, Txt y) : Jd (.tuple ys) :=
  (Fn.tuple h).jd (by decide) (by omega) trivial (txt3_all ht)
theorem It.fn {x : D} (h : It x) (b : Bool) : Fn b 3 60 x := by
  cases b with
  | true => exact h.1.mono (by decide) (by decide)
  | false => exact h.2.1.mono (by decide) (by decide)
theorem bent_jd {xs : List D} {d : D} (hl : xs.length ≤ 10) (hf : ∀ x ∈ xs, It x) (b : Bent xs d) : Jd d := by
  cases b with
  | put i o hi ho =>
    obtain ⟨bb, q⟩ := odd_fn ho
    have all : ∀ y ∈ xs.take i ++ [o] ++ xs.drop (i + 1), y = o ∨ y ∈ xs := fun y hy => by
      rcases List.mem_append.mp hy with z | z
      · rcases List.mem_append.mp z with z | z
        · exact Or.inr (List.mem_of_mem_take z)
        · exact Or.inl (List.mem_singleton.mp z)
      · exact Or.inr (List.mem_of_mem_drop z)
    refine tup_jd (b := bb) (by simp; omega) (fun y hy => ?_) fun y hy => ?_
    · rcases all y hy with z | z
      · rw [z]; exact q
      · exact (hf y z).fn bb
    · rcases all y hy with z | z
      · rw [z]; exact odd_tx ho
      · exact (hf y z).2.2
  | cut i hi =>
    have all : ∀ y ∈ xs.take i ++ xs.drop (i + 1), y ∈ xs := fun y hy => (List.mem_append.mp hy).elim List.mem_of_mem_take List.mem_of_mem_drop
    exact tup_jd (b := false) (by simp; omega) (fun y hy => (hf y (all y hy)).fn false) fun y hy => (hf y (all y hy)).2.2
  | dup i hi =>
    have all : ∀ y ∈ xs.take (i + 1) ++ xs.drop i, y ∈ xs := fun y hy => (List.mem_append.mp hy).elim List.mem_of_mem_take List.mem_of_mem_drop
    exact tup_jd (b := false) (by simp; omega) (fun y hy => (hf y (all y hy)).fn false) fun y hy => (hf y (all y hy)).2.2
  | rev => exact tup_jd (b := false) (by simp; omega) (fun y hy => (hf y (List.mem_reverse.mp hy)).fn false) fun y hy => (hf y (List.mem_reverse.mp hy)).2.2
  | lst =>
    have p : Pl 4 ((60 + 2) * xs.length + 2) (.list xs) := Pl.list (k := 3) (w := 60) fun x hx => let f := (hf x hx).fn false; ⟨f.kn, f.dep, f.sh, f.len, f.ok⟩
    exact p.fn.jd (by decide) (by omega) trivial trivial
theorem compo_nil {i : Nat} {d0 : List D} {vs : List Nat} {g : Tg} {c : M Bool} {el : M D} {e : En} (h : e[i]? = some (.lst d0)) : compLo i d0 vs g c el [] e = some (.ok [] e) := by
  unfold compLo; exact if_pos h
theorem compo_cons {i : Nat} {d0 : List D} {vs : List Nat} {g : Tg} {c : M Bool} {el : M D} {d z : D} {ds r : List D} {e e1 e2 e3 : En} (ho : vs.all (Sl.open_ e) = true) (h : e[i]? = some (.lst d0)) (hg : g d (wipeE e vs) = some e1) (hc : c e1 = some (.ok true e1)) (he : el e1 = some (.ok z e2)) (hr : compLo i d0 vs g c el ds (backE e e2 vs) = some (.ok r e3)) :
    compLo i d0 vs g c el (d :: ds) e = some (.ok (z :: r) e3) := by
  unfold compLo
  rw [if_pos ⟨ho, h⟩, hg]
  dsimp only
  rw [bind_ok hc, if_pos rfl, bind_ok he]
  show M.bind (compLo i d0 vs g c el ds) (fun r => M.ret ([z] ++ r)) (backE e e2 vs) = _
  rw [bind_ok hr]; rfl
theorem compo_ok {i : Nat} {vs : List Nat} {g : Tg} {c : M Bool} {el : M D} {ds r : List D} {e e2 : En} (h : e[i]? = some (.lst ds)) (hl : ds.length ≤ 1000000) (hr : compLo i ds vs g c el ds e = some (.ok r e2)) : compMo i vs g c el e = some (.ok r e2) := by
  unfold compMo
  rw [h]
  dsimp only
  rw [if_pos hl, hr]
theorem trues_in {n : Nat} (hn : n ≤ 100000) : inD [.bool false, .list (List.replicate n (.bool true))] = some (.bool false) := by
  have p1 : Pl 1 ((5 + 2) * (List.replicate n (PyData.bool true)).length + 2) (.list (List.replicate n (.bool true))) := Pl.list (k := 0) (w := 5) fun x hx => by rw [(List.mem_replicate.mp hx).2]; exact Pl.bool
  unfold inD
  dsimp only
  rw [if_pos ⟨Pl.bool.shaped (by decide), p1.shaped (by decide)⟩]
  congr 2
  rw [List.any_eq_false]
  intro x hx
  rw [(List.mem_replicate.mp hx).2]
  simp [PyData.eqv]
theorem it_int {i : Int} (h : i.natAbs < 2 ^ 31) : It (.int i) := by
  have p := (Pl.int (n := 31) (by decide) (by decide) h).mono (k' := 0) (w' := 40) (by decide) (by decide)
  exact ⟨⟨by simp [kd, tame], p.dep, p.sh, p.len, p.ok⟩, p.fn, trivial⟩
theorem it_dye {d : D} (h : d ∈ pool) : It d := by
  obtain ⟨x, rfl, _, _, f1, f2, t⟩ := pool_str h
  exact ⟨f1.mono (by decide) (by decide), f2.mono (by decide) (by decide), t⟩
def prA : List Int := [2147483647, 2147483629, 2147483587, 2147483579, 2147483563, 2147483549, 2147483543]
def prB : List Int := [2147483497, 2147483489, 2147483477, 2147483423, 2147483399]
theorem prA_at {n : Int} (h : 0 ≤ n) : ∃ o : Int, L2.atI (prA.map PyData.int) (n % 7) = some (.int o) ∧ 2147483543 ≤ o ∧ o ≤ 2147483647 := by
  have a := Int.emod_nonneg n (show (7 : Int) ≠ 0 by decide)
  have b := Int.emod_lt_of_pos n (show (0 : Int) < 7 by decide)
  have : n % 7 = 0 ∨ n % 7 = 1 ∨ n % 7 = 2 ∨ n % 7 = 3 ∨ n % 7 = 4 ∨ n % 7 = 5 ∨ n % 7 = 6 := by omega
  rcases this with e | e | e | e | e | e | e <;> rw [e]
  · exact ⟨2147483647, rfl, by decide, by decide⟩
  · exact ⟨2147483629, rfl, by decide, by decide⟩
  · exact ⟨2147483587, rfl, by decide, by decide⟩
  · exact ⟨2147483579, rfl, by decide, by decide⟩
  · exact ⟨2147483563, rfl, by decide, by decide⟩
  · exact ⟨2147483549, rfl, by decide, by decide⟩
  · exact ⟨2147483543, rfl, by decide, by decide⟩
theorem prB_at {n : Int} (h : 0 ≤ n) : ∃ o : Int, L2.atI (prB.map PyData.int) (n % 5) = some (.int o) ∧ 2147483399 ≤ o ∧ o ≤ 2147483497 := by
  have a := Int.emod_nonneg n (show (5 : Int) ≠ 0 by decide)
  have b := Int.emod_lt_of_pos n (show (0 : Int) < 5 by decide)
  have : n % 5 = 0 ∨ n % 5 = 1 ∨ n % 5 = 2 ∨ n % 5 = 3 ∨ n % 5 = 4 := by omega
  rcases this with e | e | e | e | e <;> rw [e]
  · exact ⟨2147483497, rfl, by decide, by decide⟩
  · exact ⟨2147483489, rfl, by decide, by decide⟩
  · exact ⟨2147483477, rfl, by decide, by decide⟩
  · exact ⟨2147483423, rfl, by decide, by decide⟩
  · exact ⟨2147483399, rfl, by decide, by decide⟩
theorem shaped_nil : SeqAt.shaped (.list []) = true := by decide +kernel
theorem lay_ints : ∀ cs : List Int, PyData.canLayAll0 (cs.map PyData.int) = true ∧ PyData.depthAll (cs.map PyData.int) ≤ 0
  | [] => ⟨by simp [PyData.canLayAll0], by simp [PyData.depthAll]⟩
  | c :: cs => by
    obtain ⟨a, b⟩ := lay_ints cs
    constructor
    · simp [PyData.canLayAll0, PyData.canLay0, a]
    · simp [PyData.depthAll, PyData.depth]; omega
theorem shaped_ints (cs : List Int) : SeqAt.shaped (.list (cs.map PyData.int)) = true := by
  obtain ⟨a, b⟩ := lay_ints cs
  have e : (PyData.list (cs.map PyData.int)).depth ≤ 64 := by simp only [PyData.depth]; omega
  unfold SeqAt.shaped
  simp only [PyData.canLay0, a, Bool.true_and, e, decide_true, Bool.and_self]
theorem ne_nil (cs : List Int) : neD [.list (cs.map PyData.int), .list []] = some (.bool (decide (cs ≠ []))) := by
  rw [ne_ok (shaped_ints cs) shaped_nil]
  cases cs with
  | nil => rfl
  | cons c cs => rfl
noncomputable def mixM : M O := seqM (asgM (opM true ixD [.ex (listD (dispM [.ex (M.ret (.int 2147483647)), .ex (M.ret (.int 2147483629)), .ex (M.ret (.int 2147483587)), .ex (M.ret (.int 2147483579)), .ex (M.ret (.int 2147483563)), .ex (M.ret (.int 2147483549)), .ex (M.ret (.int 2147483543))])), .ex (opM true modD [.sl 1, .ex (M.ret (.int 7))])]) (setT 3))
  (seqM (asgM (opM true ixD [.ex (listD (dispM [.ex (M.ret (.int 2147483497)), .ex (M.ret (.int 2147483489)), .ex (M.ret (.int 2147483477)), .ex (M.ret (.int 2147483423)), .ex (M.ret (.int 2147483399))])), .ex (opM true modD [.sl 1, .ex (M.ret (.int 5))])]) (setT 4))
  (seqM (asgM (opM true modD [.ex (opM true powD [.ex (opM true addD [.ex (opM true addD [.ex (opM true modD [.sl 2, .sl 3]), .ex (opM true mulD [.ex (M.ret (.int 31)), .sl 1])]), .ex (M.ret (.int 5))]), .ex (M.ret (.int 5))]), .sl 3]) (setT 5))
  (seqM (asgM (opM true modD [.ex (opM true powD [.ex (opM true addD [.ex (opM true addD [.sl 5, .ex (opM true modD [.sl 2, .sl 4])]), .ex (opM true mulD [.sl 1, .sl 1])]), .ex (M.ret (.int 3))]), .sl 4]) (setT 6))
  (retM (opM true addD [.ex (opM true mulD [.ex (opM true addD [.sl 5, .ex (M.ret (.int 3))]), .sl 4]), .sl 6])))))
theorem mix_ok {p : Sl} {n c : Int} (h0 : 0 ≤ n) (h1 : n ≤ 1000000) (hp : p.owns = true) : ∃ y e, mixM [p, .dat (.int n), .dat (.int c), .non, .non, .non, .non] = some (.ok (.rt (.dat (.int y))) (p :: e)) := by
  obtain ⟨o, ea, a1, a2⟩ := prA_at h0
  obtain ⟨t, eb, b1, b2⟩ := prB_at h0
  have ea' : L2.atI [PyData.int 2147483647, .int 2147483629, .int 2147483587, .int 2147483579, .int 2147483563, .int 2147483549, .int 2147483543] (n % 7) = some (.int o) := ea
  have eb' : L2.atI [PyData.int 2147483497, .int 2147483489, .int 2147483477, .int 2147483423, .int 2147483399] (n % 5) = some (.int t) := eb
  have d1 : modD [.int n, .int 7] = some (.int (n % 7)) := mod_ok (by decide)
  have d2 : modD [.int n, .int 5] = some (.int (n % 5)) := mod_ok (by decide)
  have d3 : ∀ x, modD [.int x, .int o] = some (.int (x % o)) := fun x => mod_ok (by omega)
  have d4 : ∀ x, modD [.int x, .int t] = some (.int (x % t)) := fun x => mod_ok (by omega)
  have m1 : mulD [.int 31, .int n] = some (.int (31 * n)) := mul_ok (Or.inl ⟨by decide, by decide⟩)
  have m2 : mulD [.int n, .int n] = some (.int (n * n)) := mul_ok (Or.inl ⟨by omega, by omega⟩)
  have m3 : ∀ x, mulD [.int x, .int t] = some (.int (x * t)) := fun x => mul_ok (Or.inr ⟨by omega, by omega⟩)
  have c1 : 0 ≤ c % o := Int.emod_nonneg _ (by omega)
  have c2 : c % o < o := Int.emod_lt_of_pos _ (by omega)
  have c3 : 0 ≤ c % t := Int.emod_nonneg _ (by omega)
  have c4 : c % t < t := Int.emod_lt_of_pos _ (by omega)
  have p1 : powD [.int (c % o + 31 * n + 5), .int 5] = some (.int ((c % o + 31 * n + 5) ^ 5)) := pow_ok (k := 5) (by omega) (by decide)
  obtain ⟨w, hw⟩ : ∃ w, w = (c % o + 31 * n + 5) ^ 5 % o := ⟨_, rfl⟩
  have w1 : 0 ≤ w := by rw [hw]; exact Int.emod_nonneg _ (by omega)
  have w2 : w < o := by rw [hw]; exact Int.emod_lt_of_pos _ (by omega)
  have nn0 : 0 ≤ n * n := Int.mul_nonneg h0 h0
  have nn : n * n ≤ 1000000 * 1000000 := Int.mul_le_mul h1 h1 h0 (by decide)
  have p2 : powD [.int (w + c % t + n * n), .int 3] = some (.int ((w + c % t + n * n) ^ 3)) := pow_ok (k := 3) (by omega) (by decide)
  obtain ⟨v, hv⟩ : ∃ v, v = (w + c % t + n * n) ^ 3 % t := ⟨_, rfl⟩
  have q1 : modD [.int ((c % o + 31 * n + 5) ^ 5), .int o] = some (.int w) := by rw [hw]; exact d3 _
  have q2 : modD [.int ((w + c % t + n * n) ^ 3), .int t] = some (.int v) := by rw [hv]; exact d4 _
  refine ⟨(w + 3) * t + v, [.dat (.int n), .dat (.int c), .dat (.int o), .dat (.int t), .dat (.int w), .dat (.int v)], ?_⟩
  unfold mixM
  refine seq_nx' (e' := [p, .dat (.int n), .dat (.int c), .dat (.int o), .non, .non, .non]) ?_ ?_
  · simp only [List.cons_append, List.nil_append, List.replicate, ifM, asgM, setM, DL.putAt, boolM, andB, orB, notB, nxM, M.bind, M.ret, opM, runA, getA, look, setT, retM, varM, addD, subD, gtD, ltD, leD, geD, DL.intD, lenD, ixD, held, List.getElem?_cons_zero, List.getElem?_cons_succ, Option.map_some, List.set_cons_zero, List.set_cons_succ, if_true, if_false, reduceCtorEq, Bool.false_eq_true, List.length_cons, List.length_nil, Nat.reduceAdd, exprM, mutM, dispM, listD, tupM, newM, Sl.open_, Sl.owns, dispM, listD, d1, ea']
  refine seq_nx' (e' := [p, .dat (.int n), .dat (.int c), .dat (.int o), .dat (.int t), .non, .non]) ?_ ?_
  · simp only [List.cons_append, List.nil_append, List.replicate, ifM, asgM, setM, DL.putAt, boolM, andB, orB, notB, nxM, M.bind, M.ret, opM, runA, getA, look, setT, retM, varM, addD, subD, gtD, ltD, leD, geD, DL.intD, lenD, ixD, held, List.getElem?_cons_zero, List.getElem?_cons_succ, Option.map_some, List.set_cons_zero, List.set_cons_succ, if_true, if_false, reduceCtorEq, Bool.false_eq_true, List.length_cons, List.length_nil, Nat.reduceAdd, exprM, mutM, dispM, listD, tupM, newM, Sl.open_, Sl.owns, dispM, listD, d2, eb']
  refine seq_nx' (e' := [p, .dat (.int n), .dat (.int c), .dat (.int o), .dat (.int t), .dat (.int w), .non]) ?_ ?_
  · simp only [List.cons_append, List.nil_append, List.replicate, ifM, asgM, setM, DL.putAt, boolM, andB, orB, notB, nxM, M.bind, M.ret, opM, runA, getA, look, setT, retM, varM, addD, subD, gtD, ltD, leD, geD, DL.intD, lenD, ixD, held, List.getElem?_cons_zero, List.getElem?_cons_succ, Option.map_some, List.set_cons_zero, List.set_cons_succ, if_true, if_false, reduceCtorEq, Bool.false_eq_true, List.length_cons, List.length_nil, Nat.reduceAdd, exprM, mutM, dispM, listD, tupM, newM, Sl.open_, Sl.owns, d3 c, m1, p1, q1]
  refine seq_nx' (e' := [p, .dat (.int n), .dat (.int c), .dat (.int o), .dat (.int t), .dat (.int w), .dat (.int v)]) ?_ ?_
  · simp only [List.cons_append, List.nil_append, List.replicate, ifM, asgM, setM, DL.putAt, boolM, andB, orB, notB, nxM, M.bind, M.ret, opM, runA, getA, look, setT, retM, varM, addD, subD, gtD, ltD, leD, geD, DL.intD, lenD, ixD, held, List.getElem?_cons_zero, List.getElem?_cons_succ, Option.map_some, List.set_cons_zero, List.set_cons_succ, if_true, if_false, reduceCtorEq, Bool.false_eq_true, List.length_cons, List.length_nil, Nat.reduceAdd, exprM, mutM, dispM, listD, tupM, newM, Sl.open_, Sl.owns, d4 c, m2, p2, q2]
  · simp only [List.cons_append, List.nil_append, List.replicate, ifM, asgM, setM, DL.putAt, boolM, andB, orB, notB, nxM, M.bind, M.ret, opM, runA, getA, look, setT, retM, varM, addD, subD, gtD, ltD, leD, geD, DL.intD, lenD, ixD, held, List.getElem?_cons_zero, List.getElem?_cons_succ, Option.map_some, List.set_cons_zero, List.set_cons_succ, if_true, if_false, reduceCtorEq, Bool.false_eq_true, List.length_cons, List.length_nil, Nat.reduceAdd, exprM, mutM, dispM, listD, tupM, newM, Sl.open_, Sl.owns, m3]
theorem fresh_ok {cs : List Int} {n v : Int} (h0 : 0 ≤ n) (h1 : n ≤ 1000000) (hc : cs.length ≤ 1000) : ∃ y, F_law_e_fresh_f570 [penS cs n v] = some (.ok (.dat (.int y)) [penS cs (n + 1) v]) := by
  have i0 : L2.atI [PyData.list (cs.map PyData.int), PyData.int n, PyData.int v] 1 = some (.int n) := rfl
  have i1 : L2.atI [PyData.list (cs.map PyData.int), PyData.int (n + 1), PyData.int v] 0 = some (.list (cs.map PyData.int)) := rfl
  have ix : L2.ixN 3 1 = some 1 := rfl
  have p18 : powD [.int 10, .int 18] = some (.int 1000000000000000000) := rfl
  have ln : ((cs.map PyData.int).length : Int) = (cs.length : Int) := by rw [List.length_map]
  have nn := ne_nil cs
  have m7 : mulD [.int n, .int 7] = some (.int (n * 7)) := mul_ok (Or.inr ⟨by decide, by decide⟩)
  have hc0 : ∃ c, (ifM (boolM (opM true neD [.ex (opM true ixD [.sl 0, .ex (M.ret (.int 0))]), .ex (listD (dispM []))])) (asgM (opM true divD [.ex (opM true ixD [.ex (opM true ixD [.sl 0, .ex (M.ret (.int 0))]), .ex (opM true modD [.ex (opM true mulD [.sl 1, .ex (M.ret (.int 7))]), .ex (opM true lenD [.ex (opM true ixD [.sl 0, .ex (M.ret (.int 0))])])])]), .ex (opM true addD [.ex (M.ret (.int 1)), .ex (opM true divD [.sl 1, .ex (opM true lenD [.ex (opM true ixD [.sl 0, .ex (M.ret (.int 0))])])])])]) (setT 2)) (nxM))
      [penS cs (n + 1) v, .dat (.int n), .dat (.int 0), .non, .non, .non, .non] = some (.ok .nx [penS cs (n + 1) v, .dat (.int n), .dat (.int c), .non, .non, .non, .non]) := by
    by_cases z : cs = []
    · refine ⟨0, ?_⟩
      have g : decide (cs ≠ []) = false := decide_eq_false fun q => q z
      rw [g] at nn
      simp only [penS, List.cons_append, List.nil_append, List.replicate, ifM, asgM, setM, DL.putAt, boolM, andB, orB, notB, nxM, M.bind, M.ret, opM, runA, getA, look, setT, retM, varM, addD, subD, gtD, ltD, leD, geD, DL.intD, lenD, ixD, held, List.getElem?_cons_zero, List.getElem?_cons_succ, Option.map_some, List.set_cons_zero, List.set_cons_succ, if_true, if_false, reduceCtorEq, Bool.false_eq_true, List.length_cons, List.length_nil, Nat.reduceAdd, exprM, mutM, dispM, listD, tupM, newM, Sl.open_, Sl.owns, dispM, listD, i1, nn]
    · have g : decide (cs ≠ []) = true := decide_eq_true z
      rw [g] at nn
      have ps : 0 < cs.length := List.length_pos_iff.mpr z
      have md : modD [.int (n * 7), .int (((cs.map PyData.int).length : Nat) : Int)] = some (.int (n * 7 % (cs.length : Int))) := by rw [ln]; exact mod_ok (by omega)
      have dv : divD [.int n, .int (((cs.map PyData.int).length : Nat) : Int)] = some (.int (n / (cs.length : Int))) := by rw [ln]; exact div_ok ⟨by omega, by omega⟩
      obtain ⟨k, hk⟩ := Int.eq_ofNat_of_zero_le (Int.emod_nonneg (n * 7) (show (cs.length : Int) ≠ 0 by omega))
      have hl : k < cs.length := by have := Int.emod_lt_of_pos (n * 7) (show (0 : Int) < cs.length by omega); omega
      have at2 : L2.atI (cs.map PyData.int) (n * 7 % (cs.length : Int)) = some (.int cs[k]) := by
        rw [hk]
        exact atI_nat (by rw [List.getElem?_map, List.getElem?_eq_getElem hl]; rfl)
      have q0 : 0 ≤ n / (cs.length : Int) := Int.ediv_nonneg h0 (by omega)
      have q1 : n / (cs.length : Int) ≤ n := Int.ediv_le_self _ h0
      have dd : divD [.int cs[k], .int (1 + n / (cs.length : Int))] = some (.int (cs[k] / (1 + n / (cs.length : Int)))) := div_ok ⟨by omega, by omega⟩
      refine ⟨cs[k] / (1 + n / (cs.length : Int)), ?_⟩
      simp only [penS, List.cons_append, List.nil_append, List.replicate, ifM, asgM, setM, DL.putAt, boolM, andB, orB, notB, nxM, M.bind, M.ret, opM, runA, getA, look, setT, retM, varM, addD, subD, gtD, ltD, leD, geD, DL.intD, lenD, ixD, held, List.getElem?_cons_zero, List.getElem?_cons_succ, Option.map_some, List.set_cons_zero, List.set_cons_succ, if_true, if_false, reduceCtorEq, Bool.false_eq_true, List.length_cons, List.length_nil, Nat.reduceAdd, exprM, mutM, dispM, listD, tupM, newM, Sl.open_, Sl.owns, dispM, listD, i1, nn, m7, md, dv, at2, dd]
  obtain ⟨c0, hc0⟩ := hc0
  have hc1 : ∃ c, (ifM (boolM (opM true ltD [.sl 1, .ex (opM true lenD [.ex (opM true ixD [.sl 0, .ex (M.ret (.int 0))])])])) (asgM (opM true ixD [.ex (opM true ixD [.sl 0, .ex (M.ret (.int 0))]), .sl 1]) (setT 2)) (nxM)) [penS cs (n + 1) v, .dat (.int n), .dat (.int c0), .non, .non, .non, .non] = some (.ok .nx [penS cs (n + 1) v, .dat (.int n), .dat (.int c), .non, .non, .non, .non]) := by
    by_cases z : n < (cs.length : Int)
    · have g : decide (n < (((cs.map PyData.int).length : Nat) : Int)) = true := decide_eq_true (by rw [ln]; exact z)
      have hl : n.toNat < cs.length := by omega
      have at2 : L2.atI (cs.map PyData.int) n = some (.int cs[n.toNat]) := by
        have := atI_nat (xs := cs.map PyData.int) (i := n.toNat) (a := .int cs[n.toNat]) (by rw [List.getElem?_map, List.getElem?_eq_getElem hl]; rfl)
        rwa [show ((n.toNat : Nat) : Int) = n by omega] at this
      refine ⟨cs[n.toNat], ?_⟩
      simp only [penS, List.cons_append, List.nil_append, List.replicate, ifM, asgM, setM, DL.putAt, boolM, andB, orB, notB, nxM, M.bind, M.ret, opM, runA, getA, look, setT, retM, varM, addD, subD, gtD, ltD, leD, geD, DL.intD, lenD, ixD, held, List.getElem?_cons_zero, List.getElem?_cons_succ, Option.map_some, List.set_cons_zero, List.set_cons_succ, if_true, if_false, reduceCtorEq, Bool.false_eq_true, List.length_cons, List.length_nil, Nat.reduceAdd, exprM, mutM, dispM, listD, tupM, newM, Sl.open_, Sl.owns, i1, g, at2]
    · have g : decide (n < (((cs.map PyData.int).length : Nat) : Int)) = false := decide_eq_false (by rw [ln]; exact z)
      refine ⟨c0, ?_⟩
      simp only [penS, List.cons_append, List.nil_append, List.replicate, ifM, asgM, setM, DL.putAt, boolM, andB, orB, notB, nxM, M.bind, M.ret, opM, runA, getA, look, setT, retM, varM, addD, subD, gtD, ltD, leD, geD, DL.intD, lenD, ixD, held, List.getElem?_cons_zero, List.getElem?_cons_succ, Option.map_some, List.set_cons_zero, List.set_cons_succ, if_true, if_false, reduceCtorEq, Bool.false_eq_true, List.length_cons, List.length_nil, Nat.reduceAdd, exprM, mutM, dispM, listD, tupM, newM, Sl.open_, Sl.owns, i1, g]
  obtain ⟨c, hc1⟩ := hc1
  have s1 : (asgM (opM true ixD [.sl 0, .ex (M.ret (.int 1))]) (setT 1)) [penS cs n v, .non, .non, .non, .non, .non, .non] = some (.ok .nx [penS cs n v, .dat (.int n), .non, .non, .non, .non, .non]) := by
    simp only [penS, List.cons_append, List.nil_append, List.replicate, ifM, asgM, setM, DL.putAt, boolM, andB, orB, notB, nxM, M.bind, M.ret, opM, runA, getA, look, setT, retM, varM, addD, subD, gtD, ltD, leD, geD, DL.intD, lenD, ixD, held, List.getElem?_cons_zero, List.getElem?_cons_succ, Option.map_some, List.set_cons_zero, List.set_cons_succ, if_true, if_false, reduceCtorEq, Bool.false_eq_true, List.length_cons, List.length_nil, Nat.reduceAdd, exprM, mutM, dispM, listD, tupM, newM, Sl.open_, Sl.owns, i0]
  have s2 : (setM 0 (opM true addD [.sl 1, .ex (M.ret (.int 1))]) (M.ret (.int 1))) [penS cs n v, .dat (.int n), .non, .non, .non, .non, .non] = some (.ok .nx [penS cs (n + 1) v, .dat (.int n), .non, .non, .non, .non, .non]) := by
    simp only [penS, List.cons_append, List.nil_append, List.replicate, ifM, asgM, setM, DL.putAt, boolM, andB, orB, notB, nxM, M.bind, M.ret, opM, runA, getA, look, setT, retM, varM, addD, subD, gtD, ltD, leD, geD, DL.intD, lenD, ixD, held, List.getElem?_cons_zero, List.getElem?_cons_succ, Option.map_some, List.set_cons_zero, List.set_cons_succ, if_true, if_false, reduceCtorEq, Bool.false_eq_true, List.length_cons, List.length_nil, Nat.reduceAdd, exprM, mutM, dispM, listD, tupM, newM, Sl.open_, Sl.owns, ix]
  by_cases z2 : 1000000000000000000 ≤ c
  · have g2 : decide (1000000000000000000 ≤ c) = true := decide_eq_true z2
    refine ⟨c, body_rt (e := [penS cs (n + 1) v, .dat (.int n), .dat (.int c), .non, .non, .non, .non]) ?_ rfl⟩
    show m_law_e_fresh_f570 [penS cs n v, .non, .non, .non, .non, .non, .non] = _
    unfold m_law_e_fresh_f570
    rw [seq_nx s1, seq_nx s2]
    refine seq_nx' (e' := [penS cs (n + 1) v, .dat (.int n), .dat (.int 0), .non, .non, .non, .non]) rfl ?_
    rw [seq_nx hc0, seq_nx hc1]
    refine seq_rt ?_
    simp only [penS, List.cons_append, List.nil_append, List.replicate, ifM, asgM, setM, DL.putAt, boolM, andB, orB, notB, nxM, M.bind, M.ret, opM, runA, getA, look, setT, retM, varM, addD, subD, gtD, ltD, leD, geD, DL.intD, lenD, ixD, held, List.getElem?_cons_zero, List.getElem?_cons_succ, Option.map_some, List.set_cons_zero, List.set_cons_succ, if_true, if_false, reduceCtorEq, Bool.false_eq_true, List.length_cons, List.length_nil, Nat.reduceAdd, exprM, mutM, dispM, listD, tupM, newM, Sl.open_, Sl.owns, p18, g2]
  · have g2 : decide (1000000000000000000 ≤ c) = false := decide_eq_false z2
    obtain ⟨y, e, he⟩ := mix_ok (p := penS cs (n + 1) v) (n := n) (c := c) h0 h1 rfl
    refine ⟨y, body_rt (e := penS cs (n + 1) v :: e) ?_ rfl⟩
    show m_law_e_fresh_f570 [penS cs n v, .non, .non, .non, .non, .non, .non] = _
    unfold m_law_e_fresh_f570
    rw [seq_nx s1, seq_nx s2]
    refine seq_nx' (e' := [penS cs (n + 1) v, .dat (.int n), .dat (.int 0), .non, .non, .non, .non]) rfl ?_
    rw [seq_nx hc0, seq_nx hc1]
    refine seq_nx' (e' := [penS cs (n + 1) v, .dat (.int n), .dat (.int c), .non, .non, .non, .non]) ?_ he
    simp only [penS, List.cons_append, List.nil_append, List.replicate, ifM, asgM, setM, DL.putAt, boolM, andB, orB, notB, nxM, M.bind, M.ret, opM, runA, getA, look, setT, retM, varM, addD, subD, gtD, ltD, leD, geD, DL.intD, lenD, ixD, held, List.getElem?_cons_zero, List.getElem?_cons_succ, Option.map_some, List.set_cons_zero, List.set_cons_succ, if_true, if_false, reduceCtorEq, Bool.false_eq_true, List.length_cons, List.length_nil, Nat.reduceAdd, exprM, mutM, dispM, listD, tupM, newM, Sl.open_, Sl.owns, p18, g2]
theorem take_1 {cs : List Int} {n v o : Int} (h : ¬ v < o) (h0 : 0 < o) (h1 : o < 1073741824) : F_law_e_take_2efe [penS cs n v, .dat (.int o)] = some (.ok (.dat (.int (v % o))) [penS cs n (v / o), .dat (.int o)]) := by
  simp [F_law_e_take_2efe, m_law_e_take_2efe, penS, bodyF, seqM, ifM, M.bind, M.ret, boolM, opM, runA, getA, look, ltD, gtD, leD, geD, subD, DL.intD, intDc, modD, divD, mulD, powD, addD, negD, ixD, lenD, nxM, asgM, setT, setM, DL.putAt, held, retM, retN, varM, fin, fin1, L2.atI, L2.ixN, exprM, mutM, dispM, listD, tupM, datM, lstM, callV, slotsOf, ownIx, backS, newM, Sl.open_, Sl.owns, retLM, retO, frzM, DL.forM, rangeI, seqI, andB, orB, notB, andD, orD, notD, ifD, partM, tupleD, chainM, h, h0, h1]
theorem take_2 {cs : List Int} {n n' v v' o : Int} (h : v < o) (h0 : 0 < o) (h1 : o < 1073741824) (hf : F_law_e_fresh_f570 [penS cs n v] = some (.ok (.dat (.int v')) [penS cs n' v])) : F_law_e_take_2efe [penS cs n v, .dat (.int o)] = some (.ok (.dat (.int (v' % o))) [penS cs n' (v' / o), .dat (.int o)]) := by
  unfold penS at hf
  simp [F_law_e_take_2efe, m_law_e_take_2efe, penS, bodyF, seqM, ifM, M.bind, M.ret, boolM, opM, runA, getA, look, ltD, gtD, leD, geD, subD, DL.intD, intDc, modD, divD, mulD, powD, addD, negD, ixD, lenD, nxM, asgM, setT, setM, DL.putAt, held, retM, retN, varM, fin, fin1, L2.atI, L2.ixN, exprM, mutM, dispM, listD, tupM, datM, lstM, callV, slotsOf, ownIx, backS, newM, Sl.open_, Sl.owns, retLM, retO, frzM, DL.forM, rangeI, seqI, andB, orB, notB, andD, orD, notD, ifD, partM, tupleD, chainM, h, h0, h1, hf]
/-- a pen from which k more may be taken -/
def PenE (k : Nat) (s : Sl) : Prop := ∃ (cs : List Int) (n v : Int), s = penS cs n v ∧ 0 ≤ n ∧ n + k ≤ 1000000 ∧ cs.length ≤ 1000
theorem PenE.mono {k k' : Nat} {s : Sl} (h : PenE k s) (hk : k' ≤ k) : PenE k' s := by
  obtain ⟨cs, n, v, e, a, b, c⟩ := h
  exact ⟨cs, n, v, e, a, by omega, c⟩
theorem PenE.owns {k : Nat} {s : Sl} (h : PenE k s) : s.owns = true := by obtain ⟨cs, n, v, rfl, _⟩ := h; rfl
theorem PenE.lst {k : Nat} {s : Sl} (h : PenE k s) : ∃ ds, s = .lst ds := by obtain ⟨cs, n, v, rfl, _⟩ := h; exact ⟨_, rfl⟩
theorem take_ok {k : Nat} {s : Sl} {o : Int} (h : PenE (k + 1) s) (h0 : 0 < o) (h1 : o < 1073741824) : ∃ s' d, F_law_e_take_2efe [s, .dat (.int o)] = some (.ok (.dat (.int d)) [s', .dat (.int o)]) ∧ PenE k s' ∧ 0 ≤ d ∧ d < o := by
  obtain ⟨cs, n, v, rfl, a, b, c⟩ := h
  by_cases z : v < o
  · obtain ⟨y, hy⟩ := fresh_ok (cs := cs) (v := v) a (show n ≤ 1000000 by omega) c
    exact ⟨_, _, take_2 z h0 h1 hy, ⟨cs, n + 1, y / o, rfl, by omega, by omega, c⟩, Int.emod_nonneg _ (by omega), Int.emod_lt_of_pos _ h0⟩
  · exact ⟨_, _, take_1 z h0 h1, ⟨cs, n, v / o, rfl, a, by omega, c⟩, Int.emod_nonneg _ (by omega), Int.emod_lt_of_pos _ h0⟩
theorem take_in {k i : Nat} {s : Sl} {o : Int} {m : M D} {env : En} (hs : env[i]? = some s) (hm : m env = some (.ok (.int o) env)) (h : PenE (k + 1) s) (h0 : 0 < o) (h1 : o < 1073741824) :
    ∃ s' d, datM (callV F_law_e_take_2efe [.sl i, .ex m]) env = some (.ok (.int d) (env.set i s')) ∧ PenE k s' ∧ 0 ≤ d ∧ d < o := by
  obtain ⟨s', d, e, p, q⟩ := take_ok h h0 h1
  have hh : held env i = true := by
    obtain ⟨ds, rfl⟩ := h.lst
    unfold held; rw [hs]
  exact ⟨s', d, datM_ok (call_i hh hm hs h.owns p.owns e), p, q⟩
theorem held_dat {e : En} {i : Nat} {d : D} (h : e[i]? = some (.dat d)) : held e i = true := by unfold held; rw [h]
theorem get_sl {e : En} {i : Nat} {d : D} (h : e[i]? = some (.dat d)) {b : Bool} : getA b e [.sl i] [none] = some [d] := by simp only [getA, look, h]; rfl
theorem isi_at {T : String} {e : En} {i : Nat} {d : D} (h : e[i]? = some (.dat d)) : opM true (isiD T) [.sl i] e = some (.ok (.bool (isB T d)) e) :=
  op_ok (as := [none]) (ds := [d]) (run_sl (held_dat h) rfl) (get_sl h) rfl
theorem or_d {a b : M D} {e : En} {x y : Bool} (ha : a e = some (.ok (.bool x) e)) (hb : x = false → b e = some (.ok (.bool y) e)) : orD a b e = some (.ok (.bool (x || y)) e) := by
  unfold orD boolM
  rw [bind_ok (bind_ok ha |>.trans rfl)]
  cases x with
  | false => rw [if_neg Bool.false_ne_true, Bool.false_or]; exact hb rfl
  | true => rw [if_pos rfl, Bool.true_or]; rfl
theorem or_b {a b : M Bool} {e : En} {x y : Bool} (ha : a e = some (.ok x e)) (hb : x = false → b e = some (.ok y e)) : orB a b e = some (.ok (x || y) e) := by
  unfold orB
  rw [bind_ok ha]
  cases x with
  | false => rw [if_neg Bool.false_ne_true, Bool.false_or]; exact hb rfl
  | true => rw [if_pos rfl, Bool.true_or]; rfl
theorem and_b {a b : M Bool} {e : En} {x y : Bool} (ha : a e = some (.ok x e)) (hb : x = true → b e = some (.ok y e)) : andB a b e = some (.ok (x && y) e) := by
  unfold andB
  rw [bind_ok ha]
  cases x with
  | true => rw [if_pos rfl, Bool.true_and]; exact hb rfl
  | false => rw [if_neg Bool.false_ne_true, Bool.false_and]; rfl
/-- a test that hands back False, or goes on -/
theorem test_go {c : M Bool} {k : M O} {e : En} {x : Bool} {r : Option (Rs O)} (h : c e = some (.ok x e)) (ht : x = true → r = some (.ok (.rt (.dat (.bool false))) e)) (hf : x = false → k e = r) : seqM (ifM c (retM (M.ret (.bool false))) nxM) k e = r := by
  cases x with
  | true => rw [if_ret h, ht rfl]
  | false => exact seq_nx' (if_no h rfl) (hf rfl)
theorem len_ne {e : En} {i : Nat} {xs : List D} (n : Nat) (h : e[i]? = some (.dat (.tuple xs))) : boolM (opM true neD [.ex (opM true lenD [.sl i]), .ex (M.ret (.int (n : Int)))]) e = some (.ok (!decide (xs.length = n)) e) := by
  have l0 : opM true lenD [.sl i] e = some (.ok (.int xs.length) e) := op_ok (as := [none]) (ds := [.tuple xs]) (run_sl (held_dat h) rfl) (get_sl h) rfl
  refine bm_ok (op_ok (as := [some (.int xs.length), some (.int n)]) (ds := [.int xs.length, .int n]) (run_ex l0 (run_ex rfl (show runA [] _ = some (.ok [] _) from rfl))) rfl ?_)
  rw [ne_ok (shaped_int _) (shaped_int _)]
  congr 2
  simp only [PyData.eqv]
  by_cases q : xs.length = n
  · rw [q]; simp
  · have : ¬ ((xs.length : Int) = n) := by omega
    simp [q, this]
theorem notup_at {e : En} {i : Nat} {d : D} {b : M Bool} (h : e[i]? = some (.dat d)) (hi : isB "tuple" d = false) : orB (notB (boolM (opM true (isiD "tuple") [.sl i]))) b e = some (.ok true e) := by
  refine or_y1 (nb_ok (b := false) (bm_ok ?_))
  rw [isi_at h, hi]
theorem tup_at {e : En} {i : Nat} {xs : List D} (h : e[i]? = some (.dat (.tuple xs))) : notB (boolM (opM true (isiD "tuple") [.sl i])) e = some (.ok false e) :=
  nb_ok (b := true) (bm_ok (isi_at h))
def partB : D → Bool
  | .tuple [a, b, c] => spanB (.tuple [a, b]) && (isNone c || nameB c)
  | _ => false
theorem chain_at {i : Nat} {n b : Int} {e : En} {mc ma : M D} (ha : ma e = some (.ok (.int n) e)) (h : e[i]? = some (.dat (.int b))) {k : Int} (hc : mc e = some (.ok (.int k) e)) : chainM leD leD (.ex ma) (.sl i) (.ex mc) e = some (.ok (.bool (decide (n ≤ b) && decide (b ≤ k))) e) := by
  unfold chainM
  rw [bind_ok (run_ex ha (run_sl (held_dat h) (show runA [] _ = some (.ok [] _) from rfl)))]
  have g : getA true e [.ex ma, .sl i] [some (.int n), none] = some [.int n, .int b] := by simp only [getA, look, h]; rfl
  rw [g]
  show (match some (PyData.bool (decide (n ≤ b))) with
    | some (.bool true) => _
    | some (.bool false) => _
    | _ => none) = _
  by_cases q : n ≤ b
  · rw [decide_eq_true q, Bool.true_and]
    dsimp only
    rw [bind_ok (run_ex hc (show runA [] _ = some (.ok [] _) from rfl))]
    have g2 : getA true e [.sl i, .ex mc] ([some (PyData.int n), none].drop 1 ++ [some (.int k)]) = some [.int b, .int k] := by simp only [List.drop, List.cons_append, List.nil_append, getA, look, h]; rfl
    rw [g2]
    rfl
  · rw [decide_eq_false q, Bool.false_and]
def endI : D → Int
  | .tuple [_, .int b, _] => b
  | _ => 0
def lowI : D → Int
  | .tuple [.int a, _, _] => a
  | _ => 0
theorem part_is {x : D} (h : partB x = true) : ∃ a b : Int, ∃ c, x = .tuple [.int a, .int b, c] ∧ 0 ≤ a ∧ a ≤ b ∧ b ≤ 1000000000 ∧ (isNone c || nameB c) = true := by
  unfold partB at h
  split at h
  · rename_i a b c
    rw [Bool.and_eq_true] at h
    obtain ⟨h1, h2⟩ := h
    unfold spanB at h1
    cases a with
    | int i => cases b with
      | int j =>
        simp only [placeB, Bool.and_eq_true, decide_eq_true_eq] at h1
        exact ⟨i, j, c, rfl, h1.1.1, h1.2.2, h1.2.1.2, h2⟩
      | _ => simp [placeB] at h1
    | _ => simp [placeB] at h1
  · cases h
def gapsL : List D → List Bool
  | x :: y :: r => decide (endI x < lowI y) :: gapsL (y :: r)
  | _ => []
def wishB : D → Bool
  | .tuple xs => decide (xs.length ≤ 12) && (xs.all partB && (gapsL xs).all id)
  | _ => false
def WTxt : D → Prop
  | .tuple xs => ∀ x ∈ xs, Txt3 x
  | _ => True
theorem gaps_loop {d : Sl} : ∀ (xs : List D), xs.all partB = true → compL [1, 2] (tupT 2 (consT (setT 1) (consT (setT 2) (nilT)))) (M.ret true) (opM true ltD [.ex (opM true ixD [.sl 1, .ex (M.ret (.int 1))]), .ex (opM true ixD [.sl 2, .ex (M.ret (.int 0))])]) (pairL xs (xs.drop 1)) [d, .non, .non] = some (.ok ((gapsL xs).map PyData.bool) [d, .non, .non])
  | [], _ => rfl
  | [x], _ => rfl
  | x :: y :: r, h => by
    rw [List.all_cons, Bool.and_eq_true] at h
    have h2 := h.2
    rw [List.all_cons, Bool.and_eq_true] at h2
    obtain ⟨a, b, c, rfl, _⟩ := part_is h.1
    obtain ⟨a2, b2, c2, rfl, _⟩ := part_is h2.1
    have ih := gaps_loop (d := d) (.tuple [.int a2, .int b2, c2] :: r) h.2
    have he : opM true ltD [.ex (opM true ixD [.sl 1, .ex (M.ret (.int 1))]), .ex (opM true ixD [.sl 2, .ex (M.ret (.int 0))])] [d, .dat (.tuple [.int a, .int b, c]), .dat (.tuple [.int a2, .int b2, c2])] = some (.ok (.bool (decide (b < a2))) [d, .dat (.tuple [.int a, .int b, c]), .dat (.tuple [.int a2, .int b2, c2])]) := rfl
    exact comp_cons (e1 := [d, .dat (.tuple [.int a, .int b, c]), .dat (.tuple [.int a2, .int b2, c2])]) rfl rfl rfl he ih
theorem all_d {bs : List Bool} : allD [.list (bs.map PyData.bool)] = some (.bool (bs.all id)) := by
  show (boolsOf _).map _ = _
  rw [bools_of]; rfl
def fitsB : Int → List D → Bool
  | _, [] => true
  | n, x :: r => (partB x && decide (n < lowI x)) && fitsB (endI x) r
theorem fits_eq : ∀ (xs : List D) (n : Int), (∀ x r, xs = x :: r → partB x = true → n < lowI x) → fitsB n xs = (xs.all partB && (gapsL xs).all id)
  | [], _, _ => rfl
  | [x], n, h => by
    show ((partB x && decide (n < lowI x)) && true) = ((partB x && true) && true)
    cases z : partB x with
    | false => rfl
    | true => rw [decide_eq_true (h x [] rfl z)]
  | x :: y :: r, n, h => by
    show ((partB x && decide (n < lowI x)) && fitsB (endI x) (y :: r)) = ((partB x && (y :: r).all partB) && (decide (endI x < lowI y) && (gapsL (y :: r)).all id))
    cases z : partB x with
    | false => rfl
    | true =>
      rw [decide_eq_true (h x _ rfl z)]
      simp only [Bool.true_and]
      by_cases q : endI x < lowI y
      · rw [decide_eq_true q, Bool.true_and]
        exact fits_eq (y :: r) (endI x) fun x' r' e _ => by cases e; exact q
      · rw [decide_eq_false q, Bool.false_and, Bool.and_false]
        show ((partB y && decide (endI x < lowI y)) && fitsB (endI y) r) = false
        rw [decide_eq_false q, Bool.and_false, Bool.false_and]
theorem insU_len (x : Int) : ∀ l : List Int, (insU x l).length ≤ l.length + 1
  | [] => by simp [insU]
  | y :: r => by
    unfold insU
    split
    · simp
    · split
      · simp
      · have := insU_len x r; simp only [List.length_cons]; omega
theorem usort_len : ∀ l : List Int, (usort l).length ≤ l.length
  | [] => Nat.le_refl _
  | x :: l => by
    have a := usort_len l
    have b := insU_len x (usort l)
    show (insU x (usort l)).length ≤ _
    rw [List.length_cons]; omega
theorem intsOf_map : ∀ ns : List Int, intsOf (ns.map PyData.int) = some ns
  | [] => rfl
  | n :: ns => by
    show (intsOf (ns.map PyData.int)).map (n :: ·) = _
    rw [intsOf_map ns]; rfl
theorem range_in {m : M D} {e e' : En} {n : Nat} (h : m e = some (.ok (.int (n : Int)) e')) (hn : n ≤ 1000000) : rangeI [.ex m] e = some (.ok (rangeL 0 n) e') := by
  unfold rangeI
  have hr : runA [.ex m] e = some (.ok [some (.int (n : Int))] e') := by
    show M.bind m _ e = _
    rw [bind_ok h]; rfl
  rw [bind_ok hr]
  exact if_pos ⟨by omega, by omega⟩
structure BendsOk (B : List Int) : Prop where
  ne : B ≠ []
  up : B.Pairwise (· < ·)
  on : ∀ x ∈ B, 0 ≤ x ∧ x ≤ 1000000000
  len : B.length ≤ 20
noncomputable def bendE : M D := (ifD (boolM (opM true eqD [.ex (datM (callV F_law_e_take_2efe [.sl 0, .ex (M.ret (.int 6))])), .ex (M.ret (.int 0))])) (datM (callV F_law_e_take_2efe [.sl 0, .ex (opM true addD [.ex (opM true powD [.ex (M.ret (.int 10)), .ex (M.ret (.int 9))]), .ex (M.ret (.int 1))])])) (opM true addD [.sl 1, .ex (datM (callV F_law_e_take_2efe [.sl 0, .ex (M.ret (.int 40))]))]))
theorem bend_el {k : Nat} {s x2 x3 : Sl} {w : Int} (h : PenE (k + 2) s) (h0 : 0 ≤ w) (h1 : w ≤ 999999960) : ∃ s' y, bendE [s, .dat (.int w), x2, x3] = some (.ok (.int y) [s', .dat (.int w), x2, x3]) ∧ PenE k s' ∧ 0 ≤ y ∧ y ≤ 1000000000 := by
  obtain ⟨s1, d, e1, p1, _, _⟩ := take_in (k := k + 1) (i := 0) (s := s) (o := 6) (m := M.ret (.int 6)) (env := [s, .dat (.int w), x2, x3]) rfl rfl h (by decide) (by decide)
  have c1 : boolM (opM true eqD [.ex (datM (callV F_law_e_take_2efe [.sl 0, .ex (M.ret (.int 6))])), .ex (M.ret (.int 0))]) [s, .dat (.int w), x2, x3] = some (.ok (decide (d = 0)) [s1, .dat (.int w), x2, x3]) := by
    unfold boolM
    rw [bind_ok (op_ok (as := [some (.int d), some (.int 0)]) (ds := [.int d, .int 0]) (z := .bool (decide (d = 0))) (run_ex e1 (run_ex rfl (show runA [] _ = some (.ok [] _) from rfl))) rfl (eq_int _ _))]
    rfl
  unfold bendE ifD
  rw [bind_ok c1]
  by_cases z : d = 0
  · rw [decide_eq_true z, if_pos rfl]
    obtain ⟨s2, y, e2, p2, y0, y1⟩ := take_in (k := k) (i := 0) (s := s1) (o := 1000000001) (m := opM true addD [.ex (opM true powD [.ex (M.ret (.int 10)), .ex (M.ret (.int 9))]), .ex (M.ret (.int 1))]) (env := [s1, .dat (.int w), x2, x3]) rfl rfl p1 (by decide) (by decide)
    exact ⟨s2, y, e2, p2, y0, by omega⟩
  · rw [decide_eq_false z, if_neg Bool.false_ne_true]
    obtain ⟨s2, y, e2, p2, y0, y1⟩ := take_in (k := k) (i := 0) (s := s1) (o := 40) (m := M.ret (.int 40)) (env := [s1, .dat (.int w), x2, x3]) rfl rfl p1 (by decide) (by decide)
    exact ⟨s2, w + y, op_ok (as := [none, some (.int y)]) (ds := [.int w, .int y]) (run_sl (held_dat (d := .int w) rfl) (run_ex e2 (show runA [] _ = some (.ok [] _) from rfl))) rfl rfl, p2, by omega, by omega⟩
theorem bend_loop {w : Int} (h0 : 0 ≤ w) (h1 : w ≤ 999999960) : ∀ (ds : List D) {k : Nat} {s x3 : Sl} {F : List Int}, PenE (k + 2 * ds.length) s → x3.owns = false → F.length + ds.length ≤ 20 → (∀ x ∈ F, 0 ≤ x ∧ x ≤ 1000000000) →
    ∃ (s' y3 : Sl) (G : List Int), forL (setT 3) (asgM (opM true addD [.sl 2, .ex (listD (dispM [.ex bendE]))]) (setT 2)) ds [s, .dat (.int w), .dat (.list (F.map .int)), x3] = some (.ok .nx [s', .dat (.int w), .dat (.list (G.map .int)), y3]) ∧ PenE k s' ∧ (∀ x ∈ G, 0 ≤ x ∧ x ≤ 1000000000) ∧ G.length = F.length + ds.length
  | [], k, s, x3, F, h, _, _, hF => ⟨s, x3, F, for_nil, h, hF, rfl⟩
  | d :: ds, k, s, x3, F, h, h3, hl, hF => by
    rw [List.length_cons] at h hl
    obtain ⟨s1, y, e, p1, y0, y1⟩ := bend_el (k := k + 2 * ds.length) (s := s) (x2 := .dat (.list (F.map .int))) (x3 := .dat d) (w := w) (h.mono (by omega)) h0 h1
    obtain ⟨s', y3, G, f, p2, hG, lG⟩ := bend_loop h0 h1 ds (k := k) (s := s1) (x3 := .dat d) (F := F ++ [y]) p1 rfl (by rw [List.length_append, List.length_singleton]; omega) (fun x hx => by
      rcases List.mem_append.mp hx with q | q
      · exact hF x q
      · rw [List.mem_singleton.mp q]; exact ⟨y0, y1⟩)
    refine ⟨s', y3, G, ?_, p2, hG, by rw [lG, List.length_append, List.length_singleton, List.length_cons]; omega⟩
    have t : asgM (opM true addD [.sl 2, .ex (listD (dispM [.ex bendE]))]) (setT 2) [s, .dat (.int w), .dat (.list (F.map .int)), .dat d] = some (.ok .nx [s1, .dat (.int w), .dat (.list ((F ++ [y]).map .int)), .dat d]) := by
      have dd : dispM [.ex bendE] [s, .dat (.int w), .dat (.list (F.map .int)), .dat d] = some (.ok [.int y] [s1, .dat (.int w), .dat (.list (F.map .int)), .dat d]) := by
        unfold dispM
        refine (bind_ok (run_ex e (show runA [] _ = some (.ok [] _) from rfl))).trans rfl
      refine asg_ok (d := .list ((F ++ [y]).map .int)) (op_ok (as := [none, some (.list [.int y])]) (ds := [.list (F.map .int), .list [.int y]]) (run_sl (held_dat (d := .list (F.map .int)) rfl) (run_ex (listD_ok dd) (show runA [] _ = some (.ok [] _) from rfl))) rfl ?_) ?_
      · show (if (F.map PyData.int).length + 1 ≤ 1000000 then some (PyData.list (F.map PyData.int ++ [.int y])) else none) = _
        rw [if_pos (by rw [List.length_map]; omega), List.map_append]; rfl
      · exact setT_ok (s := .dat (.list (F.map .int))) rfl rfl
    rw [for_cons (setT_ok (s := x3) rfl h3) t, f]
theorem base_at {d : Int} (h0 : 0 ≤ d) (h1 : d < 3) : ∃ w : Int, L2.atI [PyData.int 0, .int 999999960, .int 500] d = some (.int w) ∧ 0 ≤ w ∧ w ≤ 999999960 := by
  have : d = 0 ∨ d = 1 ∨ d = 2 := by omega
  rcases this with rfl | rfl | rfl
  · exact ⟨0, rfl, by decide, by decide⟩
  · exact ⟨999999960, rfl, by decide, by decide⟩
  · exact ⟨500, rfl, by decide, by decide⟩
theorem start_at {d : Int} (h0 : 0 ≤ d) (h1 : d < 4) : ∃ F : List Int, L2.atI [PyData.list [], .list [.int 0], .list [.int 1000000000], .list [.int 0, .int 1000000000]] d = some (.list (F.map .int)) ∧ F.length ≤ 2 ∧ ∀ x ∈ F, 0 ≤ x ∧ x ≤ 1000000000 := by
  have : d = 0 ∨ d = 1 ∨ d = 2 ∨ d = 3 := by omega
  rcases this with rfl | rfl | rfl | rfl
  · exact ⟨[], rfl, by decide, fun _ h => nomatch h⟩
  · exact ⟨[0], rfl, by decide, by decide⟩
  · exact ⟨[1000000000], rfl, by decide, by decide⟩
  · exact ⟨[0, 1000000000], rfl, by decide, by decide⟩
theorem bends_ok {k : Nat} {s : Sl} (h : PenE (k + 19) s) : ∃ (s' : Sl) (B : List Int), F_law_e_bends_8798 [s] = some (.ok (.dat (.list (B.map .int))) [s']) ∧ PenE k s' ∧ BendsOk B := by
  obtain ⟨s1, d1, e1, p1, a0, a1⟩ := take_in (k := k + 18) (i := 0) (s := s) (o := 3) (m := M.ret (.int 3)) (env := [s, .non, .non, .non]) rfl rfl h (by decide) (by decide)
  obtain ⟨w, ew, w0, w1⟩ := base_at a0 a1
  obtain ⟨s2, d2, e2, p2, b0, b1⟩ := take_in (k := k + 17) (i := 0) (s := s1) (o := 4) (m := M.ret (.int 4)) (env := [s1, .dat (.int w), .non, .non]) rfl rfl p1 (by decide) (by decide)
  obtain ⟨F, eF, lF, hF⟩ := start_at b0 b1
  obtain ⟨s3, d3, e3, p3, c0, c1⟩ := take_in (k := k + 16) (i := 0) (s := s2) (o := 5) (m := M.ret (.int 5)) (env := [s2, .dat (.int w), .dat (.list (F.map .int)), .non]) rfl rfl p2 (by decide) (by decide)
  obtain ⟨n, hn⟩ := Int.eq_ofNat_of_zero_le (show (0 : Int) ≤ 4 + d3 by omega)
  obtain ⟨s4, y3, G, f, p4, hG, lG⟩ := bend_loop w0 w1 (rangeL 0 n) (k := k) (s := s3) (x3 := .non) (F := F) (p3.mono (by rw [rangeL_len]; omega)) rfl (by rw [rangeL_len]; omega) hF
  rw [rangeL_len] at lG
  refine ⟨s4, usort G, body_rt (e := [s4, .dat (.int w), .dat (.list (G.map .int)), y3]) ?_ ?_, p4, ⟨?_, usort_up G, fun x hx => hG x (usort_mem.mp hx), Nat.le_trans (usort_len G) (by omega)⟩⟩
  · show m_law_e_bends_8798 [s, .non, .non, .non] = _
    unfold m_law_e_bends_8798
    refine seq_nx' (e' := [s1, .dat (.int w), .non, .non]) (asg_ok (op_ok (as := [some (.list [.int 0, .int 999999960, .int 500]), some (.int d1)]) (ds := [.list [.int 0, .int 999999960, .int 500], .int d1]) (run_ex rfl (run_ex e1 (show runA [] _ = some (.ok [] _) from rfl))) rfl ew) rfl) ?_
    refine seq_nx' (e' := [s2, .dat (.int w), .dat (.list (F.map .int)), .non]) (asg_ok (op_ok (as := [some (.list [.list [], .list [.int 0], .list [.int 1000000000], .list [.int 0, .int 1000000000]]), some (.int d2)]) (ds := [.list [.list [], .list [.int 0], .list [.int 1000000000], .list [.int 0, .int 1000000000]], .int d2]) (run_ex rfl (run_ex e2 (show runA [] _ = some (.ok [] _) from rfl))) rfl eF) rfl) ?_
    refine seq_nx' (for_ok (range_in (n := n) ?_ (by omega)) f) ?_
    · rw [← hn]
      exact op_ok (as := [some (.int 4), some (.int d3)]) (ds := [.int 4, .int d3]) (run_ex rfl (run_ex e3 (show runA [] _ = some (.ok [] _) from rfl))) rfl rfl
    · refine ret_o (op_ok (as := [none]) (ds := [.list (G.map .int)]) rfl rfl ?_)
      unfold usortD
      dsimp only
      rw [intsOf_map]
      dsimp only
      rw [if_pos (by omega)]
  · obtain ⟨_, _, _, rfl, _⟩ := h
    obtain ⟨_, _, _, rfl, _⟩ := p4
    rfl
  · intro z
    have hz : G ≠ [] := fun q => by rw [q] at lG; simp at lG; omega
    obtain ⟨x, hx⟩ := List.exists_mem_of_ne_nil G hz
    have := usort_mem.mpr hx
    rw [z] at this; cases this
/-- a name of one to eight letters -/
def Tone (d : D) : Prop := ∃ x : Str, d = .str x ∧ 1 ≤ x.length ∧ x.length ≤ 8 ∧ ∀ c ∈ x.cps.toList, signB c = true
theorem letter_at {i : Int} (h0 : 0 ≤ i) (h1 : i < 26) : ∃ c, ixD [.str "abcdefghijklmnopqrstuvwxyz", .int i] = some (one c) ∧ signB c = true := by
  have e : (Str.ofString "abcdefghijklmnopqrstuvwxyz").cps.toList = List.range' 97 26 := by decide +kernel
  have hl : (Str.ofString "abcdefghijklmnopqrstuvwxyz").length ≤ 10000000 := by decide +kernel
  refine ⟨97 + i.toNat, ?_, by unfold signB; rw [decide_eq_true (by omega), decide_eq_true (by omega)]; rfl⟩
  show (if (Str.ofString "abcdefghijklmnopqrstuvwxyz").length ≤ 10000000 then (L2.atI (Str.ofString "abcdefghijklmnopqrstuvwxyz").cps.toList i).map fun c => PyData.str ⟨#[c]⟩ else none) = _
  rw [if_pos hl, e]
  have : L2.atI (List.range' 97 26) i = some (97 + i.toNat) := by
    have := atI_nat (xs := List.range' 97 26) (i := i.toNat) (a := 97 + i.toNat) (by rw [List.getElem?_range' (by omega)]; simp)
    rwa [show ((i.toNat : Nat) : Int) = i by omega] at this
  rw [this]; rfl
theorem cps_app (a b : Str) : (a ++ b).cps.toList = a.cps.toList ++ b.cps.toList := by
  show (a.cps ++ b.cps).toList = _
  simp
def sgl (c : Nat) : Str := ⟨#[c]⟩
theorem join_sgl : ∀ cs : List Nat, (Str.join "" (cs.map sgl)).cps.toList = cs
  | [] => by decide +kernel
  | [c] => rfl
  | c :: b :: r => by
    show ((sgl c ++ Str.ofString "") ++ Str.join "" ((b :: r).map sgl)).cps.toList = _
    rw [cps_app, cps_app, join_sgl (b :: r)]
    rfl
theorem strs_one : ∀ cs : List Nat, strsOf (cs.map one) = some (cs.map sgl)
  | [] => rfl
  | c :: cs => by
    show (strsOf (cs.map one)).map (sgl c :: ·) = _
    rw [strs_one cs]; rfl
theorem sum_sgl : ∀ cs : List Nat, ((cs.map sgl).map (·.length)).sum = cs.length
  | [] => rfl
  | c :: cs => by
    show (sgl c).length + ((cs.map sgl).map (·.length)).sum = cs.length + 1
    rw [sum_sgl cs]
    show 1 + _ = _
    omega
theorem join_letters {cs : List Nat} (h1 : 1 ≤ cs.length) (h2 : cs.length ≤ 8) (hs : ∀ c ∈ cs, signB c = true) : ∃ z, joinD "" [.list (cs.map one)] = some z ∧ Tone z := by
  have l0 : (Str.ofString "").length = 0 := by decide +kernel
  refine ⟨.str (Txt.join "" (cs.map sgl)), ?_, Txt.join "" (cs.map sgl), rfl, ?_⟩
  · show (strsOf (cs.map one)).bind (fun ys => if (ys.map (·.length)).sum + ys.length * (Str.ofString "").length ≤ 10000000 then some (PyData.str (Txt.join "" ys)) else none) = _
    rw [strs_one]
    show (if _ then _ else _) = _
    rw [if_pos]
    rw [sum_sgl, l0]; omega
  · have e := join_sgl cs
    rw [TL.join_eq]
    have hl : (Str.join "" (cs.map sgl)).length = cs.length := by
      show (Str.join "" (cs.map sgl)).cps.size = _
      rw [← Array.length_toList, e]
    rw [hl, e]
    exact ⟨h1, h2, hs⟩
theorem sign_lt {c : Nat} (h : signB c = true) : 97 ≤ c ∧ c ≤ 122 := by
  unfold signB at h
  rw [Bool.and_eq_true, decide_eq_true_eq, decide_eq_true_eq] at h
  exact h
theorem char_ok : ((List.range' 97 26).all fun c => PySem.Builtin.Str.reprChar 39 c == [c] && PySem.Builtin.Str.reprChar 34 c == [c]) = true := by decide +kernel
theorem char_of {q c : Nat} (hq : q = 39 ∨ q = 34) (h : signB c = true) : PySem.Builtin.Str.reprChar q c = [c] := by
  obtain ⟨a, b⟩ := sign_lt h
  have := List.all_eq_true.mp char_ok c (by rw [List.mem_range'_1]; omega)
  rw [Bool.and_eq_true, beq_iff_eq, beq_iff_eq] at this
  rcases hq with rfl | rfl
  · exact this.1
  · exact this.2
theorem fold_ok {q : Nat} (hq : q = 39 ∨ q = 34) : ∀ (l : List Nat) (acc : Array Nat), (∀ c ∈ l, signB c = true) → (∀ c ∈ acc.toList, c < 1114112) → ∀ c ∈ (l.foldl (fun out c => out ++ (PySem.Builtin.Str.reprChar q c).toArray) acc).toList, c < 1114112
  | [], acc, _, h => h
  | x :: l, acc, hl, h => by
    rw [List.foldl_cons]
    refine fold_ok hq l _ (fun c hc => hl c (List.mem_cons_of_mem _ hc)) fun c hc => ?_
    have hx := hl x (List.mem_cons_self ..)
    rw [char_of hq hx] at hc
    have hc' : c ∈ acc.toList ++ [x] := by simpa using hc
    rcases List.mem_append.mp hc' with z | z
    · exact h c z
    · rw [List.mem_singleton.mp z]; have := sign_lt hx; omega
theorem repr_ok {x : Str} (h : ∀ c ∈ x.cps.toList, signB c = true) : PyData.strOk (reprText x) = true := by
  have hq : reprQuote x = 39 ∨ reprQuote x = 34 := by
    unfold reprQuote
    split
    · exact Or.inr rfl
    · exact Or.inl rfl
  unfold PyData.strOk reprText
  rw [Array.all_eq_true_iff_forall_mem]
  intro c hc
  rw [decide_eq_true_eq]
  rcases Array.mem_push.mp hc with z | z
  · rw [← Array.foldl_toList] at z
    refine fold_ok hq x.cps.toList _ h (fun c hc => ?_) c (Array.mem_toList_iff.mpr z)
    have : c = reprQuote x := by simpa using hc
    rw [this]; rcases hq with e | e <;> rw [e] <;> decide
  · rw [z]; rcases hq with e | e <;> rw [e] <;> decide
theorem Tone.txt {d : D} (h : Tone d) : Txt d := by
  obtain ⟨x, rfl, a, b, c⟩ := h
  exact ⟨by omega, fun y hy => by have := sign_lt (c y hy); omega⟩
theorem Tone.fn {d : D} (b : Bool) (h : Tone d) : Fn b 0 90 d := by
  obtain ⟨x, rfl, l1, l2, c⟩ := h
  refine ⟨?_, by simp [PyData.depth], by simp [PyData.showable], ?_, by rw [PyData.shown_str]; exact repr_ok c⟩
  · cases b with
    | true => simp [kd, tame]
    | false =>
      show PyData.canLay0 (.str x) = true
      simp only [PyData.canLay0, PyData.strOk]
      rw [Array.all_eq_true_iff_forall_mem]
      intro y hy
      rw [decide_eq_true_eq]
      have := sign_lt (c y (Array.mem_toList_iff.mpr hy))
      omega
  · rw [PyData.shown_str]
    have := StrLaws.reprText_len x fun y hy => by have := sign_lt (c y hy); omega
    omega
noncomputable def letE : M D := (opM true ixD [.ex (M.ret (.str "abcdefghijklmnopqrstuvwxyz")), .ex (datM (callV F_law_e_take_2efe [.sl 0, .ex (M.ret (.int 26))]))])
theorem let_loop {x1 x2 x3 : Sl} : ∀ (ds : List D) {k : Nat} {s : Sl}, PenE (k + ds.length) s → ∃ (s' : Sl) (cs : List Nat), compL [4] (setT 4) (M.ret true) letE ds [s, x1, x2, x3, .non] = some (.ok (cs.map one) [s', x1, x2, x3, .non]) ∧ PenE k s' ∧ cs.length = ds.length ∧ ∀ c ∈ cs, signB c = true
  | [], k, s, h => ⟨s, [], comp_nil, h, rfl, fun _ h => nomatch h⟩
  | d :: ds, k, s, h => by
    rw [List.length_cons] at h
    obtain ⟨s1, i, e, p1, i0, i1⟩ := take_in (k := k + ds.length) (i := 0) (s := s) (o := 26) (m := M.ret (.int 26)) (env := [s, x1, x2, x3, .dat d]) rfl rfl h (by decide) (by decide)
    obtain ⟨c, ec, sc⟩ := letter_at i0 i1
    obtain ⟨s', cs, f, p2, l, g⟩ := let_loop (x1 := x1) (x2 := x2) (x3 := x3) ds p1
    refine ⟨s', c :: cs, comp_cons (e1 := [s, x1, x2, x3, .dat d]) (e2 := [s1, x1, x2, x3, .dat d]) rfl rfl rfl ?_ f, p2, by rw [List.length_cons, l, List.length_cons], fun y hy => ?_⟩
    · exact op_ok (as := [some (.str "abcdefghijklmnopqrstuvwxyz"), some (.int i)]) (ds := [.str "abcdefghijklmnopqrstuvwxyz", .int i]) (run_ex rfl (run_ex e (show runA [] _ = some (.ok [] _) from rfl))) rfl ec
    · rcases List.mem_cons.mp hy with z | z
      · rw [z]; exact sc
      · exact g y z
noncomputable def lettersM : M (List D) := (compM (rangeI [.ex (opM true ixD [.ex (listD (dispM [.ex (M.ret (.int 1)), .ex (M.ret (.int 3)), .ex (M.ret (.int 8))])), .ex (datM (callV F_law_e_take_2efe [.sl 0, .ex (M.ret (.int 3))]))])]) [4] (setT 4) (M.ret true) letE)
noncomputable def toneB : M O := (seqM (asgM (listD lettersM) (setT 3)) (exprM (mutM 1 qAppend [.ex (opM true (joinD "") [.sl 3])])))
theorem few_at {d : Int} (h0 : 0 ≤ d) (h1 : d < 3) : ∃ n : Nat, L2.atI [PyData.int 1, .int 3, .int 8] d = some (.int (n : Int)) ∧ 1 ≤ n ∧ n ≤ 8 := by
  have : d = 0 ∨ d = 1 ∨ d = 2 := by omega
  rcases this with rfl | rfl | rfl
  · exact ⟨1, rfl, by decide, by decide⟩
  · exact ⟨3, rfl, by decide, by decide⟩
  · exact ⟨8, rfl, by decide, by decide⟩
theorem tone_turn {k : Nat} {s x2 x3 : Sl} {T : List D} (h : PenE (k + 9) s) (h3 : x3.owns = false) (hT : T.length ≤ 1000) :
    ∃ s' y3 z, toneB [s, .lst T, x2, x3, .non] = some (.ok .nx [s', .lst (T ++ [z]), x2, y3, .non]) ∧ PenE k s' ∧ Tone z ∧ y3.owns = false := by
  obtain ⟨s1, d, e, p1, d0, d1⟩ := take_in (k := k + 8) (i := 0) (s := s) (o := 3) (m := M.ret (.int 3)) (env := [s, .lst T, x2, x3, .non]) rfl rfl h (by decide) (by decide)
  obtain ⟨n, en, n1, n8⟩ := few_at d0 d1
  obtain ⟨s2, cs, f, p2, l, g⟩ := let_loop (x1 := .lst T) (x2 := x2) (x3 := x3) (rangeL 0 n) (k := k) (s := s1) (p1.mono (by rw [rangeL_len]; omega))
  rw [rangeL_len] at l
  obtain ⟨z, ez, tz⟩ := join_letters (cs := cs) (by omega) (by omega) g
  refine ⟨s2, .dat (.list (cs.map one)), z, ?_, p2, tz, rfl⟩
  have el : lettersM [s, .lst T, x2, x3, .non] = some (.ok (cs.map one) [s2, .lst T, x2, x3, .non]) := by
    refine comp_ok (ds := rangeL 0 n) (range_in (n := n) ?_ (by omega)) (by rw [rangeL_len]; omega) f
    exact op_ok (as := [some (.list [.int 1, .int 3, .int 8]), some (.int d)]) (ds := [.list [.int 1, .int 3, .int 8], .int d]) (run_ex rfl (run_ex e (show runA [] _ = some (.ok [] _) from rfl))) rfl en
  refine seq_nx' (asg_ok (listD_ok el) (setT_ok (s := x3) rfl h3)) ?_
  have ej : opM true (joinD "") [.sl 3] [s2, .lst T, x2, .dat (.list (cs.map one)), .non] = some (.ok z [s2, .lst T, x2, .dat (.list (cs.map one)), .non]) := op_ok (as := [none]) (ds := [.list (cs.map one)]) rfl rfl ez
  show M.bind (mutM 1 qAppend [.ex (opM true (joinD "") [.sl 3])]) _ [s2, .lst T, x2, .dat (.list (cs.map one)), .non] = _
  refine (bind_ok (a := PyData.none) (e' := [s2, .lst (T ++ [z]), x2, .dat (.list (cs.map one)), .non]) ?_).trans rfl
  show M.bind (runA [.ex _]) _ [s2, .lst T, x2, .dat (.list (cs.map one)), .non] = _
  refine (bind_ok (run_ex ej (show runA [] _ = some (.ok [] _) from rfl))).trans ?_
  show (qAppend T [z]).map _ = _
  rw [qapp (by omega)]; rfl
theorem tone_loop : ∀ (ds : List D) {k : Nat} {s x2 x3 : Sl} {T : List D}, PenE (k + 9 * ds.length) s → x2.owns = false → x3.owns = false → T.length + ds.length ≤ 1000 → (∀ d ∈ T, Tone d) →
    ∃ (s' y2 y3 : Sl) (R : List D), forL (setT 2) toneB ds [s, .lst T, x2, x3, .non] = some (.ok .nx [s', .lst R, y2, y3, .non]) ∧ PenE k s' ∧ (∀ d ∈ R, Tone d) ∧ R.length = T.length + ds.length
  | [], k, s, x2, x3, T, h, _, _, _, hT => ⟨s, x2, x3, T, for_nil, h, hT, rfl⟩
  | d :: ds, k, s, x2, x3, T, h, h2, h3, hl, hT => by
    rw [List.length_cons] at h hl
    obtain ⟨s1, y3, z, e, p1, tz, o3⟩ := tone_turn (k := k + 9 * ds.length) (s := s) (x2 := .dat d) (x3 := x3) (T := T) (h.mono (by omega)) h3 (by omega)
    obtain ⟨s', y2, y3', R, f, p2, hR, lR⟩ := tone_loop ds (k := k) (s := s1) (x2 := .dat d) (x3 := y3) (T := T ++ [z]) p1 rfl o3 (by rw [List.length_append, List.length_singleton]; omega) (fun y hy => by
      rcases List.mem_append.mp hy with q | q
      · exact hT y q
      · rw [List.mem_singleton.mp q]; exact tz)
    refine ⟨s', y2, y3', R, ?_, p2, hR, by rw [lR, List.length_append, List.length_singleton, List.length_cons]; omega⟩
    rw [for_cons (setT_ok (s := x2) rfl h2) e, f]
theorem strs_tones : ∀ (T : List D), (∀ d ∈ T, Tone d) → ∃ ys, strsOf T = some ys ∧ ys.length = T.length
  | [], _ => ⟨[], rfl, rfl⟩
  | d :: T, h => by
    obtain ⟨x, rfl, _⟩ := h d (List.mem_cons_self ..)
    obtain ⟨ys, e, l⟩ := strs_tones T fun y hy => h y (List.mem_cons_of_mem _ hy)
    exact ⟨x :: ys, by show (strsOf T).map (x :: ·) = _; rw [e]; rfl, by rw [List.length_cons, l, List.length_cons]⟩
theorem rgb_tones : ∀ d ∈ [PyData.str "red", .str "blue", .str "green"], Tone d := by
  intro d hd
  have c : ∀ x : Str, (decide (1 ≤ x.length) && decide (x.length ≤ 8) && x.cps.toList.all signB) = true → Tone (.str x) := fun x h => by
    simp only [Bool.and_eq_true, decide_eq_true_eq, List.all_eq_true] at h
    exact ⟨x, rfl, h.1.1, h.1.2, h.2⟩
  simp only [List.mem_cons, List.not_mem_nil, or_false] at hd
  rcases hd with rfl | rfl | rfl <;> exact c _ (by decide +kernel)
theorem tones_ok {k : Nat} {s : Sl} (h : PenE (k + 28) s) : ∃ (s' : Sl) (T : List D), F_law_e_tones_2b05 [s] = some (.ok (.dat (.list T)) [s']) ∧ PenE k s' ∧ (∀ d ∈ T, Tone d) ∧ T.length ≤ 3 := by
  obtain ⟨s1, d, e, p1, d0, d1⟩ := take_in (k := k + 27) (i := 0) (s := s) (o := 2) (m := M.ret (.int 2)) (env := [s, .lst [], .non, .non, .non]) rfl rfl h (by decide) (by decide)
  obtain ⟨n, hn⟩ := Int.eq_ofNat_of_zero_le (show (0 : Int) ≤ 2 + d by omega)
  obtain ⟨s2, y2, y3, R, f, p2, hR, lR⟩ := tone_loop (rangeL 0 n) (k := k) (s := s1) (x2 := .non) (x3 := .non) (T := []) (p1.mono (by rw [rangeL_len]; omega)) rfl rfl (by rw [rangeL_len]; simp; omega) (fun _ h => nomatch h)
  rw [rangeL_len, List.length_nil] at lR
  obtain ⟨ys, ey, ly⟩ := strs_tones R hR
  have ret : ∃ T : List D, frzM 1 (retM (ifD (boolM (opM true eqD [.ex (opM true onceD [.sl 1]), .ex (opM true lenD [.sl 1])])) (varM 1) (listD (dispM [.ex (M.ret (.str "red")), .ex (M.ret (.str "blue")), .ex (M.ret (.str "green"))])))) [s2, .lst R, y2, y3, .non] = some (.ok (.rt (.dat (.list T))) [s2, .dat (.list R), y2, y3, .non]) ∧ (∀ d ∈ T, Tone d) ∧ T.length ≤ 3 := by
    have o1 : opM true onceD [.sl 1] [s2, .dat (.list R), y2, y3, .non] = some (.ok (.int (onceN ys ys.length : Nat)) [s2, .dat (.list R), y2, y3, .non]) := by
      refine op_ok (as := [none]) (ds := [.list R]) rfl rfl ?_
      show (strsOf R).bind _ = _
      rw [ey]
      show (if ys.length < 4000 then _ else _) = _
      rw [if_pos (by omega)]
    have o2 : opM true lenD [.sl 1] [s2, .dat (.list R), y2, y3, .non] = some (.ok (.int R.length) [s2, .dat (.list R), y2, y3, .non]) := rfl
    have c := bm_ok (op_ok (p := eqD) (as := [some (.int (onceN ys ys.length : Nat)), some (.int R.length)]) (ds := [.int (onceN ys ys.length : Nat), .int R.length]) (run_ex o1 (run_ex o2 (show runA [] _ = some (.ok [] _) from rfl))) rfl (eq_int _ _))
    by_cases z : ((onceN ys ys.length : Nat) : Int) = (R.length : Int)
    · rw [decide_eq_true z] at c
      refine ⟨R, frz_ok rfl (ret_o ?_), hR, by omega⟩
      unfold ifD
      refine (bind_ok c).trans ?_
      rw [if_pos rfl]; rfl
    · rw [decide_eq_false z] at c
      refine ⟨[.str "red", .str "blue", .str "green"], frz_ok rfl (ret_o ?_), rgb_tones, by decide⟩
      unfold ifD
      refine (bind_ok c).trans ?_
      rw [if_neg Bool.false_ne_true]; rfl
  obtain ⟨T, er, hT, lT⟩ := ret
  refine ⟨s2, T, body_rt (e := [s2, .dat (.list R), y2, y3, .non]) ?_ ?_, p2, hT, lT⟩
  · show m_law_e_tones_2b05 [s, .non, .non, .non, .non] = _
    unfold m_law_e_tones_2b05
    refine seq_nx' (e' := [s, .lst [], .non, .non, .non]) (new_ok (e1 := [s, .non, .non, .non, .non]) rfl rfl) ?_
    refine seq_nx' (for_ok (range_in (n := n) ?_ (by omega)) f) er
    rw [← hn]
    exact op_ok (as := [some (.int 2), some (.int d)]) (ds := [.int 2, .int d]) (run_ex rfl (run_ex e (show runA [] _ = some (.ok [] _) from rfl))) rfl rfl
  · obtain ⟨_, _, _, rfl, _⟩ := h
    obtain ⟨_, _, _, rfl, _⟩ := p2
    rfl
structure WPart (x : D) : Prop where
  is : ∃ (l h : Int) (c : D), x = .tuple [.int l, .int h, c] ∧ 0 ≤ l ∧ l ≤ 1000000000 ∧ 0 ≤ h ∧ h ≤ 1000000000 ∧ (c = .none ∨ Tone c)
theorem ahead_loop {s b t m f x5 x6 x7 x9 x10 : Sl} {c : M Bool} {P : Int → Bool} (hc : ∀ i, c [s, b, t, m, f, x5, x6, x7, .dat (.int i), x9, x10] = some (.ok (P i) [s, b, t, m, f, x5, x6, x7, .dat (.int i), x9, x10])) :
    ∀ L : List Int, compL [8] (setT 8) c (varM 8) (L.map .int) [s, b, t, m, f, x5, x6, x7, .non, x9, x10] = some (.ok ((L.filter P).map .int) [s, b, t, m, f, x5, x6, x7, .non, x9, x10])
  | [] => rfl
  | i :: L => by
    have ih := ahead_loop hc L
    have h := hc i
    rw [List.map_cons, List.filter_cons]
    cases z : P i with
    | true =>
      rw [z] at h
      rw [if_pos rfl, List.map_cons]
      exact comp_cons (e1 := [s, b, t, m, f, x5, x6, x7, .dat (.int i), x9, x10]) rfl rfl h rfl ih
    | false =>
      rw [z] at h
      rw [if_neg Bool.false_ne_true]
      exact comp_skip (e1 := [s, b, t, m, f, x5, x6, x7, .dat (.int i), x9, x10]) rfl rfl h ih
noncomputable def wantB : M O := (seqM (asgM (listD (compM (seqI (varM 1)) [8] (setT 8) (boolM (opM true geD [.sl 8, .sl 5])) (varM 8))) (setT 7))
  (ifM (boolM (opM true neD [.sl 7, .ex (listD (dispM []))])) (seqM (asgM (opM true ixD [.ex (listD (dispM [.ex (opM true ixD [.sl 7, .ex (M.ret (.int 0))]), .sl 5, .ex (opM true ixD [.sl 7, .ex (datM (callV F_law_e_take_2efe [.sl 0, .ex (opM true lenD [.sl 7])]))])])), .ex (datM (callV F_law_e_take_2efe [.sl 0, .ex (M.ret (.int 3))]))]) (setT 9))
  (seqM (asgM (opM true addD [.ex (listD (compM (seqI (varM 7)) [8] (setT 8) (boolM (opM true geD [.sl 8, .sl 9])) (varM 8))), .ex (listD (dispM [.sl 9]))]) (setT 7))
  (seqM (asgM (opM true ixD [.sl 7, .ex (datM (callV F_law_e_take_2efe [.sl 0, .ex (opM true min2D [.ex (M.ret (.int 3)), .ex (opM true lenD [.sl 7])])]))]) (setT 10))
  (seqM (exprM (mutM 4 qAppend [.ex (tupM [.sl 9, .sl 10, .ex (opM true ixD [.ex (opM true addD [.sl 2, .ex (listD (dispM [.ex (M.ret .none)]))]), .ex (datM (callV F_law_e_take_2efe [.sl 0, .ex (opM true addD [.ex (opM true lenD [.sl 2]), .ex (M.ret (.int 1))])]))])])]))
  (asgM (opM true addD [.ex (opM true addD [.sl 10, .ex (M.ret (.int 1))]), .ex (opM true ixD [.ex (listD (dispM [.ex (M.ret (.int 0)), .ex (M.ret (.int 0)), .ex (M.ret (.int 1))])), .ex (datM (callV F_law_e_take_2efe [.sl 0, .ex (M.ret (.int 3))]))])]) (setT 5)))))) (nxM)))
theorem zzo_at {d : Int} (h0 : 0 ≤ d) (h1 : d < 3) : ∃ w : Int, L2.atI [PyData.int 0, .int 0, .int 1] d = some (.int w) ∧ 0 ≤ w := by
  have : d = 0 ∨ d = 1 ∨ d = 2 := by omega
  rcases this with rfl | rfl | rfl
  · exact ⟨0, rfl, by decide⟩
  · exact ⟨0, rfl, by decide⟩
  · exact ⟨1, rfl, by decide⟩
theorem ints_at {L : List Int} {i : Int} (h0 : 0 ≤ i) (h1 : i < (L.length : Int)) : ∃ x, x ∈ L ∧ L2.atI (L.map PyData.int) i = some (.int x) := by
  have hn : i.toNat < L.length := by omega
  refine ⟨L[i.toNat], List.getElem_mem hn, ?_⟩
  have := atI_nat (xs := L.map PyData.int) (i := i.toNat) (a := .int L[i.toNat]) (by rw [List.getElem?_map, List.getElem?_eq_getElem hn]; rfl)
  rwa [show ((i.toNat : Nat) : Int) = i by omega] at this
theorem list_at {L : List D} {i : Int} (h0 : 0 ≤ i) (h1 : i < (L.length : Int)) : ∃ x, x ∈ L ∧ L2.atI L i = some x := by
  have hn : i.toNat < L.length := by omega
  refine ⟨L[i.toNat], List.getElem_mem hn, ?_⟩
  have := atI_nat (xs := L) (i := i.toNat) (a := L[i.toNat]) (List.getElem?_eq_getElem hn)
  rwa [show ((i.toNat : Nat) : Int) = i by omega] at this
theorem ge_c {s b t m f x6 x7 x9 x10 : Sl} {p i : Int} : boolM (opM true geD [.sl 8, .sl 5]) [s, b, t, m, f, .dat (.int p), x6, x7, .dat (.int i), x9, x10] = some (.ok (decide (p ≤ i)) [s, b, t, m, f, .dat (.int p), x6, x7, .dat (.int i), x9, x10]) := rfl
theorem ge_d {s b t m f x5 x6 x7 x10 : Sl} {p i : Int} : boolM (opM true geD [.sl 8, .sl 9]) [s, b, t, m, f, x5, x6, x7, .dat (.int i), .dat (.int p), x10] = some (.ok (decide (p ≤ i)) [s, b, t, m, f, x5, x6, x7, .dat (.int i), .dat (.int p), x10]) := rfl
theorem want_turn {k : Nat} {s m x6 x7 x9 x10 : Sl} {B : List Int} {T W : List D} {p : Int} (h : PenE (k + 5) s) (hB : BendsOk B) (hT : ∀ d ∈ T, Tone d) (lT : T.length ≤ 3) (h0 : 0 ≤ p) (h7 : x7.owns = false) (h9 : x9.owns = false) (h10 : x10.owns = false) (lW : W.length ≤ 1000) (hW : ∀ x ∈ W, WPart x) :
    ∃ (s' y7 y9 y10 : Sl) (p' : Int) (W' : List D), wantB [s, .dat (.list (B.map .int)), .dat (.list T), m, .lst W, .dat (.int p), x6, x7, .non, x9, x10] = some (.ok .nx [s', .dat (.list (B.map .int)), .dat (.list T), m, .lst W', .dat (.int p'), x6, y7, .non, y9, y10]) ∧
      PenE k s' ∧ 0 ≤ p' ∧ y7.owns = false ∧ y9.owns = false ∧ y10.owns = false ∧ (∀ x ∈ W', WPart x) ∧ W'.length ≤ W.length + 1 := by
  obtain ⟨A, hA⟩ : ∃ A, A = B.filter (fun i => decide (p ≤ i)) := ⟨_, rfl⟩
  have memA : ∀ x ∈ A, p ≤ x ∧ 0 ≤ x ∧ x ≤ 1000000000 := fun x hx => by
    rw [hA, List.mem_filter, decide_eq_true_eq] at hx
    exact ⟨hx.2, hB.on x hx.1⟩
  have lA : A.length ≤ 20 := by rw [hA]; exact Nat.le_trans (List.length_filter_le _ _) hB.len
  have a1 : asgM (listD (compM (seqI (varM 1)) [8] (setT 8) (boolM (opM true geD [.sl 8, .sl 5])) (varM 8))) (setT 7) [s, .dat (.list (B.map .int)), .dat (.list T), m, .lst W, .dat (.int p), x6, x7, .non, x9, x10] =
      some (.ok .nx [s, .dat (.list (B.map .int)), .dat (.list T), m, .lst W, .dat (.int p), x6, .dat (.list (A.map .int)), .non, x9, x10]) := by
    rw [hA]
    exact asg_ok (listD_ok (comp_ok (ds := B.map .int) (e1 := [s, .dat (.list (B.map .int)), .dat (.list T), m, .lst W, .dat (.int p), x6, x7, .non, x9, x10]) rfl (by rw [List.length_map]; have := hB.len; omega) (ahead_loop (P := fun i => decide (p ≤ i)) (fun i => ge_c) B))) (setT_ok (s := x7) rfl h7)
  have n0 : boolM (opM true neD [.sl 7, .ex (listD (dispM []))]) [s, .dat (.list (B.map .int)), .dat (.list T), m, .lst W, .dat (.int p), x6, .dat (.list (A.map .int)), .non, x9, x10] = some (.ok (decide (A ≠ [])) [s, .dat (.list (B.map .int)), .dat (.list T), m, .lst W, .dat (.int p), x6, .dat (.list (A.map .int)), .non, x9, x10]) :=
    bm_ok (op_ok (as := [none, some (.list [])]) (ds := [.list (A.map .int), .list []]) rfl rfl (ne_nil A))
  unfold wantB
  by_cases z : A = []
  · rw [decide_eq_false (fun q => q z)] at n0
    exact ⟨s, .dat (.list (A.map .int)), x9, x10, p, W, seq_nx' a1 (if_no n0 rfl), h.mono (by omega), h0, rfl, h9, h10, hW, by omega⟩
  · rw [decide_eq_true z] at n0
    have ps : 0 < A.length := List.length_pos_iff.mpr z
    -- low
    obtain ⟨s1, d1, e1, p1, i0, i1⟩ := take_in (k := k + 4) (i := 0) (s := s) (o := A.length) (m := opM true lenD [.sl 7]) (env := [s, .dat (.list (B.map .int)), .dat (.list T), m, .lst W, .dat (.int p), x6, .dat (.list (A.map .int)), .non, x9, x10]) rfl (by
      show some (Rs.ok (PyData.int ((A.map PyData.int).length : Nat)) _) = _
      rw [List.length_map]) h (by omega) (by omega)
    obtain ⟨u1, mu1, eu1⟩ := ints_at (L := A) i0 i1
    obtain ⟨u0, mu0, eu0⟩ := ints_at (L := A) (i := 0) (by omega) (by omega)
    obtain ⟨s2, d2, e2, p2, j0, j1⟩ := take_in (k := k + 3) (i := 0) (s := s1) (o := 3) (m := M.ret (.int 3)) (env := [s1, .dat (.list (B.map .int)), .dat (.list T), m, .lst W, .dat (.int p), x6, .dat (.list (A.map .int)), .non, x9, x10]) rfl rfl p1 (by decide) (by decide)
    have p9 : p ≤ 1000000000 := by have := memA u0 mu0; omega
    obtain ⟨lo, mlo, elo⟩ : ∃ lo : Int, (p ≤ lo ∧ 0 ≤ lo ∧ lo ≤ 1000000000) ∧ L2.atI [PyData.int u0, .int p, .int u1] d2 = some (.int lo) := by
      have : d2 = 0 ∨ d2 = 1 ∨ d2 = 2 := by omega
      rcases this with rfl | rfl | rfl
      · exact ⟨u0, memA u0 mu0, rfl⟩
      · exact ⟨p, ⟨by omega, h0, p9⟩, rfl⟩
      · exact ⟨u1, memA u1 mu1, rfl⟩
    have b1 : asgM (opM true ixD [.ex (listD (dispM [.ex (opM true ixD [.sl 7, .ex (M.ret (.int 0))]), .sl 5, .ex (opM true ixD [.sl 7, .ex (datM (callV F_law_e_take_2efe [.sl 0, .ex (opM true lenD [.sl 7])]))])])), .ex (datM (callV F_law_e_take_2efe [.sl 0, .ex (M.ret (.int 3))]))]) (setT 9) [s, .dat (.list (B.map .int)), .dat (.list T), m, .lst W, .dat (.int p), x6, .dat (.list (A.map .int)), .non, x9, x10] =
        some (.ok .nx [s2, .dat (.list (B.map .int)), .dat (.list T), m, .lst W, .dat (.int p), x6, .dat (.list (A.map .int)), .non, .dat (.int lo), x10]) := by
      have q0 : opM true ixD [.sl 7, .ex (M.ret (.int 0))] [s, .dat (.list (B.map .int)), .dat (.list T), m, .lst W, .dat (.int p), x6, .dat (.list (A.map .int)), .non, x9, x10] = some (.ok (.int u0) [s, .dat (.list (B.map .int)), .dat (.list T), m, .lst W, .dat (.int p), x6, .dat (.list (A.map .int)), .non, x9, x10]) :=
        op_ok (as := [none, some (.int 0)]) (ds := [.list (A.map .int), .int 0]) rfl rfl eu0
      have q1 : opM true ixD [.sl 7, .ex (datM (callV F_law_e_take_2efe [.sl 0, .ex (opM true lenD [.sl 7])]))] [s, .dat (.list (B.map .int)), .dat (.list T), m, .lst W, .dat (.int p), x6, .dat (.list (A.map .int)), .non, x9, x10] = some (.ok (.int u1) [s1, .dat (.list (B.map .int)), .dat (.list T), m, .lst W, .dat (.int p), x6, .dat (.list (A.map .int)), .non, x9, x10]) :=
        op_ok (as := [none, some (.int d1)]) (ds := [.list (A.map .int), .int d1]) (run_sl (held_dat (d := .list (A.map .int)) rfl) (run_ex e1 (show runA [] _ = some (.ok [] _) from rfl))) rfl eu1
      have q2 : listD (dispM [.ex (opM true ixD [.sl 7, .ex (M.ret (.int 0))]), .sl 5, .ex (opM true ixD [.sl 7, .ex (datM (callV F_law_e_take_2efe [.sl 0, .ex (opM true lenD [.sl 7])]))])]) [s, .dat (.list (B.map .int)), .dat (.list T), m, .lst W, .dat (.int p), x6, .dat (.list (A.map .int)), .non, x9, x10] = some (.ok (.list [.int u0, .int p, .int u1]) [s1, .dat (.list (B.map .int)), .dat (.list T), m, .lst W, .dat (.int p), x6, .dat (.list (A.map .int)), .non, x9, x10]) := by
        refine listD_ok ?_
        unfold dispM
        refine (bind_ok (run_ex q0 (run_sl (i := 5) (held_dat (d := .int p) rfl) (run_ex q1 (show runA [] _ = some (.ok [] _) from rfl))))).trans rfl
      exact asg_ok (op_ok (as := [some (.list [.int u0, .int p, .int u1]), some (.int d2)]) (ds := [.list [.int u0, .int p, .int u1], .int d2]) (run_ex q2 (run_ex e2 (show runA [] _ = some (.ok [] _) from rfl))) rfl elo) (setT_ok (s := x9) rfl h9)
    -- ahead, high
    obtain ⟨C, hC⟩ : ∃ C, C = A.filter (fun i => decide (lo ≤ i)) ++ [lo] := ⟨_, rfl⟩
    have memC : ∀ x ∈ C, 0 ≤ x ∧ x ≤ 1000000000 := fun x hx => by
      rw [hC] at hx
      rcases List.mem_append.mp hx with q | q
      · exact (memA x (List.mem_filter.mp q).1).2
      · rw [List.mem_singleton.mp q]; exact mlo.2
    have lC : 0 < C.length ∧ C.length ≤ 21 := by
      rw [hC, List.length_append, List.length_singleton]
      have := List.length_filter_le (fun i => decide (lo ≤ i)) A
      omega
    have b2 : asgM (opM true addD [.ex (listD (compM (seqI (varM 7)) [8] (setT 8) (boolM (opM true geD [.sl 8, .sl 9])) (varM 8))), .ex (listD (dispM [.sl 9]))]) (setT 7) [s2, .dat (.list (B.map .int)), .dat (.list T), m, .lst W, .dat (.int p), x6, .dat (.list (A.map .int)), .non, .dat (.int lo), x10] =
        some (.ok .nx [s2, .dat (.list (B.map .int)), .dat (.list T), m, .lst W, .dat (.int p), x6, .dat (.list (C.map .int)), .non, .dat (.int lo), x10]) := by
      have q0 := listD_ok (comp_ok (mi := seqI (varM 7)) (ds := A.map .int) (e := [s2, .dat (.list (B.map .int)), .dat (.list T), m, .lst W, .dat (.int p), x6, .dat (.list (A.map .int)), .non, .dat (.int lo), x10]) (e1 := [s2, .dat (.list (B.map .int)), .dat (.list T), m, .lst W, .dat (.int p), x6, .dat (.list (A.map .int)), .non, .dat (.int lo), x10]) rfl (by rw [List.length_map]; omega) (ahead_loop (P := fun i => decide (lo ≤ i)) (fun i => ge_d) A))
      refine asg_ok (d := .list (C.map .int)) (op_ok (as := [some (.list ((A.filter (fun i => decide (lo ≤ i))).map .int)), some (.list [.int lo])]) (ds := [.list ((A.filter (fun i => decide (lo ≤ i))).map .int), .list [.int lo]]) (run_ex q0 (run_ex rfl (show runA [] _ = some (.ok [] _) from rfl))) rfl ?_) rfl
      show (if ((A.filter (fun i => decide (lo ≤ i))).map PyData.int).length + 1 ≤ 1000000 then some (PyData.list ((A.filter (fun i => decide (lo ≤ i))).map PyData.int ++ [.int lo])) else none) = _
      have := List.length_filter_le (fun i => decide (lo ≤ i)) A
      rw [if_pos (by rw [List.length_map]; omega), hC, List.map_append]; rfl
    obtain ⟨s3, d3, e3, p3, k0, k1⟩ := take_in (k := k + 2) (i := 0) (s := s2) (o := min 3 (C.length : Int)) (m := opM true min2D [.ex (M.ret (.int 3)), .ex (opM true lenD [.sl 7])]) (env := [s2, .dat (.list (B.map .int)), .dat (.list T), m, .lst W, .dat (.int p), x6, .dat (.list (C.map .int)), .non, .dat (.int lo), x10]) rfl (by
      have ln : opM true lenD [.sl 7] [s2, .dat (.list (B.map .int)), .dat (.list T), m, .lst W, .dat (.int p), x6, .dat (.list (C.map .int)), .non, .dat (.int lo), x10] = some (.ok (.int (C.length : Nat)) [s2, .dat (.list (B.map .int)), .dat (.list T), m, .lst W, .dat (.int p), x6, .dat (.list (C.map .int)), .non, .dat (.int lo), x10]) := by
        show some (Rs.ok (PyData.int ((C.map PyData.int).length : Nat)) _) = _
        rw [List.length_map]
      refine op_ok (as := [some (.int 3), some (.int (C.length : Nat))]) (ds := [.int 3, .int (C.length : Nat)]) (run_ex rfl (run_ex ln (show runA [] _ = some (.ok [] _) from rfl))) rfl ?_
      show some (PyData.int (if (C.length : Int) < 3 then (C.length : Int) else 3)) = _
      congr 2
      split <;> omega) p2 (by omega) (by omega)
    obtain ⟨hi, mhi, ehi⟩ := ints_at (L := C) k0 (by omega)
    have bhi := memC hi mhi
    have b3 : asgM (opM true ixD [.sl 7, .ex (datM (callV F_law_e_take_2efe [.sl 0, .ex (opM true min2D [.ex (M.ret (.int 3)), .ex (opM true lenD [.sl 7])])]))]) (setT 10) [s2, .dat (.list (B.map .int)), .dat (.list T), m, .lst W, .dat (.int p), x6, .dat (.list (C.map .int)), .non, .dat (.int lo), x10] =
        some (.ok .nx [s3, .dat (.list (B.map .int)), .dat (.list T), m, .lst W, .dat (.int p), x6, .dat (.list (C.map .int)), .non, .dat (.int lo), .dat (.int hi)]) :=
      asg_ok (op_ok (as := [none, some (.int d3)]) (ds := [.list (C.map .int), .int d3]) (run_sl (held_dat (d := .list (C.map .int)) rfl) (run_ex e3 (show runA [] _ = some (.ok [] _) from rfl))) rfl ehi) (setT_ok (s := x10) rfl h10)
    -- the colour
    obtain ⟨s4, d4, e4, p4, l0, l1⟩ := take_in (k := k + 1) (i := 0) (s := s3) (o := (T.length : Int) + 1) (m := opM true addD [.ex (opM true lenD [.sl 2]), .ex (M.ret (.int 1))]) (env := [s3, .dat (.list (B.map .int)), .dat (.list T), m, .lst W, .dat (.int p), x6, .dat (.list (C.map .int)), .non, .dat (.int lo), .dat (.int hi)]) rfl rfl p3 (by omega) (by omega)
    obtain ⟨co, mco, eco⟩ := list_at (L := T ++ [.none]) (i := d4) l0 (by rw [List.length_append, List.length_singleton]; omega)
    have hco : co = .none ∨ Tone co := by
      rcases List.mem_append.mp mco with q | q
      · exact Or.inr (hT co q)
      · exact Or.inl (List.mem_singleton.mp q)
    have b4 : exprM (mutM 4 qAppend [.ex (tupM [.sl 9, .sl 10, .ex (opM true ixD [.ex (opM true addD [.sl 2, .ex (listD (dispM [.ex (M.ret .none)]))]), .ex (datM (callV F_law_e_take_2efe [.sl 0, .ex (opM true addD [.ex (opM true lenD [.sl 2]), .ex (M.ret (.int 1))])]))])])]) [s3, .dat (.list (B.map .int)), .dat (.list T), m, .lst W, .dat (.int p), x6, .dat (.list (C.map .int)), .non, .dat (.int lo), .dat (.int hi)] =
        some (.ok .nx [s4, .dat (.list (B.map .int)), .dat (.list T), m, .lst (W ++ [.tuple [.int lo, .int hi, co]]), .dat (.int p), x6, .dat (.list (C.map .int)), .non, .dat (.int lo), .dat (.int hi)]) := by
      have q0 : opM true addD [.sl 2, .ex (listD (dispM [.ex (M.ret .none)]))] [s3, .dat (.list (B.map .int)), .dat (.list T), m, .lst W, .dat (.int p), x6, .dat (.list (C.map .int)), .non, .dat (.int lo), .dat (.int hi)] = some (.ok (.list (T ++ [.none])) [s3, .dat (.list (B.map .int)), .dat (.list T), m, .lst W, .dat (.int p), x6, .dat (.list (C.map .int)), .non, .dat (.int lo), .dat (.int hi)]) := by
        refine op_ok (as := [none, some (.list [.none])]) (ds := [.list T, .list [.none]]) rfl rfl ?_
        show (if T.length + 1 ≤ 1000000 then _ else _) = _
        rw [if_pos (by omega)]
      have q1 : opM true ixD [.ex (opM true addD [.sl 2, .ex (listD (dispM [.ex (M.ret .none)]))]), .ex (datM (callV F_law_e_take_2efe [.sl 0, .ex (opM true addD [.ex (opM true lenD [.sl 2]), .ex (M.ret (.int 1))])]))] [s3, .dat (.list (B.map .int)), .dat (.list T), m, .lst W, .dat (.int p), x6, .dat (.list (C.map .int)), .non, .dat (.int lo), .dat (.int hi)] = some (.ok co [s4, .dat (.list (B.map .int)), .dat (.list T), m, .lst W, .dat (.int p), x6, .dat (.list (C.map .int)), .non, .dat (.int lo), .dat (.int hi)]) :=
        op_ok (as := [some (.list (T ++ [PyData.none])), some (.int d4)]) (ds := [.list (T ++ [PyData.none]), .int d4]) (run_ex q0 (run_ex e4 (show runA [] _ = some (.ok [] _) from rfl))) rfl eco
      have q2 : tupM [.sl 9, .sl 10, .ex (opM true ixD [.ex (opM true addD [.sl 2, .ex (listD (dispM [.ex (M.ret .none)]))]), .ex (datM (callV F_law_e_take_2efe [.sl 0, .ex (opM true addD [.ex (opM true lenD [.sl 2]), .ex (M.ret (.int 1))])]))])] [s3, .dat (.list (B.map .int)), .dat (.list T), m, .lst W, .dat (.int p), x6, .dat (.list (C.map .int)), .non, .dat (.int lo), .dat (.int hi)] = some (.ok (.tuple [.int lo, .int hi, co]) [s4, .dat (.list (B.map .int)), .dat (.list T), m, .lst W, .dat (.int p), x6, .dat (.list (C.map .int)), .non, .dat (.int lo), .dat (.int hi)]) := by
        unfold tupM
        refine (bind_ok (run_sl (i := 9) (held_dat (d := .int lo) rfl) (run_sl (i := 10) (held_dat (d := .int hi) rfl) (run_ex q1 (show runA [] _ = some (.ok [] _) from rfl))))).trans rfl
      show M.bind (mutM 4 qAppend [.ex _]) _ [s3, .dat (.list (B.map .int)), .dat (.list T), m, .lst W, .dat (.int p), x6, .dat (.list (C.map .int)), .non, .dat (.int lo), .dat (.int hi)] = _
      refine (bind_ok (a := PyData.none) (e' := [s4, .dat (.list (B.map .int)), .dat (.list T), m, .lst (W ++ [.tuple [.int lo, .int hi, co]]), .dat (.int p), x6, .dat (.list (C.map .int)), .non, .dat (.int lo), .dat (.int hi)]) ?_).trans rfl
      show M.bind (runA [.ex _]) _ [s3, .dat (.list (B.map .int)), .dat (.list T), m, .lst W, .dat (.int p), x6, .dat (.list (C.map .int)), .non, .dat (.int lo), .dat (.int hi)] = _
      refine (bind_ok (run_ex q2 (show runA [] _ = some (.ok [] _) from rfl))).trans ?_
      show (qAppend W [_]).map _ = _
      rw [qapp (by omega)]; rfl
    -- the next spot
    obtain ⟨s5, d5, e5, p5, m0, m1⟩ := take_in (k := k) (i := 0) (s := s4) (o := 3) (m := M.ret (.int 3)) (env := [s4, .dat (.list (B.map .int)), .dat (.list T), m, .lst (W ++ [.tuple [.int lo, .int hi, co]]), .dat (.int p), x6, .dat (.list (C.map .int)), .non, .dat (.int lo), .dat (.int hi)]) rfl rfl p4 (by decide) (by decide)
    obtain ⟨w, ew, w0⟩ := zzo_at m0 m1
    have b5 : asgM (opM true addD [.ex (opM true addD [.sl 10, .ex (M.ret (.int 1))]), .ex (opM true ixD [.ex (listD (dispM [.ex (M.ret (.int 0)), .ex (M.ret (.int 0)), .ex (M.ret (.int 1))])), .ex (datM (callV F_law_e_take_2efe [.sl 0, .ex (M.ret (.int 3))]))])]) (setT 5) [s4, .dat (.list (B.map .int)), .dat (.list T), m, .lst (W ++ [.tuple [.int lo, .int hi, co]]), .dat (.int p), x6, .dat (.list (C.map .int)), .non, .dat (.int lo), .dat (.int hi)] =
        some (.ok .nx [s5, .dat (.list (B.map .int)), .dat (.list T), m, .lst (W ++ [.tuple [.int lo, .int hi, co]]), .dat (.int (hi + 1 + w)), x6, .dat (.list (C.map .int)), .non, .dat (.int lo), .dat (.int hi)]) := by
      have q0 : opM true ixD [.ex (listD (dispM [.ex (M.ret (.int 0)), .ex (M.ret (.int 0)), .ex (M.ret (.int 1))])), .ex (datM (callV F_law_e_take_2efe [.sl 0, .ex (M.ret (.int 3))]))] [s4, .dat (.list (B.map .int)), .dat (.list T), m, .lst (W ++ [.tuple [.int lo, .int hi, co]]), .dat (.int p), x6, .dat (.list (C.map .int)), .non, .dat (.int lo), .dat (.int hi)] = some (.ok (.int w) [s5, .dat (.list (B.map .int)), .dat (.list T), m, .lst (W ++ [.tuple [.int lo, .int hi, co]]), .dat (.int p), x6, .dat (.list (C.map .int)), .non, .dat (.int lo), .dat (.int hi)]) :=
        op_ok (as := [some (.list [.int 0, .int 0, .int 1]), some (.int d5)]) (ds := [.list [.int 0, .int 0, .int 1], .int d5]) (run_ex rfl (run_ex e5 (show runA [] _ = some (.ok [] _) from rfl))) rfl ew
      exact asg_ok (op_ok (as := [some (.int (hi + 1)), some (.int w)]) (ds := [.int (hi + 1), .int w]) (run_ex rfl (run_ex q0 (show runA [] _ = some (.ok [] _) from rfl))) rfl rfl) (setT_ok (s := .dat (.int p)) rfl rfl)
    refine ⟨s5, .dat (.list (C.map .int)), .dat (.int lo), .dat (.int hi), hi + 1 + w, W ++ [.tuple [.int lo, .int hi, co]], ?_, p5, by omega, rfl, rfl, rfl, fun x hx => ?_, by rw [List.length_append, List.length_singleton]; omega⟩
    · refine seq_nx' a1 ?_
      rw [if_ok n0, if_pos rfl]
      exact seq_nx' b1 (seq_nx' b2 (seq_nx' b3 (seq_nx' b4 b5)))
    · rcases List.mem_append.mp hx with q | q
      · exact hW x q
      · rw [List.mem_singleton.mp q]
        exact ⟨lo, hi, co, rfl, mlo.2.1, mlo.2.2, bhi.1, bhi.2, hco⟩
theorem want_loop {m : Sl} {B : List Int} {T : List D} (hB : BendsOk B) (hT : ∀ d ∈ T, Tone d) (lT : T.length ≤ 3) : ∀ (ds : List D) {k : Nat} {s x6 x7 x9 x10 : Sl} {p : Int} {W : List D}, PenE (k + 5 * ds.length) s → 0 ≤ p → x6.owns = false → x7.owns = false → x9.owns = false → x10.owns = false → W.length + ds.length ≤ 1000 → (∀ x ∈ W, WPart x) →
    ∃ (s' y5 y6 y7 y9 y10 : Sl) (R : List D), forL (setT 6) wantB ds [s, .dat (.list (B.map .int)), .dat (.list T), m, .lst W, .dat (.int p), x6, x7, .non, x9, x10] = some (.ok .nx [s', .dat (.list (B.map .int)), .dat (.list T), m, .lst R, y5, y6, y7, .non, y9, y10]) ∧
      PenE k s' ∧ (∀ x ∈ R, WPart x) ∧ R.length ≤ W.length + ds.length
  | [], k, s, x6, x7, x9, x10, p, W, h, _, _, _, _, _, _, hW => ⟨s, .dat (.int p), x6, x7, x9, x10, W, for_nil, h, hW, Nat.le_refl _⟩
  | d :: ds, k, s, x6, x7, x9, x10, p, W, h, h0, h6, h7, h9, h10, lW, hW => by
    rw [List.length_cons] at h lW
    obtain ⟨s1, y7, y9, y10, p', W', e, p1, q0, o7, o9, o10, hW', lW'⟩ := want_turn (k := k + 5 * ds.length) (s := s) (m := m) (x6 := .dat d) (x7 := x7) (x9 := x9) (x10 := x10) (B := B) (T := T) (W := W) (p := p) (h.mono (by omega)) hB hT lT h0 h7 h9 h10 (by omega) hW
    obtain ⟨s', z5, z6, z7, z9, z10, R, f, p2, hR, lR⟩ := want_loop (m := m) hB hT lT ds (k := k) (s := s1) (x6 := .dat d) (x7 := y7) (x9 := y9) (x10 := y10) (p := p') (W := W') p1 q0 rfl o7 o9 o10 (by omega) hW'
    refine ⟨s', z5, z6, z7, z9, z10, R, ?_, p2, hR, by rw [List.length_cons]; omega⟩
    rw [for_cons (setT_ok (s := x6) rfl h6) e, f]
structure Wd (d : D) : Prop where
  rp : ∃ t : Str, reprT [d] = some (.str t) ∧ SeqAt.shaped (.str t) = true
  wt : WTxt d
theorem Fn.rp {b : Bool} {k w : Nat} {d : D} (h : Fn b k w d) (hk : k ≤ 64) (hw : w ≤ 10000000) : ∃ t : Str, reprT [d] = some (.str t) ∧ SeqAt.shaped (.str t) = true := by
  refine ⟨d.shown, ?_, ?_⟩
  · unfold DL.reprT
    dsimp only
    have kn : d.canLay0 = true ∨ tame d = true := by
      have := h.kn
      cases b with
      | true => exact Or.inr this
      | false => exact Or.inl this
    rw [if_pos ⟨kn, Nat.le_trans h.dep hk, h.sh, Nat.le_trans h.len hw⟩]
  · unfold SeqAt.shaped
    simp only [PyData.canLay0, PyData.depth, h.ok]
    rfl
/-- an item of a wish-like tuple, of one kind -/
structure Im (b : Bool) (x : D) : Prop where
  fn : Fn b 4 400 x
  t3 : Txt3 x
theorem wd_tup {b : Bool} {xs : List D} (h : ∀ x ∈ xs, Im b x) (hl : xs.length ≤ 1000) : Wd (.tuple xs) :=
  ⟨(Fn.tuple fun x hx => (h x hx).fn).rp (by decide) (by omega), fun x hx => (h x hx).t3⟩
theorem int_fn {b : Bool} {i : Int} (h : i.natAbs < 2 ^ 31) : Fn b 0 90 (.int i) := by
  obtain ⟨a, c, _⟩ := it_int h
  cases b with
  | true => exact a.mono (by decide) (by decide)
  | false => exact c.mono (by decide) (by decide)
theorem co_fn {b : Bool} {c : D} (h : c = .none ∨ Tone c) : Fn b 0 90 c ∧ Txt c := by
  rcases h with rfl | h
  · refine ⟨?_, trivial⟩
    cases b <;> exact fn_of (by decide +kernel)
  · exact ⟨h.fn b, h.txt⟩
theorem tri_im {b : Bool} {x y c : D} (hx : Fn b 3 90 x) (hy : Fn b 3 90 y) (hc : Fn b 3 90 c) (ht : Txt c) : Im b (.tuple [x, y, c]) := by
  refine ⟨(Fn.tuple (k := 3) (w := 90) (xs := [x, y, c]) fun z hz => ?_).mono (by decide) (by simp), ht⟩
  simp only [List.mem_cons, List.not_mem_nil, or_false] at hz
  rcases hz with rfl | rfl | rfl <;> assumption
theorem WPart.im {x : D} (b : Bool) (h : WPart x) : Im b x := by
  obtain ⟨l, hh, c, rfl, l0, l1, h0, h1, hc⟩ := h.is
  obtain ⟨f, t⟩ := co_fn (b := b) hc
  exact tri_im ((int_fn (by omega)).mono (by decide) (by decide)) ((int_fn (by omega)).mono (by decide) (by decide)) (f.mono (by decide) (by decide)) t
theorem call_0 {F : FS} {k j : Nat} {e0 s s' : Sl} {es : List Sl} {d : D} (h : PenE k s) (h' : PenE j s') (e : F [s] = some (.ok (.dat d) [s'])) : datM (callV F [.sl 1]) (e0 :: s :: es) = some (.ok d (e0 :: s' :: es)) := by
  obtain ⟨c1, n1, v1, rfl, _⟩ := h
  obtain ⟨c2, n2, v2, rfl, _⟩ := h'
  refine datM_ok ?_
  unfold penS at e ⊢
  show (match F [.lst _] with
    | some (.ok rv a) => _
    | some (.ex x a) => _
    | none => none) = _
  rw [e]; rfl
def constsE : List D := [.tuple [], .list [], .none, .str "", .int 0, .bool true, .dict [], .tuple [.none], .tuple [.tuple []], .tuple [.str "red"], .tuple [.tuple [.int 0, .int 0, .none]], .tuple [.tuple [.int 0, .int 1000000000, .str "a"]]]
def wtB : D → Bool
  | .tuple xs => xs.all txt3B
  | _ => true
theorem wt_of {d : D} (h : wtB d = true) : WTxt d := by
  cases d with
  | tuple xs => exact fun x hx => txt3_of (List.all_eq_true.mp h x hx)
  | _ => trivial
def wdB (d : D) : Bool := (fnB true 5 200 d || fnB false 5 200 d) && wtB d
theorem wd_of {d : D} (h : wdB d = true) : Wd d := by
  unfold wdB at h
  rw [Bool.and_eq_true] at h
  refine ⟨?_, wt_of h.2⟩
  rcases (Bool.or_eq_true _ _).mp h.1 with q | q
  · exact (fn_of q).rp (by decide) (by decide)
  · exact (fn_of q).rp (by decide) (by decide)
theorem consts_wd : ∀ d ∈ constsE, Wd d := fun d hd => wd_of (List.all_eq_true.mp (by decide +kernel : (constsE.all wdB) = true) d hd)
theorem wd_want {W : List D} (hW : ∀ x ∈ W, WPart x) (lW : W.length ≤ 100) : Wd (.tuple W) := wd_tup (b := true) (fun x hx => (hW x hx).im true) (by omega)
noncomputable def manyE : M D := (tupM [.ex (opM true addD [.sl 5, .ex (opM true mulD [.ex (M.ret (.int 2)), .sl 7])]), .ex (opM true addD [.ex (opM true addD [.sl 5, .ex (opM true mulD [.ex (M.ret (.int 2)), .sl 7])]), .ex (opM true modD [.sl 7, .ex (M.ret (.int 2))])]), .ex (opM true ixD [.ex (listD (dispM [.ex (M.ret (.str "red")), .ex (M.ret .none), .ex (M.ret (.str "a"))])), .ex (opM true modD [.sl 7, .ex (M.ret (.int 3))])])])
theorem tone_const {x : Str} (h : (decide (1 ≤ x.length) && decide (x.length ≤ 8) && x.cps.toList.all signB) = true) : Tone (.str x) := by
  simp only [Bool.and_eq_true, decide_eq_true_eq, List.all_eq_true] at h
  exact ⟨x, rfl, h.1.1, h.1.2, h.2⟩
theorem many_el {e0 s t w f m x8 x9 x10 : Sl} {lo j : Int} (l0 : 0 ≤ lo) (l1 : lo ≤ 999999970) (j0 : 0 ≤ j) (j1 : j < 13) :
    ∃ d, manyE [e0, s, t, w, f, .dat (.int lo), m, .dat (.int j), x8, x9, x10] = some (.ok d [e0, s, t, w, f, .dat (.int lo), m, .dat (.int j), x8, x9, x10]) ∧ WPart d := by
  have m2 : mulD [.int 2, .int j] = some (.int (2 * j)) := mul_ok (Or.inl ⟨by decide, by decide⟩)
  have d2 : modD [.int j, .int 2] = some (.int (j % 2)) := mod_ok (by decide)
  have d3 : modD [.int j, .int 3] = some (.int (j % 3)) := mod_ok (by decide)
  obtain ⟨c, ec, hc⟩ : ∃ c, L2.atI [PyData.str "red", .none, .str "a"] (j % 3) = some c ∧ (c = .none ∨ Tone c) := by
    have : j % 3 = 0 ∨ j % 3 = 1 ∨ j % 3 = 2 := by omega
    rcases this with e | e | e <;> rw [e]
    · exact ⟨.str "red", rfl, Or.inr (tone_const (by decide +kernel))⟩
    · exact ⟨.none, rfl, Or.inl rfl⟩
    · exact ⟨.str "a", rfl, Or.inr (tone_const (by decide +kernel))⟩
  refine ⟨.tuple [.int (lo + 2 * j), .int (lo + 2 * j + j % 2), c], ?_, ⟨_, _, c, rfl, by omega, by omega, by omega, by omega, hc⟩⟩
  have q0 : opM true mulD [.ex (M.ret (.int 2)), .sl 7] [e0, s, t, w, f, .dat (.int lo), m, .dat (.int j), x8, x9, x10] = some (.ok (.int (2 * j)) [e0, s, t, w, f, .dat (.int lo), m, .dat (.int j), x8, x9, x10]) := op_ok (as := [some (.int 2), none]) (ds := [.int 2, .int j]) rfl rfl m2
  have q1 : opM true addD [.sl 5, .ex (opM true mulD [.ex (M.ret (.int 2)), .sl 7])] [e0, s, t, w, f, .dat (.int lo), m, .dat (.int j), x8, x9, x10] = some (.ok (.int (lo + 2 * j)) [e0, s, t, w, f, .dat (.int lo), m, .dat (.int j), x8, x9, x10]) :=
    op_ok (as := [none, some (.int (2 * j))]) (ds := [.int lo, .int (2 * j)]) (run_sl (i := 5) rfl (run_ex q0 (show runA [] _ = some (.ok [] _) from rfl))) rfl rfl
  have q2 : opM true modD [.sl 7, .ex (M.ret (.int 2))] [e0, s, t, w, f, .dat (.int lo), m, .dat (.int j), x8, x9, x10] = some (.ok (.int (j % 2)) [e0, s, t, w, f, .dat (.int lo), m, .dat (.int j), x8, x9, x10]) := op_ok (as := [none, some (.int 2)]) (ds := [.int j, .int 2]) rfl rfl d2
  have q3 : opM true addD [.ex (opM true addD [.sl 5, .ex (opM true mulD [.ex (M.ret (.int 2)), .sl 7])]), .ex (opM true modD [.sl 7, .ex (M.ret (.int 2))])] [e0, s, t, w, f, .dat (.int lo), m, .dat (.int j), x8, x9, x10] = some (.ok (.int (lo + 2 * j + j % 2)) [e0, s, t, w, f, .dat (.int lo), m, .dat (.int j), x8, x9, x10]) :=
    op_ok (as := [some (.int (lo + 2 * j)), some (.int (j % 2))]) (ds := [.int (lo + 2 * j), .int (j % 2)]) (run_ex q1 (run_ex q2 (show runA [] _ = some (.ok [] _) from rfl))) rfl rfl
  have q4 : opM true modD [.sl 7, .ex (M.ret (.int 3))] [e0, s, t, w, f, .dat (.int lo), m, .dat (.int j), x8, x9, x10] = some (.ok (.int (j % 3)) [e0, s, t, w, f, .dat (.int lo), m, .dat (.int j), x8, x9, x10]) := op_ok (as := [none, some (.int 3)]) (ds := [.int j, .int 3]) rfl rfl d3
  have q5 : opM true ixD [.ex (listD (dispM [.ex (M.ret (.str "red")), .ex (M.ret .none), .ex (M.ret (.str "a"))])), .ex (opM true modD [.sl 7, .ex (M.ret (.int 3))])] [e0, s, t, w, f, .dat (.int lo), m, .dat (.int j), x8, x9, x10] = some (.ok c [e0, s, t, w, f, .dat (.int lo), m, .dat (.int j), x8, x9, x10]) :=
    op_ok (as := [some (.list [.str "red", .none, .str "a"]), some (.int (j % 3))]) (ds := [.list [.str "red", .none, .str "a"], .int (j % 3)]) (run_ex rfl (run_ex q4 (show runA [] _ = some (.ok [] _) from rfl))) rfl ec
  unfold manyE tupM
  exact (bind_ok (run_ex q1 (run_ex q3 (run_ex q5 (show runA [] _ = some (.ok [] _) from rfl))))).trans rfl
theorem many_loop {e0 s t w f m x8 x9 x10 : Sl} {lo : Int} (l0 : 0 ≤ lo) (l1 : lo ≤ 999999970) : ∀ ds : List D, (∀ d ∈ ds, ∃ j : Int, d = .int j ∧ 0 ≤ j ∧ j < 13) →
    ∃ R, compL [7] (setT 7) (M.ret true) manyE ds [e0, s, t, w, f, .dat (.int lo), m, .non, x8, x9, x10] = some (.ok R [e0, s, t, w, f, .dat (.int lo), m, .non, x8, x9, x10]) ∧ (∀ x ∈ R, WPart x) ∧ R.length = ds.length
  | [], _ => ⟨[], rfl, (fun _ h => nomatch h), rfl⟩
  | d :: ds, h => by
    obtain ⟨j, rfl, j0, j1⟩ := h d (List.mem_cons_self ..)
    obtain ⟨z, e, hz⟩ := many_el (e0 := e0) (s := s) (t := t) (w := w) (f := f) (m := m) (x8 := x8) (x9 := x9) (x10 := x10) l0 l1 j0 j1
    obtain ⟨R, f', hR, lR⟩ := many_loop (e0 := e0) (s := s) (t := t) (w := w) (f := f) (m := m) (x8 := x8) (x9 := x9) (x10 := x10) l0 l1 ds fun x hx => h x (List.mem_cons_of_mem _ hx)
    refine ⟨z :: R, comp_cons (e1 := [e0, s, t, w, f, .dat (.int lo), m, .dat (.int j), x8, x9, x10]) rfl rfl rfl e f', fun x hx => ?_, by rw [List.length_cons, lR, List.length_cons]⟩
    rcases List.mem_cons.mp hx with q | q
    · rw [q]; exact hz
    · exact hR x q
noncomputable def manyB : M O := (exprM (mutM 4 qAppend [.ex (opM true tupleD [.ex (listD (compM (rangeI [.sl 6]) [7] (setT 7) (M.ret true) manyE))])]))
theorem range_mem {n : Nat} {d : D} (h : d ∈ rangeL 0 n) : ∃ j : Int, d = .int j ∧ 0 ≤ j ∧ j < n := by
  unfold rangeL at h
  obtain ⟨j, hj, rfl⟩ := List.mem_map.mp h
  rw [List.mem_range] at hj
  exact ⟨0 + (j : Int), rfl, by omega, by omega⟩
theorem many_turn {e0 s t w x8 x9 x10 : Sl} {lo : Int} {T : List D} {n : Nat} (l0 : 0 ≤ lo) (l1 : lo ≤ 999999970) (hn : n ≤ 13) (lT : T.length ≤ 1000) :
    ∃ z, manyB [e0, s, t, w, .lst T, .dat (.int lo), .dat (.int (n : Int)), .non, x8, x9, x10] = some (.ok .nx [e0, s, t, w, .lst (T ++ [z]), .dat (.int lo), .dat (.int (n : Int)), .non, x8, x9, x10]) ∧ Wd z := by
  obtain ⟨R, f, hR, lR⟩ := many_loop (e0 := e0) (s := s) (t := t) (w := w) (f := .lst T) (m := .dat (.int (n : Int))) (x8 := x8) (x9 := x9) (x10 := x10) l0 l1 (rangeL 0 n) fun d hd => by
    obtain ⟨j, rfl, a, b⟩ := range_mem hd
    exact ⟨j, rfl, a, by omega⟩
  rw [rangeL_len] at lR
  refine ⟨.tuple R, ?_, wd_want hR (by omega)⟩
  have hr : rangeI [.sl 6] [e0, s, t, w, .lst T, .dat (.int lo), .dat (.int (n : Int)), .non, x8, x9, x10] = some (.ok (rangeL 0 n) [e0, s, t, w, .lst T, .dat (.int lo), .dat (.int (n : Int)), .non, x8, x9, x10]) := by
    unfold rangeI
    refine (bind_ok (a := [none]) (e' := [e0, s, t, w, .lst T, .dat (.int lo), .dat (.int (n : Int)), .non, x8, x9, x10]) rfl).trans ?_
    exact if_pos ⟨by omega, by omega⟩
  have q : opM true tupleD [.ex (listD (compM (rangeI [.sl 6]) [7] (setT 7) (M.ret true) manyE))] [e0, s, t, w, .lst T, .dat (.int lo), .dat (.int (n : Int)), .non, x8, x9, x10] = some (.ok (.tuple R) [e0, s, t, w, .lst T, .dat (.int lo), .dat (.int (n : Int)), .non, x8, x9, x10]) :=
    op_ok (as := [some (.list R)]) (ds := [.list R]) (run_ex (listD_ok (comp_ok hr (by rw [rangeL_len]; omega) f)) (show runA [] _ = some (.ok [] _) from rfl)) rfl rfl
  show M.bind (mutM 4 qAppend [.ex _]) _ [e0, s, t, w, .lst T, .dat (.int lo), .dat (.int (n : Int)), .non, x8, x9, x10] = _
  refine (bind_ok (a := PyData.none) (e' := [e0, s, t, w, .lst (T ++ [.tuple R]), .dat (.int lo), .dat (.int (n : Int)), .non, x8, x9, x10]) ?_).trans rfl
  show M.bind (runA [.ex _]) _ [e0, s, t, w, .lst T, .dat (.int lo), .dat (.int (n : Int)), .non, x8, x9, x10] = _
  refine (bind_ok (run_ex q (show runA [] _ = some (.ok [] _) from rfl))).trans ?_
  show (qAppend T [.tuple R]).map _ = _
  rw [qapp (by omega)]; rfl
theorem tones_ok2 {k : Nat} {s : Sl} (h : PenE (k + 28) s) : ∃ (s' : Sl) (T : List D), F_law_e_tones_2b05 [s] = some (.ok (.dat (.list T)) [s']) ∧ PenE k s' ∧ (∀ d ∈ T, Tone d) ∧ T.length ≤ 3 ∧ 1 ≤ T.length := by
  obtain ⟨s1, d, e, p1, d0, d1⟩ := take_in (k := k + 27) (i := 0) (s := s) (o := 2) (m := M.ret (.int 2)) (env := [s, .lst [], .non, .non, .non]) rfl rfl h (by decide) (by decide)
  obtain ⟨n, hn⟩ := Int.eq_ofNat_of_zero_le (show (0 : Int) ≤ 2 + d by omega)
  obtain ⟨s2, y2, y3, R, f, p2, hR, lR⟩ := tone_loop (rangeL 0 n) (k := k) (s := s1) (x2 := .non) (x3 := .non) (T := []) (p1.mono (by rw [rangeL_len]; omega)) rfl rfl (by rw [rangeL_len]; simp; omega) (fun _ h => nomatch h)
  rw [rangeL_len, List.length_nil] at lR
  obtain ⟨ys, ey, ly⟩ := strs_tones R hR
  have ret : ∃ T : List D, frzM 1 (retM (ifD (boolM (opM true eqD [.ex (opM true onceD [.sl 1]), .ex (opM true lenD [.sl 1])])) (varM 1) (listD (dispM [.ex (M.ret (.str "red")), .ex (M.ret (.str "blue")), .ex (M.ret (.str "green"))])))) [s2, .lst R, y2, y3, .non] = some (.ok (.rt (.dat (.list T))) [s2, .dat (.list R), y2, y3, .non]) ∧ (∀ d ∈ T, Tone d) ∧ T.length ≤ 3 ∧ 1 ≤ T.length := by
    have o1 : opM true onceD [.sl 1] [s2, .dat (.list R), y2, y3, .non] = some (.ok (.int (onceN ys ys.length : Nat)) [s2, .dat (.list R), y2, y3, .non]) := by
      refine op_ok (as := [none]) (ds := [.list R]) rfl rfl ?_
      show (strsOf R).bind _ = _
      rw [ey]
      show (if ys.length < 4000 then _ else _) = _
      rw [if_pos (by omega)]
    have o2 : opM true lenD [.sl 1] [s2, .dat (.list R), y2, y3, .non] = some (.ok (.int R.length) [s2, .dat (.list R), y2, y3, .non]) := rfl
    have c := bm_ok (op_ok (p := eqD) (as := [some (.int (onceN ys ys.length : Nat)), some (.int R.length)]) (ds := [.int (onceN ys ys.length : Nat), .int R.length]) (run_ex o1 (run_ex o2 (show runA [] _ = some (.ok [] _) from rfl))) rfl (eq_int _ _))
    by_cases z : ((onceN ys ys.length : Nat) : Int) = (R.length : Int)
    · rw [decide_eq_true z] at c
      refine ⟨R, frz_ok rfl (ret_o ?_), hR, by omega, by omega⟩
      unfold ifD
      refine (bind_ok c).trans ?_
      rw [if_pos rfl]; rfl
    · rw [decide_eq_false z] at c
      refine ⟨[.str "red", .str "blue", .str "green"], frz_ok rfl (ret_o ?_), rgb_tones, by decide, by decide⟩
      unfold ifD
      refine (bind_ok c).trans ?_
      rw [if_neg Bool.false_ne_true]; rfl
  obtain ⟨T, er, hT, lT, l1⟩ := ret
  refine ⟨s2, T, body_rt (e := [s2, .dat (.list R), y2, y3, .non]) ?_ ?_, p2, hT, lT, l1⟩
  · show m_law_e_tones_2b05 [s, .non, .non, .non, .non] = _
    unfold m_law_e_tones_2b05
    refine seq_nx' (e' := [s, .lst [], .non, .non, .non]) (new_ok (e1 := [s, .non, .non, .non, .non]) rfl rfl) ?_
    refine seq_nx' (for_ok (range_in (n := n) ?_ (by omega)) f) er
    rw [← hn]
    exact op_ok (as := [some (.int 2), some (.int d)]) (ds := [.int 2, .int d]) (run_ex rfl (run_ex e (show runA [] _ = some (.ok [] _) from rfl))) rfl rfl
  · obtain ⟨_, _, _, rfl, _⟩ := h
    obtain ⟨_, _, _, rfl, _⟩ := p2
    rfl
structure Line (x : D) : Prop where
  is : ∃ (a b : Int) (c : D), x = .tuple [.int a, .int b, c] ∧ 0 ≤ a ∧ a ≤ b ∧ b ≤ 1000000000 ∧ Tone c
theorem max2_ok (i j : Int) : max2D [.int i, .int j] = some (.int (max i j)) := by
  show some (PyData.int (if j > i then j else i)) = _
  congr 2
  split <;> omega
theorem min2_ok (i j : Int) : min2D [.int i, .int j] = some (.int (min i j)) := by
  show some (PyData.int (if j < i then j else i)) = _
  congr 2
  split <;> omega
noncomputable def ixB : M D := opM true ixD [.sl 1, .ex (datM (callV F_law_e_take_2efe [.sl 0, .ex (opM true lenD [.sl 1])]))]
theorem ixB_ok {k : Nat} {s : Sl} {es : List Sl} {B : List Int} (h : PenE (k + 1) s) (hB : BendsOk B) : ∃ (s' : Sl) (u : Int), ixB (s :: .dat (.list (B.map .int)) :: es) = some (.ok (.int u) (s' :: .dat (.list (B.map .int)) :: es)) ∧ PenE k s' ∧ 0 ≤ u ∧ u ≤ 1000000000 := by
  have ps : 0 < B.length := List.length_pos_iff.mpr hB.ne
  have lB := hB.len
  obtain ⟨s1, d, e, p1, d0, d1⟩ := take_in (k := k) (i := 0) (s := s) (o := B.length) (m := opM true lenD [.sl 1]) (env := s :: .dat (.list (B.map .int)) :: es) rfl (by
    show some (Rs.ok (PyData.int ((B.map PyData.int).length : Nat)) _) = _
    rw [List.length_map]) h (by omega) (by omega)
  obtain ⟨u, mu, eu⟩ := ints_at (L := B) d0 d1
  exact ⟨s1, u, op_ok (as := [none, some (.int d)]) (ds := [.list (B.map .int), .int d]) (run_sl (held_dat (d := .list (B.map .int)) rfl) (run_ex e (show runA [] _ = some (.ok [] _) from rfl))) rfl eu, p1, (hB.on u mu).1, (hB.on u mu).2⟩
noncomputable def bendIf : M O := (ifM (andB (boolM (opM true leD [.ex (opM true addD [.sl 8, .ex (M.ret (.int 1))]), .sl 9])) (boolM (opM true eqD [.ex (datM (callV F_law_e_take_2efe [.sl 0, .ex (M.ret (.int 4))])), .ex (M.ret (.int 0))]))) (asgM (opM true ixD [.ex (listD (dispM [.ex (tupM [.ex (opM true addD [.sl 8, .ex (M.ret (.int 1))]), .sl 9]), .ex (tupM [.sl 8, .ex (opM true subD [.sl 9, .ex (M.ret (.int 1))])]), .ex (tupM [.sl 8, .sl 8])])), .ex (datM (callV F_law_e_take_2efe [.sl 0, .ex (M.ret (.int 3))]))]) (tupT 2 (consT (setT 8) (consT (setT 9) (nilT))))) (nxM))
theorem bendIf_ok {k : Nat} {s b t m f x5 x6 x7 : Sl} {lo hi : Int} (h : PenE (k + 2) s) (h0 : 0 ≤ lo) (h1 : lo ≤ hi) (h2 : hi ≤ 1000000000) :
    ∃ (s' : Sl) (a c : Int), bendIf [s, b, t, m, f, x5, x6, x7, .dat (.int lo), .dat (.int hi)] = some (.ok .nx [s', b, t, m, f, x5, x6, x7, .dat (.int a), .dat (.int c)]) ∧ PenE k s' ∧ 0 ≤ a ∧ a ≤ c ∧ c ≤ 1000000000 := by
  have c0 : boolM (opM true leD [.ex (opM true addD [.sl 8, .ex (M.ret (.int 1))]), .sl 9]) [s, b, t, m, f, x5, x6, x7, .dat (.int lo), .dat (.int hi)] = some (.ok (decide (lo + 1 ≤ hi)) [s, b, t, m, f, x5, x6, x7, .dat (.int lo), .dat (.int hi)]) := rfl
  unfold bendIf
  by_cases z : lo + 1 ≤ hi
  · rw [decide_eq_true z] at c0
    obtain ⟨s1, d, e, p1, d0, d1⟩ := take_in (k := k + 1) (i := 0) (s := s) (o := 4) (m := M.ret (.int 4)) (env := [s, b, t, m, f, x5, x6, x7, .dat (.int lo), .dat (.int hi)]) rfl rfl h (by decide) (by decide)
    have c1 : boolM (opM true eqD [.ex (datM (callV F_law_e_take_2efe [.sl 0, .ex (M.ret (.int 4))])), .ex (M.ret (.int 0))]) [s, b, t, m, f, x5, x6, x7, .dat (.int lo), .dat (.int hi)] = some (.ok (decide (d = 0)) [s1, b, t, m, f, x5, x6, x7, .dat (.int lo), .dat (.int hi)]) := by
      unfold boolM
      rw [bind_ok (op_ok (as := [some (.int d), some (.int 0)]) (ds := [.int d, .int 0]) (z := .bool (decide (d = 0))) (run_ex e (run_ex rfl (show runA [] _ = some (.ok [] _) from rfl))) rfl (eq_int _ _))]
      rfl
    have c2 : andB (boolM (opM true leD [.ex (opM true addD [.sl 8, .ex (M.ret (.int 1))]), .sl 9])) (boolM (opM true eqD [.ex (datM (callV F_law_e_take_2efe [.sl 0, .ex (M.ret (.int 4))])), .ex (M.ret (.int 0))])) [s, b, t, m, f, x5, x6, x7, .dat (.int lo), .dat (.int hi)] = some (.ok (decide (d = 0)) [s1, b, t, m, f, x5, x6, x7, .dat (.int lo), .dat (.int hi)]) := by
      unfold andB
      rw [bind_ok c0, if_pos rfl]
      exact c1
    rw [if_ok c2]
    by_cases y : d = 0
    · rw [decide_eq_true y, if_pos rfl]
      obtain ⟨s2, j, e2, p2, j0, j1⟩ := take_in (k := k) (i := 0) (s := s1) (o := 3) (m := M.ret (.int 3)) (env := [s1, b, t, m, f, x5, x6, x7, .dat (.int lo), .dat (.int hi)]) rfl rfl p1 (by decide) (by decide)
      have go : ∀ a c : Int, L2.atI [PyData.tuple [.int (lo + 1), .int hi], .tuple [.int lo, .int (hi - 1)], .tuple [.int lo, .int lo]] j = some (.tuple [.int a, .int c]) → (asgM (opM true ixD [.ex (listD (dispM [.ex (tupM [.ex (opM true addD [.sl 8, .ex (M.ret (.int 1))]), .sl 9]), .ex (tupM [.sl 8, .ex (opM true subD [.sl 9, .ex (M.ret (.int 1))])]), .ex (tupM [.sl 8, .sl 8])])), .ex (datM (callV F_law_e_take_2efe [.sl 0, .ex (M.ret (.int 3))]))]) (tupT 2 (consT (setT 8) (consT (setT 9) (nilT))))) [s1, b, t, m, f, x5, x6, x7, .dat (.int lo), .dat (.int hi)] = some (.ok .nx [s2, b, t, m, f, x5, x6, x7, .dat (.int a), .dat (.int c)]) := fun a c ej =>
        asg_ok (op_ok (as := [some (.list [.tuple [.int (lo + 1), .int hi], .tuple [.int lo, .int (hi - 1)], .tuple [.int lo, .int lo]]), some (.int j)]) (ds := [.list [.tuple [.int (lo + 1), .int hi], .tuple [.int lo, .int (hi - 1)], .tuple [.int lo, .int lo]], .int j]) (run_ex rfl (run_ex e2 (show runA [] _ = some (.ok [] _) from rfl))) rfl ej) rfl
      have : j = 0 ∨ j = 1 ∨ j = 2 := by omega
      rcases this with rfl | rfl | rfl
      · exact ⟨s2, lo + 1, hi, go _ _ rfl, p2, by omega, by omega, by omega⟩
      · exact ⟨s2, lo, hi - 1, go _ _ rfl, p2, by omega, by omega, by omega⟩
      · exact ⟨s2, lo, lo, go _ _ rfl, p2, by omega, by omega, by omega⟩
    · rw [decide_eq_false y, if_neg Bool.false_ne_true]
      exact ⟨s1, lo, hi, rfl, p1.mono (by omega), h0, h1, h2⟩
  · rw [decide_eq_false z] at c0
    have c2 : andB (boolM (opM true leD [.ex (opM true addD [.sl 8, .ex (M.ret (.int 1))]), .sl 9])) (boolM (opM true eqD [.ex (datM (callV F_law_e_take_2efe [.sl 0, .ex (M.ret (.int 4))])), .ex (M.ret (.int 0))])) [s, b, t, m, f, x5, x6, x7, .dat (.int lo), .dat (.int hi)] = some (.ok false [s, b, t, m, f, x5, x6, x7, .dat (.int lo), .dat (.int hi)]) := by
      unfold andB
      rw [bind_ok c0, if_neg Bool.false_ne_true]
      rfl
    rw [if_ok c2, if_neg Bool.false_ne_true]
    exact ⟨s, lo, hi, rfl, h.mono (by omega), h0, h1, h2⟩
noncomputable def lineB : M O := (seqM (parM 6 7 [.ex ixB, .ex ixB])
  (seqM (parM 8 9 [.ex (opM true min2D [.sl 6, .sl 7]), .ex (opM true max2D [.sl 6, .sl 7])])
  (seqM bendIf
  (exprM (mutM 4 qAppend [.ex (tupM [.sl 8, .sl 9, .ex (opM true ixD [.sl 2, .ex (datM (callV F_law_e_take_2efe [.sl 0, .ex (opM true lenD [.sl 2])]))])])])))))
theorem line_turn {k : Nat} {s m x5 x6 x7 x8 x9 : Sl} {B : List Int} {T L : List D} (h : PenE (k + 5) s) (hB : BendsOk B) (hT : ∀ d ∈ T, Tone d) (lT : T.length ≤ 3) (l1 : 1 ≤ T.length) (h6 : x6.owns = false) (h7 : x7.owns = false) (h8 : x8.owns = false) (h9 : x9.owns = false) (lL : L.length ≤ 1000) :
    ∃ (s' y6 y7 y8 y9 : Sl) (z : D), lineB [s, .dat (.list (B.map .int)), .dat (.list T), m, .lst L, x5, x6, x7, x8, x9] = some (.ok .nx [s', .dat (.list (B.map .int)), .dat (.list T), m, .lst (L ++ [z]), x5, y6, y7, y8, y9]) ∧ PenE k s' ∧ Line z ∧ y6.owns = false ∧ y7.owns = false ∧ y8.owns = false ∧ y9.owns = false := by
  obtain ⟨s1, u, e1, p1, u0, u1⟩ := ixB_ok (k := k + 4) (s := s) (es := [.dat (.list T), m, .lst L, x5, x6, x7, x8, x9]) (B := B) h hB
  obtain ⟨s2, v, e2, p2, v0, v1⟩ := ixB_ok (k := k + 3) (s := s1) (es := [.dat (.list T), m, .lst L, x5, x6, x7, x8, x9]) (B := B) p1 hB
  have a1 : parM 6 7 [.ex ixB, .ex ixB] [s, .dat (.list (B.map .int)), .dat (.list T), m, .lst L, x5, x6, x7, x8, x9] = some (.ok .nx [s2, .dat (.list (B.map .int)), .dat (.list T), m, .lst L, x5, .dat (.int u), .dat (.int v), x8, x9]) := by
    unfold parM
    refine (bind_ok (run_ex e1 (run_ex e2 (show runA [] _ = some (.ok [] _) from rfl)))).trans ?_
    show ((setT 6 (.int u) [s2, .dat (.list (B.map .int)), .dat (.list T), m, .lst L, x5, x6, x7, x8, x9]).bind fun e1 => (setT 7 (.int v) e1).map fun e2 => Rs.ok O.nx e2) = _
    rw [setT_ok (s := x6) rfl h6]
    show ((setT 7 (.int v) [s2, .dat (.list (B.map .int)), .dat (.list T), m, .lst L, x5, .dat (.int u), x7, x8, x9]).map fun e2 => Rs.ok O.nx e2) = _
    rw [setT_ok (s := x7) rfl h7]; rfl
  have a2 : parM 8 9 [.ex (opM true min2D [.sl 6, .sl 7]), .ex (opM true max2D [.sl 6, .sl 7])] [s2, .dat (.list (B.map .int)), .dat (.list T), m, .lst L, x5, .dat (.int u), .dat (.int v), x8, x9] = some (.ok .nx [s2, .dat (.list (B.map .int)), .dat (.list T), m, .lst L, x5, .dat (.int u), .dat (.int v), .dat (.int (min u v)), .dat (.int (max u v))]) := by
    have q1 : opM true min2D [.sl 6, .sl 7] [s2, .dat (.list (B.map .int)), .dat (.list T), m, .lst L, x5, .dat (.int u), .dat (.int v), x8, x9] = some (.ok (.int (min u v)) [s2, .dat (.list (B.map .int)), .dat (.list T), m, .lst L, x5, .dat (.int u), .dat (.int v), x8, x9]) := op_ok (as := [none, none]) (ds := [.int u, .int v]) rfl rfl (min2_ok u v)
    have q2 : opM true max2D [.sl 6, .sl 7] [s2, .dat (.list (B.map .int)), .dat (.list T), m, .lst L, x5, .dat (.int u), .dat (.int v), x8, x9] = some (.ok (.int (max u v)) [s2, .dat (.list (B.map .int)), .dat (.list T), m, .lst L, x5, .dat (.int u), .dat (.int v), x8, x9]) := op_ok (as := [none, none]) (ds := [.int u, .int v]) rfl rfl (max2_ok u v)
    unfold parM
    refine (bind_ok (run_ex q1 (run_ex q2 (show runA [] _ = some (.ok [] _) from rfl)))).trans ?_
    show ((setT 8 (.int (min u v)) [s2, .dat (.list (B.map .int)), .dat (.list T), m, .lst L, x5, .dat (.int u), .dat (.int v), x8, x9]).bind fun e1 => (setT 9 (.int (max u v)) e1).map fun e2 => Rs.ok O.nx e2) = _
    rw [setT_ok (s := x8) rfl h8]
    show ((setT 9 (.int (max u v)) [s2, .dat (.list (B.map .int)), .dat (.list T), m, .lst L, x5, .dat (.int u), .dat (.int v), .dat (.int (min u v)), x9]).map fun e2 => Rs.ok O.nx e2) = _
    rw [setT_ok (s := x9) rfl h9]; rfl
  obtain ⟨s3, a, c, e3, p3, a0, ac, c1⟩ := bendIf_ok (k := k + 1) (s := s2) (b := .dat (.list (B.map .int))) (t := .dat (.list T)) (m := m) (f := .lst L) (x5 := x5) (x6 := .dat (.int u)) (x7 := .dat (.int v)) (lo := min u v) (hi := max u v) p2 (by omega) (by omega) (by omega)
  obtain ⟨s4, d, e4, p4, d0, d1⟩ := take_in (k := k) (i := 0) (s := s3) (o := T.length) (m := opM true lenD [.sl 2]) (env := [s3, .dat (.list (B.map .int)), .dat (.list T), m, .lst L, x5, .dat (.int u), .dat (.int v), .dat (.int a), .dat (.int c)]) rfl rfl p3 (by omega) (by omega)
  obtain ⟨co, mco, eco⟩ := list_at (L := T) d0 d1
  refine ⟨s4, .dat (.int u), .dat (.int v), .dat (.int a), .dat (.int c), .tuple [.int a, .int c, co], ?_, p4, ⟨a, c, co, rfl, a0, ac, c1, hT co mco⟩, rfl, rfl, rfl, rfl⟩
  refine seq_nx' a1 (seq_nx' a2 (seq_nx' e3 ?_))
  have q1 : opM true ixD [.sl 2, .ex (datM (callV F_law_e_take_2efe [.sl 0, .ex (opM true lenD [.sl 2])]))] [s3, .dat (.list (B.map .int)), .dat (.list T), m, .lst L, x5, .dat (.int u), .dat (.int v), .dat (.int a), .dat (.int c)] = some (.ok co [s4, .dat (.list (B.map .int)), .dat (.list T), m, .lst L, x5, .dat (.int u), .dat (.int v), .dat (.int a), .dat (.int c)]) :=
    op_ok (as := [none, some (.int d)]) (ds := [.list T, .int d]) (run_sl (held_dat (d := .list T) rfl) (run_ex e4 (show runA [] _ = some (.ok [] _) from rfl))) rfl eco
  have q2 : tupM [.sl 8, .sl 9, .ex (opM true ixD [.sl 2, .ex (datM (callV F_law_e_take_2efe [.sl 0, .ex (opM true lenD [.sl 2])]))])] [s3, .dat (.list (B.map .int)), .dat (.list T), m, .lst L, x5, .dat (.int u), .dat (.int v), .dat (.int a), .dat (.int c)] = some (.ok (.tuple [.int a, .int c, co]) [s4, .dat (.list (B.map .int)), .dat (.list T), m, .lst L, x5, .dat (.int u), .dat (.int v), .dat (.int a), .dat (.int c)]) := by
    unfold tupM
    refine (bind_ok (run_sl (i := 8) (held_dat (d := .int a) rfl) (run_sl (i := 9) (held_dat (d := .int c) rfl) (run_ex q1 (show runA [] _ = some (.ok [] _) from rfl))))).trans rfl
  show M.bind (mutM 4 qAppend [.ex _]) _ [s3, .dat (.list (B.map .int)), .dat (.list T), m, .lst L, x5, .dat (.int u), .dat (.int v), .dat (.int a), .dat (.int c)] = _
  refine (bind_ok (a := PyData.none) (e' := [s4, .dat (.list (B.map .int)), .dat (.list T), m, .lst (L ++ [.tuple [.int a, .int c, co]]), x5, .dat (.int u), .dat (.int v), .dat (.int a), .dat (.int c)]) ?_).trans rfl
  show M.bind (runA [.ex _]) _ [s3, .dat (.list (B.map .int)), .dat (.list T), m, .lst L, x5, .dat (.int u), .dat (.int v), .dat (.int a), .dat (.int c)] = _
  refine (bind_ok (run_ex q2 (show runA [] _ = some (.ok [] _) from rfl))).trans ?_
  show (qAppend L [_]).map _ = _
  rw [qapp (by omega)]; rfl
theorem line_loop {m : Sl} {B : List Int} {T : List D} (hB : BendsOk B) (hT : ∀ d ∈ T, Tone d) (lT : T.length ≤ 3) (l1 : 1 ≤ T.length) : ∀ (ds : List D) {k : Nat} {s x5 x6 x7 x8 x9 : Sl} {L : List D}, PenE (k + 5 * ds.length) s → x5.owns = false → x6.owns = false → x7.owns = false → x8.owns = false → x9.owns = false → L.length + ds.length ≤ 1000 → (∀ x ∈ L, Line x) →
    ∃ (s' y5 y6 y7 y8 y9 : Sl) (R : List D), forL (setT 5) lineB ds [s, .dat (.list (B.map .int)), .dat (.list T), m, .lst L, x5, x6, x7, x8, x9] = some (.ok .nx [s', .dat (.list (B.map .int)), .dat (.list T), m, .lst R, y5, y6, y7, y8, y9]) ∧ PenE k s' ∧ (∀ x ∈ R, Line x) ∧ R.length = L.length + ds.length
  | [], k, s, x5, x6, x7, x8, x9, L, h, _, _, _, _, _, _, hL => ⟨s, x5, x6, x7, x8, x9, L, for_nil, h, hL, rfl⟩
  | d :: ds, k, s, x5, x6, x7, x8, x9, L, h, h5, h6, h7, h8, h9, lL, hL => by
    rw [List.length_cons] at h lL
    obtain ⟨s1, y6, y7, y8, y9, z, e, p1, hz, o6, o7, o8, o9⟩ := line_turn (k := k + 5 * ds.length) (s := s) (m := m) (x5 := .dat d) (x6 := x6) (x7 := x7) (x8 := x8) (x9 := x9) (L := L) (h.mono (by omega)) hB hT lT l1 h6 h7 h8 h9 (by omega)
    obtain ⟨s', z5, z6, z7, z8, z9, R, f, p2, hR, lR⟩ := line_loop (m := m) hB hT lT l1 ds (k := k) (s := s1) (x5 := .dat d) (x6 := y6) (x7 := y7) (x8 := y8) (x9 := y9) (L := L ++ [z]) p1 rfl o6 o7 o8 o9 (by rw [List.length_append, List.length_singleton]; omega) (fun x hx => by
      rcases List.mem_append.mp hx with q | q
      · exact hL x q
      · rw [List.mem_singleton.mp q]; exact hz)
    refine ⟨s', z5, z6, z7, z8, z9, R, ?_, p2, hR, by rw [lR, List.length_append, List.length_singleton, List.length_cons]; omega⟩
    rw [for_cons (setT_ok (s := x5) rfl h5) e, f]
theorem lines_ok {k : Nat} {s : Sl} {B : List Int} {T : List D} (h : PenE (k + 26) s) (hB : BendsOk B) (hT : ∀ d ∈ T, Tone d) (lT : T.length ≤ 3) (l1 : 1 ≤ T.length) :
    ∃ (s' : Sl) (L : List D), F_law_e_lines_867a [s, .dat (.list (B.map .int)), .dat (.list T), .dat (.int 5)] = some (.ok (.lst L) [s', .dat (.list (B.map .int)), .dat (.list T), .dat (.int 5)]) ∧ PenE k s' ∧ (∀ x ∈ L, Line x) ∧ L.length ≤ 5 := by
  obtain ⟨s1, d, e, p1, d0, d1⟩ := take_in (k := k + 25) (i := 0) (s := s) (o := 6) (m := opM true addD [.sl 3, .ex (M.ret (.int 1))]) (env := [s, .dat (.list (B.map .int)), .dat (.list T), .dat (.int 5), .lst [], .non, .non, .non, .non, .non]) rfl rfl h (by decide) (by decide)
  obtain ⟨n, rfl⟩ := Int.eq_ofNat_of_zero_le d0
  obtain ⟨s2, y5, y6, y7, y8, y9, R, f, p2, hR, lR⟩ := line_loop (m := .dat (.int 5)) hB hT lT l1 (rangeL 0 n) (k := k) (s := s1) (x5 := .non) (x6 := .non) (x7 := .non) (x8 := .non) (x9 := .non) (L := []) (p1.mono (by rw [rangeL_len]; omega)) rfl rfl rfl rfl rfl (by rw [rangeL_len]; simp; omega) (fun _ h => nomatch h)
  rw [rangeL_len, List.length_nil] at lR
  refine ⟨s2, R, body_rt (e := [s2, .dat (.list (B.map .int)), .dat (.list T), .dat (.int 5), .lst R, y5, y6, y7, y8, y9]) ?_ ?_, p2, hR, by omega⟩
  · show m_law_e_lines_867a [s, .dat (.list (B.map .int)), .dat (.list T), .dat (.int 5), .non, .non, .non, .non, .non, .non] = _
    unfold m_law_e_lines_867a
    refine seq_nx' (e' := [s, .dat (.list (B.map .int)), .dat (.list T), .dat (.int 5), .lst [], .non, .non, .non, .non, .non]) rfl ?_
    refine seq_nx' (for_ok (range_in (n := n) e (by omega)) f) rfl
  · obtain ⟨_, _, _, rfl, _⟩ := h
    obtain ⟨_, _, _, rfl, _⟩ := p2
    rfl
structure Sight (n : Int) (x : D) : Prop where
  is : ∃ w a b : Int, x = .tuple [.int w, .int a, .int b] ∧ 0 ≤ w ∧ w ≤ n ∧ 0 ≤ a ∧ a ≤ b ∧ b ≤ 1000000000
noncomputable def sightB : M O := (seqM (parM 6 7 [.ex ixB, .ex ixB])
  (exprM (mutM 4 qAppend [.ex (tupM [.ex (datM (callV F_law_e_take_2efe [.sl 0, .ex (opM true addD [.sl 2, .ex (M.ret (.int 1))])])), .ex (opM true min2D [.sl 6, .sl 7]), .ex (opM true max2D [.sl 6, .sl 7])])])))
theorem sight_turn {k : Nat} {s m x5 x6 x7 : Sl} {B : List Int} {n : Int} {L : List D} (h : PenE (k + 3) s) (hB : BendsOk B) (n0 : 0 ≤ n) (n1 : n ≤ 1000) (h6 : x6.owns = false) (h7 : x7.owns = false) (lL : L.length ≤ 1000) :
    ∃ (s' y6 y7 : Sl) (z : D), sightB [s, .dat (.list (B.map .int)), .dat (.int n), m, .lst L, x5, x6, x7] = some (.ok .nx [s', .dat (.list (B.map .int)), .dat (.int n), m, .lst (L ++ [z]), x5, y6, y7]) ∧ PenE k s' ∧ Sight n z ∧ y6.owns = false ∧ y7.owns = false := by
  obtain ⟨s1, u, e1, p1, u0, u1⟩ := ixB_ok (k := k + 2) (s := s) (es := [.dat (.int n), m, .lst L, x5, x6, x7]) (B := B) h hB
  obtain ⟨s2, v, e2, p2, v0, v1⟩ := ixB_ok (k := k + 1) (s := s1) (es := [.dat (.int n), m, .lst L, x5, x6, x7]) (B := B) p1 hB
  have a1 : parM 6 7 [.ex ixB, .ex ixB] [s, .dat (.list (B.map .int)), .dat (.int n), m, .lst L, x5, x6, x7] = some (.ok .nx [s2, .dat (.list (B.map .int)), .dat (.int n), m, .lst L, x5, .dat (.int u), .dat (.int v)]) := by
    unfold parM
    refine (bind_ok (run_ex e1 (run_ex e2 (show runA [] _ = some (.ok [] _) from rfl)))).trans ?_
    show ((setT 6 (.int u) [s2, .dat (.list (B.map .int)), .dat (.int n), m, .lst L, x5, x6, x7]).bind fun e1 => (setT 7 (.int v) e1).map fun e2 => Rs.ok O.nx e2) = _
    rw [setT_ok (s := x6) rfl h6]
    show ((setT 7 (.int v) [s2, .dat (.list (B.map .int)), .dat (.int n), m, .lst L, x5, .dat (.int u), x7]).map fun e2 => Rs.ok O.nx e2) = _
    rw [setT_ok (s := x7) rfl h7]; rfl
  obtain ⟨s3, d, e3, p3, d0, d1⟩ := take_in (k := k) (i := 0) (s := s2) (o := n + 1) (m := opM true addD [.sl 2, .ex (M.ret (.int 1))]) (env := [s2, .dat (.list (B.map .int)), .dat (.int n), m, .lst L, x5, .dat (.int u), .dat (.int v)]) rfl rfl p2 (by omega) (by omega)
  refine ⟨s3, .dat (.int u), .dat (.int v), .tuple [.int d, .int (min u v), .int (max u v)], ?_, p3, ⟨d, _, _, rfl, d0, by omega, by omega, by omega, by omega⟩, rfl, rfl⟩
  refine seq_nx' a1 ?_
  have q1 : opM true min2D [.sl 6, .sl 7] [s3, .dat (.list (B.map .int)), .dat (.int n), m, .lst L, x5, .dat (.int u), .dat (.int v)] = some (.ok (.int (min u v)) [s3, .dat (.list (B.map .int)), .dat (.int n), m, .lst L, x5, .dat (.int u), .dat (.int v)]) := op_ok (as := [none, none]) (ds := [.int u, .int v]) rfl rfl (min2_ok u v)
  have q2 : opM true max2D [.sl 6, .sl 7] [s3, .dat (.list (B.map .int)), .dat (.int n), m, .lst L, x5, .dat (.int u), .dat (.int v)] = some (.ok (.int (max u v)) [s3, .dat (.list (B.map .int)), .dat (.int n), m, .lst L, x5, .dat (.int u), .dat (.int v)]) := op_ok (as := [none, none]) (ds := [.int u, .int v]) rfl rfl (max2_ok u v)
  have q3 : tupM [.ex (datM (callV F_law_e_take_2efe [.sl 0, .ex (opM true addD [.sl 2, .ex (M.ret (.int 1))])])), .ex (opM true min2D [.sl 6, .sl 7]), .ex (opM true max2D [.sl 6, .sl 7])] [s2, .dat (.list (B.map .int)), .dat (.int n), m, .lst L, x5, .dat (.int u), .dat (.int v)] = some (.ok (.tuple [.int d, .int (min u v), .int (max u v)]) [s3, .dat (.list (B.map .int)), .dat (.int n), m, .lst L, x5, .dat (.int u), .dat (.int v)]) := by
    unfold tupM
    exact (bind_ok (run_ex e3 (run_ex q1 (run_ex q2 (show runA [] _ = some (.ok [] _) from rfl))))).trans rfl
  show M.bind (mutM 4 qAppend [.ex _]) _ [s2, .dat (.list (B.map .int)), .dat (.int n), m, .lst L, x5, .dat (.int u), .dat (.int v)] = _
  refine (bind_ok (a := PyData.none) (e' := [s3, .dat (.list (B.map .int)), .dat (.int n), m, .lst (L ++ [.tuple [.int d, .int (min u v), .int (max u v)]]), x5, .dat (.int u), .dat (.int v)]) ?_).trans rfl
  show M.bind (runA [.ex _]) _ [s2, .dat (.list (B.map .int)), .dat (.int n), m, .lst L, x5, .dat (.int u), .dat (.int v)] = _
  refine (bind_ok (run_ex q3 (show runA [] _ = some (.ok [] _) from rfl))).trans ?_
  show (qAppend L [_]).map _ = _
  rw [qapp (by omega)]; rfl
theorem sight_loop {m : Sl} {B : List Int} {n : Int} (hB : BendsOk B) (n0 : 0 ≤ n) (n1 : n ≤ 1000) : ∀ (ds : List D) {k : Nat} {s x5 x6 x7 : Sl} {L : List D}, PenE (k + 3 * ds.length) s → x5.owns = false → x6.owns = false → x7.owns = false → L.length + ds.length ≤ 1000 → (∀ x ∈ L, Sight n x) →
    ∃ (s' y5 y6 y7 : Sl) (R : List D), forL (setT 5) sightB ds [s, .dat (.list (B.map .int)), .dat (.int n), m, .lst L, x5, x6, x7] = some (.ok .nx [s', .dat (.list (B.map .int)), .dat (.int n), m, .lst R, y5, y6, y7]) ∧ PenE k s' ∧ (∀ x ∈ R, Sight n x) ∧ R.length = L.length + ds.length
  | [], k, s, x5, x6, x7, L, h, _, _, _, _, hL => ⟨s, x5, x6, x7, L, for_nil, h, hL, rfl⟩
  | d :: ds, k, s, x5, x6, x7, L, h, h5, h6, h7, lL, hL => by
    rw [List.length_cons] at h lL
    obtain ⟨s1, y6, y7, z, e, p1, hz, o6, o7⟩ := sight_turn (k := k + 3 * ds.length) (s := s) (m := m) (x5 := .dat d) (x6 := x6) (x7 := x7) (L := L) (h.mono (by omega)) hB n0 n1 h6 h7 (by omega)
    obtain ⟨s', z5, z6, z7, R, f, p2, hR, lR⟩ := sight_loop (m := m) hB n0 n1 ds (k := k) (s := s1) (x5 := .dat d) (x6 := y6) (x7 := y7) (L := L ++ [z]) p1 rfl o6 o7 (by rw [List.length_append, List.length_singleton]; omega) (fun x hx => by
      rcases List.mem_append.mp hx with q | q
      · exact hL x q
      · rw [List.mem_singleton.mp q]; exact hz)
    refine ⟨s', z5, z6, z7, R, ?_, p2, hR, by rw [lR, List.length_append, List.length_singleton, List.length_cons]; omega⟩
    rw [for_cons (setT_ok (s := x5) rfl h5) e, f]
def momB (n : Int) : D → Bool
  | .int i => decide (0 ≤ i) && decide (i ≤ n)
  | _ => false
theorem len_book {R : List D} : F_Book___len___5744 [.book R] = some (.ok (.dat (.int (R.length : Nat))) [.book R]) := rfl
theorem lenB_ok {i : Nat} {e : En} {R : List D} (h : e[i]? = some (.book R)) (lR : R.length < 1000000) (hs : e.set i (.book R) = e) : DL.lenB i F_Book___len___5744 e = some (.ok (.int (R.length : Nat)) e) := by
  have hc : callB i F_Book___len___5744 [] e = some (.ok (.dat (.int (R.length : Nat))) e) := by
    unfold callB
    rw [h]
    show callV F_Book___len___5744 [.sl i] e = _
    have hh : held e i = true := by unfold held; rw [h]
    unfold callV
    refine (bind_ok (run_sl hh (show runA [] e = some (.ok [] e) from rfl))).trans ?_
    have s1 : slotsOf e [.sl i] [none] = some [.book R] := by simp only [slotsOf, h]; rfl
    have s2 : ownIx e [.sl i] = [i] := by simp only [ownIx, h]; rfl
    have s3 : backS e [.sl i] [.book R] = e := by
      show (backS e [] []).set i (.book R) = e
      exact hs
    rw [s1, s2]
    dsimp only
    rw [if_pos (by simp), len_book]
    dsimp only
    rw [s3]
  unfold DL.lenB
  rw [bind_ok hc]
  dsimp only
  rw [if_pos ⟨by omega, by omega⟩]
theorem moment_any {R : List D} (lR : R.length ≤ 1000) (d : D) : F_is_moment_1ac7 [.book R, .dat d] = some (.ok (.dat (.bool (momB (R.length : Nat) d))) [.book R, .dat d]) := by
  refine body_rt (e := [.book R, .dat d]) ?_ rfl
  show m_is_moment_1ac7 [.book R, .dat d] = _
  unfold m_is_moment_1ac7
  have c1 : datM (callV F_is_place_f9e3 [.sl 1]) [.book R, .dat d] = some (.ok (.bool (placeB d)) [.book R, .dat d]) := datM_ok (call_pure (as := [none]) (ss := [.dat d]) rfl rfl rfl (place_any d) rfl)
  have c2 : DL.lenB 0 F_Book___len___5744 [.book R, .dat d] = some (.ok (.int (R.length : Nat)) [.book R, .dat d]) := lenB_ok rfl (by omega) rfl
  cases d with
  | int i =>
    have e : momB (R.length : Nat) (.int i) = (placeB (.int i) && decide (i ≤ (R.length : Nat))) := by
      show (decide (0 ≤ i) && decide (i ≤ ((R.length : Nat) : Int))) = ((decide (0 ≤ i) && decide (i ≤ 1000000000)) && decide (i ≤ ((R.length : Nat) : Int)))
      by_cases q : i ≤ ((R.length : Nat) : Int)
      · have : i ≤ 1000000000 := by omega
        rw [decide_eq_true q, decide_eq_true this, Bool.and_true, Bool.and_true]
      · rw [decide_eq_false q, Bool.and_false, Bool.and_false]
    rw [e]
    exact ret_o (ad_ok c1 fun _ => op_ok (as := [none, some (.int (R.length : Nat))]) (ds := [.int i, .int (R.length : Nat)]) (run_sl (i := 1) rfl (run_ex c2 (show runA [] _ = some (.ok [] _) from rfl))) rfl rfl)
  | _ => exact ret_o (ad_ok (x := false) (y := false) c1 (fun h => nomatch h))
theorem call_book {F : FS} {i : Nat} {R : List D} {os : List Opd} {env : En} {as : List (Option D)} {ss : List Sl} {rv : Rv} (h : env[i]? = some (.book R)) (hr : runA os env = some (.ok as env)) (hs : slotsOf env os as = some ss) (hx : ownIx env os = []) (hb : backS env os ss = env) (he : env.set i (.book R) = env) (hF : F (.book R :: ss) = some (.ok rv (.book R :: ss))) :
    callV F (.sl i :: os) env = some (.ok rv env) := by
  have hh : held env i = true := by unfold held; rw [h]
  unfold callV
  refine (bind_ok (run_sl hh hr)).trans ?_
  have s1 : slotsOf env (.sl i :: os) (none :: as) = some (.book R :: ss) := by simp only [slotsOf, h, hs]; rfl
  have s2 : ownIx env (.sl i :: os) = [i] := by simp only [ownIx, h, hx]; rfl
  have s3 : backS env (.sl i :: os) (.book R :: ss) = env := by
    show (backS env os ss).set i (.book R) = env
    rw [hb]; exact he
  rw [s1, s2]
  dsimp only
  rw [if_pos (by simp), hF]
  dsimp only
  rw [s3]
def lookB (n : Int) : D → Bool
  | .tuple [a, b, c] => momB n a && spanB (.tuple [b, c])
  | _ => false
def looksB (n : Int) : D → Bool
  | .tuple xs => decide (xs.length ≤ 20) && xs.all (lookB n)
  | _ => false
theorem all_map {P : D → Bool} {xs : List D} : allD [.list (xs.map fun x => PyData.bool (P x))] = some (.bool (xs.all P)) := by
  rw [show (xs.map fun x => PyData.bool (P x)) = (xs.map P).map PyData.bool by rw [List.map_map]; rfl, all_d]
  simp
theorem le_20 {e : En} {i : Nat} {xs : List D} (h : e[i]? = some (.dat (.tuple xs))) : opM true leD [.ex (opM true lenD [.sl i]), .ex (M.ret (.int 20))] e = some (.ok (.bool (decide (xs.length ≤ 20))) e) := by
  have l0 : opM true lenD [.sl i] e = some (.ok (.int (xs.length : Nat)) e) := op_ok (as := [none]) (ds := [.tuple xs]) (run_sl (held_dat h) (show runA [] _ = some (.ok [] _) from rfl)) (get_sl h) rfl
  refine op_ok (as := [some (.int (xs.length : Nat)), some (.int 20)]) (ds := [.int (xs.length : Nat), .int 20]) (run_ex l0 (run_ex rfl (show runA [] _ = some (.ok [] _) from rfl))) rfl ?_
  show some (PyData.bool (decide (((xs.length : Nat) : Int) ≤ 20))) = _
  congr 2
  by_cases q : xs.length ≤ 20
  · rw [decide_eq_true q, decide_eq_true (by omega)]
  · rw [decide_eq_false q, decide_eq_false (by omega)]
theorem ne_same_s {t : Str} (h : SeqAt.shaped (.str t) = true) : neD [.str t, .str t] = some (.bool false) := by
  rw [ne_ok h h]
  simp [PyData.eqv]
theorem ne_same_b (b : Bool) : neD [.bool b, .bool b] = some (.bool false) := by
  rw [ne_ok (by cases b <;> decide +kernel) (by cases b <;> decide +kernel)]
  cases b <;> rfl
theorem Line.row {x : D} (h : Line x) : rowB x = true ∧ Txt3 x := by
  obtain ⟨a, b, c, rfl, a0, ab, b1, hc⟩ := h.is
  refine ⟨?_, hc.txt⟩
  obtain ⟨y, rfl, y1, y8, ys⟩ := hc
  show (((decide (0 ≤ a) && decide (a ≤ 1000000000)) && ((decide (0 ≤ b) && decide (b ≤ 1000000000)) && decide (a ≤ b))) && ((decide (1 ≤ (y.length : Int)) && decide ((y.length : Int) ≤ 8)) && y.cps.toList.all signB)) = true
  rw [List.all_eq_true.mpr ys]
  simp only [Bool.and_eq_true, decide_eq_true_eq]
  exact ⟨⟨⟨a0, by omega⟩, ⟨by omega, b1⟩, ab⟩, ⟨by omega, by omega⟩, trivial⟩
theorem init_loop {w : D} : ∀ (xs : List D), (∀ x ∈ xs, Line x) → compL [2] (setT 2) (M.ret true) (datM (callV F_is_stroke_3746 [.sl 2])) xs [.non, .dat w, .non] = some (.ok (xs.map fun x => PyData.bool (rowB x)) [.non, .dat w, .non])
  | [], _ => rfl
  | x :: xs, h => by
    have he : datM (callV F_is_stroke_3746 [.sl 2]) [.non, .dat w, .dat x] = some (.ok (.bool (rowB x)) [.non, .dat w, .dat x]) := datM_ok (call_pure (as := [none]) (ss := [.dat x]) rfl rfl rfl (stroke_any (h x (List.mem_cons_self ..)).row.2) rfl)
    exact comp_cons (e1 := [.non, .dat w, .dat x]) rfl rfl rfl he (init_loop xs fun y hy => h y (List.mem_cons_of_mem _ hy))
theorem init_ok {L : List D} (hL : ∀ x ∈ L, Line x) (lL : L.length ≤ 1000) : F_Book___init___0ec0 (.list L) = some L := by
  have t0 : notB (boolM (opM true (isiD2 "tuple" "list") [.sl 1])) [.non, .dat (.list L), .non] = some (.ok false [.non, .dat (.list L), .non]) := nb_ok (b := true) (bm_ok rfl)
  have al : L.all rowB = true := List.all_eq_true.mpr fun x hx => (hL x hx).row.1
  have t1 : opM true allD [.ex (listD (compM (seqI (varM 1)) [2] (setT 2) (M.ret true) (datM (callV F_is_stroke_3746 [.sl 2]))))] [.non, .dat (.list L), .non] = some (.ok (.bool (L.all rowB)) [.non, .dat (.list L), .non]) :=
    op_ok (as := [some (.list (L.map fun x => PyData.bool (rowB x)))]) (ds := [.list (L.map fun x => PyData.bool (rowB x))]) (run_ex (listD_ok (comp_ok (ds := L) (e1 := [.non, .dat (.list L), .non]) rfl (by omega) (init_loop L hL))) (show runA [] _ = some (.ok [] _) from rfl)) rfl all_map
  rw [al] at t1
  have t2 : m_Book___init___0ec0 [.non, .dat (.list L), .non] = some (.ok false [.non, .dat (.list L), .non]) := or_n1 t0 (nb_ok (b := true) (bm_ok t1))
  show (match m_Book___init___0ec0 [.non, .dat (.list L), .non] with
  | some (.ok false e) => match (e[1]? : Option Sl) with
    | some (Sl.dat d') => itemsOf d'
    | _ => none
  | _ => none) = _
  rw [t2]; rfl
theorem callT_ok {f : D → Option (List D)} {F : FS} {i j : Nat} {e : En} {K : List D} {d z : D} {r : List Sl} (h1 : e[i]? = some (.dat (.list K))) (h2 : f (.list K) = some K) (h3 : e[j]? = some (.dat d)) (h4 : F [.book K, .dat d] = some (.ok (.dat z) r)) : datM (callT f F (.sl i) [.sl j]) e = some (.ok z e) := by
  refine datM_ok ?_
  unfold callT
  have m1 : makeB f (.sl i) e = some (.ok (.book K) e) := by
    unfold makeB
    refine (bind_ok (run_sl (held_dat h1) (show runA [] _ = some (.ok [] _) from rfl))).trans ?_
    rw [get_sl h1]
    dsimp only
    rw [h2]; rfl
  refine (bind_ok m1).trans ((bind_ok (run_sl (held_dat h3) (show runA [] _ = some (.ok [] _) from rfl))).trans ?_)
  rw [get_sl h3]
  show (match F [.book K, .dat d] with
    | some (.ok (.dat d) _) => some (Rs.ok (Rv.dat d) e)
    | _ => none) = _
  rw [h4]
theorem call_book2 {F : FS} {i : Nat} {R R' : List D} {os : List Opd} {env : En} {as : List (Option D)} {ss : List Sl} {rv : Rv} (h : env[i]? = some (.book R)) (hr : runA os env = some (.ok as env)) (hs : slotsOf env os as = some ss) (hx : ownIx env os = []) (hb : backS env os ss = env) (hF : F (.book R :: ss) = some (.ok rv (.book R' :: ss))) :
    callV F (.sl i :: os) env = some (.ok rv (env.set i (.book R'))) := by
  have hh : held env i = true := by unfold held; rw [h]
  unfold callV
  refine (bind_ok (run_sl hh hr)).trans ?_
  have s1 : slotsOf env (.sl i :: os) (none :: as) = some (.book R :: ss) := by simp only [slotsOf, h, hs]; rfl
  have s2 : ownIx env (.sl i :: os) = [i] := by simp only [ownIx, h, hx]; rfl
  have s3 : backS env (.sl i :: os) (.book R' :: ss) = env.set i (.book R') := by
    show (backS env os ss).set i (.book R') = _
    rw [hb]
  rw [s1, s2]
  dsimp only
  rw [if_pos (by simp), hF]
  dsimp only
  rw [s3]
theorem whole_def (d : D) : withDef [.int 0] F_is_whole_8291 [.dat d] = some (.ok (.dat (.bool (wholeB d))) [.dat d]) := by
  show (match F_is_whole_8291 [.dat d, .dat (.int 0)] with
    | some (.ok rv a) => some (Rf.ok rv (a.take 1))
    | some (.ex x a) => some (Rf.ex x (a.take 1))
    | none => none) = _
  rw [whole_any]; rfl
def aS : D := .tuple [.int 0, .int 0, .str "a"]
theorem aS_line : Line aS := ⟨0, 0, .str "a", rfl, by decide, by decide, by decide, tone_const (by decide +kernel)⟩
theorem row_len {R : List D} {es : List Sl} : opRow lenD 0 (.book R :: es) = some (.ok (.int (R.length : Nat)) (.book R :: es)) := rfl
theorem put_ok {R : List D} (lR : R.length ≤ 1000) : ∃ R' : List D, F_Book_put_4d53 [.book R, .dat (.int (R.length : Nat)), .dat aS] = some (.ok (.dat .none) [.book R', .dat (.int (R.length : Nat)), .dat aS]) ∧ R'.length = R.length + 1 := by
  refine ⟨R.take (R.length) ++ [aS] ++ R.drop (R.length), body_nx (e := [.book (R.take (R.length) ++ [aS] ++ R.drop (R.length)), .dat (.int (R.length : Nat)), .dat aS]) ?_ rfl, by simp⟩
  show m_Book_put_4d53 [.book R, .dat (.int (R.length : Nat)), .dat aS] = _
  unfold m_Book_put_4d53
  have c1 : datM (callV (withDef [.int 0] F_is_whole_8291) [.sl 1]) [.book R, .dat (.int (R.length : Nat)), .dat aS] = some (.ok (.bool true) [.book R, .dat (.int (R.length : Nat)), .dat aS]) := by
    have := datM_ok (call_pure (os := [.sl 1]) (env := [.book R, .dat (.int (R.length : Nat)), .dat aS]) (as := [none]) (ss := [.dat (.int (R.length : Nat))]) rfl rfl rfl (whole_def (.int (R.length : Nat))) rfl)
    have w : wholeB (.int (R.length : Nat)) = true := by
      show decide ((0 : Int) ≤ ((R.length : Nat) : Int)) = true
      exact decide_eq_true (by omega)
    rw [w] at this
    exact this
  have c2 : opM true gtD [.sl 1, .ex (opRow lenD 0)] [.book R, .dat (.int (R.length : Nat)), .dat aS] = some (.ok (.bool (decide (((R.length : Nat) : Int) < ((R.length : Nat) : Int)))) [.book R, .dat (.int (R.length : Nat)), .dat aS]) := op_ok (as := [none, some (.int (R.length : Nat))]) (ds := [.int (R.length : Nat), .int (R.length : Nat)]) (run_sl (i := 1) rfl (run_ex row_len (show runA [] _ = some (.ok [] _) from rfl))) rfl rfl
  rw [decide_eq_false (by omega)] at c2
  have c3 : datM (callV F_is_stroke_3746 [.sl 2]) [.book R, .dat (.int (R.length : Nat)), .dat aS] = some (.ok (.bool true) [.book R, .dat (.int (R.length : Nat)), .dat aS]) := by
    have := datM_ok (call_pure (os := [.sl 2]) (env := [.book R, .dat (.int (R.length : Nat)), .dat aS]) (as := [none]) (ss := [.dat aS]) rfl rfl rfl (stroke_any aS_line.row.2) rfl)
    rw [aS_line.row.1] at this
    exact this
  refine seq_nx' (if_no (or_n1 (nb_ok (b := true) (bm_ok c1)) (bm_ok c2)) rfl) (seq_nx' (if_no (nb_ok (b := true) (bm_ok c3)) rfl) ?_)
  have c4 : mutRow 0 qInsert [.sl 1, .sl 2] [.book R, .dat (.int (R.length : Nat)), .dat aS] = some (.ok .none [.book (R.take (R.length) ++ [aS] ++ R.drop (R.length)), .dat (.int (R.length : Nat)), .dat aS]) := by
    show (qInsert R [.int (R.length : Nat), aS]).map _ = _
    have q : qInsert R [.int (R.length : Nat), aS] = some (.none, R.take (R.length) ++ [aS] ++ R.drop (R.length)) := if_pos ⟨by omega, by omega, by omega⟩
    rw [q]; rfl
  exact (bind_ok c4).trans rfl
theorem take0_ok {x : D} {R : List D} (lR : (x :: R).length ≤ 1000) : F_Book_take_d1bd [.book (x :: R), .dat (.int 0)] = some (.ok (.dat x) [.book R, .dat (.int 0)]) := by
  refine body_rt (e := [.book R, .dat (.int 0)]) ?_ rfl
  show m_Book_take_d1bd [.book (x :: R), .dat (.int 0)] = _
  unfold m_Book_take_d1bd
  have c1 : datM (callV (withDef [.int 0] F_is_whole_8291) [.sl 1]) [.book (x :: R), .dat (.int 0)] = some (.ok (.bool true) [.book (x :: R), .dat (.int 0)]) := datM_ok (call_pure (as := [none]) (ss := [.dat (.int 0)]) rfl rfl rfl (whole_def (.int 0)) rfl)
  have c2 : opM true geD [.sl 1, .ex (opRow lenD 0)] [.book (x :: R), .dat (.int 0)] = some (.ok (.bool (decide ((((x :: R).length : Nat) : Int) ≤ 0))) [.book (x :: R), .dat (.int 0)]) := op_ok (as := [none, some (.int ((x :: R).length : Nat))]) (ds := [.int 0, .int ((x :: R).length : Nat)]) (run_sl (i := 1) rfl (run_ex row_len (show runA [] _ = some (.ok [] _) from rfl))) rfl rfl
  rw [decide_eq_false (by simp only [List.length_cons]; omega)] at c2
  refine seq_nx' (if_no (or_n1 (nb_ok (b := true) (bm_ok c1)) (bm_ok c2)) rfl) (ret_o ?_)
  show (qPopAt (x :: R) [.int 0]).map _ = _
  have q : qPopAt (x :: R) [.int 0] = some (x, R) := by
    have i0 : L2.ixN (x :: R).length 0 = some 0 := by
      unfold L2.ixN
      rw [if_pos (by decide), if_pos (by simp)]; rfl
    show (match L2.ixN (x :: R).length 0 with
    | some k => match (x :: R)[k]? with
      | some y => if (x :: R).length < 1000000 then some (y, (x :: R).eraseIdx k) else none
      | none => none
    | none => none) = _
    rw [i0]
    show (if (x :: R).length < 1000000 then _ else _) = _
    rw [if_pos (by omega)]; rfl
  rw [q]; rfl
theorem eq_0 {e : En} {i : Nat} {j : Int} (h : e[i]? = some (.dat (.int j))) : boolM (opM true eqD [.sl i, .ex (M.ret (.int 0))]) e = some (.ok (decide (j = 0)) e) :=
  bm_ok (op_ok (as := [none, some (.int 0)]) (ds := [.int j, .int 0]) (run_sl (held_dat h) (run_ex rfl (show runA [] _ = some (.ok [] _) from rfl))) (by simp only [getA, look, h]; rfl) (eq_int j 0))
theorem lay_bools : ∀ cs : List Bool, PyData.canLayAll0 (cs.map PyData.bool) = true ∧ PyData.depthAll (cs.map PyData.bool) ≤ 0 ∧ PyData.eqvAll (cs.map PyData.bool) (cs.map PyData.bool) = true
  | [] => ⟨by simp [PyData.canLayAll0], by simp [PyData.depthAll], by simp [PyData.eqvAll]⟩
  | c :: cs => by
    obtain ⟨a, b, e⟩ := lay_bools cs
    refine ⟨by simp [PyData.canLayAll0, PyData.canLay0, a], by simp [PyData.depthAll, PyData.depth]; omega, by simp [PyData.eqvAll, PyData.eqv, e]⟩
theorem ne_bools (cs : List Bool) : neD [.list (cs.map PyData.bool), .list (cs.map PyData.bool)] = some (.bool false) := by
  obtain ⟨a, b, e⟩ := lay_bools cs
  have s : SeqAt.shaped (.list (cs.map PyData.bool)) = true := by
    have e : (PyData.list (cs.map PyData.bool)).depth ≤ 64 := by simp only [PyData.depth]; omega
    unfold SeqAt.shaped
    simp only [PyData.canLay0, a, Bool.true_and, e, decide_true, Bool.and_self]
  rw [ne_ok s s]
  simp only [PyData.eqv, e]
  rfl
theorem ge_mem {n : Nat} {d : D} (h : d ∈ rangeL 0 n) : ∃ j : Int, d = .int j ∧ 0 ≤ j := by
  obtain ⟨j, e, a, _⟩ := range_mem h
  exact ⟨j, e, a⟩
def leB (n : Int) : D → Bool
  | .int j => decide (j ≤ n)
  | _ => false
theorem look1 {n j : Int} (h : 0 ≤ j) : looksB n (.tuple [.tuple [.int j, .int 0, .int 0]]) = leB n (.int j) := by
  show (true && ((((decide (0 ≤ j) && decide (j ≤ n))) && true) && true)) = decide (j ≤ n)
  rw [decide_eq_true h]; simp
@[reducible] def bkE (e0 s t b ls n sm th x8 x9 x10 x11 : Sl) (R : List D) (x13 x14 : Sl) : En := [e0, s, t, b, ls, n, sm, th, x8, x9, x10, x11, .book R, x13, x14]
theorem len12 {e0 s t b ls n sm th x8 x9 x10 x11 x13 x14 : Sl} {R : List D} (lR : R.length ≤ 1000) : DL.lenB 12 F_Book___len___5744 (bkE e0 s t b ls n sm th x8 x9 x10 x11 R x13 x14) = some (.ok (.int (R.length : Nat)) (bkE e0 s t b ls n sm th x8 x9 x10 x11 R x13 x14)) := lenB_ok rfl (by omega) rfl
theorem le_loop {e0 s t b ls n sm th x8 x9 x10 x11 x13 : Sl} {R : List D} (lR : R.length ≤ 1000) : ∀ ds : List D, (∀ d ∈ ds, ∃ j : Int, d = .int j ∧ 0 ≤ j) →
    compL [14] (setT 14) (M.ret true) (opM true leD [.sl 14, .ex (DL.lenB 12 F_Book___len___5744)]) ds (bkE e0 s t b ls n sm th x8 x9 x10 x11 R x13 .non) = some (.ok ((ds.map (leB (R.length : Nat))).map PyData.bool) (bkE e0 s t b ls n sm th x8 x9 x10 x11 R x13 .non))
  | [], _ => rfl
  | d :: ds, h => by
    obtain ⟨j, rfl, j0⟩ := h d (List.mem_cons_self ..)
    have he : opM true leD [.sl 14, .ex (DL.lenB 12 F_Book___len___5744)] (bkE e0 s t b ls n sm th x8 x9 x10 x11 R x13 (.dat (.int j))) = some (.ok (.bool (leB (R.length : Nat) (.int j))) (bkE e0 s t b ls n sm th x8 x9 x10 x11 R x13 (.dat (.int j)))) :=
      op_ok (as := [none, some (.int (R.length : Nat))]) (ds := [.int j, .int (R.length : Nat)]) (run_sl (i := 14) rfl (run_ex (len12 lR) (show runA [] _ = some (.ok [] _) from rfl))) rfl rfl
    exact comp_cons (e1 := bkE e0 s t b ls n sm th x8 x9 x10 x11 R x13 (.dat (.int j))) rfl rfl rfl he (le_loop lR ds fun x hx => h x (List.mem_cons_of_mem _ hx))
theorem lines_okN {k n : Nat} {s : Sl} {B : List Int} {T : List D} (hn : n ≤ 20) (h : PenE (k + 5 * n + 1) s) (hB : BendsOk B) (hT : ∀ d ∈ T, Tone d) (lT : T.length ≤ 3) (l1 : 1 ≤ T.length) :
    ∃ (s' : Sl) (L : List D), F_law_e_lines_867a [s, .dat (.list (B.map .int)), .dat (.list T), .dat (.int n)] = some (.ok (.lst L) [s', .dat (.list (B.map .int)), .dat (.list T), .dat (.int n)]) ∧ PenE k s' ∧ (∀ x ∈ L, Line x) ∧ L.length ≤ n := by
  obtain ⟨s1, d, e, p1, d0, d1⟩ := take_in (k := k + 5 * n) (i := 0) (s := s) (o := (n : Int) + 1) (m := opM true addD [.sl 3, .ex (M.ret (.int 1))]) (env := [s, .dat (.list (B.map .int)), .dat (.list T), .dat (.int n), .lst [], .non, .non, .non, .non, .non]) rfl rfl h (by omega) (by omega)
  obtain ⟨j, rfl⟩ := Int.eq_ofNat_of_zero_le d0
  obtain ⟨s2, y5, y6, y7, y8, y9, R, f, p2, hR, lR⟩ := line_loop (m := .dat (.int n)) hB hT lT l1 (rangeL 0 j) (k := k) (s := s1) (x5 := .non) (x6 := .non) (x7 := .non) (x8 := .non) (x9 := .non) (L := []) (p1.mono (by rw [rangeL_len]; omega)) rfl rfl rfl rfl rfl (by rw [rangeL_len]; simp; omega) (fun _ h => nomatch h)
  rw [rangeL_len, List.length_nil] at lR
  refine ⟨s2, R, body_rt (e := [s2, .dat (.list (B.map .int)), .dat (.list T), .dat (.int n), .lst R, y5, y6, y7, y8, y9]) ?_ ?_, p2, hR, by omega⟩
  · show m_law_e_lines_867a [s, .dat (.list (B.map .int)), .dat (.list T), .dat (.int n), .non, .non, .non, .non, .non, .non] = _
    unfold m_law_e_lines_867a
    refine seq_nx' (e' := [s, .dat (.list (B.map .int)), .dat (.list T), .dat (.int n), .lst [], .non, .non, .non, .non, .non]) rfl ?_
    refine seq_nx' (for_ok (range_in (n := j) e (by omega)) f) rfl
  · obtain ⟨_, _, _, rfl, _⟩ := h
    obtain ⟨_, _, _, rfl, _⟩ := p2
    rfl
theorem put_okN {R : List D} {i : Nat} {y : D} (hi : i ≤ R.length) (lR : R.length ≤ 1000) (hy : Line y) : F_Book_put_4d53 [.book R, .dat (.int (i : Nat)), .dat y] = some (.ok (.dat .none) [.book (R.take i ++ [y] ++ R.drop i), .dat (.int (i : Nat)), .dat y]) := by
  refine body_nx (e := [.book (R.take i ++ [y] ++ R.drop i), .dat (.int (i : Nat)), .dat y]) ?_ rfl
  show m_Book_put_4d53 [.book R, .dat (.int (i : Nat)), .dat y] = _
  unfold m_Book_put_4d53
  have c1 : datM (callV (withDef [.int 0] F_is_whole_8291) [.sl 1]) [.book R, .dat (.int (i : Nat)), .dat y] = some (.ok (.bool true) [.book R, .dat (.int (i : Nat)), .dat y]) := by
    have := datM_ok (call_pure (os := [.sl 1]) (env := [.book R, .dat (.int (i : Nat)), .dat y]) (as := [none]) (ss := [.dat (.int (i : Nat))]) rfl rfl rfl (whole_def (.int (i : Nat))) rfl)
    have w : wholeB (.int (i : Nat)) = true := by
      show decide ((0 : Int) ≤ (i : Int)) = true
      exact decide_eq_true (by omega)
    rw [w] at this
    exact this
  have c2 : opM true gtD [.sl 1, .ex (opRow lenD 0)] [.book R, .dat (.int (i : Nat)), .dat y] = some (.ok (.bool (decide (((R.length : Nat) : Int) < (i : Int)))) [.book R, .dat (.int (i : Nat)), .dat y]) := op_ok (as := [none, some (.int (R.length : Nat))]) (ds := [.int (i : Nat), .int (R.length : Nat)]) (run_sl (i := 1) rfl (run_ex row_len (show runA [] _ = some (.ok [] _) from rfl))) rfl rfl
  rw [decide_eq_false (by omega)] at c2
  have c3 : datM (callV F_is_stroke_3746 [.sl 2]) [.book R, .dat (.int (i : Nat)), .dat y] = some (.ok (.bool true) [.book R, .dat (.int (i : Nat)), .dat y]) := by
    have := datM_ok (call_pure (os := [.sl 2]) (env := [.book R, .dat (.int (i : Nat)), .dat y]) (as := [none]) (ss := [.dat y]) rfl rfl rfl (stroke_any hy.row.2) rfl)
    rw [hy.row.1] at this
    exact this
  refine seq_nx' (if_no (or_n1 (nb_ok (b := true) (bm_ok c1)) (bm_ok c2)) rfl) (seq_nx' (if_no (nb_ok (b := true) (bm_ok c3)) rfl) ?_)
  have c4 : mutRow 0 qInsert [.sl 1, .sl 2] [.book R, .dat (.int (i : Nat)), .dat y] = some (.ok .none [.book (R.take i ++ [y] ++ R.drop i), .dat (.int (i : Nat)), .dat y]) := by
    show (qInsert R [.int (i : Nat), y]).map _ = _
    have q : qInsert R [.int (i : Nat), y] = some (.none, R.take i ++ [y] ++ R.drop i) := if_pos ⟨by omega, by omega, by omega⟩
    rw [q]; rfl
  exact (bind_ok c4).trans rfl
theorem popAt_ok {R : List D} {i : Nat} (hi : i < R.length) (lR : R.length ≤ 1000) : qPopAt R [.int (i : Nat)] = some (R[i], R.eraseIdx i) := by
  have i0 : L2.ixN R.length ((i : Nat) : Int) = some i := by
    unfold L2.ixN
    rw [if_pos (Int.natCast_nonneg i), if_pos (by omega)]; rfl
  show (match L2.ixN R.length ((i : Nat) : Int) with
    | some k => match R[k]? with
      | some y => if R.length < 1000000 then some (y, R.eraseIdx k) else none
      | none => none
    | none => none) = _
  rw [i0]
  dsimp only
  rw [List.getElem?_eq_getElem hi]
  dsimp only
  rw [if_pos (by omega)]
theorem take_okN {R : List D} {i : Nat} (hi : i < R.length) (lR : R.length ≤ 1000) : F_Book_take_d1bd [.book R, .dat (.int (i : Nat))] = some (.ok (.dat R[i]) [.book (R.eraseIdx i), .dat (.int (i : Nat))]) := by
  refine body_rt (e := [.book (R.eraseIdx i), .dat (.int (i : Nat))]) ?_ rfl
  show m_Book_take_d1bd [.book R, .dat (.int (i : Nat))] = _
  unfold m_Book_take_d1bd
  have c1 : datM (callV (withDef [.int 0] F_is_whole_8291) [.sl 1]) [.book R, .dat (.int (i : Nat))] = some (.ok (.bool true) [.book R, .dat (.int (i : Nat))]) := by
    have := datM_ok (call_pure (os := [.sl 1]) (env := [.book R, .dat (.int (i : Nat))]) (as := [none]) (ss := [.dat (.int (i : Nat))]) rfl rfl rfl (whole_def (.int (i : Nat))) rfl)
    have w : wholeB (.int (i : Nat)) = true := by
      show decide ((0 : Int) ≤ (i : Int)) = true
      exact decide_eq_true (by omega)
    rw [w] at this
    exact this
  have c2 : opM true geD [.sl 1, .ex (opRow lenD 0)] [.book R, .dat (.int (i : Nat))] = some (.ok (.bool (decide (((R.length : Nat) : Int) ≤ (i : Int)))) [.book R, .dat (.int (i : Nat))]) := op_ok (as := [none, some (.int (R.length : Nat))]) (ds := [.int (i : Nat), .int (R.length : Nat)]) (run_sl (i := 1) rfl (run_ex row_len (show runA [] _ = some (.ok [] _) from rfl))) rfl rfl
  rw [decide_eq_false (by omega)] at c2
  refine seq_nx' (if_no (or_n1 (nb_ok (b := true) (bm_ok c1)) (bm_ok c2)) rfl) (ret_o ?_)
  show (qPopAt R [.int (i : Nat)]).map _ = _
  rw [popAt_ok hi lR]; rfl
theorem Line.fn {x : D} (b : Bool) (h : Line x) : Fn b 4 400 x := by
  obtain ⟨a, c, t, rfl, a0, ac, c1, ht⟩ := h.is
  obtain ⟨f, tt⟩ := co_fn (b := b) (Or.inr ht)
  exact (tri_im ((int_fn (by omega)).mono (by decide) (by decide)) ((int_fn (by omega)).mono (by decide) (by decide)) (f.mono (by decide) (by decide)) tt).fn
theorem Line.pl {x : D} (h : Line x) : Pl 4 400 x := by
  have f := h.fn false
  exact ⟨f.kn, f.dep, f.sh, f.len, f.ok⟩
theorem lines_shaped {L : List D} (hL : ∀ x ∈ L, Line x) : SeqAt.shaped (.list L) = true := (Pl.list fun x hx => (hL x hx).pl).shaped (by decide)
theorem bends_new {B : List Int} (hB : BendsOk B) : ∃ b0, L2.atI (B.map PyData.int) 0 = some (.int b0) ∧ ∀ y ∈ B, Line (.tuple [.int b0, .int y, .str "new"]) := by
  obtain ⟨ne, up, on, _⟩ := hB
  cases B with
  | nil => exact absurd rfl ne
  | cons b0 r =>
    refine ⟨b0, atI_nat (i := 0) rfl, fun y hy => ⟨b0, y, .str "new", rfl, (on b0 (List.mem_cons_self ..)).1, ?_, (on y hy).2, tone_const (by decide +kernel)⟩⟩
    rcases List.mem_cons.mp hy with q | q
    · rw [q]; exact Int.le_refl _
    · exact Int.le_of_lt ((List.pairwise_cons.mp up).1 y q)
noncomputable def popM : M O := (seqM (asgM (datM (callV F_law_e_take_2efe [.sl 0, .ex (opM true lenD [.sl 2])])) (setT 5))
  (seqM (exprM (mutM 2 qPopAt [.sl 5]))
  (exprM (datM (callB 1 F_Book_take_d1bd [.sl 5])))))
theorem pop_part {k : Nat} {s b x4 x5 : Sl} {L : List D} (h : PenE (k + 1) s) (hL : ∀ x ∈ L, Line x) (lL : L.length ≤ 100) (ne : L ≠ []) (h5 : x5.owns = false) :
    ∃ (s' : Sl) (i : Nat), popM [s, .book L, .lst L, b, x4, x5] = some (.ok .nx [s', .book (L.eraseIdx i), .lst (L.eraseIdx i), b, x4, .dat (.int (i : Nat))]) ∧ PenE k s' ∧ i < L.length := by
  have ps : 0 < L.length := List.length_pos_iff.mpr ne
  obtain ⟨s1, d, e, p1, d0, d1⟩ := take_in (k := k) (i := 0) (s := s) (o := L.length) (m := opM true lenD [.sl 2]) (env := [s, .book L, .lst L, b, x4, x5]) rfl rfl h (by omega) (by omega)
  obtain ⟨i, rfl⟩ := Int.eq_ofNat_of_zero_le d0
  have hi : i < L.length := by omega
  refine ⟨s1, i, ?_, p1, hi⟩
  unfold popM
  refine seq_nx' (asg_ok e (setT_ok (s := x5) rfl h5)) ?_
  have m1 : mutM 2 qPopAt [.sl 5] [s1, .book L, .lst L, b, x4, .dat (.int (i : Nat))] = some (.ok L[i] [s1, .book L, .lst (L.eraseIdx i), b, x4, .dat (.int (i : Nat))]) := by
    show (qPopAt L [.int (i : Nat)]).map _ = _
    rw [popAt_ok hi (by omega)]; rfl
  refine seq_nx' ((bind_ok m1).trans rfl) ?_
  have m2 : callB 1 F_Book_take_d1bd [.sl 5] [s1, .book L, .lst (L.eraseIdx i), b, x4, .dat (.int (i : Nat))] = some (.ok (.dat L[i]) [s1, .book (L.eraseIdx i), .lst (L.eraseIdx i), b, x4, .dat (.int (i : Nat))]) :=
    call_book2 (as := [none]) (ss := [.dat (.int (i : Nat))]) rfl (run_sl (i := 5) rfl (show runA [] _ = some (.ok [] _) from rfl)) rfl rfl rfl (take_okN hi (by omega))
  exact (bind_ok (datM_ok m2)).trans rfl
noncomputable def insM : M O := (seqM (asgM (datM (callV F_law_e_take_2efe [.sl 0, .ex (opM true addD [.ex (opM true lenD [.sl 2]), .ex (M.ret (.int 1))])])) (setT 5))
  (seqM (exprM (mutM 2 qInsert [.sl 5, .ex (tupM [.ex (opM true ixD [.sl 3, .ex (M.ret (.int 0))]), .ex (opM true ixD [.sl 3, .ex (datM (callV F_law_e_take_2efe [.sl 0, .ex (opM true lenD [.sl 3])]))]), .ex (M.ret (.str "new"))])]))
  (exprM (datM (callB 1 F_Book_put_4d53 [.sl 5, .ex (opM true ixD [.sl 2, .sl 5])])))))
theorem ins_part {k : Nat} {s x4 x5 : Sl} {L : List D} {B : List Int} (h : PenE (k + 2) s) (hB : BendsOk B) (hL : ∀ x ∈ L, Line x) (lL : L.length ≤ 100) (h5 : x5.owns = false) :
    ∃ (s' : Sl) (i : Nat) (y : D), insM [s, .book L, .lst L, .dat (.list (B.map .int)), x4, x5] = some (.ok .nx [s', .book (L.take i ++ [y] ++ L.drop i), .lst (L.take i ++ [y] ++ L.drop i), .dat (.list (B.map .int)), x4, .dat (.int (i : Nat))]) ∧ PenE k s' ∧ i ≤ L.length ∧ Line y := by
  obtain ⟨s1, d, e, p1, d0, d1⟩ := take_in (k := k + 1) (i := 0) (s := s) (o := (L.length : Int) + 1) (m := opM true addD [.ex (opM true lenD [.sl 2]), .ex (M.ret (.int 1))]) (env := [s, .book L, .lst L, .dat (.list (B.map .int)), x4, x5]) rfl rfl h (by omega) (by omega)
  obtain ⟨i, rfl⟩ := Int.eq_ofNat_of_zero_le d0
  have hi : i ≤ L.length := by omega
  have pb : 0 < B.length := List.length_pos_iff.mpr hB.ne
  have lb := hB.len
  obtain ⟨s2, j, e2, p2, j0, j1⟩ := take_in (k := k) (i := 0) (s := s1) (o := B.length) (m := opM true lenD [.sl 3]) (env := [s1, .book L, .lst L, .dat (.list (B.map .int)), x4, .dat (.int (i : Nat))]) rfl (by
    show some (Rs.ok (PyData.int (((B.map PyData.int).length : Nat) : Int)) _) = _
    rw [List.length_map]) p1 (by omega) (by omega)
  obtain ⟨u, mu, eu⟩ := ints_at (L := B) j0 j1
  obtain ⟨b0, eb, hb⟩ := bends_new hB
  refine ⟨s2, i, .tuple [.int b0, .int u, .str "new"], ?_, p2, hi, hb u mu⟩
  have hy := hb u mu
  obtain ⟨y, ey⟩ : ∃ y, y = PyData.tuple [.int b0, .int u, .str "new"] := ⟨_, rfl⟩
  unfold insM
  refine seq_nx' (asg_ok e (setT_ok (s := x5) rfl h5)) ?_
  have q1 : opM true ixD [.sl 3, .ex (M.ret (.int 0))] [s1, .book L, .lst L, .dat (.list (B.map .int)), x4, .dat (.int (i : Nat))] = some (.ok (.int b0) [s1, .book L, .lst L, .dat (.list (B.map .int)), x4, .dat (.int (i : Nat))]) := op_ok (as := [none, some (.int 0)]) (ds := [.list (B.map .int), .int 0]) rfl rfl eb
  have q2 : opM true ixD [.sl 3, .ex (datM (callV F_law_e_take_2efe [.sl 0, .ex (opM true lenD [.sl 3])]))] [s1, .book L, .lst L, .dat (.list (B.map .int)), x4, .dat (.int (i : Nat))] = some (.ok (.int u) [s2, .book L, .lst L, .dat (.list (B.map .int)), x4, .dat (.int (i : Nat))]) :=
    op_ok (as := [none, some (.int j)]) (ds := [.list (B.map .int), .int j]) (run_sl (i := 3) rfl (run_ex e2 (show runA [] _ = some (.ok [] _) from rfl))) rfl eu
  have q3 : tupM [.ex (opM true ixD [.sl 3, .ex (M.ret (.int 0))]), .ex (opM true ixD [.sl 3, .ex (datM (callV F_law_e_take_2efe [.sl 0, .ex (opM true lenD [.sl 3])]))]), .ex (M.ret (.str "new"))] [s1, .book L, .lst L, .dat (.list (B.map .int)), x4, .dat (.int (i : Nat))] = some (.ok y [s2, .book L, .lst L, .dat (.list (B.map .int)), x4, .dat (.int (i : Nat))]) := by
    rw [ey]
    unfold tupM
    exact (bind_ok (run_ex q1 (run_ex q2 (run_ex rfl (show runA [] _ = some (.ok [] _) from rfl))))).trans rfl
  rw [← ey] at hy ⊢
  have m1 : mutM 2 qInsert [.sl 5, .ex (tupM [.ex (opM true ixD [.sl 3, .ex (M.ret (.int 0))]), .ex (opM true ixD [.sl 3, .ex (datM (callV F_law_e_take_2efe [.sl 0, .ex (opM true lenD [.sl 3])]))]), .ex (M.ret (.str "new"))])] [s1, .book L, .lst L, .dat (.list (B.map .int)), x4, .dat (.int (i : Nat))] = some (.ok .none [s2, .book L, .lst (L.take i ++ [y] ++ L.drop i), .dat (.list (B.map .int)), x4, .dat (.int (i : Nat))]) := by
    show M.bind (runA [.sl 5, .ex _]) _ [s1, .book L, .lst L, .dat (.list (B.map .int)), x4, .dat (.int (i : Nat))] = _
    refine (bind_ok (run_sl (i := 5) rfl (run_ex q3 (show runA [] _ = some (.ok [] _) from rfl)))).trans ?_
    show (qInsert L [.int (i : Nat), y]).map _ = _
    have q : qInsert L [.int (i : Nat), y] = some (.none, L.take i ++ [y] ++ L.drop i) := if_pos ⟨by omega, by omega, by omega⟩
    rw [q]; rfl
  refine seq_nx' ((bind_ok m1).trans rfl) ?_
  have ix : opM true ixD [.sl 2, .sl 5] [s2, .book L, .lst (L.take i ++ [y] ++ L.drop i), .dat (.list (B.map .int)), x4, .dat (.int (i : Nat))] = some (.ok y [s2, .book L, .lst (L.take i ++ [y] ++ L.drop i), .dat (.list (B.map .int)), x4, .dat (.int (i : Nat))]) := by
    refine op_ok (as := [none, none]) (ds := [.list (L.take i ++ [y] ++ L.drop i), .int (i : Nat)]) rfl rfl (atI_nat ?_)
    rw [List.append_assoc, List.getElem?_append_right (by rw [List.length_take]; omega), List.length_take, Nat.min_eq_left hi, Nat.sub_self]; rfl
  have m2 : callB 1 F_Book_put_4d53 [.sl 5, .ex (opM true ixD [.sl 2, .sl 5])] [s2, .book L, .lst (L.take i ++ [y] ++ L.drop i), .dat (.list (B.map .int)), x4, .dat (.int (i : Nat))] = some (.ok (.dat .none) [s2, .book (L.take i ++ [y] ++ L.drop i), .lst (L.take i ++ [y] ++ L.drop i), .dat (.list (B.map .int)), x4, .dat (.int (i : Nat))]) :=
    call_book2 (as := [none, some y]) (ss := [.dat (.int (i : Nat)), .dat y]) rfl (run_sl (i := 5) rfl (run_ex ix (show runA [] _ = some (.ok [] _) from rfl))) rfl rfl rfl (put_okN hi (by omega) hy)
  exact (bind_ok (datM_ok m2)).trans rfl
theorem exchanged_ok {k : Nat} {s : Sl} {L : List D} {B : List Int} (h : PenE (k + 4) s) (hB : BendsOk B) (hL : ∀ x ∈ L, Line x) (lL : L.length ≤ 50) :
    ∃ (s' : Sl) (L' : List D), F_law_e_exchanged_cdac [s, .book L, .lst L, .dat (.list (B.map .int))] = some (.ok (.dat .none) [s', .book L', .lst L', .dat (.list (B.map .int))]) ∧ PenE k s' ∧ (∀ x ∈ L', Line x) ∧ L'.length ≤ L.length + 1 := by
  obtain ⟨s1, d, e, p1, d0, d1⟩ := take_in (k := k + 3) (i := 0) (s := s) (o := 3) (m := M.ret (.int 3)) (env := [s, .book L, .lst L, .dat (.list (B.map .int)), .non, .non]) rfl rfl h (by decide) (by decide)
  -- the first part
  have n0 : boolM (opM true neD [.sl 2, .ex (listD (dispM []))]) [s1, .book L, .lst L, .dat (.list (B.map .int)), .dat (.int d), .non] = some (.ok (decide (L ≠ [])) [s1, .book L, .lst L, .dat (.list (B.map .int)), .dat (.int d), .non]) := by
    refine bm_ok (op_ok (as := [none, some (.list [])]) (ds := [.list L, .list []]) rfl rfl ?_)
    rw [ne_ok (lines_shaped hL) shaped_nil]
    cases L with
    | nil => rfl
    | cons x r => rfl
  have n1 : boolM (opM true ltD [.sl 4, .ex (M.ret (.int 2))]) [s1, .book L, .lst L, .dat (.list (B.map .int)), .dat (.int d), .non] = some (.ok (decide (d < 2)) [s1, .book L, .lst L, .dat (.list (B.map .int)), .dat (.int d), .non]) := bm_ok rfl
  have n2 := and_b n0 (fun _ => n1)
  obtain ⟨s2, L2, y5, e2, p2, h2, l2, o5⟩ : ∃ (s2 : Sl) (L2 : List D) (y5 : Sl), ifM (andB (boolM (opM true neD [.sl 2, .ex (listD (dispM []))])) (boolM (opM true ltD [.sl 4, .ex (M.ret (.int 2))]))) popM (nxM) [s1, .book L, .lst L, .dat (.list (B.map .int)), .dat (.int d), .non] = some (.ok .nx [s2, .book L2, .lst L2, .dat (.list (B.map .int)), .dat (.int d), y5]) ∧ PenE (k + 2) s2 ∧ (∀ x ∈ L2, Line x) ∧ L2.length ≤ L.length ∧ y5.owns = false := by
    rw [if_ok n2]
    by_cases z : (decide (L ≠ []) && decide (d < 2)) = true
    · rw [if_pos z]
      have zz := (Bool.and_eq_true _ _).mp z
      obtain ⟨s2, i, e2, p2, hi⟩ := pop_part (k := k + 2) (s := s1) (b := .dat (.list (B.map .int))) (x4 := .dat (.int d)) (x5 := .non) p1 hL (by omega) (of_decide_eq_true zz.1) rfl
      exact ⟨s2, _, _, e2, p2, fun x hx => hL x (List.mem_of_mem_eraseIdx hx), List.length_eraseIdx_le .., rfl⟩
    · rw [if_neg z]
      exact ⟨s1, L, .non, rfl, p1.mono (by omega), hL, Nat.le_refl _, rfl⟩
  have n3 : boolM (opM true neD [.sl 4, .ex (M.ret (.int 1))]) [s2, .book L2, .lst L2, .dat (.list (B.map .int)), .dat (.int d), y5] = some (.ok (!decide (d = 1)) [s2, .book L2, .lst L2, .dat (.list (B.map .int)), .dat (.int d), y5]) := by
    refine bm_ok (op_ok (as := [none, some (.int 1)]) (ds := [.int d, .int 1]) rfl rfl ?_)
    rw [ne_ok (shaped_int d) (shaped_int 1)]
    simp only [PyData.eqv]
    rfl
  obtain ⟨s3, L3, y, e3, p3, h3, l3⟩ : ∃ (s3 : Sl) (L3 : List D) (y : Sl), ifM (boolM (opM true neD [.sl 4, .ex (M.ret (.int 1))])) insM (nxM) [s2, .book L2, .lst L2, .dat (.list (B.map .int)), .dat (.int d), y5] = some (.ok .nx [s3, .book L3, .lst L3, .dat (.list (B.map .int)), .dat (.int d), y]) ∧ PenE k s3 ∧ (∀ x ∈ L3, Line x) ∧ L3.length ≤ L2.length + 1 := by
    rw [if_ok n3]
    by_cases z : (!decide (d = 1)) = true
    · rw [if_pos z]
      obtain ⟨s3, i, y, e3, p3, hi, hy⟩ := ins_part (k := k) (s := s2) (x4 := .dat (.int d)) (x5 := y5) p2 hB h2 (by omega) o5
      refine ⟨s3, _, _, e3, p3, fun x hx => ?_, ?_⟩
      · rcases List.mem_append.mp hx with q | q
        · rcases List.mem_append.mp q with q | q
          · exact h2 x (List.mem_of_mem_take q)
          · rw [List.mem_singleton.mp q]; exact hy
        · exact h2 x (List.mem_of_mem_drop q)
      · rw [List.length_append, List.length_append, List.length_take, List.length_singleton, List.length_drop]; omega
    · rw [if_neg z]
      exact ⟨s2, L2, y5, rfl, p2.mono (by omega), h2, by omega⟩
  refine ⟨s3, L3, body_nx (e := [s3, .book L3, .lst L3, .dat (.list (B.map .int)), .dat (.int d), y]) ?_ ?_, p3, h3, by omega⟩
  · show m_law_e_exchanged_cdac [s, .book L, .lst L, .dat (.list (B.map .int)), .non, .non] = _
    unfold m_law_e_exchanged_cdac
    exact seq_nx' (asg_ok e (g := setT 4) (e2 := [s1, .book L, .lst L, .dat (.list (B.map .int)), .dat (.int d), .non]) rfl) (seq_nx' e2 e3)
  · obtain ⟨_, _, _, rfl, _⟩ := h
    obtain ⟨_, _, _, rfl, _⟩ := p3
    rfl
def covB (p : Int) : D → Bool
  | .tuple [.int a, .int b, _] => decide (a ≤ p) && decide (p ≤ b)
  | _ => false
def oversL (p : Int) : Nat → List D → List Int
  | _, [] => []
  | i, x :: xs => if covB p x = true then (i : Int) :: oversL p (i + 1) xs else oversL p (i + 1) xs
def lastD (p : Int) : Nat → D → List D → D
  | _, f, [] => f
  | i, f, x :: xs => lastD p (i + 1) (if covB p x = true then .int (i : Int) else f) xs
def headD (f : D) : List Int → D
  | [] => f
  | i :: _ => .int i
theorem last_eq {p : Int} : ∀ (xs : List D) (i : Nat) (f : D), lastD p i f xs = headD f (oversL p i xs).reverse
  | [], _, _ => rfl
  | x :: xs, i, f => by
    show lastD p (i + 1) (if covB p x = true then .int (i : Int) else f) xs = headD f (if covB p x = true then (i : Int) :: oversL p (i + 1) xs else oversL p (i + 1) xs).reverse
    by_cases h : covB p x = true
    · rw [if_pos h, if_pos h, last_eq xs (i + 1), List.reverse_cons]
      cases (oversL p (i + 1) xs).reverse <;> rfl
    · rw [if_neg h, if_neg h, last_eq xs (i + 1)]
theorem overs_mem {p : Int} : ∀ (xs : List D) (i : Nat), ∀ j ∈ oversL p i xs, 0 ≤ j ∧ j < i + xs.length
  | [], _, j, h => nomatch h
  | x :: xs, i, j, h => by
    have h' : j ∈ (if covB p x = true then (i : Int) :: oversL p (i + 1) xs else oversL p (i + 1) xs) := h
    rw [List.length_cons]
    split at h'
    · rcases List.mem_cons.mp h' with q | q
      · omega
      · have := overs_mem xs (i + 1) j q; omega
    · have := overs_mem xs (i + 1) j h'; omega
theorem overs_len {p : Int} : ∀ (xs : List D) (i : Nat), (oversL p i xs).length ≤ xs.length
  | [], _ => Nat.le_refl _
  | x :: xs, i => by
    show (if covB p x = true then (i : Int) :: oversL p (i + 1) xs else oversL p (i + 1) xs).length ≤ (x :: xs).length
    have := overs_len (p := p) xs (i + 1)
    split
    · rw [List.length_cons, List.length_cons]; omega
    · rw [List.length_cons]; omega
theorem strokes_ok {R : List D} : F_Book_strokes_0c4a [.book R] = some (.ok (.dat (.tuple R)) [.book R]) := rfl
/-- the moments of a book: None, or so many strokes -/
inductive Mom (n : Nat) : D → Prop where
  | all : Mom n .none
  | at_ (j : Nat) (h : j ≤ n) : Mom n (.int (j : Int))
def doneL (R : List D) : D → List D
  | .int j => R.take j.toNat
  | _ => R
theorem done_mem {R : List D} {w x : D} (h : x ∈ doneL R w) : x ∈ R := by
  cases w with
  | int j => exact List.mem_of_mem_take h
  | _ => exact h
theorem done_len (R : List D) (w : D) : (doneL R w).length ≤ R.length := by
  cases w with
  | int j =>
    show (R.take j.toNat).length ≤ R.length
    rw [List.length_take]; omega
  | _ => exact Nat.le_refl _
theorem done_ok {R : List D} {w : D} (lR : R.length ≤ 1000) (h : Mom R.length w) : F_done_by_bd12 [.book R, .dat w] = some (.ok (.dat (.tuple (doneL R w))) [.book R, .dat w]) := by
  have cs : ∀ w, datM (callB 0 F_Book_strokes_0c4a []) [.book R, .dat w] = some (.ok (.tuple R) [.book R, .dat w]) := fun w =>
    datM_ok (call_book2 (R := R) (R' := R) (os := []) (as := []) (ss := []) (env := [.book R, .dat w]) rfl rfl rfl rfl rfl strokes_ok)
  refine body_rt (e := [.book R, .dat w]) ?_ rfl
  show m_done_by_bd12 [.book R, .dat w] = _
  unfold m_done_by_bd12
  cases h with
  | all =>
    have c0 : boolM (opM true isND [.sl 1, .ex (M.ret .none)]) [.book R, .dat .none] = some (.ok true [.book R, .dat .none]) := bm_ok rfl
    refine seq_rt ?_
    rw [if_ok c0, if_pos rfl]
    exact ret_o (cs .none)
  | at_ j hj =>
    have c0 : boolM (opM true isND [.sl 1, .ex (M.ret .none)]) [.book R, .dat (.int (j : Int))] = some (.ok false [.book R, .dat (.int (j : Int))]) := bm_ok rfl
    refine seq_nx' (if_no c0 rfl) ?_
    have c1 : datM (callV F_is_moment_1ac7 [.sl 0, .sl 1]) [.book R, .dat (.int (j : Int))] = some (.ok (.bool (momB (R.length : Nat) (.int (j : Int)))) [.book R, .dat (.int (j : Int))]) := datM_ok (call_book (as := [none]) (ss := [.dat (.int (j : Int))]) rfl (run_sl rfl (show runA [] _ = some (.ok [] _) from rfl)) rfl rfl rfl rfl (moment_any lR _))
    have m1 : momB (R.length : Nat) (.int (j : Int)) = true := by
      show (decide ((0 : Int) ≤ (j : Int)) && decide ((j : Int) ≤ ((R.length : Nat) : Int))) = true
      rw [decide_eq_true (by omega), decide_eq_true (by omega)]; rfl
    rw [m1] at c1
    refine seq_nx' (if_no (nb_ok (b := true) (bm_ok c1)) rfl) (ret_o ?_)
    unfold sliceM
    refine (bind_ok (run_ex (cs (.int (j : Int))) (show runA [] _ = some (.ok [] _) from rfl))).trans ?_
    show some (Rs.ok (PyData.tuple (cutG R none (some (j : Int)))) _) = _
    rw [cut_lo R j hj]
    show _ = some (Rs.ok (PyData.tuple (R.take ((j : Int).toNat))) _)
    rw [Int.toNat_natCast]
theorem place_in {p : Int} (h0 : 0 ≤ p) (h1 : p ≤ 1000000000) : placeB (.int p) = true := by
  show (decide ((0 : Int) ≤ p) && decide (p ≤ 1000000000)) = true
  rw [decide_eq_true h0, decide_eq_true h1]; rfl
theorem le_chain {R : Sl} {p a b : Int} {w x3 x4 x7 : Sl} : boolM (chainM leD leD (.sl 5) (.sl 1) (.sl 6)) [R, .dat (.int p), w, x3, x4, .dat (.int a), .dat (.int b), x7] = some (.ok (decide (a ≤ p) && decide (p ≤ b)) [R, .dat (.int p), w, x3, x4, .dat (.int a), .dat (.int b), x7]) := by
  refine bm_ok ?_
  by_cases q : a ≤ p
  · have : decide (a ≤ p) = true := decide_eq_true q
    simp only [chainM, List.cons_append, List.nil_append, List.replicate, ifM, asgM, setM, DL.putAt, boolM, andB, orB, notB, nxM, M.bind, M.ret, opM, runA, getA, look, setT, retM, varM, addD, subD, gtD, ltD, leD, geD, DL.intD, lenD, ixD, held, List.getElem?_cons_zero, List.getElem?_cons_succ, Option.map_some, List.set_cons_zero, List.set_cons_succ, if_true, if_false, reduceCtorEq, Bool.false_eq_true, List.length_cons, List.length_nil, Nat.reduceAdd, exprM, mutM, dispM, listD, tupM, newM, Sl.open_, Sl.owns, this, List.drop, Option.map]
    rfl
  · have : decide (a ≤ p) = false := decide_eq_false q
    simp only [chainM, List.cons_append, List.nil_append, List.replicate, ifM, asgM, setM, DL.putAt, boolM, andB, orB, notB, nxM, M.bind, M.ret, opM, runA, getA, look, setT, retM, varM, addD, subD, gtD, ltD, leD, geD, DL.intD, lenD, ixD, held, List.getElem?_cons_zero, List.getElem?_cons_succ, Option.map_some, List.set_cons_zero, List.set_cons_succ, if_true, if_false, reduceCtorEq, Bool.false_eq_true, List.length_cons, List.length_nil, Nat.reduceAdd, exprM, mutM, dispM, listD, tupM, newM, Sl.open_, Sl.owns, this]
    rfl
theorem over_loop {R : Sl} {p : Int} {w : Sl} : ∀ (xs : List D) (i : Nat), (∀ x ∈ xs, Line x) →
    compL [4, 5, 6, 7] (tupT 2 (consT (setT 4) (consT (tupT 3 (consT (setT 5) (consT (setT 6) (consT (setT 7) (nilT))))) (nilT)))) (boolM (chainM leD leD (.sl 5) (.sl 1) (.sl 6))) (varM 4) (enumL i xs) [R, .dat (.int p), w, .non, .non, .non, .non, .non] = some (.ok ((oversL p i xs).map .int) [R, .dat (.int p), w, .non, .non, .non, .non, .non])
  | [], _, _ => rfl
  | x :: xs, i, h => by
    obtain ⟨a, b, co, rfl, _⟩ := (h x (List.mem_cons_self ..)).is
    have ih := over_loop (R := R) (p := p) (w := w) xs (i + 1) fun y hy => h y (List.mem_cons_of_mem _ hy)
    have hc := le_chain (R := R) (p := p) (a := a) (b := b) (w := w) (x3 := .non) (x4 := .dat (.int (i : Int))) (x7 := .dat co)
    show compL _ _ _ _ (.tuple [.int (i : Int), .tuple [.int a, .int b, co]] :: enumL (i + 1) xs) _ = some (Rs.ok ((if (decide (a ≤ p) && decide (p ≤ b)) = true then (i : Int) :: oversL p (i + 1) xs else oversL p (i + 1) xs).map PyData.int) _)
    by_cases q : (decide (a ≤ p) && decide (p ≤ b)) = true
    · rw [q] at hc
      rw [if_pos q]
      exact comp_cons (e1 := [R, .dat (.int p), w, .non, .dat (.int (i : Int)), .dat (.int a), .dat (.int b), .dat co]) rfl rfl hc rfl ih
    · rw [Bool.eq_false_iff.mpr q] at hc
      rw [if_neg q]
      exact comp_skip (e1 := [R, .dat (.int p), w, .non, .dat (.int (i : Int)), .dat (.int a), .dat (.int b), .dat co]) rfl rfl hc ih
theorem at_loop {L0 : Sl} {p : Int} : ∀ (xs : List D) (i : Nat) (f : D) {x3 x4 : Sl}, (∀ x ∈ xs, Line x) → x3.owns = false → x4.owns = false →
    ∃ y3 y4 : Sl, forL (tupT 2 (consT (setT 3) (consT (setT 4) (nilT)))) (ifM (boolM (chainM leD leD (.ex (opM true ixD [.sl 4, .ex (M.ret (.int 0))])) (.sl 1) (.ex (opM true ixD [.sl 4, .ex (M.ret (.int 1))])))) (asgM (varM 3) (setT 2)) (nxM)) (enumL i xs) [L0, .dat (.int p), .dat f, x3, x4] = some (.ok .nx [L0, .dat (.int p), .dat (lastD p i f xs), y3, y4])
  | [], i, f, x3, x4, _, _, _ => ⟨x3, x4, for_nil⟩
  | x :: xs, i, f, x3, x4, h, h3, h4 => by
    obtain ⟨a, b, co, rfl, _⟩ := (h x (List.mem_cons_self ..)).is
    obtain ⟨y3, y4, g⟩ := at_loop (L0 := L0) (p := p) xs (i + 1) (if (decide (a ≤ p) && decide (p ≤ b)) = true then .int (i : Int) else f) (x3 := .dat (.int (i : Int))) (x4 := .dat (.tuple [.int a, .int b, co])) (fun y hy => h y (List.mem_cons_of_mem _ hy)) rfl rfl
    refine ⟨y3, y4, ?_⟩
    have hc : boolM (chainM leD leD (.ex (opM true ixD [.sl 4, .ex (M.ret (.int 0))])) (.sl 1) (.ex (opM true ixD [.sl 4, .ex (M.ret (.int 1))]))) [L0, .dat (.int p), .dat f, .dat (.int (i : Int)), .dat (.tuple [.int a, .int b, co])] = some (.ok (decide (a ≤ p) && decide (p ≤ b)) [L0, .dat (.int p), .dat f, .dat (.int (i : Int)), .dat (.tuple [.int a, .int b, co])]) := bm_ok (chain_at rfl rfl rfl)
    have hg : tupT 2 (consT (setT 3) (consT (setT 4) (nilT))) (.tuple [.int (i : Int), .tuple [.int a, .int b, co]]) [L0, .dat (.int p), .dat f, x3, x4] = some [L0, .dat (.int p), .dat f, .dat (.int (i : Int)), .dat (.tuple [.int a, .int b, co])] := by
      show ((setT 3 (.int (i : Int)) [L0, .dat (.int p), .dat f, x3, x4]).bind fun e => (setT 4 (.tuple [.int a, .int b, co]) e).bind fun e => some e) = _
      rw [setT_ok (s := x3) rfl h3]
      show ((setT 4 (.tuple [.int a, .int b, co]) [L0, .dat (.int p), .dat f, .dat (.int (i : Int)), x4]).bind fun e => some e) = _
      rw [setT_ok (s := x4) rfl h4]; rfl
    have hb : ifM (boolM (chainM leD leD (.ex (opM true ixD [.sl 4, .ex (M.ret (.int 0))])) (.sl 1) (.ex (opM true ixD [.sl 4, .ex (M.ret (.int 1))])))) (asgM (varM 3) (setT 2)) (nxM) [L0, .dat (.int p), .dat f, .dat (.int (i : Int)), .dat (.tuple [.int a, .int b, co])] = some (.ok .nx [L0, .dat (.int p), .dat (if (decide (a ≤ p) && decide (p ≤ b)) = true then .int (i : Int) else f), .dat (.int (i : Int)), .dat (.tuple [.int a, .int b, co])]) := by
      rw [if_ok hc]
      by_cases q : (decide (a ≤ p) && decide (p ≤ b)) = true
      · rw [if_pos q, if_pos q]; rfl
      · rw [if_neg q, if_neg q]; rfl
    show forL _ _ (.tuple [.int (i : Int), .tuple [.int a, .int b, co]] :: enumL (i + 1) xs) _ = _
    rw [for_cons hg hb, g]; rfl
theorem at_ok {L : List D} {p : Int} (hL : ∀ x ∈ L, Line x) : F_law_e_at_2cf3 [.dat (.list L), .dat (.int p)] = some (.ok (.dat (lastD p 0 .none L)) [.dat (.list L), .dat (.int p)]) := by
  obtain ⟨y3, y4, g⟩ := at_loop (L0 := .dat (.list L)) (p := p) L 0 .none (x3 := .non) (x4 := .non) hL rfl rfl
  refine body_rt (e := [.dat (.list L), .dat (.int p), .dat (lastD p 0 .none L), y3, y4]) ?_ rfl
  show m_law_e_at_2cf3 [.dat (.list L), .dat (.int p), .non, .non, .non] = _
  unfold m_law_e_at_2cf3
  refine seq_nx' (e' := [.dat (.list L), .dat (.int p), .dat .none, .non, .non]) rfl ?_
  exact seq_nx' (for_ok rfl g) rfl
theorem Fn.rD {k w : Nat} {d : D} (h : Fn false k w d) (hk : k ≤ 64) (hw : w ≤ 10000000) : reprD [d] = some (.str d.shown) ∧ SeqAt.shaped (.str d.shown) = true := by
  refine ⟨?_, ?_⟩
  · unfold DL.reprD
    dsimp only
    rw [if_pos ⟨h.kn, Nat.le_trans h.dep hk, h.sh, Nat.le_trans h.len hw⟩]
  · unfold SeqAt.shaped
    simp only [PyData.canLay0, PyData.depth, h.ok]
    rfl
theorem rep_as {m : M D} {e : En} {d : D} (h : m e = some (.ok d e)) (r : reprD [d] = some (.str d.shown)) : opM true reprD [.ex m] e = some (.ok (.str d.shown) e) := op_ok (as := [some d]) (ds := [d]) (run_ex h (show runA [] _ = some (.ok [] _) from rfl)) rfl r
theorem ne_rep {a b : M D} {e : En} {d : D} (ha : a e = some (.ok d e)) (hb : b e = some (.ok d e)) (r : reprD [d] = some (.str d.shown) ∧ SeqAt.shaped (.str d.shown) = true) : boolM (opM true neD [.ex (opM true reprD [.ex a]), .ex (opM true reprD [.ex b])]) e = some (.ok false e) :=
  bm_ok (op_ok (as := [some (.str d.shown), some (.str d.shown)]) (ds := [.str d.shown, .str d.shown]) (run_ex (rep_as ha r.1) (run_ex (rep_as hb r.1) (show runA [] _ = some (.ok [] _) from rfl))) rfl (ne_same_s r.2))
theorem eq_rep {a b : M D} {e : En} {d : D} (ha : a e = some (.ok d e)) (hb : b e = some (.ok d e)) (r : reprD [d] = some (.str d.shown) ∧ SeqAt.shaped (.str d.shown) = true) : opM true eqD [.ex (opM true reprD [.ex a]), .ex (opM true reprD [.ex b])] e = some (.ok (.bool true) e) :=
  op_ok (as := [some (.str d.shown), some (.str d.shown)]) (ds := [.str d.shown, .str d.shown]) (run_ex (rep_as ha r.1) (run_ex (rep_as hb r.1) (show runA [] _ = some (.ok [] _) from rfl))) rfl (eq_same r.2)
theorem head_rD {p : Int} {L : List D} (lL : L.length ≤ 1000) : reprD [headD .none (oversL p 0 L).reverse] = some (.str (headD .none (oversL p 0 L).reverse).shown) ∧ SeqAt.shaped (.str (headD .none (oversL p 0 L).reverse).shown) = true := by
  cases h : (oversL p 0 L).reverse with
  | nil => exact (co_fn (b := false) (Or.inl rfl)).1.rD (by decide) (by decide)
  | cons i r =>
    have hi : i ∈ oversL p 0 L := List.mem_reverse.mp (by rw [h]; exact List.mem_cons_self ..)
    have := overs_mem L 0 i hi
    exact (int_fn (b := false) (i := i) (by omega)).rD (by decide) (by decide)
@[reducible] def rE (L : List D) (b sp x4 : Sl) (p : Int) (x6 x7 : Sl) : En := [.book L, .dat (.list L), b, sp, x4, .dat (.int p), x6, x7]
theorem mom_range {n : Nat} {w : D} (h : w ∈ rangeL 0 (n + 1) ++ [PyData.none]) : Mom n w := by
  rcases List.mem_append.mp h with q | q
  · obtain ⟨j, rfl, j0, j1⟩ := range_mem q
    obtain ⟨i, rfl⟩ := Int.eq_ofNat_of_zero_le j0
    exact .at_ i (by omega)
  · rw [List.mem_singleton.mp q]; exact .all
theorem add_lists {a b : List Int} (h : a.length + b.length ≤ 1000000) : addD [.list (a.map PyData.int), .list (b.map PyData.int)] = some (.list ((a ++ b).map PyData.int)) := by
  rw [List.map_append]
  exact if_pos (by rw [List.length_map, List.length_map]; exact h)
@[reducible] def cE (L B : List D) (sp x4 : Sl) : En := [.book L, .dat (.list L), .dat (.list B), sp, x4, .non, .non, .non]
theorem up_loop {L Bs : List D} {sp : Sl} : ∀ B : List Int, compL [4] (setT 4) (boolM (opM true ltD [.sl 4, .ex (opM true powD [.ex (M.ret (.int 10)), .ex (M.ret (.int 9))])])) (opM true addD [.sl 4, .ex (M.ret (.int 1))]) (B.map .int) (cE L Bs sp .non) = some (.ok (((B.filter fun x => decide (x < 1000000000)).map fun x => x + 1).map .int) (cE L Bs sp .non))
  | [] => rfl
  | x :: B => by
    have ih := up_loop (L := L) (Bs := Bs) (sp := sp) B
    have hc : boolM (opM true ltD [.sl 4, .ex (opM true powD [.ex (M.ret (.int 10)), .ex (M.ret (.int 9))])]) (cE L Bs sp (.dat (.int x))) = some (.ok (decide (x < 1000000000)) (cE L Bs sp (.dat (.int x)))) := bm_ok rfl
    rw [List.filter_cons]
    by_cases q : decide (x < 1000000000) = true
    · rw [q] at hc
      rw [if_pos q]
      exact comp_cons (e1 := cE L Bs sp (.dat (.int x))) rfl rfl hc rfl ih
    · rw [Bool.eq_false_iff.mpr q] at hc
      rw [if_neg q]
      exact comp_skip (e1 := cE L Bs sp (.dat (.int x))) rfl rfl hc ih
theorem down_loop {L Bs : List D} {sp : Sl} : ∀ B : List Int, compL [4] (setT 4) (boolM (opM true gtD [.sl 4, .ex (M.ret (.int 0))])) (opM true subD [.sl 4, .ex (M.ret (.int 1))]) (B.map .int) (cE L Bs sp .non) = some (.ok (((B.filter fun x => decide (0 < x)).map fun x => x - 1).map .int) (cE L Bs sp .non))
  | [] => rfl
  | x :: B => by
    have ih := down_loop (L := L) (Bs := Bs) (sp := sp) B
    have hc : boolM (opM true gtD [.sl 4, .ex (M.ret (.int 0))]) (cE L Bs sp (.dat (.int x))) = some (.ok (decide (0 < x)) (cE L Bs sp (.dat (.int x)))) := bm_ok rfl
    rw [List.filter_cons]
    by_cases q : decide (0 < x) = true
    · rw [q] at hc
      rw [if_pos q]
      exact comp_cons (e1 := cE L Bs sp (.dat (.int x))) rfl rfl hc rfl ih
    · rw [Bool.eq_false_iff.mpr q] at hc
      rw [if_neg q]
      exact comp_skip (e1 := cE L Bs sp (.dat (.int x))) rfl rfl hc ih
theorem new_own {m : M (List D)} {i : Nat} {e e1 : En} {ds : List D} (h : m e = some (.ok ds e1)) (ho : Sl.open_ e1 i = true) : newM m i e = some (.ok .nx (e1.set i (.lst ds))) := by
  unfold newM; rw [bind_ok h]
  exact if_pos ho
/-- an own list's slot at a turn's begin -/
def LsS (s : Sl) : Prop := s = .non ∨ ∃ L, s = .lst L
def BkS (s : Sl) : Prop := s = .non ∨ ∃ R, s = .book R
theorem lines_call6 {k : Nat} {e0 s t x5 : Sl} {es : List Sl} {B : List Int} {T : List D} (hx : x5.owns = false) (h : PenE (k + 31) s) (hB : BendsOk B) (hT : ∀ d ∈ T, Tone d) (lT : T.length ≤ 3) (l1 : 1 ≤ T.length) :
    ∃ (s' : Sl) (L : List D), newM (lstM (callV F_law_e_lines_867a [.sl 1, .sl 3, .sl 4, .ex (M.ret (.int 6))])) 5 (e0 :: s :: t :: .dat (.list (B.map .int)) :: .dat (.list T) :: x5 :: es) = some (.ok .nx (e0 :: s' :: t :: .dat (.list (B.map .int)) :: .dat (.list T) :: .lst L :: es)) ∧ PenE k s' ∧ (∀ x ∈ L, Line x) ∧ L.length ≤ 6 := by
  obtain ⟨s3, L, e3, p3, hL, lL⟩ := lines_okN (k := k) (n := 6) (by decide) h hB hT lT l1
  have hh : held (e0 :: s :: t :: .dat (.list (B.map .int)) :: .dat (.list T) :: x5 :: es) 1 = true := by
    obtain ⟨ds, rfl⟩ := h.lst
    rfl
  have hr := run_sl hh (run_sl (i := 3) (held_dat (d := .list (B.map .int)) rfl) (run_sl (i := 4) (held_dat (d := .list T) rfl) (run_ex (m := M.ret (.int 6)) rfl (show runA [] (e0 :: s :: t :: .dat (.list (B.map .int)) :: .dat (.list T) :: x5 :: es) = some (.ok [] (e0 :: s :: t :: .dat (.list (B.map .int)) :: .dat (.list T) :: x5 :: es)) from rfl))))
  have cl : callV F_law_e_lines_867a [.sl 1, .sl 3, .sl 4, .ex (M.ret (.int 6))] (e0 :: s :: t :: .dat (.list (B.map .int)) :: .dat (.list T) :: x5 :: es) = some (.ok (.lst L) (e0 :: s3 :: t :: .dat (.list (B.map .int)) :: .dat (.list T) :: x5 :: es)) := by
    unfold callV
    refine (bind_ok hr).trans ?_
    obtain ⟨c1, n1, v1, rfl, _⟩ := h
    obtain ⟨c2, n2, v2, rfl, _⟩ := p3
    unfold penS at e3 ⊢
    show (match F_law_e_lines_867a [.lst _, .dat (.list (B.map .int)), .dat (.list T), .dat (.int ((6 : Nat) : Int))] with
      | some (.ok rv a) => _
      | some (.ex x a) => _
      | none => none) = _
    rw [e3]; rfl
  refine ⟨s3, L, (new_own (lstM_ok cl) ?_).trans rfl, p3, hL, lL⟩
  show (!x5.owns) = true
  rw [hx]; rfl
theorem line_tame {x : D} (h : Line x) : tame x = true := by
  obtain ⟨a, b, c, rfl, _, _, _, y, rfl, _⟩ := h.is
  simp [tame, tameA]
theorem lines_tame : ∀ {L : List D}, (∀ x ∈ L, Line x) → tameA L = true
  | [], _ => by simp [tameA]
  | x :: L, h => by
    simp only [tameA, Bool.and_eq_true]
    exact ⟨line_tame (h x (List.mem_cons_self ..)), lines_tame fun y hy => h y (List.mem_cons_of_mem _ hy)⟩
theorem make_ok {e0 s t b x4 x7 x6 : Sl} {L : List D} (hL : ∀ x ∈ L, Line x) (lL : L.length ≤ 900) (h6 : BkS x6) :
    dropB 6 (newB (makeL F_Book___init___0ec0 (.sl 5)) 6) [e0, s, t, b, x4, .lst L, x6, x7] = some (.ok .nx [e0, s, t, b, x4, .lst L, .book L, x7]) := by
  have go : newB (makeL F_Book___init___0ec0 (.sl 5)) 6 [e0, s, t, b, x4, .lst L, .non, x7] = some (.ok .nx [e0, s, t, b, x4, .lst L, .book L, x7]) := by
    have mk : makeL F_Book___init___0ec0 (.sl 5) [e0, s, t, b, x4, .lst L, .non, x7] = some (.ok (.book L) [e0, s, t, b, x4, .lst L, .non, x7]) := by
      unfold makeL
      refine (bind_ok (a := [none]) (e' := [e0, s, t, b, x4, .lst L, .non, x7]) rfl).trans ?_
      show (match F_Book___init___0ec0 (.list L) with
        | some ds => if tameA ds = true then some (Rs.ok (Rv.book ds) _) else none
        | none => none) = _
      rw [init_ok hL (by omega)]
      dsimp only
      rw [if_pos (lines_tame hL)]
    exact (bind_ok mk).trans rfl
  rcases h6 with rfl | ⟨R, rfl⟩
  · exact go
  · exact go
end QA

set_option maxHeartbeats 1000000
/-! what the wall shows: the program's reading -/
namespace QA
open PySem PySem.Spec PyProof.Rows DL MR
def gD : Option Nat → D
  | none => .none
  | some i => .int (i : Int)
def ptD : Pt → D := fun x => .tuple [.int x.1, .int x.2.1, gD x.2.2]
def lnP : D → Int × Int
  | .tuple [.int a, .int b, _] => (a, b)
  | _ => (0, 0)
theorem bef_len (lo : Int) : ∀ r : List Pt, (bef lo r).length ≤ r.length
  | [] => Nat.le_refl _
  | (a, b, g) :: r => by
    have := bef_len lo r
    unfold bef
    split
    · rw [List.length_cons, List.length_cons]; omega
    · rw [List.length_cons]; omega
theorem beh_len (hi : Int) : ∀ r : List Pt, (beh hi r).length ≤ r.length
  | [] => Nat.le_refl _
  | (a, b, g) :: r => by
    have := beh_len hi r
    unfold beh
    split
    · rw [List.length_cons, List.length_cons]; omega
    · rw [List.length_cons]; omega
theorem laid_len (r : List Pt) (lo hi : Int) (g : Option Nat) : (laidR r lo hi g).length ≤ 2 * r.length + 1 := by
  unfold laidR
  rw [List.length_append, List.length_append, List.length_singleton]
  have := bef_len lo r
  have := beh_len hi r
  omega
@[reducible] def lE (P : D) (lo hi : Int) (g x4 x5 x6 x7 x8 : Sl) : En := [.dat P, .dat (.int lo), .dat (.int hi), g, x4, x5, x6, x7, x8]
theorem bef_loop {P : D} {lo hi : Int} {gs : Sl} : ∀ r : List Pt, compL [5, 6, 7] (tupT 3 (consT (setT 5) (consT (setT 6) (consT (setT 7) (nilT))))) (boolM (opM true ltD [.sl 5, .sl 1])) (tupM [.sl 5, .ex (opM true min2D [.sl 6, .ex (opM true subD [.sl 1, .ex (M.ret (.int 1))])]), .sl 7]) (r.map ptD) (lE P lo hi gs .non .non .non .non .non) = some (.ok ((bef lo r).map ptD) (lE P lo hi gs .non .non .non .non .non))
  | [] => rfl
  | (a, b, g) :: r => by
    have ih := bef_loop (P := P) (lo := lo) (hi := hi) (gs := gs) r
    have hc : boolM (opM true ltD [.sl 5, .sl 1]) (lE P lo hi gs .non (.dat (.int a)) (.dat (.int b)) (.dat (gD g)) .non) = some (.ok (decide (a < lo)) (lE P lo hi gs .non (.dat (.int a)) (.dat (.int b)) (.dat (gD g)) .non)) := bm_ok rfl
    have m1 : opM true min2D [.sl 6, .ex (opM true subD [.sl 1, .ex (M.ret (.int 1))])] (lE P lo hi gs .non (.dat (.int a)) (.dat (.int b)) (.dat (gD g)) .non) = some (.ok (.int (min b (lo - 1))) (lE P lo hi gs .non (.dat (.int a)) (.dat (.int b)) (.dat (gD g)) .non)) := op_ok (as := [none, some (.int (lo - 1))]) (ds := [.int b, .int (lo - 1)]) (run_sl (i := 6) rfl (run_ex rfl (show runA [] _ = some (.ok [] _) from rfl))) rfl (min2_ok b (lo - 1))
    have he : tupM [.sl 5, .ex (opM true min2D [.sl 6, .ex (opM true subD [.sl 1, .ex (M.ret (.int 1))])]), .sl 7] (lE P lo hi gs .non (.dat (.int a)) (.dat (.int b)) (.dat (gD g)) .non) = some (.ok (ptD (a, min b (lo - 1), g)) (lE P lo hi gs .non (.dat (.int a)) (.dat (.int b)) (.dat (gD g)) .non)) := by
      unfold tupM
      exact (bind_ok (run_sl (i := 5) rfl (run_ex m1 (run_sl (i := 7) rfl (show runA [] _ = some (.ok [] _) from rfl))))).trans rfl
    show compL _ _ _ _ (ptD (a, b, g) :: r.map ptD) _ = _
    unfold bef
    by_cases q : a < lo
    · rw [decide_eq_true q] at hc
      rw [if_pos q]
      exact comp_cons (e1 := lE P lo hi gs .non (.dat (.int a)) (.dat (.int b)) (.dat (gD g)) .non) rfl rfl hc he ih
    · rw [decide_eq_false q] at hc
      rw [if_neg q]
      exact comp_skip (e1 := lE P lo hi gs .non (.dat (.int a)) (.dat (.int b)) (.dat (gD g)) .non) rfl rfl hc ih
theorem beh_loop {P : D} {lo hi : Int} {gs x4 : Sl} : ∀ r : List Pt, compL [5, 6, 7] (tupT 3 (consT (setT 5) (consT (setT 6) (consT (setT 7) (nilT))))) (boolM (opM true gtD [.sl 6, .sl 2])) (tupM [.ex (opM true max2D [.sl 5, .ex (opM true addD [.sl 2, .ex (M.ret (.int 1))])]), .sl 6, .sl 7]) (r.map ptD) (lE P lo hi gs x4 .non .non .non .non) = some (.ok ((beh hi r).map ptD) (lE P lo hi gs x4 .non .non .non .non))
  | [] => rfl
  | (a, b, g) :: r => by
    have ih := beh_loop (P := P) (lo := lo) (hi := hi) (gs := gs) (x4 := x4) r
    have hc : boolM (opM true gtD [.sl 6, .sl 2]) (lE P lo hi gs x4 (.dat (.int a)) (.dat (.int b)) (.dat (gD g)) .non) = some (.ok (decide (hi < b)) (lE P lo hi gs x4 (.dat (.int a)) (.dat (.int b)) (.dat (gD g)) .non)) := bm_ok rfl
    have m1 : opM true max2D [.sl 5, .ex (opM true addD [.sl 2, .ex (M.ret (.int 1))])] (lE P lo hi gs x4 (.dat (.int a)) (.dat (.int b)) (.dat (gD g)) .non) = some (.ok (.int (max a (hi + 1))) (lE P lo hi gs x4 (.dat (.int a)) (.dat (.int b)) (.dat (gD g)) .non)) := op_ok (as := [none, some (.int (hi + 1))]) (ds := [.int a, .int (hi + 1)]) (run_sl (i := 5) rfl (run_ex rfl (show runA [] _ = some (.ok [] _) from rfl))) rfl (max2_ok a (hi + 1))
    have he : tupM [.ex (opM true max2D [.sl 5, .ex (opM true addD [.sl 2, .ex (M.ret (.int 1))])]), .sl 6, .sl 7] (lE P lo hi gs x4 (.dat (.int a)) (.dat (.int b)) (.dat (gD g)) .non) = some (.ok (ptD (max a (hi + 1), b, g)) (lE P lo hi gs x4 (.dat (.int a)) (.dat (.int b)) (.dat (gD g)) .non)) := by
      unfold tupM
      exact (bind_ok (run_ex m1 (run_sl (i := 6) rfl (run_sl (i := 7) rfl (show runA [] _ = some (.ok [] _) from rfl))))).trans rfl
    show compL _ _ _ _ (ptD (a, b, g) :: r.map ptD) _ = _
    unfold beh
    by_cases q : hi < b
    · rw [decide_eq_true q] at hc
      rw [if_pos q]
      exact comp_cons (e1 := lE P lo hi gs x4 (.dat (.int a)) (.dat (.int b)) (.dat (gD g)) .non) rfl rfl hc he ih
    · rw [decide_eq_false q] at hc
      rw [if_neg q]
      exact comp_skip (e1 := lE P lo hi gs x4 (.dat (.int a)) (.dat (.int b)) (.dat (gD g)) .non) rfl rfl hc ih
theorem laid_ok {r : List Pt} {lo hi : Int} {g : Option Nat} (lr : r.length ≤ 100000) : F_laid_over_1d5d [.dat (.list (r.map ptD)), .dat (.int lo), .dat (.int hi), .dat (gD g)] = some (.ok (.dat (.list ((laidR r lo hi g).map ptD))) [.dat (.list (r.map ptD)), .dat (.int lo), .dat (.int hi), .dat (gD g)]) := by
  have b1 := listD_ok (comp_ok (mi := seqI (varM 0)) (ds := r.map ptD) (e := lE (.list (r.map ptD)) lo hi (.dat (gD g)) .non .non .non .non .non) (e1 := lE (.list (r.map ptD)) lo hi (.dat (gD g)) .non .non .non .non .non) rfl (by rw [List.length_map]; omega) (bef_loop (P := .list (r.map ptD)) (lo := lo) (hi := hi) (gs := .dat (gD g)) r))
  have b2 := listD_ok (comp_ok (mi := seqI (varM 0)) (ds := r.map ptD) (e := lE (.list (r.map ptD)) lo hi (.dat (gD g)) (.dat (.list ((bef lo r).map ptD))) .non .non .non .non) (e1 := lE (.list (r.map ptD)) lo hi (.dat (gD g)) (.dat (.list ((bef lo r).map ptD))) .non .non .non .non) rfl (by rw [List.length_map]; omega) (beh_loop (P := .list (r.map ptD)) (lo := lo) (hi := hi) (gs := .dat (gD g)) (x4 := .dat (.list ((bef lo r).map ptD))) r))
  have l1 := bef_len lo r
  have l2 := beh_len hi r
  refine body_rt (e := lE (.list (r.map ptD)) lo hi (.dat (gD g)) (.dat (.list ((bef lo r).map ptD))) .non .non .non (.dat (.list ((beh hi r).map ptD)))) ?_ rfl
  show m_laid_over_1d5d (lE (.list (r.map ptD)) lo hi (.dat (gD g)) .non .non .non .non .non) = _
  unfold m_laid_over_1d5d
  refine seq_nx' (e' := lE (.list (r.map ptD)) lo hi (.dat (gD g)) (.dat (.list ((bef lo r).map ptD))) .non .non .non .non) (asg_ok b1 rfl) ?_
  refine seq_nx' (e' := lE (.list (r.map ptD)) lo hi (.dat (gD g)) (.dat (.list ((bef lo r).map ptD))) .non .non .non (.dat (.list ((beh hi r).map ptD)))) (asg_ok b2 rfl) (ret_o ?_)
  have q1 : opM true addD [.sl 4, .ex (listD (dispM [.ex (tupM [.sl 1, .sl 2, .sl 3])]))] (lE (.list (r.map ptD)) lo hi (.dat (gD g)) (.dat (.list ((bef lo r).map ptD))) .non .non .non (.dat (.list ((beh hi r).map ptD)))) = some (.ok (.list ((bef lo r).map ptD ++ [ptD (lo, hi, g)])) (lE (.list (r.map ptD)) lo hi (.dat (gD g)) (.dat (.list ((bef lo r).map ptD))) .non .non .non (.dat (.list ((beh hi r).map ptD))))) :=
    op_ok (as := [none, some (.list [ptD (lo, hi, g)])]) (ds := [.list ((bef lo r).map ptD), .list [ptD (lo, hi, g)]]) (run_sl (i := 4) rfl (run_ex rfl (show runA [] _ = some (.ok [] _) from rfl))) rfl (if_pos (by rw [List.length_map, List.length_singleton]; omega))
  refine op_ok (as := [some (.list ((bef lo r).map ptD ++ [ptD (lo, hi, g)])), none]) (ds := [.list ((bef lo r).map ptD ++ [ptD (lo, hi, g)]), .list ((beh hi r).map ptD)]) (run_ex q1 (run_sl (i := 8) rfl (show runA [] _ = some (.ok [] _) from rfl))) rfl ?_
  unfold laidR
  rw [List.map_append, List.map_append]
  exact if_pos (by rw [List.length_append, List.length_map, List.length_map, List.length_singleton]; omega)
theorem paint_loop {P : D} : ∀ (xs : List D) (i : Nat) (r : List Pt) {x2 x3 x4 x5 : Sl}, (∀ x ∈ xs, Line x) → (r.length + 1) * 2 ^ xs.length ≤ 100000 → x2.owns = false → x3.owns = false → x4.owns = false → x5.owns = false →
    ∃ y2 y3 y4 y5 : Sl, forL (tupT 2 (consT (setT 2) (consT (tupT 3 (consT (setT 3) (consT (setT 4) (consT (setT 5) (nilT))))) (nilT)))) (asgM (datM (callV F_laid_over_1d5d [.sl 1, .sl 3, .sl 4, .sl 2])) (setT 1)) (enumL i xs) [.dat P, .dat (.list (r.map ptD)), x2, x3, x4, x5] = some (.ok .nx [.dat P, .dat (.list ((paintR (xs.map lnP) i r).map ptD)), y2, y3, y4, y5])
  | [], i, r, x2, x3, x4, x5, _, _, _, _, _, _ => ⟨x2, x3, x4, x5, for_nil⟩
  | x :: xs, i, r, x2, x3, x4, x5, h, hr, h2, h3, h4, h5 => by
    obtain ⟨a, b, co, rfl, _⟩ := (h x (List.mem_cons_self ..)).is
    rw [List.length_cons, Nat.pow_succ] at hr
    have ll := laid_len r a b (some i)
    have p1 : 1 ≤ 2 ^ xs.length := Nat.one_le_two_pow
    have lr : r.length ≤ 100000 := by
      have : (r.length + 1) * 1 ≤ (r.length + 1) * (2 ^ xs.length * 2) := Nat.mul_le_mul_left _ (by omega)
      omega
    have hr2 : ((laidR r a b (some i)).length + 1) * 2 ^ xs.length ≤ 100000 := by
      refine Nat.le_trans (Nat.mul_le_mul_right _ (show (laidR r a b (some i)).length + 1 ≤ (r.length + 1) * 2 by omega)) ?_
      rw [Nat.mul_assoc, Nat.mul_comm 2]; exact hr
    obtain ⟨y2, y3, y4, y5, g⟩ := paint_loop (P := P) xs (i + 1) (laidR r a b (some i)) (x2 := .dat (.int (i : Int))) (x3 := .dat (.int a)) (x4 := .dat (.int b)) (x5 := .dat co) (fun y hy => h y (List.mem_cons_of_mem _ hy)) hr2 rfl rfl rfl rfl
    refine ⟨y2, y3, y4, y5, ?_⟩
    have hg : tupT 2 (consT (setT 2) (consT (tupT 3 (consT (setT 3) (consT (setT 4) (consT (setT 5) (nilT))))) (nilT))) (.tuple [.int (i : Int), .tuple [.int a, .int b, co]]) [.dat P, .dat (.list (r.map ptD)), x2, x3, x4, x5] = some [.dat P, .dat (.list (r.map ptD)), .dat (.int (i : Int)), .dat (.int a), .dat (.int b), .dat co] := by
      show ((setT 2 (.int (i : Int)) [.dat P, .dat (.list (r.map ptD)), x2, x3, x4, x5]).bind fun e => ((setT 3 (.int a) e).bind fun e => (setT 4 (.int b) e).bind fun e => (setT 5 co e).bind fun e => some e).bind fun e => some e) = _
      rw [setT_ok (s := x2) rfl h2]
      show (((setT 3 (.int a) [.dat P, .dat (.list (r.map ptD)), .dat (.int (i : Int)), x3, x4, x5]).bind fun e => (setT 4 (.int b) e).bind fun e => (setT 5 co e).bind fun e => some e).bind fun e => some e) = _
      rw [setT_ok (s := x3) rfl h3]
      show (((setT 4 (.int b) [.dat P, .dat (.list (r.map ptD)), .dat (.int (i : Int)), .dat (.int a), x4, x5]).bind fun e => (setT 5 co e).bind fun e => some e).bind fun e => some e) = _
      rw [setT_ok (s := x4) rfl h4]
      show (((setT 5 co [.dat P, .dat (.list (r.map ptD)), .dat (.int (i : Int)), .dat (.int a), .dat (.int b), x5]).bind fun e => some e).bind fun e => some e) = _
      rw [setT_ok (s := x5) rfl h5]; rfl
    have cl : datM (callV F_laid_over_1d5d [.sl 1, .sl 3, .sl 4, .sl 2]) [.dat P, .dat (.list (r.map ptD)), .dat (.int (i : Int)), .dat (.int a), .dat (.int b), .dat co] = some (.ok (.list ((laidR r a b (some i)).map ptD)) [.dat P, .dat (.list (r.map ptD)), .dat (.int (i : Int)), .dat (.int a), .dat (.int b), .dat co]) :=
      datM_ok (call_pure (as := [none, none, none, none]) (ss := [.dat (.list (r.map ptD)), .dat (.int a), .dat (.int b), .dat (gD (some i))]) rfl rfl rfl (laid_ok lr) rfl)
    have hb : asgM (datM (callV F_laid_over_1d5d [.sl 1, .sl 3, .sl 4, .sl 2])) (setT 1) [.dat P, .dat (.list (r.map ptD)), .dat (.int (i : Int)), .dat (.int a), .dat (.int b), .dat co] = some (.ok .nx [.dat P, .dat (.list ((laidR r a b (some i)).map ptD)), .dat (.int (i : Int)), .dat (.int a), .dat (.int b), .dat co]) := asg_ok cl rfl
    show forL _ _ (.tuple [.int (i : Int), .tuple [.int a, .int b, co]] :: enumL (i + 1) xs) _ = _
    rw [for_cons hg hb, g]; rfl
def wallR (xs : List D) : List Pt := paintR (xs.map lnP) 0 [(0, 1000000000, none)]
theorem painted_ok {xs : List D} (h : ∀ x ∈ xs, Line x) (l : xs.length ≤ 14) : F_painted_9069 [.dat (.tuple xs)] = some (.ok (.dat (.list ((wallR xs).map ptD))) [.dat (.tuple xs)]) := by
  have pw : 2 ^ xs.length ≤ 2 ^ 14 := Nat.pow_le_pow_right (by decide) l
  obtain ⟨y2, y3, y4, y5, g⟩ := paint_loop (P := .tuple xs) xs 0 [(0, 1000000000, none)] (x2 := .non) (x3 := .non) (x4 := .non) (x5 := .non) h (by
    show 2 * 2 ^ xs.length ≤ 100000
    omega) rfl rfl rfl rfl
  refine body_rt (e := [.dat (.tuple xs), .dat (.list ((wallR xs).map ptD)), y2, y3, y4, y5]) ?_ rfl
  show m_painted_9069 [.dat (.tuple xs), .non, .non, .non, .non, .non] = _
  unfold m_painted_9069
  refine seq_nx' (e' := [.dat (.tuple xs), .dat (.list ([((0 : Int), (1000000000 : Int), (none : Option Nat))].map ptD)), .non, .non, .non, .non]) rfl ?_
  exact seq_nx' (for_ok (ds := enumL 0 xs) (e1 := [.dat (.tuple xs), .dat (.list ([((0 : Int), (1000000000 : Int), (none : Option Nat))].map ptD)), .non, .non, .non, .non]) rfl g) rfl
theorem picture_ok {R : List D} {w : D} (hR : ∀ x ∈ R, Line x) (lR : R.length ≤ 14) (hw : Mom R.length w) : F_picture_c350 [.book R, .dat w] = some (.ok (.dat (.tuple ((wallR (doneL R w)).map ptD))) [.book R, .dat w]) := by
  have ld := done_len R w
  have c1 : datM (callV F_done_by_bd12 [.sl 0, .sl 1]) [.book R, .dat w] = some (.ok (.tuple (doneL R w)) [.book R, .dat w]) := datM_ok (call_book (as := [none]) (ss := [.dat w]) rfl (run_sl rfl (show runA [] _ = some (.ok [] _) from rfl)) rfl rfl rfl rfl (done_ok (by omega) hw))
  have c2 : datM (callV F_painted_9069 [.ex (datM (callV F_done_by_bd12 [.sl 0, .sl 1]))]) [.book R, .dat w] = some (.ok (.list ((wallR (doneL R w)).map ptD)) [.book R, .dat w]) := datM_ok (call_pure (as := [some (.tuple (doneL R w))]) (ss := [.dat (.tuple (doneL R w))]) (run_ex c1 (show runA [] _ = some (.ok [] _) from rfl)) rfl rfl (painted_ok (fun x hx => hR x (done_mem hx)) (by omega)) rfl)
  refine body_rt (e := [.book R, .dat w]) ?_ rfl
  show m_picture_c350 [.book R, .dat w] = _
  unfold m_picture_c350
  exact ret_o (op_ok (as := [some (.list ((wallR (doneL R w)).map ptD))]) (ds := [.list ((wallR (doneL R w)).map ptD)]) (run_ex c2 (show runA [] _ = some (.ok [] _) from rfl)) rfl rfl)
end QA

set_option maxHeartbeats 1000000
/-! what the wall shows: the law's reading, neighbours joined -/
namespace QA
open PySem PySem.Spec PyProof.Rows DL MR
theorem gD_shaped (g : Option Nat) : SeqAt.shaped (gD g) = true := by
  cases g with
  | none => decide +kernel
  | some i => exact shaped_int _
theorem gD_eq (g h : Option Nat) : eqD [gD g, gD h] = some (.bool (decide (g = h))) := by
  rw [eq_ok (gD_shaped g) (gD_shaped h)]
  cases g with
  | none => cases h with
    | none => simp [gD, PyData.eqv]
    | some j => simp [gD, PyData.eqv]
  | some i => cases h with
    | none => simp [gD, PyData.eqv]
    | some j =>
      simp only [gD, PyData.eqv]
      by_cases q : i = j
      · subst q; simp
      · have : ¬ (some i = some j) := fun z => q (by cases z; rfl)
        rw [decide_eq_false this]
        simp; omega
structure PtB (x : Pt) : Prop where
  a0 : 0 ≤ x.1
  a1 : x.1 ≤ 1000000000
  b0 : 0 ≤ x.2.1
  b1 : x.2.1 ≤ 1000000000
  g : ∀ j, x.2.2 = some j → j ≤ 1000
theorem PtB.fn {x : Pt} (b : Bool) (h : PtB x) : Fn b 4 400 (ptD x) := by
  obtain ⟨a, c, g⟩ := x
  have i1 : Fn b 3 90 (.int a) := (int_fn (by have := h.a0; have := h.a1; dsimp only at *; omega)).mono (by decide) (by decide)
  have i2 : Fn b 3 90 (.int c) := (int_fn (by have := h.b0; have := h.b1; dsimp only at *; omega)).mono (by decide) (by decide)
  cases g with
  | none => exact (tri_im i1 i2 ((co_fn (Or.inl rfl)).1.mono (by decide) (by decide)) trivial).fn
  | some j =>
    have := h.g j rfl
    exact (tri_im i1 i2 ((int_fn (by omega)).mono (by decide) (by decide)) trivial).fn
theorem PtB.shapes {r : List Pt} (h : ∀ x ∈ r, PtB x) : SeqAt.shaped (.list (r.map ptD)) = true :=
  (Pl.list (k := 4) (w := 400) fun d hd => by
    obtain ⟨x, hx, rfl⟩ := List.mem_map.mp hd
    have f := (h x hx).fn false
    exact ⟨f.kn, f.dep, f.sh, f.len, f.ok⟩).shaped (by decide)
theorem nil_snoc {α : Type} (l : List α) : l = [] ∨ ∃ (A : List α) (q : α), l = A ++ [q] := by
  rcases List.eq_nil_or_concat l with h | ⟨A, q, h⟩
  · exact Or.inl h
  · exact Or.inr ⟨A, q, by rw [h, List.concat_eq_append]⟩
theorem addR_last : ∀ (A : List Pt) (q x : Pt), addR (A ++ [q]) x = if q.2.1 + 1 = x.1 ∧ q.2.2 = x.2.2 then A ++ [(q.1, x.2.1, x.2.2)] else A ++ [q, x]
  | [], (a, b, g), (lo, hi, h) => rfl
  | [q0], q, x => by
    show q0 :: addR [q] x = _
    have := addR_last [] q x
    rw [show ([] : List Pt) ++ [q] = [q] from rfl] at this
    rw [this]
    split <;> rfl
  | q0 :: q1 :: A, q, x => by
    show q0 :: addR ((q1 :: A) ++ [q]) x = _
    rw [addR_last (q1 :: A) q x]
    split <;> rfl
theorem atI_last {xs : List D} {y : D} : L2.atI (xs ++ [y]) (-1) = some y := by
  unfold L2.atI
  rw [ixN_last (by rw [List.length_append, List.length_singleton]; omega)]
  rw [List.length_append, List.length_singleton, Nat.add_sub_cancel]
  show (xs ++ [y])[xs.length]? = some y
  rw [List.getElem?_append_right (Nat.le_refl _), Nat.sub_self]; rfl
noncomputable def lastM : M D := opM true ixD [.sl 1, .ex (opM true negD [.ex (M.ret (.int 1))])]
noncomputable def joinB : M O := (ifM (andB (boolM (opM true neD [.sl 1, .ex (listD (dispM []))])) (andB (boolM (opM true eqD [.ex (opM true addD [.ex (opM true ixD [.ex lastM, .ex (M.ret (.int 1))]), .ex (M.ret (.int 1))]), .sl 2])) (boolM (opM true eqD [.ex (opM true ixD [.ex lastM, .ex (M.ret (.int 2))]), .sl 4])))) (setM 1 (tupM [.ex (opM true ixD [.ex lastM, .ex (M.ret (.int 0))]), .sl 3, .sl 4]) (opM true negD [.ex (M.ret (.int 1))])) (exprM (mutM 1 qAppend [.ex (tupM [.sl 2, .sl 3, .sl 4])])))
theorem join_turn {cs : Sl} {acc : List Pt} {lo hi : Int} {g : Option Nat} (h : ∀ x ∈ acc, PtB x) (l : acc.length ≤ 1000) :
    joinB [cs, .lst (acc.map ptD), .dat (.int lo), .dat (.int hi), .dat (gD g)] = some (.ok .nx [cs, .lst ((addR acc (lo, hi, g)).map ptD), .dat (.int lo), .dat (.int hi), .dat (gD g)]) := by
  have ap : exprM (mutM 1 qAppend [.ex (tupM [.sl 2, .sl 3, .sl 4])]) [cs, .lst (acc.map ptD), .dat (.int lo), .dat (.int hi), .dat (gD g)] = some (.ok .nx [cs, .lst (acc.map ptD ++ [ptD (lo, hi, g)]), .dat (.int lo), .dat (.int hi), .dat (gD g)]) := by
    refine (bind_ok (a := PyData.none) (e' := [cs, .lst (acc.map ptD ++ [ptD (lo, hi, g)]), .dat (.int lo), .dat (.int hi), .dat (gD g)]) ?_).trans rfl
    show (qAppend (acc.map ptD) [ptD (lo, hi, g)]).map _ = _
    rw [qapp (by rw [List.length_map]; omega)]; rfl
  have n0 : boolM (opM true neD [.sl 1, .ex (listD (dispM []))]) [cs, .lst (acc.map ptD), .dat (.int lo), .dat (.int hi), .dat (gD g)] = some (.ok (decide (acc ≠ [])) [cs, .lst (acc.map ptD), .dat (.int lo), .dat (.int hi), .dat (gD g)]) := by
    refine bm_ok (op_ok (as := [none, some (.list [])]) (ds := [.list (acc.map ptD), .list []]) rfl rfl ?_)
    rw [ne_ok (PtB.shapes h) shaped_nil]
    cases acc with
    | nil => rfl
    | cons x r => rfl
  unfold joinB
  rcases nil_snoc acc with rfl | ⟨A, q, rfl⟩
  · have n1 : andB (boolM (opM true neD [.sl 1, .ex (listD (dispM []))])) (andB (boolM (opM true eqD [.ex (opM true addD [.ex (opM true ixD [.ex lastM, .ex (M.ret (.int 1))]), .ex (M.ret (.int 1))]), .sl 2])) (boolM (opM true eqD [.ex (opM true ixD [.ex lastM, .ex (M.ret (.int 2))]), .sl 4]))) [cs, .lst (([] : List Pt).map ptD), .dat (.int lo), .dat (.int hi), .dat (gD g)] = some (.ok false [cs, .lst (([] : List Pt).map ptD), .dat (.int lo), .dat (.int hi), .dat (gD g)]) := and_b (x := false) (y := false) n0 (fun z => nomatch z)
    rw [if_ok n1, if_neg Bool.false_ne_true, ap]; rfl
  · obtain ⟨a, b, g'⟩ := q
    have em : (A ++ [(a, b, g')]).map ptD = A.map ptD ++ [ptD (a, b, g')] := by rw [List.map_append]; rfl
    obtain ⟨E, hE⟩ : ∃ E : En, E = [cs, .lst ((A ++ [(a, b, g')]).map ptD), .dat (.int lo), .dat (.int hi), .dat (gD g)] := ⟨_, rfl⟩
    rw [← hE] at n0 ⊢
    have nd : decide (A ++ [(a, b, g')] ≠ []) = true := decide_eq_true (by simp)
    rw [nd] at n0
    have la : lastM E = some (.ok (ptD (a, b, g')) E) := by
      rw [hE]
      refine op_ok (as := [none, some (.int (-1))]) (ds := [.list ((A ++ [(a, b, g')]).map ptD), .int (-1)]) (run_sl (i := 1) rfl (run_ex rfl (show runA [] _ = some (.ok [] _) from rfl))) rfl ?_
      rw [em]
      exact atI_last
    have x0 : opM true ixD [.ex lastM, .ex (M.ret (.int 0))] E = some (.ok (.int a) E) := op_ok (as := [some (ptD (a, b, g')), some (.int 0)]) (ds := [ptD (a, b, g'), .int 0]) (run_ex la (run_ex rfl (show runA [] _ = some (.ok [] _) from rfl))) rfl rfl
    have x1 : opM true ixD [.ex lastM, .ex (M.ret (.int 1))] E = some (.ok (.int b) E) := op_ok (as := [some (ptD (a, b, g')), some (.int 1)]) (ds := [ptD (a, b, g'), .int 1]) (run_ex la (run_ex rfl (show runA [] _ = some (.ok [] _) from rfl))) rfl rfl
    have x2 : opM true ixD [.ex lastM, .ex (M.ret (.int 2))] E = some (.ok (gD g') E) := op_ok (as := [some (ptD (a, b, g')), some (.int 2)]) (ds := [ptD (a, b, g'), .int 2]) (run_ex la (run_ex rfl (show runA [] _ = some (.ok [] _) from rfl))) rfl rfl
    have y1 : opM true addD [.ex (opM true ixD [.ex lastM, .ex (M.ret (.int 1))]), .ex (M.ret (.int 1))] E = some (.ok (.int (b + 1)) E) := op_ok (as := [some (.int b), some (.int 1)]) (ds := [.int b, .int 1]) (run_ex x1 (run_ex rfl (show runA [] _ = some (.ok [] _) from rfl))) rfl rfl
    have c1 : boolM (opM true eqD [.ex (opM true addD [.ex (opM true ixD [.ex lastM, .ex (M.ret (.int 1))]), .ex (M.ret (.int 1))]), .sl 2]) E = some (.ok (decide (b + 1 = lo)) E) := bm_ok (op_ok (as := [some (.int (b + 1)), none]) (ds := [.int (b + 1), .int lo]) (run_ex y1 (run_sl (i := 2) (by rw [hE]; rfl) (show runA [] _ = some (.ok [] _) from rfl))) (by rw [hE]; rfl) (eq_int _ _))
    have c2 : boolM (opM true eqD [.ex (opM true ixD [.ex lastM, .ex (M.ret (.int 2))]), .sl 4]) E = some (.ok (decide (g' = g)) E) := bm_ok (op_ok (as := [some (gD g'), none]) (ds := [gD g', gD g]) (run_ex x2 (run_sl (i := 4) (by rw [hE]; rfl) (show runA [] _ = some (.ok [] _) from rfl))) (by rw [hE]; rfl) (gD_eq _ _))
    have n1 := and_b n0 (fun _ => and_b c1 (fun _ => c2))
    rw [if_ok n1, addR_last, Bool.true_and]
    by_cases z : b + 1 = lo ∧ g' = g
    · rw [if_pos z, decide_eq_true z.1, decide_eq_true z.2]
      have tp : tupM [.ex (opM true ixD [.ex lastM, .ex (M.ret (.int 0))]), .sl 3, .sl 4] E = some (.ok (ptD (a, hi, g)) E) := by
        unfold tupM
        exact (bind_ok (run_ex x0 (run_sl (i := 3) (by rw [hE]; rfl) (run_sl (i := 4) (by rw [hE]; rfl) (show runA [] _ = some (.ok [] _) from rfl))))).trans (by rw [hE]; rfl)
      have ng : opM true negD [.ex (M.ret (.int 1))] E = some (.ok (.int (-1)) E) := by rw [hE]; rfl
      have st : setM 1 (tupM [.ex (opM true ixD [.ex lastM, .ex (M.ret (.int 0))]), .sl 3, .sl 4]) (opM true negD [.ex (M.ret (.int 1))]) E = some (.ok .nx [cs, .lst ((A ++ [(a, hi, g)]).map ptD), .dat (.int lo), .dat (.int hi), .dat (gD g)]) := by
        unfold setM
        refine (bind_ok tp).trans ?_
        rw [if_pos (show held E 1 = true by rw [hE]; rfl)]
        refine (bind_ok ng).trans ?_
        rw [hE]
        unfold DL.putAt
        simp only [List.getElem?_cons_succ, List.getElem?_cons_zero]
        rw [ixN_last (by rw [List.length_map, List.length_append, List.length_singleton]; omega)]
        show some (Rs.ok O.nx [cs, .lst (((A ++ [(a, b, g')]).map ptD).set (((A ++ [(a, b, g')]).map ptD).length - 1) (ptD (a, hi, g))), .dat (.int lo), .dat (.int hi), .dat (gD g)]) = _
        rw [em, List.length_append, List.length_singleton, Nat.add_sub_cancel, List.set_append_right _ _ (Nat.le_refl _), Nat.sub_self, List.map_append]
        rfl
      exact st
    · rw [if_neg z]
      have fl : (decide (b + 1 = lo) && decide (g' = g)) = false := by
        rw [Bool.eq_false_iff]
        intro w
        have w2 := (Bool.and_eq_true _ _).mp w
        exact z ⟨of_decide_eq_true w2.1, of_decide_eq_true w2.2⟩
      rw [fl, if_neg Bool.false_ne_true]
      rw [← hE] at ap
      rw [ap, em]
      show some (Rs.ok O.nx [cs, .lst ((A.map ptD ++ [ptD (a, b, g')]) ++ [ptD (lo, hi, g)]), .dat (.int lo), .dat (.int hi), .dat (gD g)]) = some (Rs.ok O.nx [cs, .lst ((A ++ [(a, b, g'), (lo, hi, g)]).map ptD), .dat (.int lo), .dat (.int hi), .dat (gD g)])
      rw [List.map_append, List.append_assoc]
      rfl
theorem add_b {acc : List Pt} {x : Pt} (h : ∀ y ∈ acc, PtB y) (hx : PtB x) : (∀ y ∈ addR acc x, PtB y) ∧ (addR acc x).length ≤ acc.length + 1 := by
  rcases nil_snoc acc with rfl | ⟨A, q, rfl⟩
  · refine ⟨fun y hy => ?_, Nat.le_refl _⟩
    rw [List.mem_singleton.mp (show y ∈ [x] from hy)]; exact hx
  · rw [addR_last]
    have hq := h q (by simp)
    split
    · rename_i z
      refine ⟨fun y hy => ?_, by simp⟩
      rcases List.mem_append.mp hy with w | w
      · exact h y (List.mem_append_left _ w)
      · rw [List.mem_singleton.mp w]
        exact ⟨hq.a0, hq.a1, hx.b0, hx.b1, hx.g⟩
    · refine ⟨fun y hy => ?_, by simp⟩
      rcases List.mem_append.mp hy with w | w
      · exact h y (List.mem_append_left _ w)
      · simp only [List.mem_cons, List.not_mem_nil, or_false] at w
        rcases w with rfl | rfl
        · exact hq
        · exact hx
theorem join_loop {c0 : Sl} : ∀ (cs acc : List Pt) {x2 x3 x4 : Sl}, (∀ x ∈ cs, PtB x) → (∀ x ∈ acc, PtB x) → acc.length + cs.length ≤ 1000 → x2.owns = false → x3.owns = false → x4.owns = false →
    ∃ y2 y3 y4 : Sl, forL (tupT 3 (consT (setT 2) (consT (setT 3) (consT (setT 4) (nilT))))) joinB (cs.map ptD) [c0, .lst (acc.map ptD), x2, x3, x4] = some (.ok .nx [c0, .lst ((mergeL acc cs).map ptD), y2, y3, y4])
  | [], acc, x2, x3, x4, _, _, _, _, _, _ => ⟨x2, x3, x4, for_nil⟩
  | (lo, hi, g) :: cs, acc, x2, x3, x4, hc, ha, l, h2, h3, h4 => by
    rw [List.length_cons] at l
    have e := join_turn (cs := c0) (acc := acc) (lo := lo) (hi := hi) (g := g) ha (by omega)
    obtain ⟨ab, al⟩ := add_b ha (hc (lo, hi, g) (List.mem_cons_self ..))
    obtain ⟨y2, y3, y4, f⟩ := join_loop (c0 := c0) cs (addR acc (lo, hi, g)) (x2 := .dat (.int lo)) (x3 := .dat (.int hi)) (x4 := .dat (gD g)) (fun x hx => hc x (List.mem_cons_of_mem _ hx)) ab (by omega) rfl rfl rfl
    refine ⟨y2, y3, y4, ?_⟩
    have hg : tupT 3 (consT (setT 2) (consT (setT 3) (consT (setT 4) (nilT)))) (ptD (lo, hi, g)) [c0, .lst (acc.map ptD), x2, x3, x4] = some [c0, .lst (acc.map ptD), .dat (.int lo), .dat (.int hi), .dat (gD g)] := by
      show ((setT 2 (.int lo) [c0, .lst (acc.map ptD), x2, x3, x4]).bind fun e => (setT 3 (.int hi) e).bind fun e => (setT 4 (gD g) e).bind fun e => some e) = _
      rw [setT_ok (s := x2) rfl h2]
      show ((setT 3 (.int hi) [c0, .lst (acc.map ptD), .dat (.int lo), x3, x4]).bind fun e => (setT 4 (gD g) e).bind fun e => some e) = _
      rw [setT_ok (s := x3) rfl h3]
      show ((setT 4 (gD g) [c0, .lst (acc.map ptD), .dat (.int lo), .dat (.int hi), x4]).bind fun e => some e) = _
      rw [setT_ok (s := x4) rfl h4]; rfl
    generalize joinB = jb at e f ⊢
    show forL _ jb (ptD (lo, hi, g) :: cs.map ptD) _ = _
    rw [for_cons hg e, f]; rfl
theorem as_one_ok {cs : List Pt} (hc : ∀ x ∈ cs, PtB x) (l : cs.length ≤ 1000) : F_law_e_as_one_9db9 [.dat (.list (cs.map ptD))] = some (.ok (.dat (.tuple ((mergeL [] cs).map ptD))) [.dat (.list (cs.map ptD))]) := by
  obtain ⟨y2, y3, y4, f⟩ := join_loop (c0 := .dat (.list (cs.map ptD))) cs [] (x2 := .non) (x3 := .non) (x4 := .non) hc (fun _ h => nomatch h) (by simpa using l) rfl rfl rfl
  refine body_rt (e := [.dat (.list (cs.map ptD)), .lst ((mergeL [] cs).map ptD), y2, y3, y4]) ?_ rfl
  show m_law_e_as_one_9db9 [.dat (.list (cs.map ptD)), .non, .non, .non, .non] = _
  unfold m_law_e_as_one_9db9
  refine seq_nx' (e' := [.dat (.list (cs.map ptD)), .lst [], .non, .non, .non]) rfl ?_
  refine seq_nx' (for_ok (ds := cs.map ptD) (e1 := [.dat (.list (cs.map ptD)), .lst [], .non, .non, .non]) rfl f) ?_
  exact ret_o (op_ok (as := [none]) (ds := [.list ((mergeL [] cs).map ptD)]) rfl rfl rfl)
end QA

set_option maxHeartbeats 1000000
/-! what the wall shows: the law's reading, cells and due -/
namespace QA
open PySem PySem.Spec PyProof.Rows DL MR
def endsL : List D → List Int
  | [] => []
  | x :: xs => (lnP x).1 :: ((lnP x).2 + 1) :: endsL xs
theorem ends_len : ∀ xs : List D, (endsL xs).length = 2 * xs.length
  | [] => rfl
  | x :: xs => by
    show ((endsL xs).length + 1) + 1 = 2 * (xs.length + 1)
    rw [ends_len xs]; omega
theorem starts_loop {L0 : Sl} : ∀ (xs : List D) (G : List Int) {x2 : Sl}, (∀ x ∈ xs, Line x) → G.length + 2 * xs.length ≤ 1000 → x2.owns = false →
    ∃ y2 : Sl, forL (setT 2) (asgM (opM true addD [.sl 1, .ex (listD (dispM [.ex (opM true ixD [.sl 2, .ex (M.ret (.int 0))]), .ex (opM true addD [.ex (opM true ixD [.sl 2, .ex (M.ret (.int 1))]), .ex (M.ret (.int 1))])]))]) (setT 1)) xs [L0, .dat (.list (G.map .int)), x2, .non, .non] = some (.ok .nx [L0, .dat (.list ((G ++ endsL xs).map .int)), y2, .non, .non])
  | [], G, x2, _, _, _ => ⟨x2, by rw [show G ++ endsL [] = G from List.append_nil G]; exact for_nil⟩
  | x :: xs, G, x2, h, l, h2 => by
    obtain ⟨a, b, co, rfl, _⟩ := (h x (List.mem_cons_self ..)).is
    rw [List.length_cons] at l
    obtain ⟨y2, g⟩ := starts_loop (L0 := L0) xs (G ++ [a, b + 1]) (x2 := .dat (.tuple [.int a, .int b, co])) (fun y hy => h y (List.mem_cons_of_mem _ hy)) (by rw [List.length_append]; show G.length + 2 + _ ≤ _; omega) rfl
    refine ⟨y2, ?_⟩
    have ad : opM true addD [.sl 1, .ex (listD (dispM [.ex (opM true ixD [.sl 2, .ex (M.ret (.int 0))]), .ex (opM true addD [.ex (opM true ixD [.sl 2, .ex (M.ret (.int 1))]), .ex (M.ret (.int 1))])]))] [L0, .dat (.list (G.map .int)), .dat (.tuple [.int a, .int b, co]), .non, .non] = some (.ok (.list ((G ++ [a, b + 1]).map .int)) [L0, .dat (.list (G.map .int)), .dat (.tuple [.int a, .int b, co]), .non, .non]) :=
      op_ok (as := [none, some (.list [.int a, .int (b + 1)])]) (ds := [.list (G.map .int), .list [.int a, .int (b + 1)]]) (run_sl (i := 1) rfl (run_ex rfl (show runA [] _ = some (.ok [] _) from rfl))) rfl (add_lists (a := G) (b := [a, b + 1]) (by simp; omega))
    have hb : asgM (opM true addD [.sl 1, .ex (listD (dispM [.ex (opM true ixD [.sl 2, .ex (M.ret (.int 0))]), .ex (opM true addD [.ex (opM true ixD [.sl 2, .ex (M.ret (.int 1))]), .ex (M.ret (.int 1))])]))]) (setT 1) [L0, .dat (.list (G.map .int)), .dat (.tuple [.int a, .int b, co]), .non, .non] = some (.ok .nx [L0, .dat (.list ((G ++ [a, b + 1]).map .int)), .dat (.tuple [.int a, .int b, co]), .non, .non]) := asg_ok ad rfl
    rw [for_cons (setT_ok (s := x2) rfl h2) hb, g, List.append_assoc]
    rfl
theorem low_loop {L0 x1 x2 : Sl} : ∀ G : List Int, compL [3] (setT 3) (boolM (opM true leD [.sl 3, .ex (opM true powD [.ex (M.ret (.int 10)), .ex (M.ret (.int 9))])])) (varM 3) (G.map .int) [L0, x1, x2, .non, .non] = some (.ok ((G.filter fun x => decide (x ≤ 1000000000)).map .int) [L0, x1, x2, .non, .non])
  | [] => rfl
  | x :: G => by
    have ih := low_loop (L0 := L0) (x1 := x1) (x2 := x2) G
    have hc : boolM (opM true leD [.sl 3, .ex (opM true powD [.ex (M.ret (.int 10)), .ex (M.ret (.int 9))])]) [L0, x1, x2, .dat (.int x), .non] = some (.ok (decide (x ≤ 1000000000)) [L0, x1, x2, .dat (.int x), .non]) := bm_ok rfl
    rw [List.filter_cons]
    by_cases q : decide (x ≤ 1000000000) = true
    · rw [q] at hc
      rw [if_pos q]
      exact comp_cons (e1 := [L0, x1, x2, .dat (.int x), .non]) rfl rfl hc rfl ih
    · rw [Bool.eq_false_iff.mpr q] at hc
      rw [if_neg q]
      exact comp_skip (e1 := [L0, x1, x2, .dat (.int x), .non]) rfl rfl hc ih
def pairsD : List Int → List D
  | a :: b :: r => .tuple [.int a, .int (b - 1)] :: pairsD (b :: r)
  | _ => []
theorem rangeL_cons (i m : Nat) : rangeL (i : Int) (m + 1) = .int (i : Int) :: rangeL ((i + 1 : Nat) : Int) m := by
  unfold rangeL
  rw [List.range_succ_eq_map, List.map_cons, List.map_map]
  refine congr (congrArg List.cons ?_) (List.map_congr_left fun k _ => ?_)
  · simp
  · show PyData.int ((i : Int) + ((k + 1 : Nat) : Int)) = PyData.int (((i + 1 : Nat) : Int) + (k : Int))
    congr 1
    omega
theorem pairs_loop {L0 x2 x3 : Sl} {S : List Int} : ∀ (m i : Nat), i + m + 1 = S.length →
    compL [4] (setT 4) (M.ret true) (tupM [.ex (opM true ixD [.sl 1, .sl 4]), .ex (opM true subD [.ex (opM true ixD [.sl 1, .ex (opM true addD [.sl 4, .ex (M.ret (.int 1))])]), .ex (M.ret (.int 1))])]) (rangeL (i : Int) m) [L0, .dat (.list (S.map .int)), x2, x3, .non] = some (.ok (pairsD (S.drop i)) [L0, .dat (.list (S.map .int)), x2, x3, .non])
  | 0, i, h => by
    have hi : i < S.length := by omega
    rw [List.drop_eq_getElem_cons hi, List.drop_eq_nil_of_le (by omega)]; rfl
  | m + 1, i, h => by
    have hi : i < S.length := by omega
    have hj : i + 1 < S.length := by omega
    have ih := pairs_loop (L0 := L0) (x2 := x2) (x3 := x3) (S := S) m (i + 1) (by omega)
    have v0 : opM true ixD [.sl 1, .sl 4] [L0, .dat (.list (S.map .int)), x2, x3, .dat (.int (i : Int))] = some (.ok (.int S[i]) [L0, .dat (.list (S.map .int)), x2, x3, .dat (.int (i : Int))]) :=
      op_ok (as := [none, none]) (ds := [.list (S.map .int), .int (i : Int)]) rfl rfl (atI_nat (by rw [List.getElem?_map, List.getElem?_eq_getElem hi]; rfl))
    have v1 : opM true ixD [.sl 1, .ex (opM true addD [.sl 4, .ex (M.ret (.int 1))])] [L0, .dat (.list (S.map .int)), x2, x3, .dat (.int (i : Int))] = some (.ok (.int S[i + 1]) [L0, .dat (.list (S.map .int)), x2, x3, .dat (.int (i : Int))]) := by
      refine op_ok (as := [none, some (.int ((i : Int) + 1))]) (ds := [.list (S.map .int), .int ((i : Int) + 1)]) (run_sl (i := 1) rfl (run_ex rfl (show runA [] _ = some (.ok [] _) from rfl))) rfl ?_
      rw [show ((i : Int) + 1) = ((i + 1 : Nat) : Int) by omega]
      exact atI_nat (by rw [List.getElem?_map, List.getElem?_eq_getElem hj]; rfl)
    have v2 : opM true subD [.ex (opM true ixD [.sl 1, .ex (opM true addD [.sl 4, .ex (M.ret (.int 1))])]), .ex (M.ret (.int 1))] [L0, .dat (.list (S.map .int)), x2, x3, .dat (.int (i : Int))] = some (.ok (.int (S[i + 1] - 1)) [L0, .dat (.list (S.map .int)), x2, x3, .dat (.int (i : Int))]) := op_ok (as := [some (.int S[i + 1]), some (.int 1)]) (ds := [.int S[i + 1], .int 1]) (run_ex v1 (run_ex rfl (show runA [] _ = some (.ok [] _) from rfl))) rfl rfl
    have he : tupM [.ex (opM true ixD [.sl 1, .sl 4]), .ex (opM true subD [.ex (opM true ixD [.sl 1, .ex (opM true addD [.sl 4, .ex (M.ret (.int 1))])]), .ex (M.ret (.int 1))])] [L0, .dat (.list (S.map .int)), x2, x3, .dat (.int (i : Int))] = some (.ok (.tuple [.int S[i], .int (S[i + 1] - 1)]) [L0, .dat (.list (S.map .int)), x2, x3, .dat (.int (i : Int))]) := by
      unfold tupM
      exact (bind_ok (run_ex v0 (run_ex v2 (show runA [] _ = some (.ok [] _) from rfl)))).trans rfl
    rw [rangeL_cons, List.drop_eq_getElem_cons hi]
    rw [List.drop_eq_getElem_cons hj] at ih ⊢
    exact comp_cons (e1 := [L0, .dat (.list (S.map .int)), x2, x3, .dat (.int (i : Int))]) rfl rfl rfl he ih
/-- the starts of the cells -/
def startsOf (L : List D) : List Int := usort ((0 :: endsL L).filter fun x => decide (x ≤ 1000000000)) ++ [1000000001]
theorem cells_l {L : List D} (hL : ∀ x ∈ L, Line x) (lL : L.length ≤ 14) : F_law_e_cells_22ca [.dat (.list L)] = some (.ok (.lst (pairsD (startsOf L))) [.dat (.list L)]) := by
  obtain ⟨y2, g⟩ := starts_loop (L0 := .dat (.list L)) L [0] (x2 := .non) hL (by simp; omega) rfl
  have le := ends_len L
  have lf : ((0 :: endsL L).filter fun x => decide (x ≤ 1000000000)).length ≤ (0 :: endsL L).length := List.length_filter_le _ _
  rw [List.length_cons, le] at lf
  have lu := usort_len ((0 :: endsL L).filter fun x => decide (x ≤ 1000000000))
  have lS : (startsOf L).length ≤ 100 := by
    unfold startsOf
    rw [List.length_append, List.length_singleton]; omega
  have lS1 : 1 ≤ (startsOf L).length := by
    unfold startsOf
    rw [List.length_append, List.length_singleton]; omega
  have c1 := listD_ok (comp_ok (mi := seqI (varM 1)) (ds := ([0] ++ endsL L).map .int) (e := [.dat (.list L), .dat (.list (([0] ++ endsL L).map .int)), y2, .non, .non]) (e1 := [.dat (.list L), .dat (.list (([0] ++ endsL L).map .int)), y2, .non, .non]) rfl (by rw [List.length_map, List.length_append, le]; simp; omega) (low_loop (L0 := .dat (.list L)) (x1 := .dat (.list (([0] ++ endsL L).map .int))) (x2 := y2) ([0] ++ endsL L)))
  have u1 : opM true usortD [.ex (listD (compM (seqI (varM 1)) [3] (setT 3) (boolM (opM true leD [.sl 3, .ex (opM true powD [.ex (M.ret (.int 10)), .ex (M.ret (.int 9))])])) (varM 3)))] [.dat (.list L), .dat (.list (([0] ++ endsL L).map .int)), y2, .non, .non] = some (.ok (.list ((usort ((0 :: endsL L).filter fun x => decide (x ≤ 1000000000))).map .int)) [.dat (.list L), .dat (.list (([0] ++ endsL L).map .int)), y2, .non, .non]) := by
    refine op_ok (as := [some (.list ((([0] ++ endsL L).filter fun x => decide (x ≤ 1000000000)).map .int))]) (ds := [.list ((([0] ++ endsL L).filter fun x => decide (x ≤ 1000000000)).map .int)]) (run_ex c1 (show runA [] _ = some (.ok [] _) from rfl)) rfl ?_
    unfold usortD
    dsimp only
    rw [intsOf_map]
    dsimp only
    exact if_pos (Nat.lt_of_le_of_lt lf (by omega))
  have a1 : opM true addD [.ex (opM true usortD [.ex (listD (compM (seqI (varM 1)) [3] (setT 3) (boolM (opM true leD [.sl 3, .ex (opM true powD [.ex (M.ret (.int 10)), .ex (M.ret (.int 9))])])) (varM 3)))]), .ex (listD (dispM [.ex (opM true addD [.ex (opM true powD [.ex (M.ret (.int 10)), .ex (M.ret (.int 9))]), .ex (M.ret (.int 1))])]))] [.dat (.list L), .dat (.list (([0] ++ endsL L).map .int)), y2, .non, .non] = some (.ok (.list ((startsOf L).map .int)) [.dat (.list L), .dat (.list (([0] ++ endsL L).map .int)), y2, .non, .non]) :=
    op_ok (as := [some (.list ((usort ((0 :: endsL L).filter fun x => decide (x ≤ 1000000000))).map .int)), some (.list [.int 1000000001])]) (ds := [.list ((usort ((0 :: endsL L).filter fun x => decide (x ≤ 1000000000))).map .int), .list [.int 1000000001]]) (run_ex u1 (run_ex rfl (show runA [] _ = some (.ok [] _) from rfl))) rfl (add_lists (a := usort ((0 :: endsL L).filter fun x => decide (x ≤ 1000000000))) (b := [1000000001]) (by rw [List.length_singleton]; omega))
  obtain ⟨m, hm⟩ : ∃ m, m + 1 = (startsOf L).length := ⟨(startsOf L).length - 1, by omega⟩
  have sb : opM true subD [.ex (opM true lenD [.sl 1]), .ex (M.ret (.int 1))] [.dat (.list L), .dat (.list ((startsOf L).map .int)), y2, .non, .non] = some (.ok (.int (m : Nat)) [.dat (.list L), .dat (.list ((startsOf L).map .int)), y2, .non, .non]) := by
    refine op_ok (as := [some (.int ((m + 1 : Nat) : Int)), some (.int 1)]) (ds := [.int ((m + 1 : Nat) : Int), .int 1]) (run_ex (op_ok (as := [none]) (ds := [.list ((startsOf L).map .int)]) rfl rfl (by
      show some (PyData.int (((startsOf L).map PyData.int).length : Nat)) = _
      rw [List.length_map, ← hm])) (run_ex rfl (show runA [] _ = some (.ok [] _) from rfl))) rfl ?_
    show some (PyData.int (((m + 1 : Nat) : Int) - 1)) = _
    congr 2
    omega
  have c2 := comp_ok (range1 sb (by omega)) (by rw [rangeL_len]; omega) (pairs_loop (L0 := .dat (.list L)) (x2 := y2) (x3 := .non) (S := startsOf L) m 0 (by omega))
  rw [List.drop_zero] at c2
  refine body_rt (e := [.dat (.list L), .dat (.list ((startsOf L).map .int)), y2, .non, .non]) ?_ rfl
  show m_law_e_cells_22ca [.dat (.list L), .non, .non, .non, .non] = _
  unfold m_law_e_cells_22ca
  refine seq_nx' (e' := [.dat (.list L), .dat (.list (([0] : List Int).map .int)), .non, .non, .non]) rfl ?_
  refine seq_nx' (for_ok (ds := L) (e1 := [.dat (.list L), .dat (.list (([0] : List Int).map .int)), .non, .non, .non]) rfl g) ?_
  refine seq_nx' (e' := [.dat (.list L), .dat (.list ((startsOf L).map .int)), y2, .non, .non]) (asg_ok a1 rfl) ?_
  exact (bind_ok c2).trans rfl
/-! ### due -/
theorem last_gD {p : Int} : ∀ (xs : List D) (i : Nat) (f : Option Nat), (∀ x ∈ xs, Line x) → lastD p i (gD f) xs = gD (lastO (xs.map lnP) i f p)
  | [], _, _, _ => rfl
  | x :: xs, i, f, h => by
    obtain ⟨a, b, co, rfl, _⟩ := (h x (List.mem_cons_self ..)).is
    show lastD p (i + 1) (if (decide (a ≤ p) && decide (p ≤ b)) = true then .int (i : Int) else gD f) xs = gD (lastO (xs.map lnP) (i + 1) (if a ≤ p ∧ p ≤ b then some i else f) p)
    rw [← last_gD xs (i + 1) _ fun y hy => h y (List.mem_cons_of_mem _ hy)]
    by_cases q : a ≤ p ∧ p ≤ b
    · rw [if_pos q, if_pos (by rw [decide_eq_true q.1, decide_eq_true q.2]; rfl)]; rfl
    · rw [if_neg q, if_neg (fun z => q (by
        have w := (Bool.and_eq_true _ _).mp z
        exact ⟨of_decide_eq_true w.1, of_decide_eq_true w.2⟩))]
theorem due_cells {L : List D} (hL : ∀ x ∈ L, Line x) : ∀ S : List Int, compL [1] (setT 1) (M.ret true) (opM true addD [.sl 1, .ex (tupM [.ex (datM (callV F_law_e_at_2cf3 [.sl 0, .ex (opM true ixD [.sl 1, .ex (M.ret (.int 0))])]))])]) (pairsD S) [.dat (.list L), .non] = some (.ok ((cellsR (lastO (L.map lnP) 0 none) S).map ptD) [.dat (.list L), .non])
  | [] => rfl
  | [a] => rfl
  | a :: b :: r => by
    have ih := due_cells hL (b :: r)
    have x0 : opM true ixD [.sl 1, .ex (M.ret (.int 0))] [.dat (.list L), .dat (.tuple [.int a, .int (b - 1)])] = some (.ok (.int a) [.dat (.list L), .dat (.tuple [.int a, .int (b - 1)])]) := rfl
    have c0 : datM (callV F_law_e_at_2cf3 [.sl 0, .ex (opM true ixD [.sl 1, .ex (M.ret (.int 0))])]) [.dat (.list L), .dat (.tuple [.int a, .int (b - 1)])] = some (.ok (gD (lastO (L.map lnP) 0 none a)) [.dat (.list L), .dat (.tuple [.int a, .int (b - 1)])]) := by
      rw [← last_gD L 0 none hL]
      exact datM_ok (call_pure (as := [none, some (.int a)]) (ss := [.dat (.list L), .dat (.int a)]) (run_sl (i := 0) rfl (run_ex x0 (show runA [] _ = some (.ok [] _) from rfl))) rfl rfl (at_ok hL) rfl)
    have t0 : tupM [.ex (datM (callV F_law_e_at_2cf3 [.sl 0, .ex (opM true ixD [.sl 1, .ex (M.ret (.int 0))])]))] [.dat (.list L), .dat (.tuple [.int a, .int (b - 1)])] = some (.ok (.tuple [gD (lastO (L.map lnP) 0 none a)]) [.dat (.list L), .dat (.tuple [.int a, .int (b - 1)])]) := by
      unfold tupM
      exact (bind_ok (run_ex c0 (show runA [] _ = some (.ok [] _) from rfl))).trans rfl
    have he : opM true addD [.sl 1, .ex (tupM [.ex (datM (callV F_law_e_at_2cf3 [.sl 0, .ex (opM true ixD [.sl 1, .ex (M.ret (.int 0))])]))])] [.dat (.list L), .dat (.tuple [.int a, .int (b - 1)])] = some (.ok (ptD (a, b - 1, lastO (L.map lnP) 0 none a)) [.dat (.list L), .dat (.tuple [.int a, .int (b - 1)])]) :=
      op_ok (as := [none, some (.tuple [gD (lastO (L.map lnP) 0 none a)])]) (ds := [.tuple [.int a, .int (b - 1)], .tuple [gD (lastO (L.map lnP) 0 none a)]]) (run_sl (i := 1) rfl (run_ex t0 (show runA [] _ = some (.ok [] _) from rfl))) rfl (add_tup (a := [.int a, .int (b - 1)]) (b := [gD (lastO (L.map lnP) 0 none a)]) (by simp))
    exact comp_cons (e1 := [.dat (.list L), .dat (.tuple [.int a, .int (b - 1)])]) rfl rfl rfl he ih
end QA

set_option maxHeartbeats 1000000
/-! k15: both readings of the wall are one -/
namespace QA
open PySem PySem.Spec PyProof.Rows DL MR
theorem ends_mem : ∀ {L : List D} {l : Int × Int}, l ∈ L.map lnP → l.1 ∈ endsL L ∧ l.2 + 1 ∈ endsL L
  | [], l, h => nomatch h
  | x :: xs, l, h => by
    rcases List.mem_cons.mp (show l ∈ lnP x :: xs.map lnP from h) with q | q
    · subst q
      exact ⟨List.mem_cons_self .., List.mem_cons_of_mem _ (List.mem_cons_self ..)⟩
    · obtain ⟨a, b⟩ := ends_mem q
      exact ⟨List.mem_cons_of_mem _ (List.mem_cons_of_mem _ a), List.mem_cons_of_mem _ (List.mem_cons_of_mem _ b)⟩
theorem ends_on : ∀ {L : List D} {x : Int}, (∀ y ∈ L, Line y) → x ∈ endsL L → 0 ≤ x
  | [], _, _, h => nomatch h
  | y :: L, x, hL, h => by
    obtain ⟨a, b, co, rfl, a0, ab, b1, _⟩ := (hL y (List.mem_cons_self ..)).is
    have h' : x ∈ a :: (b + 1) :: endsL L := h
    rcases List.mem_cons.mp h' with q | q
    · omega
    · rcases List.mem_cons.mp q with q | q
      · omega
      · exact ends_on (fun z hz => hL z (List.mem_cons_of_mem _ hz)) q
theorem lines_in {L : List D} (hL : ∀ x ∈ L, Line x) : ∀ l ∈ L.map lnP, In (1000000000 + 1) l := fun l hl => by
  obtain ⟨x, hx, rfl⟩ := List.mem_map.mp hl
  obtain ⟨a, b, co, rfl, a0, ab, b1, _⟩ := (hL x hx).is
  exact ⟨a0, ab, by show b + 1 ≤ _; omega⟩
structure StOk (L : List D) (r : List Int) : Prop where
  eq : startsOf L = 0 :: r
  up : (0 :: r).Pairwise (· < ·)
  la : (0 :: r).getLast (fun z => nomatch z) = 1000000000 + 1
  on : ∀ x ∈ 0 :: r, 0 ≤ x ∧ x ≤ 1000000001
  mem : ∀ l ∈ L.map lnP, l.1 ∈ 0 :: r ∧ (l.2 + 1 ≤ 1000000000 → l.2 + 1 ∈ 0 :: r)
theorem starts_ok {L : List D} (hL : ∀ x ∈ L, Line x) : ∃ r, StOk L r := by
  obtain ⟨F, hF⟩ : ∃ F, F = (0 :: endsL L).filter fun x => decide (x ≤ 1000000000) := ⟨_, rfl⟩
  have fm : ∀ x, x ∈ F ↔ (x ∈ 0 :: endsL L ∧ x ≤ 1000000000) := fun x => by
    rw [hF, List.mem_filter]
    constructor
    · exact fun ⟨a, b⟩ => ⟨a, of_decide_eq_true b⟩
    · exact fun ⟨a, b⟩ => ⟨a, decide_eq_true b⟩
  have f0 : (0 : Int) ∈ F := (fm 0).mpr ⟨List.mem_cons_self .., by decide⟩
  have fon : ∀ x ∈ F, 0 ≤ x ∧ x ≤ 1000000000 := fun x hx => by
    obtain ⟨a, b⟩ := (fm x).mp hx
    refine ⟨?_, b⟩
    rcases List.mem_cons.mp a with q | q
    · omega
    · exact ends_on hL q
  have eS : startsOf L = usort F ++ [1000000001] := by rw [hF]; rfl
  have u0 : (0 : Int) ∈ usort F := usort_mem.mpr f0
  have up : (usort F ++ [1000000001]).Pairwise (· < ·) := by
    rw [List.pairwise_append]
    refine ⟨usort_up F, List.pairwise_singleton _ _, fun a ha b hb => ?_⟩
    rw [List.mem_singleton.mp hb]
    have := fon a (usort_mem.mp ha)
    omega
  have on : ∀ x ∈ usort F ++ [1000000001], 0 ≤ x ∧ x ≤ 1000000001 := fun x hx => by
    rcases List.mem_append.mp hx with q | q
    · have := fon x (usort_mem.mp q); omega
    · rw [List.mem_singleton.mp q]; omega
  cases hu : usort F with
  | nil => rw [hu] at u0; cases u0
  | cons s0 t =>
    have s00 : s0 = 0 := by
      have h1 := fon s0 (usort_mem.mp (by rw [hu]; exact List.mem_cons_self ..))
      rw [hu] at u0
      rcases List.mem_cons.mp u0 with q | q
      · exact q.symm
      · have := (List.pairwise_cons.mp (hu ▸ usort_up F)).1 0 q
        omega
    subst s00
    rw [hu, List.cons_append] at up on eS
    refine ⟨t ++ [1000000001], eS, up, ?_, on, fun l hl => ?_⟩
    · rw [List.getLast_cons (show t ++ [(1000000001 : Int)] ≠ [] by simp)]
      simp
    · obtain ⟨m1, m2⟩ := ends_mem hl
      obtain ⟨i0, i1, i2⟩ := lines_in hL l hl
      have inS : ∀ x, x ∈ endsL L → x ≤ 1000000000 → x ∈ 0 :: (t ++ [1000000001]) := fun x hx hle => by
        have : x ∈ usort F := usort_mem.mpr ((fm x).mpr ⟨List.mem_cons_of_mem _ hx, hle⟩)
        rw [hu] at this
        show x ∈ (0 :: t) ++ [1000000001]
        exact List.mem_append_left _ this
      exact ⟨inS _ m1 (by omega), fun z => inS _ m2 z⟩
theorem lastO_lt {p : Int} : ∀ (ls : List (Int × Int)) (i : Nat) (f : Option Nat) (n : Nat), (∀ j, f = some j → j < n) → i + ls.length ≤ n → ∀ j, lastO ls i f p = some j → j < n
  | [], _, f, n, h, _, j, e => h j e
  | (lo, hi) :: ls, i, f, n, h, l, j, e => by
    rw [List.length_cons] at l
    refine lastO_lt ls (i + 1) (if lo ≤ p ∧ p ≤ hi then some i else f) n (fun j hj => ?_) (by omega) j e
    split at hj
    · cases hj; omega
    · exact h j hj
theorem cells_b {f : Int → Option Nat} (hf : ∀ p j, f p = some j → j ≤ 1000) : ∀ (S : List Int), S.Pairwise (· < ·) → (∀ x ∈ S, 0 ≤ x ∧ x ≤ 1000000001) → (∀ x ∈ cellsR f S, PtB x) ∧ (cellsR f S).length ≤ S.length
  | [], _, _ => ⟨fun _ h => (nomatch h), Nat.le_refl _⟩
  | [a], _, _ => ⟨fun _ h => (nomatch h), Nat.zero_le _⟩
  | a :: b :: r, h, on => by
    obtain ⟨h1, h2⟩ := List.pairwise_cons.mp h
    obtain ⟨i1, i2⟩ := cells_b hf (b :: r) h2 fun x hx => on x (List.mem_cons_of_mem _ hx)
    have ab := h1 b (List.mem_cons_self ..)
    have oa := on a (List.mem_cons_self ..)
    have ob := on b (List.mem_cons_of_mem _ (List.mem_cons_self ..))
    refine ⟨fun x hx => ?_, by show (cellsR f (b :: r)).length + 1 ≤ (b :: r).length + 1; omega⟩
    rcases List.mem_cons.mp (show x ∈ (a, b - 1, f a) :: cellsR f (b :: r) from hx) with q | q
    · subst q
      exact ⟨oa.1, by show a ≤ _; omega, by show 0 ≤ b - 1; omega, by show b - 1 ≤ _; omega, fun j e => hf a j e⟩
    · exact i1 x q
theorem merge_b : ∀ (cs acc : List Pt), (∀ x ∈ cs, PtB x) → (∀ x ∈ acc, PtB x) → (∀ x ∈ mergeL acc cs, PtB x) ∧ (mergeL acc cs).length ≤ acc.length + cs.length
  | [], acc, _, h => ⟨h, Nat.le_refl _⟩
  | x :: cs, acc, hc, h => by
    obtain ⟨a1, a2⟩ := add_b h (hc x (List.mem_cons_self ..))
    obtain ⟨b1, b2⟩ := merge_b cs (addR acc x) (fun y hy => hc y (List.mem_cons_of_mem _ hy)) a1
    refine ⟨b1, ?_⟩
    show (mergeL (addR acc x) cs).length ≤ acc.length + (cs.length + 1)
    omega
theorem wall_all {L : List D} (hL : ∀ x ∈ L, Line x) (lL : L.length ≤ 14) : ∃ r, StOk L r ∧ wallR L = mergeL [] (cellsR (lastO (L.map lnP) 0 none) (0 :: r)) ∧ (∀ x ∈ cellsR (lastO (L.map lnP) 0 none) (0 :: r), PtB x) ∧ (cellsR (lastO (L.map lnP) 0 none) (0 :: r)).length ≤ 100 := by
  obtain ⟨r, so⟩ := starts_ok hL
  have hf : ∀ p j, lastO (L.map lnP) 0 none p = some j → j ≤ 1000 := fun p j e => by
    have := lastO_lt (p := p) (L.map lnP) 0 none 1000 (fun j h => nomatch h) (by rw [List.length_map]; omega) j e
    omega
  obtain ⟨c1, c2⟩ := cells_b hf (0 :: r) so.up so.on
  have lS : (0 :: r).length ≤ 100 := by
    rw [← so.eq]
    have le := ends_len L
    have lf : ((0 :: endsL L).filter fun x => decide (x ≤ 1000000000)).length ≤ (0 :: endsL L).length := List.length_filter_le _ _
    rw [List.length_cons, le] at lf
    have lu := usort_len ((0 :: endsL L).filter fun x => decide (x ≤ 1000000000))
    unfold startsOf
    rw [List.length_append, List.length_singleton]; omega
  exact ⟨r, so, wall_eq (by decide) (lines_in hL) so.up so.la so.mem, c1, by omega⟩
theorem due_ok {L : List D} (hL : ∀ x ∈ L, Line x) (lL : L.length ≤ 14) : F_law_e_due_d123 [.dat (.list L)] = some (.ok (.dat (.tuple ((wallR L).map ptD))) [.dat (.list L)]) := by
  obtain ⟨r, so, we, cb, cl⟩ := wall_all hL lL
  have k1 := listD_ok (lstM_ok (call_pure (F := F_law_e_cells_22ca) (os := [.sl 0]) (env := [.dat (.list L), .non]) (as := [none]) (ss := [.dat (.list L)]) rfl rfl rfl (cells_l hL lL) rfl))
  have pl : ∀ S : List Int, (pairsD S).length ≤ S.length := fun S => by
    induction S with
    | nil => exact Nat.le_refl _
    | cons a t ih => cases t with
      | nil => exact Nat.zero_le _
      | cons b r => show (pairsD (b :: r)).length + 1 ≤ (b :: r).length + 1; omega
  have k2 : seqI (listD (lstM (callV F_law_e_cells_22ca [.sl 0]))) [.dat (.list L), .non] = some (.ok (pairsD (startsOf L)) [.dat (.list L), .non]) := (bind_ok k1).trans rfl
  have lS : (pairsD (startsOf L)).length ≤ 1000000 := by
    have := pl (startsOf L)
    have le := ends_len L
    have lf : ((0 :: endsL L).filter fun x => decide (x ≤ 1000000000)).length ≤ (0 :: endsL L).length := List.length_filter_le _ _
    rw [List.length_cons, le] at lf
    have lu := usort_len ((0 :: endsL L).filter fun x => decide (x ≤ 1000000000))
    have : (startsOf L).length ≤ 100 := by
      unfold startsOf
      rw [List.length_append, List.length_singleton]; omega
    omega
  have k3 := listD_ok (comp_ok k2 lS (due_cells hL (startsOf L)))
  rw [so.eq] at k3
  have k4 := datM_ok (call_pure (F := F_law_e_as_one_9db9) (env' := [.dat (.list L), .non]) (as := [some (.list ((cellsR (lastO (L.map lnP) 0 none) (0 :: r)).map ptD))]) (ss := [.dat (.list ((cellsR (lastO (L.map lnP) 0 none) (0 :: r)).map ptD))]) (run_ex k3 (show runA [] _ = some (.ok [] _) from rfl)) rfl rfl (as_one_ok cb (by omega)) rfl)
  refine body_rt (e := [.dat (.list L), .non]) ?_ rfl
  show m_law_e_due_d123 [.dat (.list L), .non] = _
  unfold m_law_e_due_d123
  rw [we]
  exact ret_o k4
theorem wall_rD {L : List D} (hL : ∀ x ∈ L, Line x) (lL : L.length ≤ 14) : reprD [.tuple ((wallR L).map ptD)] = some (.str (PyData.tuple ((wallR L).map ptD)).shown) ∧ SeqAt.shaped (.str (PyData.tuple ((wallR L).map ptD)).shown) = true := by
  obtain ⟨r, so, we, cb, cl⟩ := wall_all hL lL
  obtain ⟨m1, m2⟩ := merge_b (cellsR (lastO (L.map lnP) 0 none) (0 :: r)) [] cb (fun _ h => nomatch h)
  rw [we]
  have f : Fn false 5 ((400 + 2) * ((mergeL [] (cellsR (lastO (L.map lnP) 0 none) (0 :: r))).map ptD).length + 3) (.tuple ((mergeL [] (cellsR (lastO (L.map lnP) 0 none) (0 :: r))).map ptD)) := Fn.tuple fun d hd => by
    obtain ⟨x, hx, rfl⟩ := List.mem_map.mp hd
    exact (m1 x hx).fn false
  rw [List.length_map] at f
  rw [List.length_nil] at m2
  exact f.rD (by decide) (by omega)
end QA

set_option maxHeartbeats 1000000
/-! k15: the law -/
namespace QA
open PySem PySem.Spec PyProof.Rows DL MR
theorem str2_ne {t : Str} (h : SeqAt.shaped (.str t) = true) : neD [.list [.str t, .str t], .list [.str t, .str t]] = some (.bool false) := by
  have c : PyData.canLay0 (.str t) = true := by
    unfold SeqAt.shaped at h
    exact ((Bool.and_eq_true _ _).mp h).1
  have s : SeqAt.shaped (.list [.str t, .str t]) = true := by
    unfold SeqAt.shaped
    simp [PyData.canLay0, PyData.canLayAll0, PyData.depth, PyData.depthAll] at c ⊢
    exact c
  rw [ne_ok s s]
  simp [PyData.eqv, PyData.eqvAll]
@[reducible] def wE (L : List D) (x2 : Sl) : En := [.book L, .dat (.list L), x2]
noncomputable def seeB : M O := (ifM (boolM (opM true neD [.ex (opM true reprD [.ex (datM (callV F_picture_c350 [.sl 0, .sl 2]))]), .ex (opM true reprD [.ex (datM (callV F_law_e_due_d123 [.ex (sliceM (.sl 1) none (some (varM 2)))]))])])) (retM (M.ret (.bool false))) (nxM))
theorem see_turn {L : List D} {j : Nat} (hL : ∀ x ∈ L, Line x) (lL : L.length ≤ 14) (hj : j ≤ L.length) : seeB (wE L (.dat (.int (j : Int)))) = some (.ok .nx (wE L (.dat (.int (j : Int))))) := by
  have ld := done_len L (.int (j : Int))
  have hD : ∀ x ∈ doneL L (.int (j : Int)), Line x := fun x hx => hL x (done_mem hx)
  have c1 : datM (callV F_picture_c350 [.sl 0, .sl 2]) (wE L (.dat (.int (j : Int)))) = some (.ok (.tuple ((wallR (doneL L (.int (j : Int)))).map ptD)) (wE L (.dat (.int (j : Int))))) := datM_ok (call_book (as := [none]) (ss := [.dat (.int (j : Int))]) rfl (run_sl rfl (show runA [] _ = some (.ok [] _) from rfl)) rfl rfl rfl rfl (picture_ok hL lL (.at_ j hj)))
  have sl : sliceM (.sl 1) none (some (varM 2)) (wE L (.dat (.int (j : Int)))) = some (.ok (.list (doneL L (.int (j : Int)))) (wE L (.dat (.int (j : Int))))) := by
    show some (Rs.ok (PyData.list (cutG L none (some (j : Int)))) _) = _
    rw [cut_lo L j hj]
    show _ = some (Rs.ok (PyData.list (L.take ((j : Int).toNat))) _)
    rw [Int.toNat_natCast]
  have c2 : datM (callV F_law_e_due_d123 [.ex (sliceM (.sl 1) none (some (varM 2)))]) (wE L (.dat (.int (j : Int)))) = some (.ok (.tuple ((wallR (doneL L (.int (j : Int)))).map ptD)) (wE L (.dat (.int (j : Int))))) := datM_ok (call_pure (as := [some (.list (doneL L (.int (j : Int))))]) (ss := [.dat (.list (doneL L (.int (j : Int))))]) (run_ex sl (show runA [] _ = some (.ok [] _) from rfl)) rfl rfl (due_ok hD (by omega)) rfl)
  exact if_no (ne_rep c1 c2 (wall_rD hD (by omega))) rfl
theorem see_loop {L : List D} (hL : ∀ x ∈ L, Line x) (lL : L.length ≤ 14) : ∀ (ds : List D) {x2 : Sl}, (∀ d ∈ ds, ∃ j : Nat, d = .int (j : Int) ∧ j ≤ L.length) → x2.owns = false →
    ∃ y2 : Sl, forL (setT 2) seeB ds (wE L x2) = some (.ok .nx (wE L y2))
  | [], x2, _, _ => ⟨x2, for_nil⟩
  | d :: ds, x2, h, h2 => by
    obtain ⟨j, rfl, hj⟩ := h d (List.mem_cons_self ..)
    have e := see_turn hL lL hj
    obtain ⟨y2, g⟩ := see_loop hL lL ds (x2 := .dat (.int (j : Int))) (fun x hx => h x (List.mem_cons_of_mem _ hx)) rfl
    refine ⟨y2, ?_⟩
    generalize seeB = sb at e g ⊢
    rw [for_cons (setT_ok (s := x2) rfl h2) e, g]
theorem right15 {L : List D} (hL : ∀ x ∈ L, Line x) (lL : L.length ≤ 14) : F_law_e_right_52d8 [.book L, .dat (.list L)] = some (.ok (.dat (.bool true)) [.book L, .dat (.list L)]) := by
  obtain ⟨y2, g⟩ := see_loop hL lL (rangeL 0 (L.length + 1)) (x2 := .non) (fun d hd => by
    obtain ⟨j, rfl, j0, j1⟩ := range_mem hd
    obtain ⟨i, rfl⟩ := Int.eq_ofNat_of_zero_le j0
    exact ⟨i, rfl, by omega⟩) rfl
  refine body_rt (e := wE L y2) ?_ rfl
  show m_law_e_right_52d8 (wE L .non) = _
  unfold m_law_e_right_52d8
  have ad : opM true addD [.ex (opM true lenD [.sl 1]), .ex (M.ret (.int 1))] (wE L .non) = some (.ok (.int ((L.length + 1 : Nat) : Int)) (wE L .non)) := rfl
  refine seq_nx' (for_ok (range1 ad (by omega)) g) ?_
  have wr := wall_rD hL lL
  have gd : withDef [.none] F_picture_c350 [.book L] = some (.ok (.dat (.tuple ((wallR L).map ptD))) [.book L]) := by
    show (match F_picture_c350 [.book L, .dat .none] with
      | some (.ok rv a) => some (Rf.ok rv (a.take 1))
      | some (.ex x a) => some (Rf.ex x (a.take 1))
      | none => none) = _
    rw [picture_ok hL lL .all]; rfl
  have c1 : datM (callV (withDef [.none] F_picture_c350) [.sl 0]) (wE L y2) = some (.ok (.tuple ((wallR L).map ptD)) (wE L y2)) := datM_ok (call_book (os := []) (as := []) (ss := []) rfl rfl rfl rfl rfl rfl gd)
  have c2 : datM (callV F_picture_c350 [.sl 0, .ex (M.ret .none)]) (wE L y2) = some (.ok (.tuple ((wallR L).map ptD)) (wE L y2)) := datM_ok (call_book (as := [some .none]) (ss := [.dat .none]) rfl (run_ex rfl (show runA [] _ = some (.ok [] _) from rfl)) rfl rfl rfl rfl (picture_ok hL lL .all))
  have c3 : datM (callV F_law_e_due_d123 [.sl 1]) (wE L y2) = some (.ok (.tuple ((wallR L).map ptD)) (wE L y2)) := datM_ok (call_pure (as := [none]) (ss := [.dat (.list L)]) rfl rfl rfl (due_ok hL lL) rfl)
  generalize (PyData.tuple ((wallR L).map ptD)) = T at wr c1 c2 c3
  have d1 : listD (dispM [.ex (opM true reprD [.ex (datM (callV (withDef [.none] F_picture_c350) [.sl 0]))]), .ex (opM true reprD [.ex (datM (callV F_picture_c350 [.sl 0, .ex (M.ret .none)]))])]) (wE L y2) = some (.ok (.list [.str T.shown, .str T.shown]) (wE L y2)) := by
    refine listD_ok ?_
    unfold dispM
    exact (bind_ok (run_ex (rep_as c1 wr.1) (run_ex (rep_as c2 wr.1) (show runA [] _ = some (.ok [] _) from rfl)))).trans rfl
  have d2 : listD (dispM [.ex (opM true reprD [.ex (datM (callV F_law_e_due_d123 [.sl 1]))])]) (wE L y2) = some (.ok (.list [.str T.shown]) (wE L y2)) := by
    refine listD_ok ?_
    unfold dispM
    exact (bind_ok (run_ex (rep_as c3 wr.1) (show runA [] _ = some (.ok [] _) from rfl))).trans rfl
  have d3 : opM true mulLD [.ex (listD (dispM [.ex (opM true reprD [.ex (datM (callV F_law_e_due_d123 [.sl 1]))])])), .ex (M.ret (.int 2))] (wE L y2) = some (.ok (.list [.str T.shown, .str T.shown]) (wE L y2)) := op_ok (as := [some (.list [.str T.shown]), some (.int 2)]) (ds := [.list [.str T.shown], .int 2]) (run_ex d2 (run_ex rfl (show runA [] _ = some (.ok [] _) from rfl))) rfl rfl
  have t2 : boolM (opM true neD [.ex (listD (dispM [.ex (opM true reprD [.ex (datM (callV (withDef [.none] F_picture_c350) [.sl 0]))]), .ex (opM true reprD [.ex (datM (callV F_picture_c350 [.sl 0, .ex (M.ret .none)]))])])), .ex (opM true mulLD [.ex (listD (dispM [.ex (opM true reprD [.ex (datM (callV F_law_e_due_d123 [.sl 1]))])])), .ex (M.ret (.int 2))])]) (wE L y2) = some (.ok false (wE L y2)) :=
    bm_ok (op_ok (as := [some (.list [.str T.shown, .str T.shown]), some (.list [.str T.shown, .str T.shown])]) (ds := [.list [.str T.shown, .str T.shown], .list [.str T.shown, .str T.shown]]) (run_ex d1 (run_ex d3 (show runA [] _ = some (.ok [] _) from rfl))) rfl (str2_ne wr.2))
  refine seq_nx' (if_no t2 rfl) (ret_o ?_)
  have rL : reprD [.tuple L] = some (.str (PyData.tuple L).shown) ∧ SeqAt.shaped (.str (PyData.tuple L).shown) = true := (Fn.tuple fun x hx => (hL x hx).fn false).rD (by decide) (by omega)
  have q1 : datM (callB 0 F_Book_strokes_0c4a []) (wE L y2) = some (.ok (.tuple L) (wE L y2)) := datM_ok (call_book2 (R := L) (R' := L) (os := []) (as := []) (ss := []) rfl rfl rfl rfl rfl strokes_ok)
  exact eq_rep q1 rfl rL
/-! ### the law -/
theorem lines_call15 {k : Nat} {e0 s t x4 : Sl} {es : List Sl} {B : List Int} (hx : x4.owns = false) (h : PenE (k + 69) s) (hB : BendsOk B) :
    ∃ (s' : Sl) (L : List D), newM (lstM (callV F_law_e_lines_867a [.sl 1, .sl 3, .ex (datM (callV F_law_e_tones_2b05 [.sl 1])), .ex (M.ret (.int 8))])) 4 (e0 :: s :: t :: .dat (.list (B.map .int)) :: x4 :: es) = some (.ok .nx (e0 :: s' :: t :: .dat (.list (B.map .int)) :: .lst L :: es)) ∧ PenE k s' ∧ (∀ x ∈ L, Line x) ∧ L.length ≤ 8 := by
  obtain ⟨s2, T, e2, p2, hT, lT, lT1⟩ := tones_ok2 (k := k + 41) h
  obtain ⟨s3, L, e3, p3, hL, lL⟩ := lines_okN (k := k) (n := 8) (by omega) p2 hB hT lT lT1
  have hh : held (e0 :: s :: t :: .dat (.list (B.map .int)) :: x4 :: es) 1 = true := by
    obtain ⟨ds, rfl⟩ := h.lst
    rfl
  have hr := run_sl hh (run_sl (i := 3) (held_dat (d := .list (B.map .int)) rfl) (run_ex (call_0 (e0 := e0) (es := t :: .dat (.list (B.map .int)) :: x4 :: es) h p2 e2) (run_ex (m := M.ret (.int 8)) rfl (show runA [] (e0 :: s2 :: t :: .dat (.list (B.map .int)) :: x4 :: es) = some (.ok [] (e0 :: s2 :: t :: .dat (.list (B.map .int)) :: x4 :: es)) from rfl))))
  have cl : callV F_law_e_lines_867a [.sl 1, .sl 3, .ex (datM (callV F_law_e_tones_2b05 [.sl 1])), .ex (M.ret (.int 8))] (e0 :: s :: t :: .dat (.list (B.map .int)) :: x4 :: es) = some (.ok (.lst L) (e0 :: s3 :: t :: .dat (.list (B.map .int)) :: x4 :: es)) := by
    unfold callV
    refine (bind_ok hr).trans ?_
    obtain ⟨c1, n1, v1, rfl, _⟩ := p2
    obtain ⟨c2, n2, v2, rfl, _⟩ := p3
    unfold penS at e3 ⊢
    show (match F_law_e_lines_867a [.lst _, .dat (.list (B.map .int)), .dat (.list T), .dat (.int ((8 : Nat) : Int))] with
      | some (.ok rv a) => _
      | some (.ex x a) => _
      | none => none) = _
    rw [e3]; rfl
  refine ⟨s3, L, (new_ok (lstM_ok cl) ?_).trans rfl, p3, hL, lL⟩
  show (!x4.owns) = true
  rw [hx]; rfl
theorem init_t {L : List D} (hL : ∀ x ∈ L, Line x) (lL : L.length ≤ 1000) : F_Book___init___0ec0 (.tuple L) = some L := by
  have t0 : notB (boolM (opM true (isiD2 "tuple" "list") [.sl 1])) [.non, .dat (.tuple L), .non] = some (.ok false [.non, .dat (.tuple L), .non]) := nb_ok (b := true) (bm_ok rfl)
  have al : L.all rowB = true := List.all_eq_true.mpr fun x hx => (hL x hx).row.1
  have t1 : opM true allD [.ex (listD (compM (seqI (varM 1)) [2] (setT 2) (M.ret true) (datM (callV F_is_stroke_3746 [.sl 2]))))] [.non, .dat (.tuple L), .non] = some (.ok (.bool (L.all rowB)) [.non, .dat (.tuple L), .non]) :=
    op_ok (as := [some (.list (L.map fun x => PyData.bool (rowB x)))]) (ds := [.list (L.map fun x => PyData.bool (rowB x))]) (run_ex (listD_ok (comp_ok (ds := L) (e1 := [.non, .dat (.tuple L), .non]) rfl (by omega) (init_loop L hL))) (show runA [] _ = some (.ok [] _) from rfl)) rfl all_map
  rw [al] at t1
  have t2 : m_Book___init___0ec0 [.non, .dat (.tuple L), .non] = some (.ok false [.non, .dat (.tuple L), .non]) := or_n1 t0 (nb_ok (b := true) (bm_ok t1))
  show (match m_Book___init___0ec0 [.non, .dat (.tuple L), .non] with
  | some (.ok false e) => match (e[1]? : Option Sl) with
    | some (Sl.dat d') => itemsOf d'
    | _ => none
  | _ => none) = _
  rw [t2]; rfl
@[reducible] def vE (e0 s t : Sl) (B : List Int) (x4 x5 x6 : Sl) : En := [e0, s, t, .dat (.list (B.map .int)), x4, x5, x6]
theorem make_15 {e0 s t x5 x6 : Sl} {B : List Int} {L : List D} (hL : ∀ x ∈ L, Line x) (lL : L.length ≤ 900) (h5 : BkS x5) :
    dropB 5 (newB (makeB F_Book___init___0ec0 (.ex (opM true tupleD [.sl 4]))) 5) (vE e0 s t B (.lst L) x5 x6) = some (.ok .nx (vE e0 s t B (.lst L) (.book L) x6)) := by
  have go : newB (makeB F_Book___init___0ec0 (.ex (opM true tupleD [.sl 4]))) 5 (vE e0 s t B (.lst L) .non x6) = some (.ok .nx (vE e0 s t B (.lst L) (.book L) x6)) := by
    have mk : makeB F_Book___init___0ec0 (.ex (opM true tupleD [.sl 4])) (vE e0 s t B (.lst L) .non x6) = some (.ok (.book L) (vE e0 s t B (.lst L) .non x6)) := by
      unfold makeB
      refine (bind_ok (a := [some (.tuple L)]) (e' := vE e0 s t B (.lst L) .non x6) rfl).trans ?_
      show (F_Book___init___0ec0 (.tuple L)).map _ = _
      rw [init_t hL (by omega)]; rfl
    exact (bind_ok mk).trans rfl
  generalize makeB F_Book___init___0ec0 (.ex (opM true tupleD [.sl 4])) = mb at go ⊢
  rcases h5 with rfl | ⟨R, rfl⟩
  · exact go
  · exact go
theorem callL_ok {F : FS} {b : Nat} {os : List Opd} {e : En} {as : List (Option D)} {ds es ds' : List D} {d : D} {rest : List Sl} (h1 : e[b]? = some (.book ds)) (h2 : runA os e = some (.ok as e)) (h3 : getA true e os as = some es) (h4 : F (.book ds :: es.map Sl.dat) = some (.ok (.dat d) (.book ds' :: rest))) (h5 : tame d = true) (h6 : tameA ds' = true) : callL F b os e = some (.ok (.dat d) (e.set b (.book ds'))) := by
  unfold callL
  rw [h1]
  dsimp only
  refine (bind_ok h2).trans ?_
  rw [h1, h3]
  dsimp only
  rw [h4]
  dsimp only
  rw [if_pos ⟨h5, h6⟩]
noncomputable def inB : M O := (seqM (ifM (notB (boolM (datM (callL F_law_e_right_52d8 5 [.sl 4])))) (retM (M.ret (.bool false))) (nxM))
  (exprM (datM (callV F_law_e_exchanged_cdac [.sl 1, .sl 5, .sl 4, .sl 3]))))
theorem in_turn {k : Nat} {e0 s t x6 : Sl} {L : List D} {B : List Int} (h : PenE (k + 4) s) (hB : BendsOk B) (hL : ∀ x ∈ L, Line x) (lL : L.length ≤ 14) :
    ∃ (s' : Sl) (L' : List D), inB (vE e0 s t B (.lst L) (.book L) x6) = some (.ok .nx (vE e0 s' t B (.lst L') (.book L') x6)) ∧ PenE k s' ∧ (∀ x ∈ L', Line x) ∧ L'.length ≤ L.length + 1 := by
  obtain ⟨s2, L2, e2, p2, h2, l2⟩ := exchanged_ok (k := k) h hB hL (by omega)
  refine ⟨s2, L2, ?_, p2, h2, l2⟩
  unfold inB
  have c1 : callL F_law_e_right_52d8 5 [.sl 4] (vE e0 s t B (.lst L) (.book L) x6) = some (.ok (.dat (.bool true)) (vE e0 s t B (.lst L) (.book L) x6)) := by
    exact callL_ok (as := [none]) (ds := L) (es := [.list L]) (ds' := L) (rest := [.dat (.list L)]) rfl rfl rfl (right15 hL lL) (by simp [tame]) (lines_tame hL)
  refine seq_nx' (if_no (nb_ok (b := true) (bm_ok (datM_ok c1))) rfl) ?_
  have c2 : callV F_law_e_exchanged_cdac [.sl 1, .sl 5, .sl 4, .sl 3] (vE e0 s t B (.lst L) (.book L) x6) = some (.ok (.dat .none) (vE e0 s2 t B (.lst L2) (.book L2) x6)) := by
    clear c1
    obtain ⟨k1, n1, v1, rfl, _⟩ := h
    obtain ⟨k2, n2, v2, rfl, _⟩ := p2
    unfold callV
    refine (bind_ok (a := [none, none, none, none]) (e' := vE e0 (penS k1 n1 v1) t B (.lst L) (.book L) x6) rfl).trans ?_
    unfold penS at e2 ⊢
    show (match F_law_e_exchanged_cdac [.lst _, .book L, .lst L, .dat (.list (B.map .int))] with
      | some (.ok rv a) => _
      | some (.ex x a) => _
      | none => none) = _
    rw [e2]; rfl
  exact (bind_ok (datM_ok c2)).trans rfl
theorem in_loop {e0 t : Sl} {B : List Int} (hB : BendsOk B) : ∀ (ds : List D) {k : Nat} {s x6 : Sl} {L : List D}, PenE (k + 4 * ds.length) s → (∀ x ∈ L, Line x) → L.length + ds.length ≤ 14 → x6.owns = false →
    ∃ (s' y6 : Sl) (L' : List D), forL (setT 6) inB ds (vE e0 s t B (.lst L) (.book L) x6) = some (.ok .nx (vE e0 s' t B (.lst L') (.book L') y6)) ∧ PenE k s' ∧ y6.owns = false
  | [], k, s, x6, L, h, _, _, h6 => ⟨s, x6, L, for_nil, h, h6⟩
  | d :: ds, k, s, x6, L, h, hL, lL, h6 => by
    rw [List.length_cons] at h lL
    obtain ⟨s1, L1, e, p1, h1, l1⟩ := in_turn (k := k + 4 * ds.length) (e0 := e0) (t := t) (x6 := .dat d) (h.mono (by omega)) hB hL (by omega)
    obtain ⟨s2, y6, L2, g, p2, o6⟩ := in_loop (e0 := e0) (t := t) hB ds (k := k) (s := s1) (x6 := .dat d) p1 h1 (by omega) rfl
    refine ⟨s2, y6, L2, ?_, p2, o6⟩
    generalize inB = ib at e g ⊢
    rw [for_cons (setT_ok (s := x6) rfl h6) e, g]
noncomputable def turn15 : M O := (seqM (asgM (datM (callV F_law_e_bends_8798 [.sl 1])) (setT 3))
  (seqM (frzM 4 (newM (lstM (callV F_law_e_lines_867a [.sl 1, .sl 3, .ex (datM (callV F_law_e_tones_2b05 [.sl 1])), .ex (M.ret (.int 8))])) 4))
  (seqM (dropB 5 (newB (makeB F_Book___init___0ec0 (.ex (opM true tupleD [.sl 4]))) 5))
  (forM (rangeI [.ex (M.ret (.int 3))]) (setT 6) inB))))
theorem turn15_ok {k : Nat} {e0 s t x3 x4 x5 x6 : Sl} (h : PenE (k + 100) s) (h3 : x3.owns = false) (h4 : LsS x4) (h5 : BkS x5) (h6 : x6.owns = false) :
    ∃ s' y3 y4 y5 y6 : Sl, turn15 [e0, s, t, x3, x4, x5, x6] = some (.ok .nx [e0, s', t, y3, y4, y5, y6]) ∧ PenE k s' ∧ y3.owns = false ∧ LsS y4 ∧ BkS y5 ∧ y6.owns = false := by
  obtain ⟨s1, B, e1, p1, hB⟩ := bends_ok (k := k + 81) h
  have c1 := call_0 (e0 := e0) (es := [t, x3, x4, x5, x6]) h p1 e1
  have a2 : ∃ (s3 : Sl) (L : List D), frzM 4 (newM (lstM (callV F_law_e_lines_867a [.sl 1, .sl 3, .ex (datM (callV F_law_e_tones_2b05 [.sl 1])), .ex (M.ret (.int 8))])) 4) (vE e0 s1 t B x4 x5 x6) = some (.ok .nx (vE e0 s3 t B (.lst L) x5 x6)) ∧ PenE (k + 12) s3 ∧ (∀ x ∈ L, Line x) ∧ L.length ≤ 8 := by
    rcases h4 with rfl | ⟨L0, rfl⟩
    · obtain ⟨s3, L, e3, p3, hL, lL⟩ := lines_call15 (k := k + 12) (e0 := e0) (s := s1) (t := t) (x4 := .non) (es := [x5, x6]) rfl p1 hB
      exact ⟨s3, L, e3, p3, hL, lL⟩
    · obtain ⟨s3, L, e3, p3, hL, lL⟩ := lines_call15 (k := k + 12) (e0 := e0) (s := s1) (t := t) (x4 := .dat (.list L0)) (es := [x5, x6]) rfl p1 hB
      exact ⟨s3, L, frz_ok rfl e3, p3, hL, lL⟩
  obtain ⟨s3, L, a2, p3, hL, lL⟩ := a2
  have a3 := make_15 (e0 := e0) (s := s3) (t := t) (B := B) (x6 := x6) hL (by omega) h5
  obtain ⟨s4, y6, L4, a4, p4, o6⟩ := in_loop (e0 := e0) (t := t) hB (rangeL 0 3) (k := k) (s := s3) (x6 := x6) (L := L) (p3.mono (by rw [rangeL_len]; omega)) hL (by rw [rangeL_len]; omega) h6
  refine ⟨s4, .dat (.list (B.map .int)), .lst L4, .book L4, y6, ?_, p4, rfl, Or.inr ⟨L4, rfl⟩, Or.inr ⟨L4, rfl⟩, o6⟩
  unfold turn15
  exact seq_nx' (asg_ok c1 (setT_ok (s := x3) rfl h3)) (seq_nx' a2 (seq_nx' a3 (for_ok (range1 (n := 3) rfl (by decide)) a4)))
theorem loop15 {e0 : Sl} : ∀ (ds : List D) {k : Nat} {s x2 x3 x4 x5 x6 : Sl}, PenE (k + 100 * ds.length) s → x2.owns = false → x3.owns = false → LsS x4 → BkS x5 → x6.owns = false →
    ∃ e, forL (setT 2) turn15 ds [e0, s, x2, x3, x4, x5, x6] = some (.ok .nx (e0 :: e))
  | [], k, s, x2, x3, x4, x5, x6, h, _, _, _, _, _ => ⟨_, for_nil⟩
  | d :: ds, k, s, x2, x3, x4, x5, x6, h, h2, h3, h4, h5, h6 => by
    rw [List.length_cons] at h
    obtain ⟨s1, y3, y4, y5, y6, e, p1, o3, o4, o5, o6⟩ := turn15_ok (k := k + 100 * ds.length) (e0 := e0) (t := .dat d) (h.mono (by omega)) h3 h4 h5 h6
    obtain ⟨e', f⟩ := loop15 ds (e0 := e0) (k := k) (x2 := .dat d) p1 rfl o3 o4 o5 o6
    refine ⟨e', ?_⟩
    generalize turn15 = tn at e f ⊢
    rw [for_cons (setT_ok (s := x2) rfl h2) e, f]
theorem law15_ok (ns : List Int) : ∃ as, F_law_682b [.scr ns] = some (.ok (.dat (.bool true)) as) := by
  obtain ⟨ds, hpn, cs, hcs, lcs⟩ : ∃ ds, F_law_e_pen_b545 [.scr ns] = some (.ok (.lst ds) [.scr ns]) ∧ ∃ cs, Sl.lst ds = penS cs 0 0 ∧ cs.length ≤ 1000 := ⟨_, body_rt (e := [.scr ns]) rfl rfl, cutG ns none (some 60), rfl, by
    unfold cutG
    rw [HT.sIx_none]
    have : HT.sIx ns.length ns.length (some 60) = min 60 ns.length := HT.sIx_nat ns.length ns.length 60
    rw [this]
    exact Nat.le_trans (List.length_take_le _ _) (by omega)⟩
  have hp0 : PenE (0 + 100 * (rangeL 0 4).length) (.lst ds) := ⟨cs, 0, 0, hcs, by decide, by rw [rangeL_len]; decide, lcs⟩
  obtain ⟨e', f⟩ := loop15 (e0 := .scr ns) (rangeL 0 4) (k := 0) (x2 := .non) (x3 := .non) (x4 := .non) (x5 := .non) (x6 := .non) hp0 rfl rfl (Or.inl rfl) (Or.inl rfl) rfl
  refine ⟨[.scr ns], body_rt (e := .scr ns :: e') ?_ rfl⟩
  show m_law_682b [.scr ns, .non, .non, .non, .non, .non, .non] = _
  unfold m_law_682b
  refine seq_nx' (e' := [.scr ns, .lst ds, .non, .non, .non, .non, .non]) (new_ok (e1 := [.scr ns, .non, .non, .non, .non, .non, .non]) (lstM_ok (call_pure (as := [none]) (ss := [.scr ns]) rfl rfl rfl hpn rfl)) rfl) ?_
  refine seq_nx' (e' := .scr ns :: e') (for_ok (ds := rangeL 0 4) (range1 (n := 4) rfl (by decide)) f) ?_
  rfl
end QA

namespace WK
open PySem PySem.Spec PyProof.Rows L2 DL MR
section
variable {P : Program} {w : World} {K : PySem.W.Frag} {mg : Str → Option Value} {base : Heap} {g : Gx}
def cbOf (K : PySem.W.Frag) : Addr := match PySem.W.nsIn K mainGlobals "Book" with
  | some (some (.ref C)) => C
  | _ => 0
def topS (i : Nat) : Stmt := PySem.Challenge.pw_pastlay_k15_pictures.main.body.getD i (.Pass ⟨0, 0, 0, 0⟩)
abbrev s__law_e_pen : Stmt := topS 26
abbrev s_is_whole : Stmt := topS 11
abbrev s_is_place : Stmt := topS 13
abbrev s_is_stretch : Stmt := topS 14
abbrev s_is_name : Stmt := topS 12
abbrev s_is_colour : Stmt := topS 15
abbrev s_is_stroke : Stmt := topS 16
abbrev s_Book___init__ : Stmt := inClass (topS 24) 0
abbrev s__law_e_fresh : Stmt := topS 27
abbrev s__law_e_take : Stmt := topS 28
abbrev s__law_e_bends : Stmt := topS 29
abbrev s__law_e_lines : Stmt := topS 31
abbrev s__law_e_tones : Stmt := topS 30
abbrev s_Book_take : Stmt := inClass (topS 24) 6
abbrev s_Book_put : Stmt := inClass (topS 24) 5
abbrev s__law_e_exchanged : Stmt := topS 36
abbrev s_Book_strokes : Stmt := inClass (topS 24) 7
abbrev s_laid_over : Stmt := topS 20
abbrev s_painted : Stmt := topS 21
abbrev s_Book___len__ : Stmt := inClass (topS 24) 1
abbrev s_is_moment : Stmt := topS 18
abbrev s_done_by : Stmt := topS 19
abbrev s_picture : Stmt := topS 22
abbrev s__law_e_as_one : Stmt := topS 34
abbrev s__law_e_cells : Stmt := topS 33
abbrev s__law_e_at : Stmt := topS 32
abbrev s__law_e_due : Stmt := topS 35
abbrev s__law_e_right : Stmt := topS 37
abbrev s_law : Stmt := topS 38
theorem sc__law_e_pen : FnScope ["script"] ["script"] (defScope s__law_e_pen) := ⟨rfl, rfl, rfl, by decide +kernel, rfl, by decide +kernel, by decide +kernel⟩
theorem ok__law_e_pen {f : Addr} {fd : FuncData} (F : L2.Fun K "_law_e_pen" "_law_e_pen" s__law_e_pen f fd) (gK : g.K = K) (z_list : mg "list" = none)    : FnG P w K mg base 1 f fd ["script"] (spG g 1 F_law_e_pen_b545) := by
  refine okF F sc__law_e_pen rfl rfl gK fun Γ cdv A outer s H E hK hnp hg hr hgd => ?_
  have nd := (sc__law_e_pen).nd
  have tk : Takes (cxOf (L2.CX P w) P w K mg base ["script"] "_law_e_pen" (defScope s__law_e_pen) f cdv A outer s H E) (fun cls d _ H' => E cls d H') := takes_of rfl rfl rfl rfl
  have po : PassesOwn (model P w) (cxOf (L2.CX P w) P w K mg base ["script"] "_law_e_pen" (defScope s__law_e_pen) f cdv A outer s H E).A (cxOf (L2.CX P w) P w K mg base ["script"] "_law_e_pen" (defScope s__law_e_pen) f cdv A outer s H E).env (cxOf (L2.CX P w) P w K mg base ["script"] "_law_e_pen" (defScope s__law_e_pen) f cdv A outer s H E).xe := passes_of rfl
  exact (ss_one (s_retLM (e_disp (a_ex (e_list (e_scr hK (by rfl) z_list (pv 0))) (a_ex e_int (a_ex e_int a_nil))))))
theorem sc_is_whole : FnScope ["thing", "least"] ["thing", "least"] (defScope s_is_whole) := ⟨rfl, rfl, rfl, by decide +kernel, rfl, by decide +kernel, by decide +kernel⟩
theorem ok_is_whole {f : Addr} {fd : FuncData} (F : FunD K "is_whole" "is_whole" (defArgs s_is_whole) (defBody s_is_whole) (defScope s_is_whole) [] [("least", .int 0)] f fd) (gK : g.K = K) (z_bool : mg "bool" = none) (z_int : mg "int" = none) (z_isinstance : mg "isinstance" = none)    : FnG P w K mg base 1 f fd ["thing", "least"] (spG g 2 F_is_whole_8291) := by
  refine okFk F sc_is_whole rfl rfl gK fun Γ cdv A outer s H E hK hnp hg hr hgd => ?_
  have nd := (sc_is_whole).nd
  have tk : Takes (cxOf (L2.CX P w) P w K mg base ["thing", "least"] "is_whole" (defScope s_is_whole) f cdv A outer s H E) (fun cls d _ H' => E cls d H') := takes_of rfl rfl rfl rfl
  have po : PassesOwn (model P w) (cxOf (L2.CX P w) P w K mg base ["thing", "least"] "is_whole" (defScope s_is_whole) f cdv A outer s H E).A (cxOf (L2.CX P w) P w K mg base ["thing", "least"] "is_whole" (defScope s_is_whole) f cdv A outer s H E).env (cxOf (L2.CX P w) P w K mg base ["thing", "least"] "is_whole" (defScope s_is_whole) f cdv A outer s H E).xe := passes_of rfl
  exact (ss_one (s_ret (e_and (e_isi hK kit_int (by rfl) z_isinstance (by rfl) z_int DL.boot_int boot_isi (o_sl (pv 0))) (e_and (e_not (e_isi hK kit_bool (by rfl) z_isinstance (by rfl) z_bool DL.boot_bool boot_isi (o_sl (pv 0)))) (e_one (e_cmp p_ge op_ge (o_sl (pv 0)) (o_sl (pv 1))))))))
theorem sc_is_place : FnScope ["thing"] ["thing"] (defScope s_is_place) := ⟨rfl, rfl, rfl, by decide +kernel, rfl, by decide +kernel, by decide +kernel⟩
theorem ok_is_place {f : Addr} {fd : FuncData} (F : L2.Fun K "is_place" "is_place" s_is_place f fd) (gK : g.K = K)  {t_LAST : Tok} (g_LAST : mg "LAST" = some (.int 1000000000 t_LAST)) (d_is_whole : DefK P w K mg base g 1 "is_whole" 1 [.int 0] F_is_whole_8291)  : FnG P w K mg base 2 f fd ["thing"] (spG g 1 F_is_place_f9e3) := by
  refine okF F sc_is_place rfl rfl gK fun Γ cdv A outer s H E hK hnp hg hr hgd => ?_
  have nd := (sc_is_place).nd
  have tk : Takes (cxOf (L2.CX P w) P w K mg base ["thing"] "is_place" (defScope s_is_place) f cdv A outer s H E) (fun cls d _ H' => E cls d H') := takes_of rfl rfl rfl rfl
  have po : PassesOwn (model P w) (cxOf (L2.CX P w) P w K mg base ["thing"] "is_place" (defScope s_is_place) f cdv A outer s H E).A (cxOf (L2.CX P w) P w K mg base ["thing"] "is_place" (defScope s_is_place) f cdv A outer s H E).env (cxOf (L2.CX P w) P w K mg base ["thing"] "is_place" (defScope s_is_place) f cdv A outer s H E).xe := passes_of rfl
  exact (ss_one (s_ret (e_and (e_dat (e_callK hg d_is_whole rfl hr (by decide) hgd tk (by rfl) (a_sl (pv 0) a_nil))) (e_one (e_cmp p_le op_le (o_sl (pv 0)) (o_ex (e_gint (by rfl) g_LAST)))))))
theorem sc_is_stretch : FnScope ["thing"] ["thing"] (defScope s_is_stretch) := ⟨rfl, rfl, rfl, by decide +kernel, rfl, by decide +kernel, by decide +kernel⟩
theorem ok_is_stretch {f : Addr} {fd : FuncData} (F : L2.Fun K "is_stretch" "is_stretch" s_is_stretch f fd) (gK : g.K = K) (z_isinstance : mg "isinstance" = none) (z_len : mg "len" = none) (z_tuple : mg "tuple" = none)  (d_is_place : Def P w K mg base g 2 "is_place" 1 F_is_place_f9e3)  : FnG P w K mg base 3 f fd ["thing"] (spG g 1 F_is_stretch_a332) := by
  refine okF F sc_is_stretch rfl rfl gK fun Γ cdv A outer s H E hK hnp hg hr hgd => ?_
  have nd := (sc_is_stretch).nd
  have tk : Takes (cxOf (L2.CX P w) P w K mg base ["thing"] "is_stretch" (defScope s_is_stretch) f cdv A outer s H E) (fun cls d _ H' => E cls d H') := takes_of rfl rfl rfl rfl
  have po : PassesOwn (model P w) (cxOf (L2.CX P w) P w K mg base ["thing"] "is_stretch" (defScope s_is_stretch) f cdv A outer s H E).A (cxOf (L2.CX P w) P w K mg base ["thing"] "is_stretch" (defScope s_is_stretch) f cdv A outer s H E).env (cxOf (L2.CX P w) P w K mg base ["thing"] "is_stretch" (defScope s_is_stretch) f cdv A outer s H E).xe := passes_of rfl
  exact (ss_cons (s_if (PW.pt (w_or (b_not (b_val (e_isi hK kit_tuple (by rfl) z_isinstance (by rfl) z_tuple PyProof.Rows.boot_tuple boot_isi (o_sl (pv 0))))) (w_or1 (b_cmp (p_ne hK) (op_neD (hu64 hr)) (o_ex (e_b (p_len hK) call_len (by rfl) z_len PySem.boot_len (a_sl (pv 0) a_nil))) (o_ex e_int))))) (ss_one (s_ret e_bool)) ss_nil)
    (ss_one (s_ret (e_and (e_dat (e_callD hg d_is_place rfl hr (by decide) hgd tk (by rfl) (a_ex (e_ix hK (o_sl (pv 0)) (o_ex e_int)) a_nil))) (e_and (e_dat (e_callD hg d_is_place rfl hr (by decide) hgd tk (by rfl) (a_ex (e_ix hK (o_sl (pv 0)) (o_ex e_int)) a_nil))) (e_one (e_cmp p_le op_le (o_ex (e_ix hK (o_sl (pv 0)) (o_ex e_int))) (o_ex (e_ix hK (o_sl (pv 0)) (o_ex e_int))))))))))
theorem sc_is_name : FnScope ["thing", "sign"] ["thing"] (defScope s_is_name) := ⟨rfl, rfl, rfl, by decide +kernel, rfl, by decide +kernel, by decide +kernel⟩
theorem ok_is_name {f : Addr} {fd : FuncData} (F : L2.Fun K "is_name" "is_name" s_is_name f fd) (gK : g.K = K) (z_all : mg "all" = none) (z_isinstance : mg "isinstance" = none) (z_len : mg "len" = none) (z_str : mg "str" = none) {t_ALPHABET : Tok} (g_ALPHABET : mg "ALPHABET" = some (.str "abcdefghijklmnopqrstuvwxyz" t_ALPHABET)) {t_MOST_LETTERS : Tok} (g_MOST_LETTERS : mg "MOST_LETTERS" = some (.int 8 t_MOST_LETTERS))   : FnG P w K mg base 1 f fd ["thing"] (spG g 1 F_is_name_1400) := by
  refine okF F sc_is_name rfl rfl gK fun Γ cdv A outer s H E hK hnp hg hr hgd => ?_
  have nd := (sc_is_name).nd
  have tk : Takes (cxOf (L2.CX P w) P w K mg base ["thing", "sign"] "is_name" (defScope s_is_name) f cdv A outer s H E) (fun cls d _ H' => E cls d H') := takes_of rfl rfl rfl rfl
  have po : PassesOwn (model P w) (cxOf (L2.CX P w) P w K mg base ["thing", "sign"] "is_name" (defScope s_is_name) f cdv A outer s H E).A (cxOf (L2.CX P w) P w K mg base ["thing", "sign"] "is_name" (defScope s_is_name) f cdv A outer s H E).env (cxOf (L2.CX P w) P w K mg base ["thing", "sign"] "is_name" (defScope s_is_name) f cdv A outer s H E).xe := passes_of rfl
  exact (ss_one (s_ret (e_and (e_isi hK kit_str (by rfl) z_isinstance (by rfl) z_str DL.boot_str boot_isi (o_sl (pv 0))) (e_and (e_chain p_le p_le op_le op_le (o_ex e_int) (o_ex (e_b (p_len hK) call_len (by rfl) z_len PySem.boot_len (a_sl (pv 0) a_nil))) (o_ex (e_gint (by rfl) g_MOST_LETTERS))) (e_one (e_b (p_all hK) (cr_all rfl) (by rfl) z_all DL.boot_all (a_ex (e_list (e_comp (own := [("sign", 1)]) no_if rfl nd (i_str (e_var (pv 0))) (blkOk_by (N := ["thing", "sign"]) (sc := defScope s_is_name) (by decide +kernel)) (by decide) (fun _ _ _ _ _ => (g_name (i := 1) nd rfl (by first | exact Or.inl rfl | exact Or.inr rfl))) (fun _ _ _ _ _ => pts_nil) (fun _ _ _ _ _ => (e_cmp p_inSg op_in_sign (o_sl (pv 1)) (o_ex (e_gstr (by rfl) g_ALPHABET)))))) a_nil)))))))
theorem sc_is_colour : FnScope ["thing"] ["thing"] (defScope s_is_colour) := ⟨rfl, rfl, rfl, by decide +kernel, rfl, by decide +kernel, by decide +kernel⟩
theorem ok_is_colour {f : Addr} {fd : FuncData} (F : L2.Fun K "is_colour" "is_colour" s_is_colour f fd) (gK : g.K = K)   (d_is_name : Def P w K mg base g 1 "is_name" 1 F_is_name_1400)  : FnG P w K mg base 2 f fd ["thing"] (spG g 1 F_is_colour_4bfc) := by
  refine okF F sc_is_colour rfl rfl gK fun Γ cdv A outer s H E hK hnp hg hr hgd => ?_
  have nd := (sc_is_colour).nd
  have tk : Takes (cxOf (L2.CX P w) P w K mg base ["thing"] "is_colour" (defScope s_is_colour) f cdv A outer s H E) (fun cls d _ H' => E cls d H') := takes_of rfl rfl rfl rfl
  have po : PassesOwn (model P w) (cxOf (L2.CX P w) P w K mg base ["thing"] "is_colour" (defScope s_is_colour) f cdv A outer s H E).A (cxOf (L2.CX P w) P w K mg base ["thing"] "is_colour" (defScope s_is_colour) f cdv A outer s H E).env (cxOf (L2.CX P w) P w K mg base ["thing"] "is_colour" (defScope s_is_colour) f cdv A outer s H E).xe := passes_of rfl
  exact (ss_one (s_ret (e_dat (e_callD hg d_is_name rfl hr (by decide) hgd tk (by rfl) (a_sl (pv 0) a_nil)))))
theorem sc_is_stroke : FnScope ["thing"] ["thing"] (defScope s_is_stroke) := ⟨rfl, rfl, rfl, by decide +kernel, rfl, by decide +kernel, by decide +kernel⟩
theorem ok_is_stroke {f : Addr} {fd : FuncData} (F : L2.Fun K "is_stroke" "is_stroke" s_is_stroke f fd) (gK : g.K = K) (z_isinstance : mg "isinstance" = none) (z_len : mg "len" = none) (z_tuple : mg "tuple" = none)  (d_is_stretch : Def P w K mg base g 3 "is_stretch" 1 F_is_stretch_a332) (d_is_colour : Def P w K mg base g 2 "is_colour" 1 F_is_colour_4bfc)  : FnG P w K mg base 4 f fd ["thing"] (spG g 1 F_is_stroke_3746) := by
  refine okF F sc_is_stroke rfl rfl gK fun Γ cdv A outer s H E hK hnp hg hr hgd => ?_
  have nd := (sc_is_stroke).nd
  have tk : Takes (cxOf (L2.CX P w) P w K mg base ["thing"] "is_stroke" (defScope s_is_stroke) f cdv A outer s H E) (fun cls d _ H' => E cls d H') := takes_of rfl rfl rfl rfl
  have po : PassesOwn (model P w) (cxOf (L2.CX P w) P w K mg base ["thing"] "is_stroke" (defScope s_is_stroke) f cdv A outer s H E).A (cxOf (L2.CX P w) P w K mg base ["thing"] "is_stroke" (defScope s_is_stroke) f cdv A outer s H E).env (cxOf (L2.CX P w) P w K mg base ["thing"] "is_stroke" (defScope s_is_stroke) f cdv A outer s H E).xe := passes_of rfl
  exact (ss_one (s_ret (e_and (e_isi hK kit_tuple (by rfl) z_isinstance (by rfl) z_tuple PyProof.Rows.boot_tuple boot_isi (o_sl (pv 0))) (e_and (e_cmp (p_eq hK) (op_eqD (hu64 hr)) (o_ex (e_b (p_len hK) call_len (by rfl) z_len PySem.boot_len (a_sl (pv 0) a_nil))) (o_ex e_int)) (e_and (e_dat (e_callD hg d_is_stretch rfl hr (by decide) hgd tk (by rfl) (a_ex (e_slice hK (o_sl (pv 0)) o_none (o_some e_int)) a_nil))) (e_one (e_dat (e_callD hg d_is_colour rfl hr (by decide) hgd tk (by rfl) (a_ex (e_ix hK (o_sl (pv 0)) (o_ex e_int)) a_nil)))))))))
theorem sc_Book___init__ : FnScope ["self", "strokes", "one"] ["self", "strokes"] (defScope s_Book___init__) := ⟨rfl, rfl, rfl, by decide +kernel, rfl, by decide +kernel, by decide +kernel⟩
theorem ok_Book___init__ {f : Addr} {fd : FuncData} {dvs : List V} (F : FunD K "__init__" "Book.__init__" (defArgs s_Book___init__) (defBody s_Book___init__) (defScope s_Book___init__) dvs [] f fd) (gK : g.K = K) (Bk : DL.Bk K g.cb) (z_all : mg "all" = none) (z_isinstance : mg "isinstance" = none) (z_list : mg "list" = none) (z_tuple : mg "tuple" = none) (d_is_stroke : Def P w K mg base g 4 "is_stroke" 1 F_is_stroke_3746) : FnG P w K mg base 5 f fd ["self", "strokes"] (spI g F_Book___init___0ec0) := by
  refine okI F sc_Book___init__ rfl gK Bk rfl (fun Γ cdv A outer s H E hK hnp hg hr hgd => ?_) fun cdv A outer s H E => ?_
  · have nd := (sc_Book___init__).nd
    have tk : Takes (cxOf (L2.CX P w) P w K mg base ["self", "strokes", "one"] "Book.__init__" (defScope s_Book___init__) f cdv A outer s H E) (fun cls d _ H' => E cls d H') := takes_of rfl rfl rfl rfl
    have po : PassesOwn (model P w) (cxOf (L2.CX P w) P w K mg base ["self", "strokes", "one"] "Book.__init__" (defScope s_Book___init__) f cdv A outer s H E).A (cxOf (L2.CX P w) P w K mg base ["self", "strokes", "one"] "Book.__init__" (defScope s_Book___init__) f cdv A outer s H E).env (cxOf (L2.CX P w) P w K mg base ["self", "strokes", "one"] "Book.__init__" (defScope s_Book___init__) f cdv A outer s H E).xe := passes_of rfl
    refine ⟨?_, _, ss_one (s_no (Γ := Γ) (W := W0))⟩
    exact (PW.pt (w_or (b_not (b_val (e_isi2 hK kit_tuple kit_list (by rfl) z_isinstance (by rfl) z_tuple PyProof.Rows.boot_tuple (by rfl) z_list PyProof.Rows.boot_list boot_isi (o_sl (pv 1))))) (w_or1 (b_not (b_val (e_b (p_all hK) (cr_all rfl) (by rfl) z_all DL.boot_all (a_ex (e_list (e_comp (own := [("one", 2)]) no_if rfl nd (i_seq hK (e_var (pv 1))) (blkOk_by (N := ["self", "strokes", "one"]) (sc := defScope s_Book___init__) (by decide +kernel)) (by decide) (fun _ _ _ _ _ => (g_name (i := 2) nd rfl (by first | exact Or.inl rfl | exact Or.inr rfl))) (fun _ _ _ _ _ => pts_nil) (fun _ _ _ _ _ => (e_dat (e_callD hg d_is_stroke rfl hr (by decide) hgd DL.takes0 (by rfl) (a_sl (pv 2) a_nil)))))) a_nil)))))))
  · exact ps_fld (pv 0) (pe_callTy call_list_of (by rfl) z_list PyProof.Rows.boot_list (pa_cons (pv 1) pa_nil)) rfl
theorem sc__law_e_fresh : FnScope ["pen", "at", "cell", "one", "two", "mixed", "other"] ["pen"] (defScope s__law_e_fresh) := ⟨rfl, rfl, rfl, by decide +kernel, rfl, by decide +kernel, by decide +kernel⟩
theorem ok__law_e_fresh {f : Addr} {fd : FuncData} (F : L2.Fun K "_law_e_fresh" "_law_e_fresh" s__law_e_fresh f fd) (gK : g.K = K) (z_len : mg "len" = none)    : FnG P w K mg base 1 f fd ["pen"] (spG g 1 F_law_e_fresh_f570) := by
  refine okF F sc__law_e_fresh rfl rfl gK fun Γ cdv A outer s H E hK hnp hg hr hgd => ?_
  have nd := (sc__law_e_fresh).nd
  have tk : Takes (cxOf (L2.CX P w) P w K mg base ["pen", "at", "cell", "one", "two", "mixed", "other"] "_law_e_fresh" (defScope s__law_e_fresh) f cdv A outer s H E) (fun cls d _ H' => E cls d H') := takes_of rfl rfl rfl rfl
  have po : PassesOwn (model P w) (cxOf (L2.CX P w) P w K mg base ["pen", "at", "cell", "one", "two", "mixed", "other"] "_law_e_fresh" (defScope s__law_e_fresh) f cdv A outer s H E).A (cxOf (L2.CX P w) P w K mg base ["pen", "at", "cell", "one", "two", "mixed", "other"] "_law_e_fresh" (defScope s__law_e_fresh) f cdv A outer s H E).env (cxOf (L2.CX P w) P w K mg base ["pen", "at", "cell", "one", "two", "mixed", "other"] "_law_e_fresh" (defScope s__law_e_fresh) f cdv A outer s H E).xe := passes_of rfl
  exact (ss_cons (s_set (i := 1) nd rfl (by first | exact Or.inl rfl | exact Or.inr rfl) (e_ix hK (o_sl (pv 0)) (o_ex e_int)))
    (ss_cons (s_setAt (pv 0) e_int (e_op (p_add hK) op_plus (o_sl (pv 1)) (o_ex e_int)))
    (ss_cons (s_set (i := 2) nd rfl (by first | exact Or.inl rfl | exact Or.inr rfl) e_int)
    (ss_cons (s_if (b_cmp (p_ne hK) (op_neD (hu64 hr)) (o_ex (e_ix hK (o_sl (pv 0)) (o_ex e_int))) (o_ex (e_list (e_disp a_nil)))) (ss_one (s_set (i := 2) nd rfl (by first | exact Or.inl rfl | exact Or.inr rfl) (e_op p_div op_fdiv (o_ex (e_ix hK (o_ex (e_ix hK (o_sl (pv 0)) (o_ex e_int))) (o_ex (e_op p_mod op_mod (o_ex (e_op p_mul op_mul (o_sl (pv 1)) (o_ex e_int))) (o_ex (e_b (p_len hK) call_len (by rfl) z_len PySem.boot_len (a_ex (e_ix hK (o_sl (pv 0)) (o_ex e_int)) a_nil))))))) (o_ex (e_op (p_add hK) op_plus (o_ex e_int) (o_ex (e_op p_div op_fdiv (o_sl (pv 1)) (o_ex (e_b (p_len hK) call_len (by rfl) z_len PySem.boot_len (a_ex (e_ix hK (o_sl (pv 0)) (o_ex e_int)) a_nil)))))))))) ss_nil)
    (ss_cons (s_if (b_cmp p_lt op_lt (o_sl (pv 1)) (o_ex (e_b (p_len hK) call_len (by rfl) z_len PySem.boot_len (a_ex (e_ix hK (o_sl (pv 0)) (o_ex e_int)) a_nil)))) (ss_one (s_set (i := 2) nd rfl (by first | exact Or.inl rfl | exact Or.inr rfl) (e_ix hK (o_ex (e_ix hK (o_sl (pv 0)) (o_ex e_int))) (o_sl (pv 1))))) ss_nil)
    (ss_cons (s_if (b_cmp p_ge op_ge (o_sl (pv 2)) (o_ex (e_op p_pow op_pow (o_ex e_int) (o_ex e_int)))) (ss_one (s_ret (e_var (pv 2)))) ss_nil)
    (ss_cons (s_set (i := 3) nd rfl (by first | exact Or.inl rfl | exact Or.inr rfl) (e_ix hK (o_ex (e_list (e_disp (a_ex e_int (a_ex e_int (a_ex e_int (a_ex e_int (a_ex e_int (a_ex e_int (a_ex e_int a_nil)))))))))) (o_ex (e_op p_mod op_mod (o_sl (pv 1)) (o_ex e_int)))))
    (ss_cons (s_set (i := 4) nd rfl (by first | exact Or.inl rfl | exact Or.inr rfl) (e_ix hK (o_ex (e_list (e_disp (a_ex e_int (a_ex e_int (a_ex e_int (a_ex e_int (a_ex e_int a_nil)))))))) (o_ex (e_op p_mod op_mod (o_sl (pv 1)) (o_ex e_int)))))
    (ss_cons (s_set (i := 5) nd rfl (by first | exact Or.inl rfl | exact Or.inr rfl) (e_op p_mod op_mod (o_ex (e_op p_pow op_pow (o_ex (e_op (p_add hK) op_plus (o_ex (e_op (p_add hK) op_plus (o_ex (e_op p_mod op_mod (o_sl (pv 2)) (o_sl (pv 3)))) (o_ex (e_op p_mul op_mul (o_ex e_int) (o_sl (pv 1)))))) (o_ex e_int))) (o_ex e_int))) (o_sl (pv 3))))
    (ss_cons (s_set (i := 6) nd rfl (by first | exact Or.inl rfl | exact Or.inr rfl) (e_op p_mod op_mod (o_ex (e_op p_pow op_pow (o_ex (e_op (p_add hK) op_plus (o_ex (e_op (p_add hK) op_plus (o_sl (pv 5)) (o_ex (e_op p_mod op_mod (o_sl (pv 2)) (o_sl (pv 4)))))) (o_ex (e_op p_mul op_mul (o_sl (pv 1)) (o_sl (pv 1)))))) (o_ex e_int))) (o_sl (pv 4))))
    (ss_one (s_ret (e_op (p_add hK) op_plus (o_ex (e_op p_mul op_mul (o_ex (e_op (p_add hK) op_plus (o_sl (pv 5)) (o_ex e_int))) (o_sl (pv 4)))) (o_sl (pv 6)))))))))))))))
theorem sc__law_e_take : FnScope ["pen", "many", "found"] ["pen", "many"] (defScope s__law_e_take) := ⟨rfl, rfl, rfl, by decide +kernel, rfl, by decide +kernel, by decide +kernel⟩
theorem ok__law_e_take {f : Addr} {fd : FuncData} (F : L2.Fun K "_law_e_take" "_law_e_take" s__law_e_take f fd) (gK : g.K = K)   (d__law_e_fresh : Def P w K mg base g 1 "_law_e_fresh" 1 F_law_e_fresh_f570)  : FnG P w K mg base 2 f fd ["pen", "many"] (spG g 2 F_law_e_take_2efe) := by
  refine okF F sc__law_e_take rfl rfl gK fun Γ cdv A outer s H E hK hnp hg hr hgd => ?_
  have nd := (sc__law_e_take).nd
  have tk : Takes (cxOf (L2.CX P w) P w K mg base ["pen", "many", "found"] "_law_e_take" (defScope s__law_e_take) f cdv A outer s H E) (fun cls d _ H' => E cls d H') := takes_of rfl rfl rfl rfl
  have po : PassesOwn (model P w) (cxOf (L2.CX P w) P w K mg base ["pen", "many", "found"] "_law_e_take" (defScope s__law_e_take) f cdv A outer s H E).A (cxOf (L2.CX P w) P w K mg base ["pen", "many", "found"] "_law_e_take" (defScope s__law_e_take) f cdv A outer s H E).env (cxOf (L2.CX P w) P w K mg base ["pen", "many", "found"] "_law_e_take" (defScope s__law_e_take) f cdv A outer s H E).xe := passes_of rfl
  exact (ss_cons (s_if (b_cmp p_lt op_lt (o_ex (e_ix hK (o_sl (pv 0)) (o_ex e_int))) (o_sl (pv 1))) (ss_one (s_setAt (pv 0) e_int (e_dat (e_callD hg d__law_e_fresh rfl hr (by decide) hgd tk (by rfl) (a_sl (pv 0) a_nil))))) ss_nil)
    (ss_cons (s_set (i := 2) nd rfl (by first | exact Or.inl rfl | exact Or.inr rfl) (e_op p_mod op_mod (o_ex (e_ix hK (o_sl (pv 0)) (o_ex e_int))) (o_sl (pv 1))))
    (ss_cons (s_setAt (pv 0) e_int (e_op p_div op_fdiv (o_ex (e_ix hK (o_sl (pv 0)) (o_ex e_int))) (o_sl (pv 1))))
    (ss_one (s_ret (e_var (pv 2)))))))
theorem sc__law_e_bends : FnScope ["pen", "base", "found", "k"] ["pen"] (defScope s__law_e_bends) := ⟨rfl, rfl, rfl, by decide +kernel, rfl, by decide +kernel, by decide +kernel⟩
theorem ok__law_e_bends {f : Addr} {fd : FuncData} (F : L2.Fun K "_law_e_bends" "_law_e_bends" s__law_e_bends f fd) (gK : g.K = K) (z_range : mg "range" = none) (z_set : mg "set" = none) (z_sorted : mg "sorted" = none)  (d__law_e_take : Def P w K mg base g 2 "_law_e_take" 2 F_law_e_take_2efe)  : FnG P w K mg base 3 f fd ["pen"] (spG g 1 F_law_e_bends_8798) := by
  refine okF F sc__law_e_bends rfl rfl gK fun Γ cdv A outer s H E hK hnp hg hr hgd => ?_
  have nd := (sc__law_e_bends).nd
  have tk : Takes (cxOf (L2.CX P w) P w K mg base ["pen", "base", "found", "k"] "_law_e_bends" (defScope s__law_e_bends) f cdv A outer s H E) (fun cls d _ H' => E cls d H') := takes_of rfl rfl rfl rfl
  have po : PassesOwn (model P w) (cxOf (L2.CX P w) P w K mg base ["pen", "base", "found", "k"] "_law_e_bends" (defScope s__law_e_bends) f cdv A outer s H E).A (cxOf (L2.CX P w) P w K mg base ["pen", "base", "found", "k"] "_law_e_bends" (defScope s__law_e_bends) f cdv A outer s H E).env (cxOf (L2.CX P w) P w K mg base ["pen", "base", "found", "k"] "_law_e_bends" (defScope s__law_e_bends) f cdv A outer s H E).xe := passes_of rfl
  exact (ss_cons (s_set (i := 1) nd rfl (by first | exact Or.inl rfl | exact Or.inr rfl) (e_ix hK (o_ex (e_list (e_disp (a_ex e_int (a_ex e_int (a_ex e_int a_nil)))))) (o_ex (e_dat (e_callD hg d__law_e_take rfl hr (by decide) hgd tk (by rfl) (a_sl (pv 0) (a_ex e_int a_nil)))))))
    (ss_cons (s_set (i := 2) nd rfl (by first | exact Or.inl rfl | exact Or.inr rfl) (e_ix hK (o_ex (e_list (e_disp (a_ex (e_list (e_disp a_nil)) (a_ex (e_list (e_disp (a_ex e_int a_nil))) (a_ex (e_list (e_disp (a_ex (e_op p_pow op_pow (o_ex e_int) (o_ex e_int)) a_nil))) (a_ex (e_list (e_disp (a_ex e_int (a_ex (e_op p_pow op_pow (o_ex e_int) (o_ex e_int)) a_nil)))) a_nil))))))) (o_ex (e_dat (e_callD hg d__law_e_take rfl hr (by decide) hgd tk (by rfl) (a_sl (pv 0) (a_ex e_int a_nil)))))))
    (ss_cons (s_for po rfl (i_range1 (by rfl) z_range (a_ex (e_op (p_add hK) op_plus (o_ex e_int) (o_ex (e_dat (e_callD hg d__law_e_take rfl hr (by decide) hgd tk (by rfl) (a_sl (pv 0) (a_ex e_int a_nil)))))) a_nil)) (g_name (i := 3) nd rfl (by first | exact Or.inl rfl | exact Or.inr rfl)) (ss_one (s_set (i := 2) nd rfl (by first | exact Or.inl rfl | exact Or.inr rfl) (e_op (p_add hK) op_plus (o_sl (pv 2)) (o_ex (e_list (e_disp (a_ex (e_if (b_cmp (p_eq hK) (op_eqD (hu64 hr)) (o_ex (e_dat (e_callD hg d__law_e_take rfl hr (by decide) hgd tk (by rfl) (a_sl (pv 0) (a_ex e_int a_nil))))) (o_ex e_int)) (e_dat (e_callD hg d__law_e_take rfl hr (by decide) hgd tk (by rfl) (a_sl (pv 0) (a_ex (e_op (p_add hK) op_plus (o_ex (e_op p_pow op_pow (o_ex e_int) (o_ex e_int))) (o_ex e_int)) a_nil)))) (e_op (p_add hK) op_plus (o_sl (pv 1)) (o_ex (e_dat (e_callD hg d__law_e_take rfl hr (by decide) hgd tk (by rfl) (a_sl (pv 0) (a_ex e_int a_nil))))))) a_nil))))))))
    (ss_one (s_ret (e_usort rfl (hu100 hr) (by rfl) z_sorted (by rfl) z_set (o_sl (pv 2))))))))
theorem sc__law_e_lines : FnScope ["pen", "bends", "tones", "most", "found", "k", "one", "two", "low", "high"] ["pen", "bends", "tones", "most"] (defScope s__law_e_lines) := ⟨rfl, rfl, rfl, by decide +kernel, rfl, by decide +kernel, by decide +kernel⟩
theorem ok__law_e_lines {f : Addr} {fd : FuncData} (F : L2.Fun K "_law_e_lines" "_law_e_lines" s__law_e_lines f fd) (gK : g.K = K) (z_len : mg "len" = none) (z_max : mg "max" = none) (z_min : mg "min" = none) (z_range : mg "range" = none)  (d__law_e_take : Def P w K mg base g 2 "_law_e_take" 2 F_law_e_take_2efe)  : FnG P w K mg base 3 f fd ["pen", "bends", "tones", "most"] (spG g 4 F_law_e_lines_867a) := by
  refine okF F sc__law_e_lines rfl rfl gK fun Γ cdv A outer s H E hK hnp hg hr hgd => ?_
  have nd := (sc__law_e_lines).nd
  have tk : Takes (cxOf (L2.CX P w) P w K mg base ["pen", "bends", "tones", "most", "found", "k", "one", "two", "low", "high"] "_law_e_lines" (defScope s__law_e_lines) f cdv A outer s H E) (fun cls d _ H' => E cls d H') := takes_of rfl rfl rfl rfl
  have po : PassesOwn (model P w) (cxOf (L2.CX P w) P w K mg base ["pen", "bends", "tones", "most", "found", "k", "one", "two", "low", "high"] "_law_e_lines" (defScope s__law_e_lines) f cdv A outer s H E).A (cxOf (L2.CX P w) P w K mg base ["pen", "bends", "tones", "most", "found", "k", "one", "two", "low", "high"] "_law_e_lines" (defScope s__law_e_lines) f cdv A outer s H E).env (cxOf (L2.CX P w) P w K mg base ["pen", "bends", "tones", "most", "found", "k", "one", "two", "low", "high"] "_law_e_lines" (defScope s__law_e_lines) f cdv A outer s H E).xe := passes_of rfl
  exact (ss_cons (s_new (i := 4) (by rw [hnp]; decide) nd rfl (by first | exact Or.inl rfl | exact Or.inr rfl) (e_disp a_nil))
    (ss_cons (s_for po rfl (i_range1 (by rfl) z_range (a_ex (e_dat (e_callD hg d__law_e_take rfl hr (by decide) hgd tk (by rfl) (a_sl (pv 0) (a_ex (e_op (p_add hK) op_plus (o_sl (pv 3)) (o_ex e_int)) a_nil)))) a_nil)) (g_name (i := 5) nd rfl (by first | exact Or.inl rfl | exact Or.inr rfl)) (ss_cons (s_par (i := 6) (j := 7) rfl nd rfl rfl (by decide) rfl rfl (a_ex (e_ix hK (o_sl (pv 1)) (o_ex (e_dat (e_callD hg d__law_e_take rfl hr (by decide) hgd tk (by rfl) (a_sl (pv 0) (a_ex (e_b (p_len hK) call_len (by rfl) z_len PySem.boot_len (a_sl (pv 1) a_nil)) a_nil)))))) (a_ex (e_ix hK (o_sl (pv 1)) (o_ex (e_dat (e_callD hg d__law_e_take rfl hr (by decide) hgd tk (by rfl) (a_sl (pv 0) (a_ex (e_b (p_len hK) call_len (by rfl) z_len PySem.boot_len (a_sl (pv 1) a_nil)) a_nil)))))) a_nil)))
    (ss_cons (s_par (i := 8) (j := 9) rfl nd rfl rfl (by decide) rfl rfl (a_ex (e_b p_min2 (call_min2 rfl) (by rfl) z_min PyProof.Rows.boot_min (a_sl (pv 6) (a_sl (pv 7) a_nil))) (a_ex (e_b p_max2 (call_max2 rfl) (by rfl) z_max PyProof.Rows.boot_max (a_sl (pv 6) (a_sl (pv 7) a_nil))) a_nil)))
    (ss_cons (s_if (PW.pt (w_and (b_cmp p_le op_le (o_ex (e_op (p_add hK) op_plus (o_sl (pv 8)) (o_ex e_int))) (o_sl (pv 9))) (w_and1 (b_cmp (p_eq hK) (op_eqD (hu64 hr)) (o_ex (e_dat (e_callD hg d__law_e_take rfl hr (by decide) hgd tk (by rfl) (a_sl (pv 0) (a_ex e_int a_nil))))) (o_ex e_int))))) (ss_one (s_asg (e_ix hK (o_ex (e_list (e_disp (a_ex (e_tup (a_ex (e_op (p_add hK) op_plus (o_sl (pv 8)) (o_ex e_int)) (a_sl (pv 9) a_nil))) (a_ex (e_tup (a_sl (pv 8) (a_ex (e_op p_sub op_sub (o_sl (pv 9)) (o_ex e_int)) a_nil))) (a_ex (e_tup (a_sl (pv 8) (a_sl (pv 8) a_nil))) a_nil)))))) (o_ex (e_dat (e_callD hg d__law_e_take rfl hr (by decide) hgd tk (by rfl) (a_sl (pv 0) (a_ex e_int a_nil)))))) (g_tup rfl hK (gs_cons (g_name (i := 8) nd rfl (by first | exact Or.inl rfl | exact Or.inr rfl)) (gs_cons (g_name (i := 9) nd rfl (by first | exact Or.inl rfl | exact Or.inr rfl)) gs_nil))))) ss_nil)
    (ss_one (s_expr (e_mut hK pm_append PySem.F.slot_list_append PySem.F.type_list_append mt_append (pv 4) (a_ex (e_tup (a_sl (pv 8) (a_sl (pv 9) (a_ex (e_ix hK (o_sl (pv 2)) (o_ex (e_dat (e_callD hg d__law_e_take rfl hr (by decide) hgd tk (by rfl) (a_sl (pv 0) (a_ex (e_b (p_len hK) call_len (by rfl) z_len PySem.boot_len (a_sl (pv 2) a_nil)) a_nil)))))) a_nil)))) a_nil))))))))
    (ss_one (s_retO (by rw [hnp]; decide) (pv 4)))))
theorem sc__law_e_tones : FnScope ["pen", "found", "k", "letters", "j"] ["pen"] (defScope s__law_e_tones) := ⟨rfl, rfl, rfl, by decide +kernel, rfl, by decide +kernel, by decide +kernel⟩
theorem ok__law_e_tones {f : Addr} {fd : FuncData} (F : L2.Fun K "_law_e_tones" "_law_e_tones" s__law_e_tones f fd) (gK : g.K = K) (z_len : mg "len" = none) (z_range : mg "range" = none) (z_set : mg "set" = none)  (d__law_e_take : Def P w K mg base g 2 "_law_e_take" 2 F_law_e_take_2efe)  : FnG P w K mg base 3 f fd ["pen"] (spG g 1 F_law_e_tones_2b05) := by
  refine okF F sc__law_e_tones rfl rfl gK fun Γ cdv A outer s H E hK hnp hg hr hgd => ?_
  have nd := (sc__law_e_tones).nd
  have tk : Takes (cxOf (L2.CX P w) P w K mg base ["pen", "found", "k", "letters", "j"] "_law_e_tones" (defScope s__law_e_tones) f cdv A outer s H E) (fun cls d _ H' => E cls d H') := takes_of rfl rfl rfl rfl
  have po : PassesOwn (model P w) (cxOf (L2.CX P w) P w K mg base ["pen", "found", "k", "letters", "j"] "_law_e_tones" (defScope s__law_e_tones) f cdv A outer s H E).A (cxOf (L2.CX P w) P w K mg base ["pen", "found", "k", "letters", "j"] "_law_e_tones" (defScope s__law_e_tones) f cdv A outer s H E).env (cxOf (L2.CX P w) P w K mg base ["pen", "found", "k", "letters", "j"] "_law_e_tones" (defScope s__law_e_tones) f cdv A outer s H E).xe := passes_of rfl
  exact (ss_cons (s_new (i := 1) (by rw [hnp]; decide) nd rfl (by first | exact Or.inl rfl | exact Or.inr rfl) (e_disp a_nil))
    (ss_cons (s_for po rfl (i_range1 (by rfl) z_range (a_ex (e_op (p_add hK) op_plus (o_ex e_int) (o_ex (e_dat (e_callD hg d__law_e_take rfl hr (by decide) hgd tk (by rfl) (a_sl (pv 0) (a_ex e_int a_nil)))))) a_nil)) (g_name (i := 2) nd rfl (by first | exact Or.inl rfl | exact Or.inr rfl)) (ss_cons (s_setC (i := 3) (own := [("j", 4)]) no_if rfl nd rfl rfl (sw_true rfl rfl rfl (by decide +kernel)) (i_range1 (by rfl) z_range (a_ex (e_ix hK (o_ex (e_list (e_disp (a_ex e_int (a_ex e_int (a_ex e_int a_nil)))))) (o_ex (e_dat (e_callD hg d__law_e_take rfl hr (by decide) hgd tk (by rfl) (a_sl (pv 0) (a_ex e_int a_nil)))))) a_nil)) (blkOk_by (N := ["pen", "found", "k", "letters", "j"]) (sc := defScope s__law_e_tones) (by decide +kernel)) (by decide) (fun _ _ _ _ _ => (g_name (i := 4) nd rfl (by first | exact Or.inl rfl | exact Or.inr rfl))) (fun _ _ _ _ _ => pts_nil) (fun _ _ _ _ _ => (e_ix hK (o_ex e_str) (o_ex (e_dat (e_callD hg d__law_e_take rfl hr (by decide) hgd DL.takes0 (by rfl) (a_sl (pv 0) (a_ex e_int a_nil))))))))
    (ss_one (s_expr (e_mut hK pm_append PySem.F.slot_list_append PySem.F.type_list_append mt_append (pv 1) (a_ex (e_join (o_sl (pv 3))) a_nil))))))
    (ss_one (s_frz (i := 1) (by rw [hnp]; decide) (s_ret (e_if (b_cmp (p_eq hK) (op_eqD (hu64 hr)) (o_ex (e_once rfl (by rfl) z_len (by rfl) z_set (o_sl (pv 1)))) (o_ex (e_b (p_len hK) call_len (by rfl) z_len PySem.boot_len (a_sl (pv 1) a_nil)))) (e_var (pv 1)) (e_list (e_disp (a_ex e_str (a_ex e_str (a_ex e_str a_nil)))))))))))
theorem sc_Book_take : FnScope ["self", "number"] ["self", "number"] (defScope s_Book_take) := ⟨rfl, rfl, rfl, by decide +kernel, rfl, by decide +kernel, by decide +kernel⟩
theorem ok_Book_take {f : Addr} {fd : FuncData} (F : L2.Fun K "take" "Book.take" s_Book_take f fd) (gK : g.K = K) (Bk : DL.Bk K g.cb) (z_len : mg "len" = none)  (d_is_whole : DefK P w K mg base g 1 "is_whole" 1 [.int 0] F_is_whole_8291)  : FnG P w K mg base 2 f fd ["self", "number"] (spG g 2 F_Book_take_d1bd) := by
  refine okF F sc_Book_take rfl rfl gK fun Γ cdv A outer s H E hK hnp hg hr hgd => ?_
  have nd := (sc_Book_take).nd
  have hB : DL.Bk K Γ.g.cb := by rw [hg]; exact Bk
  have tk : Takes (cxOf (L2.CX P w) P w K mg base ["self", "number"] "Book.take" (defScope s_Book_take) f cdv A outer s H E) (fun cls d _ H' => E cls d H') := takes_of rfl rfl rfl rfl
  have po : PassesOwn (model P w) (cxOf (L2.CX P w) P w K mg base ["self", "number"] "Book.take" (defScope s_Book_take) f cdv A outer s H E).A (cxOf (L2.CX P w) P w K mg base ["self", "number"] "Book.take" (defScope s_Book_take) f cdv A outer s H E).env (cxOf (L2.CX P w) P w K mg base ["self", "number"] "Book.take" (defScope s_Book_take) f cdv A outer s H E).xe := passes_of rfl
  exact (ss_cons (s_if (PW.pt (w_or (b_not (b_val (e_dat (e_callK hg d_is_whole rfl hr (by decide) hgd tk (by rfl) (a_sl (pv 1) a_nil))))) (w_or1 (b_cmp p_ge op_ge (o_sl (pv 1)) (o_ex (e_rowB hK hB (p_len hK) call_len (by rfl) z_len PySem.boot_len (pv 0))))))) (ss_one s_no) ss_nil)
    (ss_one (s_ret (e_mutR hK hB pm_popAt PySem.F.slot_list_pop PySem.F.type_list_pop mt_popAt (pv 0) (a_sl (pv 1) a_nil)))))
theorem sc_Book_put : FnScope ["self", "slot", "stroke"] ["self", "slot", "stroke"] (defScope s_Book_put) := ⟨rfl, rfl, rfl, by decide +kernel, rfl, by decide +kernel, by decide +kernel⟩
theorem ok_Book_put {f : Addr} {fd : FuncData} (F : L2.Fun K "put" "Book.put" s_Book_put f fd) (gK : g.K = K) (Bk : DL.Bk K g.cb) (z_len : mg "len" = none)  (d_is_whole : DefK P w K mg base g 1 "is_whole" 1 [.int 0] F_is_whole_8291) (d_is_stroke : Def P w K mg base g 4 "is_stroke" 1 F_is_stroke_3746)  : FnG P w K mg base 5 f fd ["self", "slot", "stroke"] (spG g 3 F_Book_put_4d53) := by
  refine okF F sc_Book_put rfl rfl gK fun Γ cdv A outer s H E hK hnp hg hr hgd => ?_
  have nd := (sc_Book_put).nd
  have hB : DL.Bk K Γ.g.cb := by rw [hg]; exact Bk
  have tk : Takes (cxOf (L2.CX P w) P w K mg base ["self", "slot", "stroke"] "Book.put" (defScope s_Book_put) f cdv A outer s H E) (fun cls d _ H' => E cls d H') := takes_of rfl rfl rfl rfl
  have po : PassesOwn (model P w) (cxOf (L2.CX P w) P w K mg base ["self", "slot", "stroke"] "Book.put" (defScope s_Book_put) f cdv A outer s H E).A (cxOf (L2.CX P w) P w K mg base ["self", "slot", "stroke"] "Book.put" (defScope s_Book_put) f cdv A outer s H E).env (cxOf (L2.CX P w) P w K mg base ["self", "slot", "stroke"] "Book.put" (defScope s_Book_put) f cdv A outer s H E).xe := passes_of rfl
  exact (ss_cons (s_if (PW.pt (w_or (b_not (b_val (e_dat (e_callK hg d_is_whole rfl hr (by decide) hgd tk (by rfl) (a_sl (pv 1) a_nil))))) (w_or1 (b_cmp p_gt op_gt (o_sl (pv 1)) (o_ex (e_rowB hK hB (p_len hK) call_len (by rfl) z_len PySem.boot_len (pv 0))))))) (ss_one s_no) ss_nil)
    (ss_cons (s_if (b_not (b_val (e_dat (e_callD hg d_is_stroke rfl hr (by decide) hgd tk (by rfl) (a_sl (pv 2) a_nil))))) (ss_one s_no) ss_nil)
    (ss_one (s_expr (e_mutR hK hB pm_insert PySem.F.slot_list_insert PySem.F.type_list_insert mt_insert (pv 0) (a_sl (pv 1) (a_sl (pv 2) a_nil)))))))
theorem sc__law_e_exchanged : FnScope ["pen", "book", "lines", "bends", "road", "spot"] ["pen", "book", "lines", "bends"] (defScope s__law_e_exchanged) := ⟨rfl, rfl, rfl, by decide +kernel, rfl, by decide +kernel, by decide +kernel⟩
theorem ok__law_e_exchanged {f : Addr} {fd : FuncData} (F : L2.Fun K "_law_e_exchanged" "_law_e_exchanged" s__law_e_exchanged f fd) (gK : g.K = K) (Bk : DL.Bk K g.cb) (z_len : mg "len" = none)  (d__law_e_take : Def P w K mg base g 2 "_law_e_take" 2 F_law_e_take_2efe) (d_Book_take : MDef P w K mg base g 2 "take" 2 F_Book_take_d1bd) (d_Book_put : MDef P w K mg base g 5 "put" 3 F_Book_put_4d53)  : FnG P w K mg base 6 f fd ["pen", "book", "lines", "bends"] (spG g 4 F_law_e_exchanged_cdac) := by
  refine okF F sc__law_e_exchanged rfl rfl gK fun Γ cdv A outer s H E hK hnp hg hr hgd => ?_
  have nd := (sc__law_e_exchanged).nd
  have hB : DL.Bk K Γ.g.cb := by rw [hg]; exact Bk
  have tk : Takes (cxOf (L2.CX P w) P w K mg base ["pen", "book", "lines", "bends", "road", "spot"] "_law_e_exchanged" (defScope s__law_e_exchanged) f cdv A outer s H E) (fun cls d _ H' => E cls d H') := takes_of rfl rfl rfl rfl
  have po : PassesOwn (model P w) (cxOf (L2.CX P w) P w K mg base ["pen", "book", "lines", "bends", "road", "spot"] "_law_e_exchanged" (defScope s__law_e_exchanged) f cdv A outer s H E).A (cxOf (L2.CX P w) P w K mg base ["pen", "book", "lines", "bends", "road", "spot"] "_law_e_exchanged" (defScope s__law_e_exchanged) f cdv A outer s H E).env (cxOf (L2.CX P w) P w K mg base ["pen", "book", "lines", "bends", "road", "spot"] "_law_e_exchanged" (defScope s__law_e_exchanged) f cdv A outer s H E).xe := passes_of rfl
  exact (ss_cons (s_set (i := 4) nd rfl (by first | exact Or.inl rfl | exact Or.inr rfl) (e_dat (e_callD hg d__law_e_take rfl hr (by decide) hgd tk (by rfl) (a_sl (pv 0) (a_ex e_int a_nil)))))
    (ss_cons (s_if (PW.pt (w_and (b_cmp (p_ne hK) (op_neD (hu64 hr)) (o_sl (pv 2)) (o_ex (e_list (e_disp a_nil)))) (w_and1 (b_cmp p_lt op_lt (o_sl (pv 4)) (o_ex e_int))))) (ss_cons (s_set (i := 5) nd rfl (by first | exact Or.inl rfl | exact Or.inr rfl) (e_dat (e_callD hg d__law_e_take rfl hr (by decide) hgd tk (by rfl) (a_sl (pv 0) (a_ex (e_b (p_len hK) call_len (by rfl) z_len PySem.boot_len (a_sl (pv 2) a_nil)) a_nil)))))
    (ss_cons (s_expr (e_mut hK pm_popAt PySem.F.slot_list_pop PySem.F.type_list_pop mt_popAt (pv 2) (a_sl (pv 5) a_nil)))
    (ss_one (s_expr (e_dat (e_meth hg Bk d_Book_take rfl hr (by decide) hgd tk (by decide +kernel) (pv 1) (a_sl (pv 5) a_nil))))))) ss_nil)
    (ss_one (s_if (b_cmp (p_ne hK) (op_neD (hu64 hr)) (o_sl (pv 4)) (o_ex e_int)) (ss_cons (s_set (i := 5) nd rfl (by first | exact Or.inl rfl | exact Or.inr rfl) (e_dat (e_callD hg d__law_e_take rfl hr (by decide) hgd tk (by rfl) (a_sl (pv 0) (a_ex (e_op (p_add hK) op_plus (o_ex (e_b (p_len hK) call_len (by rfl) z_len PySem.boot_len (a_sl (pv 2) a_nil))) (o_ex e_int)) a_nil)))))
    (ss_cons (s_expr (e_mut hK pm_insert PySem.F.slot_list_insert PySem.F.type_list_insert mt_insert (pv 2) (a_sl (pv 5) (a_ex (e_tup (a_ex (e_ix hK (o_sl (pv 3)) (o_ex e_int)) (a_ex (e_ix hK (o_sl (pv 3)) (o_ex (e_dat (e_callD hg d__law_e_take rfl hr (by decide) hgd tk (by rfl) (a_sl (pv 0) (a_ex (e_b (p_len hK) call_len (by rfl) z_len PySem.boot_len (a_sl (pv 3) a_nil)) a_nil)))))) (a_ex e_str a_nil)))) a_nil))))
    (ss_one (s_expr (e_dat (e_meth hg Bk d_Book_put rfl hr (by decide) hgd tk (by decide +kernel) (pv 1) (a_sl (pv 5) (a_ex (e_ix hK (o_sl (pv 2)) (o_sl (pv 5))) a_nil)))))))) ss_nil))))
theorem sc_Book_strokes : FnScope ["self"] ["self"] (defScope s_Book_strokes) := ⟨rfl, rfl, rfl, by decide +kernel, rfl, by decide +kernel, by decide +kernel⟩
theorem ok_Book_strokes {f : Addr} {fd : FuncData} (F : L2.Fun K "strokes" "Book.strokes" s_Book_strokes f fd) (gK : g.K = K) (Bk : DL.Bk K g.cb) (z_tuple : mg "tuple" = none)    : FnG P w K mg base 1 f fd ["self"] (spG g 1 F_Book_strokes_0c4a) := by
  refine okF F sc_Book_strokes rfl rfl gK fun Γ cdv A outer s H E hK hnp hg hr hgd => ?_
  have nd := (sc_Book_strokes).nd
  have hB : DL.Bk K Γ.g.cb := by rw [hg]; exact Bk
  have tk : Takes (cxOf (L2.CX P w) P w K mg base ["self"] "Book.strokes" (defScope s_Book_strokes) f cdv A outer s H E) (fun cls d _ H' => E cls d H') := takes_of rfl rfl rfl rfl
  have po : PassesOwn (model P w) (cxOf (L2.CX P w) P w K mg base ["self"] "Book.strokes" (defScope s_Book_strokes) f cdv A outer s H E).A (cxOf (L2.CX P w) P w K mg base ["self"] "Book.strokes" (defScope s_Book_strokes) f cdv A outer s H E).env (cxOf (L2.CX P w) P w K mg base ["self"] "Book.strokes" (defScope s_Book_strokes) f cdv A outer s H E).xe := passes_of rfl
  exact (ss_one (s_ret (e_rowT hK hB (p_tuple hK) call_tuple_of (by rfl) z_tuple PyProof.Rows.boot_tuple (pv 0))))
theorem sc_laid_over : FnScope ["parts", "low", "high", "giver", "before", "a", "b", "one", "behind"] ["parts", "low", "high", "giver"] (defScope s_laid_over) := ⟨rfl, rfl, rfl, by decide +kernel, rfl, by decide +kernel, by decide +kernel⟩
theorem ok_laid_over {f : Addr} {fd : FuncData} (F : L2.Fun K "laid_over" "laid_over" s_laid_over f fd) (gK : g.K = K) (z_max : mg "max" = none) (z_min : mg "min" = none)    : FnG P w K mg base 1 f fd ["parts", "low", "high", "giver"] (spG g 4 F_laid_over_1d5d) := by
  refine okF F sc_laid_over rfl rfl gK fun Γ cdv A outer s H E hK hnp hg hr hgd => ?_
  have nd := (sc_laid_over).nd
  have tk : Takes (cxOf (L2.CX P w) P w K mg base ["parts", "low", "high", "giver", "before", "a", "b", "one", "behind"] "laid_over" (defScope s_laid_over) f cdv A outer s H E) (fun cls d _ H' => E cls d H') := takes_of rfl rfl rfl rfl
  have po : PassesOwn (model P w) (cxOf (L2.CX P w) P w K mg base ["parts", "low", "high", "giver", "before", "a", "b", "one", "behind"] "laid_over" (defScope s_laid_over) f cdv A outer s H E).A (cxOf (L2.CX P w) P w K mg base ["parts", "low", "high", "giver", "before", "a", "b", "one", "behind"] "laid_over" (defScope s_laid_over) f cdv A outer s H E).env (cxOf (L2.CX P w) P w K mg base ["parts", "low", "high", "giver", "before", "a", "b", "one", "behind"] "laid_over" (defScope s_laid_over) f cdv A outer s H E).xe := passes_of rfl
  exact (ss_cons (s_setC (i := 4) (own := [("a", 5), ("b", 6), ("one", 7)]) (fun _ _ _ h => h) rfl nd rfl rfl (sw_true rfl rfl rfl (by decide +kernel)) (i_seq hK (e_var (pv 0))) (blkOk_by (N := ["parts", "low", "high", "giver", "before", "a", "b", "one", "behind"]) (sc := defScope s_laid_over) (by decide +kernel)) (by decide) (fun _ _ _ _ _ => (g_tup rfl hK (gs_cons (g_name (i := 5) nd rfl (by first | exact Or.inl rfl | exact Or.inr rfl)) (gs_cons (g_name (i := 6) nd rfl (by first | exact Or.inl rfl | exact Or.inr rfl)) (gs_cons (g_name (i := 7) nd rfl (by first | exact Or.inl rfl | exact Or.inr rfl)) gs_nil))))) (fun _ _ _ _ _ => (pts_one (b_cmp p_lt op_lt (o_sl (pv 5)) (o_sl (pv 1))))) (fun _ _ _ _ _ => (e_tup (a_sl (pv 5) (a_ex (e_b p_min2 (call_min2 rfl) (by rfl) z_min PyProof.Rows.boot_min (a_sl (pv 6) (a_ex (e_op p_sub op_sub (o_sl (pv 1)) (o_ex e_int)) a_nil))) (a_sl (pv 7) a_nil))))))
    (ss_cons (s_setC (i := 8) (own := [("a", 5), ("b", 6), ("one", 7)]) (fun _ _ _ h => h) rfl nd rfl rfl (sw_true rfl rfl rfl (by decide +kernel)) (i_seq hK (e_var (pv 0))) (blkOk_by (N := ["parts", "low", "high", "giver", "before", "a", "b", "one", "behind"]) (sc := defScope s_laid_over) (by decide +kernel)) (by decide) (fun _ _ _ _ _ => (g_tup rfl hK (gs_cons (g_name (i := 5) nd rfl (by first | exact Or.inl rfl | exact Or.inr rfl)) (gs_cons (g_name (i := 6) nd rfl (by first | exact Or.inl rfl | exact Or.inr rfl)) (gs_cons (g_name (i := 7) nd rfl (by first | exact Or.inl rfl | exact Or.inr rfl)) gs_nil))))) (fun _ _ _ _ _ => (pts_one (b_cmp p_gt op_gt (o_sl (pv 6)) (o_sl (pv 2))))) (fun _ _ _ _ _ => (e_tup (a_ex (e_b p_max2 (call_max2 rfl) (by rfl) z_max PyProof.Rows.boot_max (a_sl (pv 5) (a_ex (e_op (p_add hK) op_plus (o_sl (pv 2)) (o_ex e_int)) a_nil))) (a_sl (pv 6) (a_sl (pv 7) a_nil))))))
    (ss_one (s_ret (e_op (p_add hK) op_plus (o_ex (e_op (p_add hK) op_plus (o_sl (pv 4)) (o_ex (e_list (e_disp (a_ex (e_tup (a_sl (pv 1) (a_sl (pv 2) (a_sl (pv 3) a_nil)))) a_nil)))))) (o_sl (pv 8)))))))
theorem sc_painted : FnScope ["some", "parts", "number", "low", "high", "colour"] ["some"] (defScope s_painted) := ⟨rfl, rfl, rfl, by decide +kernel, rfl, by decide +kernel, by decide +kernel⟩
theorem ok_painted {f : Addr} {fd : FuncData} (F : L2.Fun K "painted" "painted" s_painted f fd) (gK : g.K = K) (z_enumerate : mg "enumerate" = none) {t_LAST : Tok} (g_LAST : mg "LAST" = some (.int 1000000000 t_LAST)) (d_laid_over : Def P w K mg base g 1 "laid_over" 4 F_laid_over_1d5d)  : FnG P w K mg base 2 f fd ["some"] (spG g 1 F_painted_9069) := by
  refine okF F sc_painted rfl rfl gK fun Γ cdv A outer s H E hK hnp hg hr hgd => ?_
  have nd := (sc_painted).nd
  have tk : Takes (cxOf (L2.CX P w) P w K mg base ["some", "parts", "number", "low", "high", "colour"] "painted" (defScope s_painted) f cdv A outer s H E) (fun cls d _ H' => E cls d H') := takes_of rfl rfl rfl rfl
  have po : PassesOwn (model P w) (cxOf (L2.CX P w) P w K mg base ["some", "parts", "number", "low", "high", "colour"] "painted" (defScope s_painted) f cdv A outer s H E).A (cxOf (L2.CX P w) P w K mg base ["some", "parts", "number", "low", "high", "colour"] "painted" (defScope s_painted) f cdv A outer s H E).env (cxOf (L2.CX P w) P w K mg base ["some", "parts", "number", "low", "high", "colour"] "painted" (defScope s_painted) f cdv A outer s H E).xe := passes_of rfl
  exact (ss_cons (s_set (i := 1) nd rfl (by first | exact Or.inl rfl | exact Or.inr rfl) (e_list (e_disp (a_ex (e_tup (a_ex e_int (a_ex (e_gint (by rfl) g_LAST) (a_ex e_none a_nil)))) a_nil))))
    (ss_cons (s_for po rfl (i_enu hK (by rfl) z_enumerate (a_sl (pv 0) a_nil)) (g_tup rfl hK (gs_cons (g_name (i := 2) nd rfl (by first | exact Or.inl rfl | exact Or.inr rfl)) (gs_cons (g_tup rfl hK (gs_cons (g_name (i := 3) nd rfl (by first | exact Or.inl rfl | exact Or.inr rfl)) (gs_cons (g_name (i := 4) nd rfl (by first | exact Or.inl rfl | exact Or.inr rfl)) (gs_cons (g_name (i := 5) nd rfl (by first | exact Or.inl rfl | exact Or.inr rfl)) gs_nil)))) gs_nil))) (ss_one (s_set (i := 1) nd rfl (by first | exact Or.inl rfl | exact Or.inr rfl) (e_dat (e_callD hg d_laid_over rfl hr (by decide) hgd tk (by rfl) (a_sl (pv 1) (a_sl (pv 3) (a_sl (pv 4) (a_sl (pv 2) a_nil)))))))))
    (ss_one (s_ret (e_var (pv 1))))))
theorem sc_Book___len__ : FnScope ["self"] ["self"] (defScope s_Book___len__) := ⟨rfl, rfl, rfl, by decide +kernel, rfl, by decide +kernel, by decide +kernel⟩
theorem ok_Book___len__ {f : Addr} {fd : FuncData} (F : L2.Fun K "__len__" "Book.__len__" s_Book___len__ f fd) (gK : g.K = K) (Bk : DL.Bk K g.cb) (z_len : mg "len" = none)    : FnG P w K mg base 1 f fd ["self"] (spG g 1 F_Book___len___5744) := by
  refine okF F sc_Book___len__ rfl rfl gK fun Γ cdv A outer s H E hK hnp hg hr hgd => ?_
  have nd := (sc_Book___len__).nd
  have hB : DL.Bk K Γ.g.cb := by rw [hg]; exact Bk
  have tk : Takes (cxOf (L2.CX P w) P w K mg base ["self"] "Book.__len__" (defScope s_Book___len__) f cdv A outer s H E) (fun cls d _ H' => E cls d H') := takes_of rfl rfl rfl rfl
  have po : PassesOwn (model P w) (cxOf (L2.CX P w) P w K mg base ["self"] "Book.__len__" (defScope s_Book___len__) f cdv A outer s H E).A (cxOf (L2.CX P w) P w K mg base ["self"] "Book.__len__" (defScope s_Book___len__) f cdv A outer s H E).env (cxOf (L2.CX P w) P w K mg base ["self"] "Book.__len__" (defScope s_Book___len__) f cdv A outer s H E).xe := passes_of rfl
  exact (ss_one (s_ret (e_rowB hK hB (p_len hK) call_len (by rfl) z_len PySem.boot_len (pv 0))))
theorem sc_is_moment : FnScope ["book", "thing"] ["book", "thing"] (defScope s_is_moment) := ⟨rfl, rfl, rfl, by decide +kernel, rfl, by decide +kernel, by decide +kernel⟩
theorem ok_is_moment {f : Addr} {fd : FuncData} (F : L2.Fun K "is_moment" "is_moment" s_is_moment f fd) (gK : g.K = K) (Bk : DL.Bk K g.cb) (z_len : mg "len" = none)  (d_is_place : Def P w K mg base g 2 "is_place" 1 F_is_place_f9e3) (d_Book___len__ : MDef P w K mg base g 1 "__len__" 1 F_Book___len___5744)  : FnG P w K mg base 3 f fd ["book", "thing"] (spG g 2 F_is_moment_1ac7) := by
  refine okF F sc_is_moment rfl rfl gK fun Γ cdv A outer s H E hK hnp hg hr hgd => ?_
  have nd := (sc_is_moment).nd
  have hB : DL.Bk K Γ.g.cb := by rw [hg]; exact Bk
  have tk : Takes (cxOf (L2.CX P w) P w K mg base ["book", "thing"] "is_moment" (defScope s_is_moment) f cdv A outer s H E) (fun cls d _ H' => E cls d H') := takes_of rfl rfl rfl rfl
  have po : PassesOwn (model P w) (cxOf (L2.CX P w) P w K mg base ["book", "thing"] "is_moment" (defScope s_is_moment) f cdv A outer s H E).A (cxOf (L2.CX P w) P w K mg base ["book", "thing"] "is_moment" (defScope s_is_moment) f cdv A outer s H E).env (cxOf (L2.CX P w) P w K mg base ["book", "thing"] "is_moment" (defScope s_is_moment) f cdv A outer s H E).xe := passes_of rfl
  exact (ss_one (s_ret (e_and (e_dat (e_callD hg d_is_place rfl hr (by decide) hgd tk (by rfl) (a_sl (pv 1) a_nil))) (e_one (e_cmp p_le op_le (o_sl (pv 1)) (o_ex (e_lenB hg Bk d_Book___len__ hr (by decide) hgd tk (by rfl) z_len (pv 0))))))))
theorem sc_done_by : FnScope ["book", "moment"] ["book", "moment"] (defScope s_done_by) := ⟨rfl, rfl, rfl, by decide +kernel, rfl, by decide +kernel, by decide +kernel⟩
theorem ok_done_by {f : Addr} {fd : FuncData} (F : L2.Fun K "done_by" "done_by" s_done_by f fd) (gK : g.K = K) (Bk : DL.Bk K g.cb)   (d_Book_strokes : MDef P w K mg base g 1 "strokes" 1 F_Book_strokes_0c4a) (d_is_moment : Def P w K mg base g 3 "is_moment" 2 F_is_moment_1ac7)  : FnG P w K mg base 4 f fd ["book", "moment"] (spG g 2 F_done_by_bd12) := by
  refine okF F sc_done_by rfl rfl gK fun Γ cdv A outer s H E hK hnp hg hr hgd => ?_
  have nd := (sc_done_by).nd
  have hB : DL.Bk K Γ.g.cb := by rw [hg]; exact Bk
  have tk : Takes (cxOf (L2.CX P w) P w K mg base ["book", "moment"] "done_by" (defScope s_done_by) f cdv A outer s H E) (fun cls d _ H' => E cls d H') := takes_of rfl rfl rfl rfl
  have po : PassesOwn (model P w) (cxOf (L2.CX P w) P w K mg base ["book", "moment"] "done_by" (defScope s_done_by) f cdv A outer s H E).A (cxOf (L2.CX P w) P w K mg base ["book", "moment"] "done_by" (defScope s_done_by) f cdv A outer s H E).env (cxOf (L2.CX P w) P w K mg base ["book", "moment"] "done_by" (defScope s_done_by) f cdv A outer s H E).xe := passes_of rfl
  exact (ss_cons (s_if (b_cmp p_isN op_isN (o_sl (pv 1)) (o_ex e_none)) (ss_one (s_ret (e_dat (e_meth0 hg Bk d_Book_strokes hr (by decide) hgd tk (by decide +kernel) (pv 0))))) ss_nil)
    (ss_cons (s_if (b_not (b_val (e_dat (e_callD hg d_is_moment rfl hr (by decide) hgd tk (by rfl) (a_sl (pv 0) (a_sl (pv 1) a_nil)))))) (ss_one s_no) ss_nil)
    (ss_one (s_ret (e_slice hK (o_ex (e_dat (e_meth0 hg Bk d_Book_strokes hr (by decide) hgd tk (by decide +kernel) (pv 0)))) o_none (o_some (e_var (pv 1))))))))
theorem sc_picture : FnScope ["book", "moment"] ["book", "moment"] (defScope s_picture) := ⟨rfl, rfl, rfl, by decide +kernel, rfl, by decide +kernel, by decide +kernel⟩
theorem ok_picture {f : Addr} {fd : FuncData} (F : FunD K "picture" "picture" (defArgs s_picture) (defBody s_picture) (defScope s_picture) [] [("moment", .non)] f fd) (gK : g.K = K) (z_tuple : mg "tuple" = none)  (d_painted : Def P w K mg base g 2 "painted" 1 F_painted_9069) (d_done_by : Def P w K mg base g 4 "done_by" 2 F_done_by_bd12)  : FnG P w K mg base 5 f fd ["book", "moment"] (spG g 2 F_picture_c350) := by
  refine okFk F sc_picture rfl rfl gK fun Γ cdv A outer s H E hK hnp hg hr hgd => ?_
  have nd := (sc_picture).nd
  have tk : Takes (cxOf (L2.CX P w) P w K mg base ["book", "moment"] "picture" (defScope s_picture) f cdv A outer s H E) (fun cls d _ H' => E cls d H') := takes_of rfl rfl rfl rfl
  have po : PassesOwn (model P w) (cxOf (L2.CX P w) P w K mg base ["book", "moment"] "picture" (defScope s_picture) f cdv A outer s H E).A (cxOf (L2.CX P w) P w K mg base ["book", "moment"] "picture" (defScope s_picture) f cdv A outer s H E).env (cxOf (L2.CX P w) P w K mg base ["book", "moment"] "picture" (defScope s_picture) f cdv A outer s H E).xe := passes_of rfl
  exact (ss_one (s_ret (e_ty (p_tuple hK) call_tuple_of (by rfl) z_tuple PyProof.Rows.boot_tuple (a_ex (e_dat (e_callD hg d_painted rfl hr (by decide) hgd tk (by rfl) (a_ex (e_dat (e_callD hg d_done_by rfl hr (by decide) hgd tk (by rfl) (a_sl (pv 0) (a_sl (pv 1) a_nil)))) a_nil))) a_nil))))
theorem sc__law_e_as_one : FnScope ["cells", "found", "low", "high", "one"] ["cells"] (defScope s__law_e_as_one) := ⟨rfl, rfl, rfl, by decide +kernel, rfl, by decide +kernel, by decide +kernel⟩
theorem ok__law_e_as_one {f : Addr} {fd : FuncData} (F : L2.Fun K "_law_e_as_one" "_law_e_as_one" s__law_e_as_one f fd) (gK : g.K = K) (z_tuple : mg "tuple" = none)    : FnG P w K mg base 1 f fd ["cells"] (spG g 1 F_law_e_as_one_9db9) := by
  refine okF F sc__law_e_as_one rfl rfl gK fun Γ cdv A outer s H E hK hnp hg hr hgd => ?_
  have nd := (sc__law_e_as_one).nd
  have tk : Takes (cxOf (L2.CX P w) P w K mg base ["cells", "found", "low", "high", "one"] "_law_e_as_one" (defScope s__law_e_as_one) f cdv A outer s H E) (fun cls d _ H' => E cls d H') := takes_of rfl rfl rfl rfl
  have po : PassesOwn (model P w) (cxOf (L2.CX P w) P w K mg base ["cells", "found", "low", "high", "one"] "_law_e_as_one" (defScope s__law_e_as_one) f cdv A outer s H E).A (cxOf (L2.CX P w) P w K mg base ["cells", "found", "low", "high", "one"] "_law_e_as_one" (defScope s__law_e_as_one) f cdv A outer s H E).env (cxOf (L2.CX P w) P w K mg base ["cells", "found", "low", "high", "one"] "_law_e_as_one" (defScope s__law_e_as_one) f cdv A outer s H E).xe := passes_of rfl
  exact (ss_cons (s_new (i := 1) (by rw [hnp]; decide) nd rfl (by first | exact Or.inl rfl | exact Or.inr rfl) (e_disp a_nil))
    (ss_cons (s_for po rfl (i_seq hK (e_var (pv 0))) (g_tup rfl hK (gs_cons (g_name (i := 2) nd rfl (by first | exact Or.inl rfl | exact Or.inr rfl)) (gs_cons (g_name (i := 3) nd rfl (by first | exact Or.inl rfl | exact Or.inr rfl)) (gs_cons (g_name (i := 4) nd rfl (by first | exact Or.inl rfl | exact Or.inr rfl)) gs_nil)))) (ss_one (s_if (PW.pt (w_and (b_cmp (p_ne hK) (op_neD (hu64 hr)) (o_sl (pv 1)) (o_ex (e_list (e_disp a_nil)))) (w_and (b_cmp (p_eq hK) (op_eqD (hu64 hr)) (o_ex (e_op (p_add hK) op_plus (o_ex (e_ix hK (o_ex (e_ix hK (o_sl (pv 1)) (o_ex (e_un p_neg un_neg (o_ex e_int))))) (o_ex e_int))) (o_ex e_int))) (o_sl (pv 2))) (w_and1 (b_cmp (p_eq hK) (op_eqD (hu64 hr)) (o_ex (e_ix hK (o_ex (e_ix hK (o_sl (pv 1)) (o_ex (e_un p_neg un_neg (o_ex e_int))))) (o_ex e_int))) (o_sl (pv 4))))))) (ss_one (s_setAt (pv 1) (e_un p_neg un_neg (o_ex e_int)) (e_tup (a_ex (e_ix hK (o_ex (e_ix hK (o_sl (pv 1)) (o_ex (e_un p_neg un_neg (o_ex e_int))))) (o_ex e_int)) (a_sl (pv 3) (a_sl (pv 4) a_nil)))))) (ss_one (s_expr (e_mut hK pm_append PySem.F.slot_list_append PySem.F.type_list_append mt_append (pv 1) (a_ex (e_tup (a_sl (pv 2) (a_sl (pv 3) (a_sl (pv 4) a_nil)))) a_nil)))))))
    (ss_one (s_ret (e_ty (p_tuple hK) call_tuple_of (by rfl) z_tuple PyProof.Rows.boot_tuple (a_sl (pv 1) a_nil))))))
theorem sc__law_e_cells : FnScope ["some", "starts", "one", "spot", "k"] ["some"] (defScope s__law_e_cells) := ⟨rfl, rfl, rfl, by decide +kernel, rfl, by decide +kernel, by decide +kernel⟩
theorem ok__law_e_cells {f : Addr} {fd : FuncData} (F : L2.Fun K "_law_e_cells" "_law_e_cells" s__law_e_cells f fd) (gK : g.K = K) (z_len : mg "len" = none) (z_range : mg "range" = none) (z_set : mg "set" = none) (z_sorted : mg "sorted" = none)    : FnG P w K mg base 1 f fd ["some"] (spG g 1 F_law_e_cells_22ca) := by
  refine okF F sc__law_e_cells rfl rfl gK fun Γ cdv A outer s H E hK hnp hg hr hgd => ?_
  have nd := (sc__law_e_cells).nd
  have tk : Takes (cxOf (L2.CX P w) P w K mg base ["some", "starts", "one", "spot", "k"] "_law_e_cells" (defScope s__law_e_cells) f cdv A outer s H E) (fun cls d _ H' => E cls d H') := takes_of rfl rfl rfl rfl
  have po : PassesOwn (model P w) (cxOf (L2.CX P w) P w K mg base ["some", "starts", "one", "spot", "k"] "_law_e_cells" (defScope s__law_e_cells) f cdv A outer s H E).A (cxOf (L2.CX P w) P w K mg base ["some", "starts", "one", "spot", "k"] "_law_e_cells" (defScope s__law_e_cells) f cdv A outer s H E).env (cxOf (L2.CX P w) P w K mg base ["some", "starts", "one", "spot", "k"] "_law_e_cells" (defScope s__law_e_cells) f cdv A outer s H E).xe := passes_of rfl
  exact (ss_cons (s_set (i := 1) nd rfl (by first | exact Or.inl rfl | exact Or.inr rfl) (e_list (e_disp (a_ex e_int a_nil))))
    (ss_cons (s_for po rfl (i_seq hK (e_var (pv 0))) (g_name (i := 2) nd rfl (by first | exact Or.inl rfl | exact Or.inr rfl)) (ss_one (s_set (i := 1) nd rfl (by first | exact Or.inl rfl | exact Or.inr rfl) (e_op (p_add hK) op_plus (o_sl (pv 1)) (o_ex (e_list (e_disp (a_ex (e_ix hK (o_sl (pv 2)) (o_ex e_int)) (a_ex (e_op (p_add hK) op_plus (o_ex (e_ix hK (o_sl (pv 2)) (o_ex e_int))) (o_ex e_int)) a_nil)))))))))
    (ss_cons (s_set (i := 1) nd rfl (by first | exact Or.inl rfl | exact Or.inr rfl) (e_op (p_add hK) op_plus (o_ex (e_usort rfl (hu100 hr) (by rfl) z_sorted (by rfl) z_set (o_ex (e_list (e_comp (own := [("spot", 3)]) (fun _ _ _ h => h) rfl nd (i_seq hK (e_var (pv 1))) (blkOk_by (N := ["some", "starts", "one", "spot", "k"]) (sc := defScope s__law_e_cells) (by decide +kernel)) (by decide) (fun _ _ _ _ _ => (g_name (i := 3) nd rfl (by first | exact Or.inl rfl | exact Or.inr rfl))) (fun _ _ _ _ _ => (pts_one (b_cmp p_le op_le (o_sl (pv 3)) (o_ex (e_op p_pow op_pow (o_ex e_int) (o_ex e_int)))))) (fun _ _ _ _ _ => (e_var (pv 3)))))))) (o_ex (e_list (e_disp (a_ex (e_op (p_add hK) op_plus (o_ex (e_op p_pow op_pow (o_ex e_int) (o_ex e_int))) (o_ex e_int)) a_nil))))))
    (ss_one (s_retLM (e_comp (own := [("k", 4)]) no_if rfl nd (i_range1 (by rfl) z_range (a_ex (e_op p_sub op_sub (o_ex (e_b (p_len hK) call_len (by rfl) z_len PySem.boot_len (a_sl (pv 1) a_nil))) (o_ex e_int)) a_nil)) (blkOk_by (N := ["some", "starts", "one", "spot", "k"]) (sc := defScope s__law_e_cells) (by decide +kernel)) (by decide) (fun _ _ _ _ _ => (g_name (i := 4) nd rfl (by first | exact Or.inl rfl | exact Or.inr rfl))) (fun _ _ _ _ _ => pts_nil) (fun _ _ _ _ _ => (e_tup (a_ex (e_ix hK (o_sl (pv 1)) (o_sl (pv 4))) (a_ex (e_op p_sub op_sub (o_ex (e_ix hK (o_sl (pv 1)) (o_ex (e_op (p_add hK) op_plus (o_sl (pv 4)) (o_ex e_int))))) (o_ex e_int)) a_nil))))))))))
theorem sc__law_e_at : FnScope ["lines", "place", "found", "number", "line"] ["lines", "place"] (defScope s__law_e_at) := ⟨rfl, rfl, rfl, by decide +kernel, rfl, by decide +kernel, by decide +kernel⟩
theorem ok__law_e_at {f : Addr} {fd : FuncData} (F : L2.Fun K "_law_e_at" "_law_e_at" s__law_e_at f fd) (gK : g.K = K) (z_enumerate : mg "enumerate" = none)    : FnG P w K mg base 1 f fd ["lines", "place"] (spG g 2 F_law_e_at_2cf3) := by
  refine okF F sc__law_e_at rfl rfl gK fun Γ cdv A outer s H E hK hnp hg hr hgd => ?_
  have nd := (sc__law_e_at).nd
  have tk : Takes (cxOf (L2.CX P w) P w K mg base ["lines", "place", "found", "number", "line"] "_law_e_at" (defScope s__law_e_at) f cdv A outer s H E) (fun cls d _ H' => E cls d H') := takes_of rfl rfl rfl rfl
  have po : PassesOwn (model P w) (cxOf (L2.CX P w) P w K mg base ["lines", "place", "found", "number", "line"] "_law_e_at" (defScope s__law_e_at) f cdv A outer s H E).A (cxOf (L2.CX P w) P w K mg base ["lines", "place", "found", "number", "line"] "_law_e_at" (defScope s__law_e_at) f cdv A outer s H E).env (cxOf (L2.CX P w) P w K mg base ["lines", "place", "found", "number", "line"] "_law_e_at" (defScope s__law_e_at) f cdv A outer s H E).xe := passes_of rfl
  exact (ss_cons (s_set (i := 2) nd rfl (by first | exact Or.inl rfl | exact Or.inr rfl) e_none)
    (ss_cons (s_for po rfl (i_enu hK (by rfl) z_enumerate (a_sl (pv 0) a_nil)) (g_tup rfl hK (gs_cons (g_name (i := 3) nd rfl (by first | exact Or.inl rfl | exact Or.inr rfl)) (gs_cons (g_name (i := 4) nd rfl (by first | exact Or.inl rfl | exact Or.inr rfl)) gs_nil))) (ss_one (s_if (b_chain p_le p_le op_le op_le (o_ex (e_ix hK (o_sl (pv 4)) (o_ex e_int))) (o_sl (pv 1)) (o_ex (e_ix hK (o_sl (pv 4)) (o_ex e_int)))) (ss_one (s_set (i := 2) nd rfl (by first | exact Or.inl rfl | exact Or.inr rfl) (e_var (pv 3)))) ss_nil)))
    (ss_one (s_ret (e_var (pv 2))))))
theorem sc__law_e_due : FnScope ["lines", "cell"] ["lines"] (defScope s__law_e_due) := ⟨rfl, rfl, rfl, by decide +kernel, rfl, by decide +kernel, by decide +kernel⟩
theorem ok__law_e_due {f : Addr} {fd : FuncData} (F : L2.Fun K "_law_e_due" "_law_e_due" s__law_e_due f fd) (gK : g.K = K)   (d__law_e_as_one : Def P w K mg base g 1 "_law_e_as_one" 1 F_law_e_as_one_9db9) (d__law_e_cells : Def P w K mg base g 1 "_law_e_cells" 1 F_law_e_cells_22ca) (d__law_e_at : Def P w K mg base g 1 "_law_e_at" 2 F_law_e_at_2cf3)  : FnG P w K mg base 2 f fd ["lines"] (spG g 1 F_law_e_due_d123) := by
  refine okF F sc__law_e_due rfl rfl gK fun Γ cdv A outer s H E hK hnp hg hr hgd => ?_
  have nd := (sc__law_e_due).nd
  have tk : Takes (cxOf (L2.CX P w) P w K mg base ["lines", "cell"] "_law_e_due" (defScope s__law_e_due) f cdv A outer s H E) (fun cls d _ H' => E cls d H') := takes_of rfl rfl rfl rfl
  have po : PassesOwn (model P w) (cxOf (L2.CX P w) P w K mg base ["lines", "cell"] "_law_e_due" (defScope s__law_e_due) f cdv A outer s H E).A (cxOf (L2.CX P w) P w K mg base ["lines", "cell"] "_law_e_due" (defScope s__law_e_due) f cdv A outer s H E).env (cxOf (L2.CX P w) P w K mg base ["lines", "cell"] "_law_e_due" (defScope s__law_e_due) f cdv A outer s H E).xe := passes_of rfl
  exact (ss_one (s_ret (e_dat (e_callD hg d__law_e_as_one rfl hr (by decide) hgd tk (by rfl) (a_ex (e_list (e_comp (own := [("cell", 1)]) no_if rfl nd (i_seq hK (e_list (e_lst (e_callD hg d__law_e_cells rfl hr (by decide) hgd tk (by rfl) (a_sl (pv 0) a_nil))))) (blkOk_by (N := ["lines", "cell"]) (sc := defScope s__law_e_due) (by decide +kernel)) (by decide) (fun _ _ _ _ _ => (g_name (i := 1) nd rfl (by first | exact Or.inl rfl | exact Or.inr rfl))) (fun _ _ _ _ _ => pts_nil) (fun _ _ _ _ _ => (e_op (p_add hK) op_plus (o_sl (pv 1)) (o_ex (e_tup (a_ex (e_dat (e_callD hg d__law_e_at rfl hr (by decide) hgd DL.takes0 (by rfl) (a_sl (pv 0) (a_ex (e_ix hK (o_sl (pv 1)) (o_ex e_int)) a_nil)))) a_nil))))))) a_nil)))))
theorem sc__law_e_right : FnScope ["book", "lines", "when"] ["book", "lines"] (defScope s__law_e_right) := ⟨rfl, rfl, rfl, by decide +kernel, rfl, by decide +kernel, by decide +kernel⟩
theorem ok__law_e_right {f : Addr} {fd : FuncData} (F : L2.Fun K "_law_e_right" "_law_e_right" s__law_e_right f fd) (gK : g.K = K) (Bk : DL.Bk K g.cb) (z_len : mg "len" = none) (z_range : mg "range" = none) (z_repr : mg "repr" = none) (z_tuple : mg "tuple" = none)  (d_Book_strokes : MDef P w K mg base g 1 "strokes" 1 F_Book_strokes_0c4a) (d_picture : DefK P w K mg base g 5 "picture" 1 [.none] F_picture_c350) (d__law_e_due : Def P w K mg base g 2 "_law_e_due" 1 F_law_e_due_d123) (w_picture : DefW P w K mg base g 5 "picture" 1 ["moment"] F_picture_c350) : FnG P w K mg base 6 f fd ["book", "lines"] (spG g 2 F_law_e_right_52d8) := by
  refine okF F sc__law_e_right rfl rfl gK fun Γ cdv A outer s H E hK hnp hg hr hgd => ?_
  have nd := (sc__law_e_right).nd
  have hB : DL.Bk K Γ.g.cb := by rw [hg]; exact Bk
  have tk : Takes (cxOf (L2.CX P w) P w K mg base ["book", "lines", "when"] "_law_e_right" (defScope s__law_e_right) f cdv A outer s H E) (fun cls d _ H' => E cls d H') := takes_of rfl rfl rfl rfl
  have po : PassesOwn (model P w) (cxOf (L2.CX P w) P w K mg base ["book", "lines", "when"] "_law_e_right" (defScope s__law_e_right) f cdv A outer s H E).A (cxOf (L2.CX P w) P w K mg base ["book", "lines", "when"] "_law_e_right" (defScope s__law_e_right) f cdv A outer s H E).env (cxOf (L2.CX P w) P w K mg base ["book", "lines", "when"] "_law_e_right" (defScope s__law_e_right) f cdv A outer s H E).xe := passes_of rfl
  exact (ss_cons (s_for po rfl (i_range1 (by rfl) z_range (a_ex (e_op (p_add hK) op_plus (o_ex (e_b (p_len hK) call_len (by rfl) z_len PySem.boot_len (a_sl (pv 1) a_nil))) (o_ex e_int)) a_nil)) (g_name (i := 2) nd rfl (by first | exact Or.inl rfl | exact Or.inr rfl)) (ss_one (s_if (b_cmp (p_ne hK) (op_neD (hu64 hr)) (o_ex (e_b (p_repr hK) (call_reprD hgd (hu100 hr)) (by rfl) z_repr PyProof.Rows.boot_repr (a_ex (e_dat (e_callW (os := [.sl 0]) (kos := [.sl 2]) hg w_picture rfl rfl hr (by decide) hgd tk (by rfl) (a_sl (pv 0) a_nil) (pk_cons (o_sl (pv 2)) pk_nil))) a_nil))) (o_ex (e_b (p_repr hK) (call_reprD hgd (hu100 hr)) (by rfl) z_repr PyProof.Rows.boot_repr (a_ex (e_dat (e_callD hg d__law_e_due rfl hr (by decide) hgd tk (by rfl) (a_ex (e_slice hK (o_sl (pv 1)) o_none (o_some (e_var (pv 2)))) a_nil))) a_nil)))) (ss_one (s_ret e_bool)) ss_nil)))
    (ss_cons (s_if (b_cmp (p_ne hK) (op_neD (hu64 hr)) (o_ex (e_list (e_disp (a_ex (e_b (p_repr hK) (call_reprD hgd (hu100 hr)) (by rfl) z_repr PyProof.Rows.boot_repr (a_ex (e_dat (e_callK hg d_picture rfl hr (by decide) hgd tk (by rfl) (a_sl (pv 0) a_nil))) a_nil)) (a_ex (e_b (p_repr hK) (call_reprD hgd (hu100 hr)) (by rfl) z_repr PyProof.Rows.boot_repr (a_ex (e_dat (e_callW (os := [.sl 0]) (kos := [.ex (M.ret .none)]) hg w_picture rfl rfl hr (by decide) hgd tk (by rfl) (a_sl (pv 0) a_nil) (pk_cons (o_ex e_none) pk_nil))) a_nil)) a_nil))))) (o_ex (e_op p_mulL op_rep (o_ex (e_list (e_disp (a_ex (e_b (p_repr hK) (call_reprD hgd (hu100 hr)) (by rfl) z_repr PyProof.Rows.boot_repr (a_ex (e_dat (e_callD hg d__law_e_due rfl hr (by decide) hgd tk (by rfl) (a_sl (pv 1) a_nil))) a_nil)) a_nil)))) (o_ex e_int)))) (ss_one (s_ret e_bool)) ss_nil)
    (ss_one (s_ret (e_cmp (p_eq hK) (op_eqD (hu64 hr)) (o_ex (e_b (p_repr hK) (call_reprD hgd (hu100 hr)) (by rfl) z_repr PyProof.Rows.boot_repr (a_ex (e_dat (e_meth0 hg Bk d_Book_strokes hr (by decide) hgd tk (by decide +kernel) (pv 0))) a_nil))) (o_ex (e_b (p_repr hK) (call_reprD hgd (hu100 hr)) (by rfl) z_repr PyProof.Rows.boot_repr (a_ex (e_ty (p_tuple hK) call_tuple_of (by rfl) z_tuple PyProof.Rows.boot_tuple (a_sl (pv 1) a_nil)) a_nil))))))))
theorem sc_law : FnScope ["script", "pen", "turn", "bends", "lines", "book", "again"] ["script"] (defScope s_law) := ⟨rfl, rfl, rfl, by decide +kernel, rfl, by decide +kernel, by decide +kernel⟩
theorem ok_law {f : Addr} {fd : FuncData} (F : L2.Fun K "law" "law" s_law f fd) (gK : g.K = K) (Bk : DL.Bk K g.cb) (z_range : mg "range" = none) (z_tuple : mg "tuple" = none)  (d__law_e_pen : Def P w K mg base g 1 "_law_e_pen" 1 F_law_e_pen_b545) (d_Book___init__ : KDef P w K mg base g 5 "Book" F_Book___init___0ec0) (d__law_e_bends : Def P w K mg base g 3 "_law_e_bends" 1 F_law_e_bends_8798) (d__law_e_lines : Def P w K mg base g 3 "_law_e_lines" 4 F_law_e_lines_867a) (d__law_e_tones : Def P w K mg base g 3 "_law_e_tones" 1 F_law_e_tones_2b05) (d__law_e_exchanged : Def P w K mg base g 6 "_law_e_exchanged" 4 F_law_e_exchanged_cdac) (d__law_e_right : Def P w K mg base g 6 "_law_e_right" 2 F_law_e_right_52d8)  : FnG P w K mg base 7 f fd ["script"] (spG g 1 F_law_682b) := by
  refine okF F sc_law rfl rfl gK fun Γ cdv A outer s H E hK hnp hg hr hgd => ?_
  have nd := (sc_law).nd
  have hB : DL.Bk K Γ.g.cb := by rw [hg]; exact Bk
  have tk : Takes (cxOf (L2.CX P w) P w K mg base ["script", "pen", "turn", "bends", "lines", "book", "again"] "law" (defScope s_law) f cdv A outer s H E) (fun cls d _ H' => E cls d H') := takes_of rfl rfl rfl rfl
  have po : PassesOwn (model P w) (cxOf (L2.CX P w) P w K mg base ["script", "pen", "turn", "bends", "lines", "book", "again"] "law" (defScope s_law) f cdv A outer s H E).A (cxOf (L2.CX P w) P w K mg base ["script", "pen", "turn", "bends", "lines", "book", "again"] "law" (defScope s_law) f cdv A outer s H E).env (cxOf (L2.CX P w) P w K mg base ["script", "pen", "turn", "bends", "lines", "book", "again"] "law" (defScope s_law) f cdv A outer s H E).xe := passes_of rfl
  exact (ss_cons (s_new (i := 1) (by rw [hnp]; decide) nd rfl (by first | exact Or.inl rfl | exact Or.inr rfl) (e_lst (e_callD hg d__law_e_pen rfl hr (by decide) hgd tk (by rfl) (a_sl (pv 0) a_nil))))
    (ss_cons (s_for po rfl (i_range1 (by rfl) z_range (a_ex e_int a_nil)) (g_name (i := 2) nd rfl (by first | exact Or.inl rfl | exact Or.inr rfl)) (ss_cons (s_set (i := 3) nd rfl (by first | exact Or.inl rfl | exact Or.inr rfl) (e_dat (e_callD hg d__law_e_bends rfl hr (by decide) hgd tk (by rfl) (a_sl (pv 1) a_nil))))
    (ss_cons (s_frz (i := 4) (by rw [hnp]; decide) (s_new (i := 4) (by rw [hnp]; decide) nd rfl (by first | exact Or.inl rfl | exact Or.inr rfl) (e_lst (e_callD hg d__law_e_lines rfl hr (by decide) hgd tk (by rfl) (a_sl (pv 1) (a_sl (pv 3) (a_ex (e_dat (e_callD hg d__law_e_tones rfl hr (by decide) hgd tk (by rfl) (a_sl (pv 1) a_nil))) (a_ex e_int a_nil))))))))
    (ss_cons (s_drop (i := 5) (by rw [hnp]; decide) (s_newB (i := 5) (by rw [hnp]; decide) nd rfl (by first | exact Or.inl rfl | exact Or.inr rfl) (e_make hg d_Book___init__ hr (by decide) hgd tk (by rfl) (o_ex (e_ty (p_tuple hK) call_tuple_of (by rfl) z_tuple PyProof.Rows.boot_tuple (a_sl (pv 4) a_nil))))))
    (ss_one (s_for po rfl (i_range1 (by rfl) z_range (a_ex e_int a_nil)) (g_name (i := 6) nd rfl (by first | exact Or.inl rfl | exact Or.inr rfl)) (ss_cons (s_if (b_not (b_val (e_dat (e_callL hg d__law_e_right rfl hr (by decide) hgd tk (by rfl) (pv 5) (a_sl (pv 4) a_nil))))) (ss_one (s_ret e_bool)) ss_nil)
    (ss_one (s_expr (e_dat (e_callD hg d__law_e_exchanged rfl hr (by decide) hgd tk (by rfl) (a_sl (pv 1) (a_sl (pv 5) (a_sl (pv 4) (a_sl (pv 3) a_nil)))))))))))))))
    (ss_one (s_ret e_bool))))
theorem all_mk {l : PySem.W.OpenLaw} {w : World} {K : PySem.W.Frag} {h : Heap} {mg : Str → Option Value} {g : Gx} {fa : Addr} (gK : g.K = K) (X : K.In h) (G : h.Ns mainGlobals mg) (hfa : mg "law" = some (.ref fa))
    {od0 an0 : Option Addr} {sl0 : Array (Option Value)} {oc0 kV0 dc0 pm0 cd0 ct0 : Value} {f0 : Addr} {od1 an1 : Option Addr} {sl1 : Array (Option Value)} {oc1  dc1 pm1 cd1 ct1 : Value} {f1 : Addr} {od2 an2 : Option Addr} {sl2 : Array (Option Value)} {oc2 kV2 dc2 pm2 cd2 ct2 : Value} {f2 : Addr} {od3 an3 : Option Addr} {sl3 : Array (Option Value)} {oc3 kV3 dc3 pm3 cd3 ct3 : Value} {f3 : Addr} {od4 an4 : Option Addr} {sl4 : Array (Option Value)} {oc4 kV4 dc4 pm4 cd4 ct4 : Value} {f4 : Addr} {od5 an5 : Option Addr} {sl5 : Array (Option Value)} {oc5 kV5 dc5 pm5 cd5 ct5 : Value} {f5 : Addr} {od6 an6 : Option Addr} {sl6 : Array (Option Value)} {oc6 kV6 dc6 pm6 cd6 ct6 : Value} {f6 : Addr} {od7 an7 : Option Addr} {sl7 : Array (Option Value)} {oc7 kV7 dc7 pm7 cd7 ct7 : Value} {f7 : Addr} {od8 an8 : Option Addr} {sl8 : Array (Option Value)} {oc8 kV8 dc8 pm8 cd8 ct8 : Value} {f8 : Addr} {od9 an9 : Option Addr} {sl9 : Array (Option Value)} {oc9 kV9 dc9 pm9 cd9 ct9 : Value} {f9 : Addr} {od10 an10 : Option Addr} {sl10 : Array (Option Value)} {oc10 kV10 dc10 pm10 cd10 ct10 : Value} {f10 : Addr} {od11 an11 : Option Addr} {sl11 : Array (Option Value)} {oc11 kV11 dc11 pm11 cd11 ct11 : Value} {f11 : Addr} {od12 an12 : Option Addr} {sl12 : Array (Option Value)} {oc12 kV12 dc12 pm12 cd12 ct12 : Value} {f12 : Addr} {od13 an13 : Option Addr} {sl13 : Array (Option Value)} {oc13 kV13 dc13 pm13 cd13 ct13 : Value} {f13 : Addr} {od14 an14 : Option Addr} {sl14 : Array (Option Value)} {oc14 kV14 dc14 pm14 cd14 ct14 : Value} {f14 : Addr} {od15 an15 : Option Addr} {sl15 : Array (Option Value)} {oc15 kV15 dc15 pm15 cd15 ct15 : Value} {f15 : Addr} {od16 an16 : Option Addr} {sl16 : Array (Option Value)} {oc16 kV16 dc16 pm16 cd16 ct16 : Value} {f16 : Addr} {od17 an17 : Option Addr} {sl17 : Array (Option Value)} {oc17 kV17 dc17 pm17 cd17 ct17 : Value} {f17 : Addr} {od18 an18 : Option Addr} {sl18 : Array (Option Value)} {oc18 kV18 dc18 pm18 cd18 ct18 : Value} {f18 : Addr} {od19 an19 : Option Addr} {sl19 : Array (Option Value)} {oc19 kV19 dc19 pm19 cd19 ct19 : Value} {f19 : Addr} {od20 an20 : Option Addr} {sl20 : Array (Option Value)} {oc20 kV20 dc20 pm20 cd20 ct20 : Value} {f20 : Addr} {od21 an21 : Option Addr} {sl21 : Array (Option Value)} {oc21 kV21 dc21 pm21 cd21 ct21 : Value} {f21 : Addr} {od22 an22 : Option Addr} {sl22 : Array (Option Value)} {oc22  dc22 pm22 cd22 ct22 : Value} {f22 : Addr} {od23 an23 : Option Addr} {sl23 : Array (Option Value)} {oc23 kV23 dc23 pm23 cd23 ct23 : Value} {f23 : Addr} {od24 an24 : Option Addr} {sl24 : Array (Option Value)} {oc24 kV24 dc24 pm24 cd24 ct24 : Value} {f24 : Addr} {od25 an25 : Option Addr} {sl25 : Array (Option Value)} {oc25 kV25 dc25 pm25 cd25 ct25 : Value} {f25 : Addr} {od26 an26 : Option Addr} {sl26 : Array (Option Value)} {oc26 kV26 dc26 pm26 cd26 ct26 : Value} {f26 : Addr} {od27 an27 : Option Addr} {sl27 : Array (Option Value)} {oc27 kV27 dc27 pm27 cd27 ct27 : Value} {f27 : Addr} {od28 an28 : Option Addr} {sl28 : Array (Option Value)} {oc28 kV28 dc28 pm28 cd28 ct28 : Value} {f28 : Addr}
        {bC : Addr} (gC : g.cb = cbOf K) (aC : PySem.W.nsIn K mainGlobals "Book" = some (some (.ref bC))) (pg : PySem.W.plainGet K bC Str.empty = true) (hd : PySem.W.hasDictIn K bC = true) (po : PySem.W.plainOver K bC = true) (sa : PySem.W.findIn K (.ref bC) "__setattr__" = some (some (.builtin "object.__setattr__"))) (mk : PySem.W.makesIn K bC = true) (kc : PySem.W.keepIn K (.ref bC) = true) (nR : PySem.W.findIn K (.ref bC) "row" = some none)
    (a0 : PySem.W.nsIn K mainGlobals "_law_e_pen" = some (some (.ref f0))) (l0 : K.lookup f0 = some ⟨oc0, od0, .func (PySem.W.fnOf "_law_e_pen" "_law_e_pen" (defArgs s__law_e_pen) (defBody s__law_e_pen) (defScope s__law_e_pen) .none kV0 dc0 pm0 an0 cd0 ct0), sl0⟩) (c0 : PySem.W.codeIn K cd0 "_law_e_pen" = true) (k0 : PySem.W.keepIn K (.ref f0) = true)
    {D1 : Addr} (a1 : PySem.W.nsIn K mainGlobals "is_whole" = some (some (.ref f1))) (l1 : K.lookup f1 = some ⟨oc1, od1, .func (PySem.W.fnOf "is_whole" "is_whole" (defArgs s_is_whole) (defBody s_is_whole) (defScope s_is_whole) .none (.ref D1) dc1 pm1 an1 cd1 ct1), sl1⟩) (c1 : PySem.W.codeIn K cd1 "is_whole" = true) (k1 : PySem.W.keepIn K (.ref f1) = true)
    {tk1_0 : Tok} (w1_0 : PySem.W.nsIn K D1 "least" = some (some (.int 0 tk1_0)))
    (a2 : PySem.W.nsIn K mainGlobals "is_place" = some (some (.ref f2))) (l2 : K.lookup f2 = some ⟨oc2, od2, .func (PySem.W.fnOf "is_place" "is_place" (defArgs s_is_place) (defBody s_is_place) (defScope s_is_place) .none kV2 dc2 pm2 an2 cd2 ct2), sl2⟩) (c2 : PySem.W.codeIn K cd2 "is_place" = true) (k2 : PySem.W.keepIn K (.ref f2) = true)
    (a3 : PySem.W.nsIn K mainGlobals "is_stretch" = some (some (.ref f3))) (l3 : K.lookup f3 = some ⟨oc3, od3, .func (PySem.W.fnOf "is_stretch" "is_stretch" (defArgs s_is_stretch) (defBody s_is_stretch) (defScope s_is_stretch) .none kV3 dc3 pm3 an3 cd3 ct3), sl3⟩) (c3 : PySem.W.codeIn K cd3 "is_stretch" = true) (k3 : PySem.W.keepIn K (.ref f3) = true)
    (a4 : PySem.W.nsIn K mainGlobals "is_name" = some (some (.ref f4))) (l4 : K.lookup f4 = some ⟨oc4, od4, .func (PySem.W.fnOf "is_name" "is_name" (defArgs s_is_name) (defBody s_is_name) (defScope s_is_name) .none kV4 dc4 pm4 an4 cd4 ct4), sl4⟩) (c4 : PySem.W.codeIn K cd4 "is_name" = true) (k4 : PySem.W.keepIn K (.ref f4) = true)
    (a5 : PySem.W.nsIn K mainGlobals "is_colour" = some (some (.ref f5))) (l5 : K.lookup f5 = some ⟨oc5, od5, .func (PySem.W.fnOf "is_colour" "is_colour" (defArgs s_is_colour) (defBody s_is_colour) (defScope s_is_colour) .none kV5 dc5 pm5 an5 cd5 ct5), sl5⟩) (c5 : PySem.W.codeIn K cd5 "is_colour" = true) (k5 : PySem.W.keepIn K (.ref f5) = true)
    (a6 : PySem.W.nsIn K mainGlobals "is_stroke" = some (some (.ref f6))) (l6 : K.lookup f6 = some ⟨oc6, od6, .func (PySem.W.fnOf "is_stroke" "is_stroke" (defArgs s_is_stroke) (defBody s_is_stroke) (defScope s_is_stroke) .none kV6 dc6 pm6 an6 cd6 ct6), sl6⟩) (c6 : PySem.W.codeIn K cd6 "is_stroke" = true) (k6 : PySem.W.keepIn K (.ref f6) = true)
    (a7 : PySem.W.findIn K (.ref bC) "__init__" = some (some (.ref f7))) (i7 : PySem.W.isFn K (.ref f7) = true) {T0 E0 : Addr} {cT : Value} {dT : Option Addr} {nT : Nat} {sT : Array (Option Value)} (l7 : K.lookup f7 = some ⟨oc7, od7, .func (PySem.W.fnOf "__init__" "Book.__init__" (defArgs s_Book___init__) (defBody s_Book___init__) (defScope s_Book___init__) (.ref T0) kV7 dc7 pm7 an7 cd7 ct7), sl7⟩) (c7 : PySem.W.codeIn K cd7 "Book.__init__" = true) (k7 : PySem.W.keepIn K (.ref f7) = true) (lT : K.lookup T0 = some ⟨cT, dT, .seq #[.ref E0] nT, sT⟩)
    (a8 : PySem.W.nsIn K mainGlobals "_law_e_fresh" = some (some (.ref f8))) (l8 : K.lookup f8 = some ⟨oc8, od8, .func (PySem.W.fnOf "_law_e_fresh" "_law_e_fresh" (defArgs s__law_e_fresh) (defBody s__law_e_fresh) (defScope s__law_e_fresh) .none kV8 dc8 pm8 an8 cd8 ct8), sl8⟩) (c8 : PySem.W.codeIn K cd8 "_law_e_fresh" = true) (k8 : PySem.W.keepIn K (.ref f8) = true)
    (a9 : PySem.W.nsIn K mainGlobals "_law_e_take" = some (some (.ref f9))) (l9 : K.lookup f9 = some ⟨oc9, od9, .func (PySem.W.fnOf "_law_e_take" "_law_e_take" (defArgs s__law_e_take) (defBody s__law_e_take) (defScope s__law_e_take) .none kV9 dc9 pm9 an9 cd9 ct9), sl9⟩) (c9 : PySem.W.codeIn K cd9 "_law_e_take" = true) (k9 : PySem.W.keepIn K (.ref f9) = true)
    (a10 : PySem.W.nsIn K mainGlobals "_law_e_bends" = some (some (.ref f10))) (l10 : K.lookup f10 = some ⟨oc10, od10, .func (PySem.W.fnOf "_law_e_bends" "_law_e_bends" (defArgs s__law_e_bends) (defBody s__law_e_bends) (defScope s__law_e_bends) .none kV10 dc10 pm10 an10 cd10 ct10), sl10⟩) (c10 : PySem.W.codeIn K cd10 "_law_e_bends" = true) (k10 : PySem.W.keepIn K (.ref f10) = true)
    (a11 : PySem.W.nsIn K mainGlobals "_law_e_lines" = some (some (.ref f11))) (l11 : K.lookup f11 = some ⟨oc11, od11, .func (PySem.W.fnOf "_law_e_lines" "_law_e_lines" (defArgs s__law_e_lines) (defBody s__law_e_lines) (defScope s__law_e_lines) .none kV11 dc11 pm11 an11 cd11 ct11), sl11⟩) (c11 : PySem.W.codeIn K cd11 "_law_e_lines" = true) (k11 : PySem.W.keepIn K (.ref f11) = true)
    (a12 : PySem.W.nsIn K mainGlobals "_law_e_tones" = some (some (.ref f12))) (l12 : K.lookup f12 = some ⟨oc12, od12, .func (PySem.W.fnOf "_law_e_tones" "_law_e_tones" (defArgs s__law_e_tones) (defBody s__law_e_tones) (defScope s__law_e_tones) .none kV12 dc12 pm12 an12 cd12 ct12), sl12⟩) (c12 : PySem.W.codeIn K cd12 "_law_e_tones" = true) (k12 : PySem.W.keepIn K (.ref f12) = true)
    (a13 : PySem.W.findIn K (.ref bC) "take" = some (some (.ref f13))) (i13 : PySem.W.isFn K (.ref f13) = true) (l13 : K.lookup f13 = some ⟨oc13, od13, .func (PySem.W.fnOf "take" "Book.take" (defArgs s_Book_take) (defBody s_Book_take) (defScope s_Book_take) .none kV13 dc13 pm13 an13 cd13 ct13), sl13⟩) (c13 : PySem.W.codeIn K cd13 "Book.take" = true) (k13 : PySem.W.keepIn K (.ref f13) = true)
    (a14 : PySem.W.findIn K (.ref bC) "put" = some (some (.ref f14))) (i14 : PySem.W.isFn K (.ref f14) = true) (l14 : K.lookup f14 = some ⟨oc14, od14, .func (PySem.W.fnOf "put" "Book.put" (defArgs s_Book_put) (defBody s_Book_put) (defScope s_Book_put) .none kV14 dc14 pm14 an14 cd14 ct14), sl14⟩) (c14 : PySem.W.codeIn K cd14 "Book.put" = true) (k14 : PySem.W.keepIn K (.ref f14) = true)
    (a15 : PySem.W.nsIn K mainGlobals "_law_e_exchanged" = some (some (.ref f15))) (l15 : K.lookup f15 = some ⟨oc15, od15, .func (PySem.W.fnOf "_law_e_exchanged" "_law_e_exchanged" (defArgs s__law_e_exchanged) (defBody s__law_e_exchanged) (defScope s__law_e_exchanged) .none kV15 dc15 pm15 an15 cd15 ct15), sl15⟩) (c15 : PySem.W.codeIn K cd15 "_law_e_exchanged" = true) (k15 : PySem.W.keepIn K (.ref f15) = true)
    (a16 : PySem.W.findIn K (.ref bC) "strokes" = some (some (.ref f16))) (i16 : PySem.W.isFn K (.ref f16) = true) (l16 : K.lookup f16 = some ⟨oc16, od16, .func (PySem.W.fnOf "strokes" "Book.strokes" (defArgs s_Book_strokes) (defBody s_Book_strokes) (defScope s_Book_strokes) .none kV16 dc16 pm16 an16 cd16 ct16), sl16⟩) (c16 : PySem.W.codeIn K cd16 "Book.strokes" = true) (k16 : PySem.W.keepIn K (.ref f16) = true)
    (a17 : PySem.W.nsIn K mainGlobals "laid_over" = some (some (.ref f17))) (l17 : K.lookup f17 = some ⟨oc17, od17, .func (PySem.W.fnOf "laid_over" "laid_over" (defArgs s_laid_over) (defBody s_laid_over) (defScope s_laid_over) .none kV17 dc17 pm17 an17 cd17 ct17), sl17⟩) (c17 : PySem.W.codeIn K cd17 "laid_over" = true) (k17 : PySem.W.keepIn K (.ref f17) = true)
    (a18 : PySem.W.nsIn K mainGlobals "painted" = some (some (.ref f18))) (l18 : K.lookup f18 = some ⟨oc18, od18, .func (PySem.W.fnOf "painted" "painted" (defArgs s_painted) (defBody s_painted) (defScope s_painted) .none kV18 dc18 pm18 an18 cd18 ct18), sl18⟩) (c18 : PySem.W.codeIn K cd18 "painted" = true) (k18 : PySem.W.keepIn K (.ref f18) = true)
    (a19 : PySem.W.findIn K (.ref bC) "__len__" = some (some (.ref f19))) (i19 : PySem.W.isFn K (.ref f19) = true) (l19 : K.lookup f19 = some ⟨oc19, od19, .func (PySem.W.fnOf "__len__" "Book.__len__" (defArgs s_Book___len__) (defBody s_Book___len__) (defScope s_Book___len__) .none kV19 dc19 pm19 an19 cd19 ct19), sl19⟩) (c19 : PySem.W.codeIn K cd19 "Book.__len__" = true) (k19 : PySem.W.keepIn K (.ref f19) = true)
    (a20 : PySem.W.nsIn K mainGlobals "is_moment" = some (some (.ref f20))) (l20 : K.lookup f20 = some ⟨oc20, od20, .func (PySem.W.fnOf "is_moment" "is_moment" (defArgs s_is_moment) (defBody s_is_moment) (defScope s_is_moment) .none kV20 dc20 pm20 an20 cd20 ct20), sl20⟩) (c20 : PySem.W.codeIn K cd20 "is_moment" = true) (k20 : PySem.W.keepIn K (.ref f20) = true)
    (a21 : PySem.W.nsIn K mainGlobals "done_by" = some (some (.ref f21))) (l21 : K.lookup f21 = some ⟨oc21, od21, .func (PySem.W.fnOf "done_by" "done_by" (defArgs s_done_by) (defBody s_done_by) (defScope s_done_by) .none kV21 dc21 pm21 an21 cd21 ct21), sl21⟩) (c21 : PySem.W.codeIn K cd21 "done_by" = true) (k21 : PySem.W.keepIn K (.ref f21) = true)
    {D22 : Addr} (a22 : PySem.W.nsIn K mainGlobals "picture" = some (some (.ref f22))) (l22 : K.lookup f22 = some ⟨oc22, od22, .func (PySem.W.fnOf "picture" "picture" (defArgs s_picture) (defBody s_picture) (defScope s_picture) .none (.ref D22) dc22 pm22 an22 cd22 ct22), sl22⟩) (c22 : PySem.W.codeIn K cd22 "picture" = true) (k22 : PySem.W.keepIn K (.ref f22) = true)
    (w22_0 : PySem.W.nsIn K D22 "moment" = some (some (.none)))
    (a23 : PySem.W.nsIn K mainGlobals "_law_e_as_one" = some (some (.ref f23))) (l23 : K.lookup f23 = some ⟨oc23, od23, .func (PySem.W.fnOf "_law_e_as_one" "_law_e_as_one" (defArgs s__law_e_as_one) (defBody s__law_e_as_one) (defScope s__law_e_as_one) .none kV23 dc23 pm23 an23 cd23 ct23), sl23⟩) (c23 : PySem.W.codeIn K cd23 "_law_e_as_one" = true) (k23 : PySem.W.keepIn K (.ref f23) = true)
    (a24 : PySem.W.nsIn K mainGlobals "_law_e_cells" = some (some (.ref f24))) (l24 : K.lookup f24 = some ⟨oc24, od24, .func (PySem.W.fnOf "_law_e_cells" "_law_e_cells" (defArgs s__law_e_cells) (defBody s__law_e_cells) (defScope s__law_e_cells) .none kV24 dc24 pm24 an24 cd24 ct24), sl24⟩) (c24 : PySem.W.codeIn K cd24 "_law_e_cells" = true) (k24 : PySem.W.keepIn K (.ref f24) = true)
    (a25 : PySem.W.nsIn K mainGlobals "_law_e_at" = some (some (.ref f25))) (l25 : K.lookup f25 = some ⟨oc25, od25, .func (PySem.W.fnOf "_law_e_at" "_law_e_at" (defArgs s__law_e_at) (defBody s__law_e_at) (defScope s__law_e_at) .none kV25 dc25 pm25 an25 cd25 ct25), sl25⟩) (c25 : PySem.W.codeIn K cd25 "_law_e_at" = true) (k25 : PySem.W.keepIn K (.ref f25) = true)
    (a26 : PySem.W.nsIn K mainGlobals "_law_e_due" = some (some (.ref f26))) (l26 : K.lookup f26 = some ⟨oc26, od26, .func (PySem.W.fnOf "_law_e_due" "_law_e_due" (defArgs s__law_e_due) (defBody s__law_e_due) (defScope s__law_e_due) .none kV26 dc26 pm26 an26 cd26 ct26), sl26⟩) (c26 : PySem.W.codeIn K cd26 "_law_e_due" = true) (k26 : PySem.W.keepIn K (.ref f26) = true)
    (a27 : PySem.W.nsIn K mainGlobals "_law_e_right" = some (some (.ref f27))) (l27 : K.lookup f27 = some ⟨oc27, od27, .func (PySem.W.fnOf "_law_e_right" "_law_e_right" (defArgs s__law_e_right) (defBody s__law_e_right) (defScope s__law_e_right) .none kV27 dc27 pm27 an27 cd27 ct27), sl27⟩) (c27 : PySem.W.codeIn K cd27 "_law_e_right" = true) (k27 : PySem.W.keepIn K (.ref f27) = true)
    (a28 : PySem.W.nsIn K mainGlobals "law" = some (some (.ref f28))) (l28 : K.lookup f28 = some ⟨oc28, od28, .func (PySem.W.fnOf "law" "law" (defArgs s_law) (defBody s_law) (defScope s_law) .none kV28 dc28 pm28 an28 cd28 ct28), sl28⟩) (c28 : PySem.W.codeIn K cd28 "law" = true) (k28 : PySem.W.keepIn K (.ref f28) = true)
    (z_list : PySem.W.nsIn K mainGlobals "list" = some none)
    (z_bool : PySem.W.nsIn K mainGlobals "bool" = some none)
    (z_int : PySem.W.nsIn K mainGlobals "int" = some none)
    (z_isinstance : PySem.W.nsIn K mainGlobals "isinstance" = some none)
    (z_len : PySem.W.nsIn K mainGlobals "len" = some none)
    (z_tuple : PySem.W.nsIn K mainGlobals "tuple" = some none)
    (z_all : PySem.W.nsIn K mainGlobals "all" = some none)
    (z_str : PySem.W.nsIn K mainGlobals "str" = some none)
    (z_range : PySem.W.nsIn K mainGlobals "range" = some none)
    (z_set : PySem.W.nsIn K mainGlobals "set" = some none)
    (z_sorted : PySem.W.nsIn K mainGlobals "sorted" = some none)
    (z_max : PySem.W.nsIn K mainGlobals "max" = some none)
    (z_min : PySem.W.nsIn K mainGlobals "min" = some none)
    (z_enumerate : PySem.W.nsIn K mainGlobals "enumerate" = some none)
    (z_repr : PySem.W.nsIn K mainGlobals "repr" = some none)
    {t_LAST : Tok} (y_LAST : PySem.W.nsIn K mainGlobals "LAST" = some (some (.int 1000000000 t_LAST)))
    {t_ALPHABET : Tok} (y_ALPHABET : PySem.W.nsIn K mainGlobals "ALPHABET" = some (some (.str "abcdefghijklmnopqrstuvwxyz" t_ALPHABET)))
    {t_MOST_LETTERS : Tok} (y_MOST_LETTERS : PySem.W.nsIn K mainGlobals "MOST_LETTERS" = some (some (.int 8 t_MOST_LETTERS))) :
    ∃ fd : FuncData, (∀ (s : Shared) (v : Value), BindsTo s fd ⟨[v], []⟩ [("script", v)]) ∧ ∀ base : Heap, K.In base → base.Ns mainGlobals mg → FnG l.prog w K mg base 7 fa fd ["script"] (spG g 1 F_law_682b) := by
  have e := hfa.symm.trans (PySem.W.mg_of X G a28)
  cases e
  have F0 := fun_mk (st := s__law_e_pen) l0 c0 k0
  have b0 := F0.binds (ps := ["script"]) fun _ _ _ _ _ _ us hl => match us, hl with | [_], _ => rfl
  have F1 : FunD K "is_whole" "is_whole" (defArgs s_is_whole) (defBody s_is_whole) (defScope s_is_whole) [] [("least", .int 0)] f1 _ := ⟨⟨_, _, .none, .ref D1, _, _, _, _, _, _, rfl, l1, c1, .inl ⟨rfl, rfl⟩, .inr ⟨D1, rfl, fun q hq => by
    rcases List.mem_cons.mp hq with e | hq
    · rw [e]; exact ⟨_, w1_0, ⟨_, rfl⟩⟩
    cases hq⟩⟩, k1⟩
  have b1 := F1.binds0 (ps := ["thing", "least"]) 1 (fun h => nomatch h) rfl fun D doc pm an cdv ct us ks hl hk => match us, hl, ks, hk with | [_], _, [_], _ => ⟨_, _, _, _, _, _, rfl, rfl, rfl⟩
  have F2 := fun_mk (st := s_is_place) l2 c2 k2
  have b2 := F2.binds (ps := ["thing"]) fun _ _ _ _ _ _ us hl => match us, hl with | [_], _ => rfl
  have F3 := fun_mk (st := s_is_stretch) l3 c3 k3
  have b3 := F3.binds (ps := ["thing"]) fun _ _ _ _ _ _ us hl => match us, hl with | [_], _ => rfl
  have F4 := fun_mk (st := s_is_name) l4 c4 k4
  have b4 := F4.binds (ps := ["thing"]) fun _ _ _ _ _ _ us hl => match us, hl with | [_], _ => rfl
  have F5 := fun_mk (st := s_is_colour) l5 c5 k5
  have b5 := F5.binds (ps := ["thing"]) fun _ _ _ _ _ _ us hl => match us, hl with | [_], _ => rfl
  have F6 := fun_mk (st := s_is_stroke) l6 c6 k6
  have b6 := F6.binds (ps := ["thing"]) fun _ _ _ _ _ _ us hl => match us, hl with | [_], _ => rfl
  have F7 : FunD K "__init__" "Book.__init__" (defArgs s_Book___init__) (defBody s_Book___init__) (defScope s_Book___init__) [.ref E0] [] f7 _ := ⟨⟨_, _, .ref T0, _, _, _, _, _, _, _, rfl, l7, c7, .inr ⟨fun z => (nomatch z), T0, _, [.ref E0], nT, rfl, lT, rfl, .cons rfl .nil⟩, .inl rfl⟩, k7⟩
  have b7 := F7.binds1 (ps := ["self", "strokes"]) 2 1 (fun h => nomatch h) rfl fun T kV doc pm an cdv ct us its hl hi => match us, hl, its, hi with | [_, _], _, [_], _ => ⟨_, rfl, rfl⟩
  have F8 := fun_mk (st := s__law_e_fresh) l8 c8 k8
  have b8 := F8.binds (ps := ["pen"]) fun _ _ _ _ _ _ us hl => match us, hl with | [_], _ => rfl
  have F9 := fun_mk (st := s__law_e_take) l9 c9 k9
  have b9 := F9.binds (ps := ["pen", "many"]) fun _ _ _ _ _ _ us hl => match us, hl with | [_, _], _ => rfl
  have F10 := fun_mk (st := s__law_e_bends) l10 c10 k10
  have b10 := F10.binds (ps := ["pen"]) fun _ _ _ _ _ _ us hl => match us, hl with | [_], _ => rfl
  have F11 := fun_mk (st := s__law_e_lines) l11 c11 k11
  have b11 := F11.binds (ps := ["pen", "bends", "tones", "most"]) fun _ _ _ _ _ _ us hl => match us, hl with | [_, _, _, _], _ => rfl
  have F12 := fun_mk (st := s__law_e_tones) l12 c12 k12
  have b12 := F12.binds (ps := ["pen"]) fun _ _ _ _ _ _ us hl => match us, hl with | [_], _ => rfl
  have F13 := fun_mk (st := s_Book_take) l13 c13 k13
  have b13 := F13.binds (ps := ["self", "number"]) fun _ _ _ _ _ _ us hl => match us, hl with | [_, _], _ => rfl
  have F14 := fun_mk (st := s_Book_put) l14 c14 k14
  have b14 := F14.binds (ps := ["self", "slot", "stroke"]) fun _ _ _ _ _ _ us hl => match us, hl with | [_, _, _], _ => rfl
  have F15 := fun_mk (st := s__law_e_exchanged) l15 c15 k15
  have b15 := F15.binds (ps := ["pen", "book", "lines", "bends"]) fun _ _ _ _ _ _ us hl => match us, hl with | [_, _, _, _], _ => rfl
  have F16 := fun_mk (st := s_Book_strokes) l16 c16 k16
  have b16 := F16.binds (ps := ["self"]) fun _ _ _ _ _ _ us hl => match us, hl with | [_], _ => rfl
  have F17 := fun_mk (st := s_laid_over) l17 c17 k17
  have b17 := F17.binds (ps := ["parts", "low", "high", "giver"]) fun _ _ _ _ _ _ us hl => match us, hl with | [_, _, _, _], _ => rfl
  have F18 := fun_mk (st := s_painted) l18 c18 k18
  have b18 := F18.binds (ps := ["some"]) fun _ _ _ _ _ _ us hl => match us, hl with | [_], _ => rfl
  have F19 := fun_mk (st := s_Book___len__) l19 c19 k19
  have b19 := F19.binds (ps := ["self"]) fun _ _ _ _ _ _ us hl => match us, hl with | [_], _ => rfl
  have F20 := fun_mk (st := s_is_moment) l20 c20 k20
  have b20 := F20.binds (ps := ["book", "thing"]) fun _ _ _ _ _ _ us hl => match us, hl with | [_, _], _ => rfl
  have F21 := fun_mk (st := s_done_by) l21 c21 k21
  have b21 := F21.binds (ps := ["book", "moment"]) fun _ _ _ _ _ _ us hl => match us, hl with | [_, _], _ => rfl
  have F22 : FunD K "picture" "picture" (defArgs s_picture) (defBody s_picture) (defScope s_picture) [] [("moment", .non)] f22 _ := ⟨⟨_, _, .none, .ref D22, _, _, _, _, _, _, rfl, l22, c22, .inl ⟨rfl, rfl⟩, .inr ⟨D22, rfl, fun q hq => by
    rcases List.mem_cons.mp hq with e | hq
    · rw [e]; exact ⟨_, w22_0, rfl⟩
    cases hq⟩⟩, k22⟩
  have b22 := F22.binds0 (ps := ["book", "moment"]) 1 (fun h => nomatch h) rfl fun D doc pm an cdv ct us ks hl hk => match us, hl, ks, hk with | [_], _, [_], _ => ⟨_, _, _, _, _, _, rfl, rfl, rfl⟩
  have F23 := fun_mk (st := s__law_e_as_one) l23 c23 k23
  have b23 := F23.binds (ps := ["cells"]) fun _ _ _ _ _ _ us hl => match us, hl with | [_], _ => rfl
  have F24 := fun_mk (st := s__law_e_cells) l24 c24 k24
  have b24 := F24.binds (ps := ["some"]) fun _ _ _ _ _ _ us hl => match us, hl with | [_], _ => rfl
  have F25 := fun_mk (st := s__law_e_at) l25 c25 k25
  have b25 := F25.binds (ps := ["lines", "place"]) fun _ _ _ _ _ _ us hl => match us, hl with | [_, _], _ => rfl
  have F26 := fun_mk (st := s__law_e_due) l26 c26 k26
  have b26 := F26.binds (ps := ["lines"]) fun _ _ _ _ _ _ us hl => match us, hl with | [_], _ => rfl
  have F27 := fun_mk (st := s__law_e_right) l27 c27 k27
  have b27 := F27.binds (ps := ["book", "lines"]) fun _ _ _ _ _ _ us hl => match us, hl with | [_, _], _ => rfl
  have F28 := fun_mk (st := s_law) l28 c28 k28
  have eC : g.cb = bC := by
    rw [gC]
    unfold cbOf
    rw [aC]
  have Bk : DL.Bk K g.cb := by
    rw [eC]
    exact ⟨⟨pg, hd, po, sa⟩, nR⟩
  have d__law_e_pen : ∀ base, Def l.prog w K mg base g 1 "_law_e_pen" 1 F_law_e_pen_b545 := fun base => dDef F0 (ok__law_e_pen F0 gK (PySem.W.mg_none_of X G z_list)   ) (PySem.W.mg_of X G a0) b0
  have d_is_whole : ∀ base, DefK l.prog w K mg base g 1 "is_whole" 1 [.int 0] F_is_whole_8291 := fun base => by
    obtain ⟨ds, hv, hb⟩ := b1
    exact ⟨f1, _, _, ds, _, ok_is_whole F1 gK (PySem.W.mg_none_of X G z_bool) (PySem.W.mg_none_of X G z_int) (PySem.W.mg_none_of X G z_isinstance)   , PySem.W.mg_of X G a1, k1, hb, hv, fun _ => (.cons (.int _) .nil)⟩
  have d_is_place : ∀ base, Def l.prog w K mg base g 2 "is_place" 1 F_is_place_f9e3 := fun base => dDef F2 (ok_is_place F2 gK  (PySem.W.mg_of X G y_LAST) (d_is_whole base) ) (PySem.W.mg_of X G a2) b2
  have d_is_stretch : ∀ base, Def l.prog w K mg base g 3 "is_stretch" 1 F_is_stretch_a332 := fun base => dDef F3 (ok_is_stretch F3 gK (PySem.W.mg_none_of X G z_isinstance) (PySem.W.mg_none_of X G z_len) (PySem.W.mg_none_of X G z_tuple)  (d_is_place base) ) (PySem.W.mg_of X G a3) b3
  have d_is_name : ∀ base, Def l.prog w K mg base g 1 "is_name" 1 F_is_name_1400 := fun base => dDef F4 (ok_is_name F4 gK (PySem.W.mg_none_of X G z_all) (PySem.W.mg_none_of X G z_isinstance) (PySem.W.mg_none_of X G z_len) (PySem.W.mg_none_of X G z_str) (PySem.W.mg_of X G y_ALPHABET) (PySem.W.mg_of X G y_MOST_LETTERS)  ) (PySem.W.mg_of X G a4) b4
  have d_is_colour : ∀ base, Def l.prog w K mg base g 2 "is_colour" 1 F_is_colour_4bfc := fun base => dDef F5 (ok_is_colour F5 gK   (d_is_name base) ) (PySem.W.mg_of X G a5) b5
  have d_is_stroke : ∀ base, Def l.prog w K mg base g 4 "is_stroke" 1 F_is_stroke_3746 := fun base => dDef F6 (ok_is_stroke F6 gK (PySem.W.mg_none_of X G z_isinstance) (PySem.W.mg_none_of X G z_len) (PySem.W.mg_none_of X G z_tuple)  (d_is_stretch base) (d_is_colour base) ) (PySem.W.mg_of X G a6) b6
  have d_Book___init__ : ∀ base, KDef l.prog w K mg base g 5 "Book" F_Book___init___0ec0 := fun base => by
    obtain ⟨ds, hv, hb⟩ := b7
    cases hv
    exact ⟨f7, _, _, ok_Book___init__ F7 gK Bk (PySem.W.mg_none_of X G z_all) (PySem.W.mg_none_of X G z_isinstance) (PySem.W.mg_none_of X G z_list) (PySem.W.mg_none_of X G z_tuple)  (d_is_stroke base), by rw [eC]; exact ⟨mk, a7, i7, kc⟩, hb, by rw [eC]; exact PySem.W.mg_of X G aC⟩
  have d__law_e_fresh : ∀ base, Def l.prog w K mg base g 1 "_law_e_fresh" 1 F_law_e_fresh_f570 := fun base => dDef F8 (ok__law_e_fresh F8 gK (PySem.W.mg_none_of X G z_len)   ) (PySem.W.mg_of X G a8) b8
  have d__law_e_take : ∀ base, Def l.prog w K mg base g 2 "_law_e_take" 2 F_law_e_take_2efe := fun base => dDef F9 (ok__law_e_take F9 gK   (d__law_e_fresh base) ) (PySem.W.mg_of X G a9) b9
  have d__law_e_bends : ∀ base, Def l.prog w K mg base g 3 "_law_e_bends" 1 F_law_e_bends_8798 := fun base => dDef F10 (ok__law_e_bends F10 gK (PySem.W.mg_none_of X G z_range) (PySem.W.mg_none_of X G z_set) (PySem.W.mg_none_of X G z_sorted)  (d__law_e_take base) ) (PySem.W.mg_of X G a10) b10
  have d__law_e_lines : ∀ base, Def l.prog w K mg base g 3 "_law_e_lines" 4 F_law_e_lines_867a := fun base => dDef F11 (ok__law_e_lines F11 gK (PySem.W.mg_none_of X G z_len) (PySem.W.mg_none_of X G z_max) (PySem.W.mg_none_of X G z_min) (PySem.W.mg_none_of X G z_range)  (d__law_e_take base) ) (PySem.W.mg_of X G a11) b11
  have d__law_e_tones : ∀ base, Def l.prog w K mg base g 3 "_law_e_tones" 1 F_law_e_tones_2b05 := fun base => dDef F12 (ok__law_e_tones F12 gK (PySem.W.mg_none_of X G z_len) (PySem.W.mg_none_of X G z_range) (PySem.W.mg_none_of X G z_set)  (d__law_e_take base) ) (PySem.W.mg_of X G a12) b12
  have d_Book_take : ∀ base, MDef l.prog w K mg base g 2 "take" 2 F_Book_take_d1bd := fun base => ⟨f13, _, _, ok_Book_take F13 gK Bk (PySem.W.mg_none_of X G z_len)  (d_is_whole base), by rw [eC]; exact ⟨a13, i13, k13⟩, b13⟩
  have d_Book_put : ∀ base, MDef l.prog w K mg base g 5 "put" 3 F_Book_put_4d53 := fun base => ⟨f14, _, _, ok_Book_put F14 gK Bk (PySem.W.mg_none_of X G z_len)  (d_is_whole base) (d_is_stroke base), by rw [eC]; exact ⟨a14, i14, k14⟩, b14⟩
  have d__law_e_exchanged : ∀ base, Def l.prog w K mg base g 6 "_law_e_exchanged" 4 F_law_e_exchanged_cdac := fun base => dDef F15 (ok__law_e_exchanged F15 gK Bk (PySem.W.mg_none_of X G z_len)  (d__law_e_take base) (d_Book_take base) (d_Book_put base) ) (PySem.W.mg_of X G a15) b15
  have d_Book_strokes : ∀ base, MDef l.prog w K mg base g 1 "strokes" 1 F_Book_strokes_0c4a := fun base => ⟨f16, _, _, ok_Book_strokes F16 gK Bk (PySem.W.mg_none_of X G z_tuple)  , by rw [eC]; exact ⟨a16, i16, k16⟩, b16⟩
  have d_laid_over : ∀ base, Def l.prog w K mg base g 1 "laid_over" 4 F_laid_over_1d5d := fun base => dDef F17 (ok_laid_over F17 gK (PySem.W.mg_none_of X G z_max) (PySem.W.mg_none_of X G z_min)   ) (PySem.W.mg_of X G a17) b17
  have d_painted : ∀ base, Def l.prog w K mg base g 2 "painted" 1 F_painted_9069 := fun base => dDef F18 (ok_painted F18 gK (PySem.W.mg_none_of X G z_enumerate) (PySem.W.mg_of X G y_LAST) (d_laid_over base) ) (PySem.W.mg_of X G a18) b18
  have d_Book___len__ : ∀ base, MDef l.prog w K mg base g 1 "__len__" 1 F_Book___len___5744 := fun base => ⟨f19, _, _, ok_Book___len__ F19 gK Bk (PySem.W.mg_none_of X G z_len)  , by rw [eC]; exact ⟨a19, i19, k19⟩, b19⟩
  have d_is_moment : ∀ base, Def l.prog w K mg base g 3 "is_moment" 2 F_is_moment_1ac7 := fun base => dDef F20 (ok_is_moment F20 gK Bk (PySem.W.mg_none_of X G z_len)  (d_is_place base) (d_Book___len__ base) ) (PySem.W.mg_of X G a20) b20
  have d_done_by : ∀ base, Def l.prog w K mg base g 4 "done_by" 2 F_done_by_bd12 := fun base => dDef F21 (ok_done_by F21 gK Bk   (d_Book_strokes base) (d_is_moment base) ) (PySem.W.mg_of X G a21) b21
  have w_picture : ∀ base, DefW l.prog w K mg base g 5 "picture" 1 ["moment"] F_picture_c350 := fun base => ⟨f22, _, _, ok_picture F22 gK (PySem.W.mg_none_of X G z_tuple)  (d_painted base) (d_done_by base) , PySem.W.mg_of X G a22, k22, fun s us ws h1 h2 => match us, h1, ws, h2 with | [_], _, [_], _ => .of_eq rfl⟩
  have d_picture : ∀ base, DefK l.prog w K mg base g 5 "picture" 1 [.none] F_picture_c350 := fun base => by
    obtain ⟨ds, hv, hb⟩ := b22
    exact ⟨f22, _, _, ds, _, ok_picture F22 gK (PySem.W.mg_none_of X G z_tuple)  (d_painted base) (d_done_by base) , PySem.W.mg_of X G a22, k22, hb, hv, fun _ => (.cons (.non) .nil)⟩
  have d__law_e_as_one : ∀ base, Def l.prog w K mg base g 1 "_law_e_as_one" 1 F_law_e_as_one_9db9 := fun base => dDef F23 (ok__law_e_as_one F23 gK (PySem.W.mg_none_of X G z_tuple)   ) (PySem.W.mg_of X G a23) b23
  have d__law_e_cells : ∀ base, Def l.prog w K mg base g 1 "_law_e_cells" 1 F_law_e_cells_22ca := fun base => dDef F24 (ok__law_e_cells F24 gK (PySem.W.mg_none_of X G z_len) (PySem.W.mg_none_of X G z_range) (PySem.W.mg_none_of X G z_set) (PySem.W.mg_none_of X G z_sorted)   ) (PySem.W.mg_of X G a24) b24
  have d__law_e_at : ∀ base, Def l.prog w K mg base g 1 "_law_e_at" 2 F_law_e_at_2cf3 := fun base => dDef F25 (ok__law_e_at F25 gK (PySem.W.mg_none_of X G z_enumerate)   ) (PySem.W.mg_of X G a25) b25
  have d__law_e_due : ∀ base, Def l.prog w K mg base g 2 "_law_e_due" 1 F_law_e_due_d123 := fun base => dDef F26 (ok__law_e_due F26 gK   (d__law_e_as_one base) (d__law_e_cells base) (d__law_e_at base) ) (PySem.W.mg_of X G a26) b26
  have d__law_e_right : ∀ base, Def l.prog w K mg base g 6 "_law_e_right" 2 F_law_e_right_52d8 := fun base => dDef F27 (ok__law_e_right F27 gK Bk (PySem.W.mg_none_of X G z_len) (PySem.W.mg_none_of X G z_range) (PySem.W.mg_none_of X G z_repr) (PySem.W.mg_none_of X G z_tuple)  (d_Book_strokes base) (d_picture base) (d__law_e_due base) (w_picture base)) (PySem.W.mg_of X G a27) b27
  exact ⟨_, fun s v => .of_eq rfl, fun base _ _ => ok_law F28 gK Bk (PySem.W.mg_none_of X G z_range) (PySem.W.mg_none_of X G z_tuple)  (d__law_e_pen base) (d_Book___init__ base) (d__law_e_bends base) (d__law_e_lines base) (d__law_e_tones base) (d__law_e_exchanged base) (d__law_e_right base) ⟩
end
end WK
namespace MR
open PySem PySem.Spec PyProof.Rows L2 DL
def gx (K : PySem.W.Frag) : Gx := ⟨K, WK.cbOf K, fun _ => 0, fun _ _ => .lst [], fun _ _ _ => False⟩
theorem law_pastlay_k15_pictures (ns : List Int) (h : ns.length ≤ 63) : ∃ as, F_law_682b [.scr ns] = some (.ok (.dat (.bool true)) as) := QA.law15_ok ns
end MR
open PySem PySem.W PyProof.Rows
set_option maxHeartbeats 0 in
theorem PySem.Challenge.cw_pastlay_k15_pictures_holds : PySem.Challenge.rw_pastlay_k15_pictures.Holds := by
  w_on; o_law; k_head; (case hw => w_witness2)
  k_fill
  refine DL.walk_ofG (l := PySem.Challenge.rw_pastlay_k15_pictures) (n := 63) (k := 7) (x := "script") (f := MR.F_law_682b) (g := fun K => MR.gx K) rfl (by decide) rfl ⟨rfl, by decide, by decide⟩ (fun _ => rfl) (fun w h Y => PySem.W.kIn_of Y) ?F MR.law_pastlay_k15_pictures
  case F =>
    intro w mg fa h KX G hmg
    refine' WK.all_mk rfl KX G hmg rfl ?aC ?pg ?hd ?po ?sa ?mk ?kc ?nR ?a0 ?l0 ?c0 ?k0 ?a1 ?l1 ?c1 ?k1 ?w1_0 ?a2 ?l2 ?c2 ?k2 ?a3 ?l3 ?c3 ?k3 ?a4 ?l4 ?c4 ?k4 ?a5 ?l5 ?c5 ?k5 ?a6 ?l6 ?c6 ?k6 ?a7 ?i7 ?l7 ?c7 ?k7 ?lT ?a8 ?l8 ?c8 ?k8 ?a9 ?l9 ?c9 ?k9 ?a10 ?l10 ?c10 ?k10 ?a11 ?l11 ?c11 ?k11 ?a12 ?l12 ?c12 ?k12 ?a13 ?i13 ?l13 ?c13 ?k13 ?a14 ?i14 ?l14 ?c14 ?k14 ?a15 ?l15 ?c15 ?k15 ?a16 ?i16 ?l16 ?c16 ?k16 ?a17 ?l17 ?c17 ?k17 ?a18 ?l18 ?c18 ?k18 ?a19 ?i19 ?l19 ?c19 ?k19 ?a20 ?l20 ?c20 ?k20 ?a21 ?l21 ?c21 ?k21 ?a22 ?l22 ?c22 ?k22 ?w22_0 ?a23 ?l23 ?c23 ?k23 ?a24 ?l24 ?c24 ?k24 ?a25 ?l25 ?c25 ?k25 ?a26 ?l26 ?c26 ?k26 ?a27 ?l27 ?c27 ?k27 ?a28 ?l28 ?c28 ?k28 ?z_list ?z_bool ?z_int ?z_isinstance ?z_len ?z_tuple ?z_all ?z_str ?z_range ?z_set ?z_sorted ?z_max ?z_min ?z_enumerate ?z_repr ?y_LAST ?y_ALPHABET ?y_MOST_LETTERS
    (case aC => k_is); (case pg => k_is); (case hd => k_is); (case po => k_is); (case sa => k_is); (case mk => k_is); (case kc => k_is); (case nR => k_is); (case a0 => k_is); (case l0 => k_is); (case c0 => k_is); (case k0 => k_is); (case a1 => k_is); (case l1 => k_is); (case c1 => k_is); (case k1 => k_is); (case w1_0 => k_is); (case a2 => k_is); (case l2 => k_is); (case c2 => k_is); (case k2 => k_is); (case a3 => k_is); (case l3 => k_is); (case c3 => k_is); (case k3 => k_is); (case a4 => k_is); (case l4 => k_is); (case c4 => k_is); (case k4 => k_is); (case a5 => k_is); (case l5 => k_is); (case c5 => k_is); (case k5 => k_is); (case a6 => k_is); (case l6 => k_is); (case c6 => k_is); (case k6 => k_is); (case a7 => k_is); (case i7 => k_is); (case l7 => k_is); (case c7 => k_is); (case k7 => k_is); (case lT => k_is); (case a8 => k_is); (case l8 => k_is); (case c8 => k_is); (case k8 => k_is); (case a9 => k_is); (case l9 => k_is); (case c9 => k_is); (case k9 => k_is); (case a10 => k_is); (case l10 => k_is); (case c10 => k_is); (case k10 => k_is); (case a11 => k_is); (case l11 => k_is); (case c11 => k_is); (case k11 => k_is); (case a12 => k_is); (case l12 => k_is); (case c12 => k_is); (case k12 => k_is); (case a13 => k_is); (case i13 => k_is); (case l13 => k_is); (case c13 => k_is); (case k13 => k_is); (case a14 => k_is); (case i14 => k_is); (case l14 => k_is); (case c14 => k_is); (case k14 => k_is); (case a15 => k_is); (case l15 => k_is); (case c15 => k_is); (case k15 => k_is); (case a16 => k_is); (case i16 => k_is); (case l16 => k_is); (case c16 => k_is); (case k16 => k_is); (case a17 => k_is); (case l17 => k_is); (case c17 => k_is); (case k17 => k_is); (case a18 => k_is); (case l18 => k_is); (case c18 => k_is); (case k18 => k_is); (case a19 => k_is); (case i19 => k_is); (case l19 => k_is); (case c19 => k_is); (case k19 => k_is); (case a20 => k_is); (case l20 => k_is); (case c20 => k_is); (case k20 => k_is); (case a21 => k_is); (case l21 => k_is); (case c21 => k_is); (case k21 => k_is); (case a22 => k_is); (case l22 => k_is); (case c22 => k_is); (case k22 => k_is); (case w22_0 => k_is); (case a23 => k_is); (case l23 => k_is); (case c23 => k_is); (case k23 => k_is); (case a24 => k_is); (case l24 => k_is); (case c24 => k_is); (case k24 => k_is); (case a25 => k_is); (case l25 => k_is); (case c25 => k_is); (case k25 => k_is); (case a26 => k_is); (case l26 => k_is); (case c26 => k_is); (case k26 => k_is); (case a27 => k_is); (case l27 => k_is); (case c27 => k_is); (case k27 => k_is); (case a28 => k_is); (case l28 => k_is); (case c28 => k_is); (case k28 => k_is); (case z_list => k_is); (case z_bool => k_is); (case z_int => k_is); (case z_isinstance => k_is); (case z_len => k_is); (case z_tuple => k_is); (case z_all => k_is); (case z_str => k_is); (case z_range => k_is); (case z_set => k_is); (case z_sorted => k_is); (case z_max => k_is); (case z_min => k_is); (case z_enumerate => k_is); (case z_repr => k_is); (case y_LAST => k_is); (case y_ALPHABET => k_is); (case y_MOST_LETTERS => k_is)

