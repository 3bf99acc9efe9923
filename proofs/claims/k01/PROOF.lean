import PyProof.Rows.All
import HandS.GenCall
import HandS.GenList
import HandS.ForMost
import Wide.All
import OpenK.AllK
import Wide.FinOn
import HandS.Deep
import HandS.Style
import HandS.TupAny
import HandS.TupMul
import HandS.SortInts
import HandS.Zip
import HandS.Conv
import HandS.Wide
import HandS.EndBits
import HandS.More
import HandS.IsInst
import HandS.Codes
import HandS.TupLen
import HandS.Strs
import HandS.SetFor
import KE.GoesEnum
import KE.GoesMore
import PySem.Challenge.RW_listjumps_k01_name_list_and_key_values
set_option Elab.async false
set_option linter.all false
set_option maxRecDepth 100000
/-! LJga: a for in a generator's body. -/
namespace LJ
open PySem PySem.Spec PyProof.Rows L2 GenW

section
variable {M : Model} {A : Around} {R : GenEnd} {Y : Protocol} {n : Nat} {s₀ : Shared} {c : Code} {fs : List Frame} {s : Shared} {env : Env}
  {K : Flow → Sem PySem.Fin} {H : Value → Sem PySem.Fin} {gd : Bool → Bool} {lv : List Value → List Value}
theorem seg_For {target iter : Expr} {body orelse : List Stmt} {pos : Pos}
    (h : wpAny M (A.over c fs) (eval iter env) (fun x s1 => wpAny M (A.over c fs) (pyIter x) (fun it s2 => ∀ p, Seg M A R Y n s₀ (.forLoop target it body orelse env) (M.den (.forLoop target it body orelse env))
      (.ret (fun r => ((match r with | .ok f => (.pure f : Sem Flow) | .error e => .raise e).onRaise fun (x : Value) => do
        if (← field x 1) == Value.none then unsupported "frame.own-activation:exception-without-traceback"
        setFlight x env.frame).wrap K H gd lv) none (gd false) (lv []) c p [] :: fs) s2) (fun x s' => Seg M A R Y n s₀ c (H x) fs s') s1) (fun x s' => Seg M A R Y n s₀ c (H x) fs s') s)
    (hs : ∀ x, foldedSetIterable iter env x = pure x) :
    Seg M A R Y n s₀ c ((exec (.For target iter body orelse pos) env).wrap K H gd lv) fs s := by
  rw [exec_For]
  refine seg_bind_wrap (wpAny_standAt ?_)
  refine seg_bind_wrap (wpAny_mono h (fun x s1 h1 => ?_) fun _ _ e => e)
  refine seg_bind_wrap (wpAny_of_eq (hs x) ?_)
  refine seg_bind_wrap (wpAny_standAt ?_)
  refine seg_bind_wrap (wpAny_holding (wpAny_mono h1 (fun it s2 h2 => ?_) fun _ _ e => e))
  exact seg_call h2
end
section
variable {prog : Program} {w : World} {A : Around} {R : GenEnd} {Y : Protocol} {n : Nat} {s₀ : Shared} {fs : List Frame} {s : Shared} {env : Env}
abbrev noted (env : Env) (x : Value) : Sem PySem.Fin := (do noteFrame x env; theTreesLotGoes x : Sem Unit).wrap (fun _ => .raise x) .raise id id
theorem seg_forLoop {target : Expr} {it : Value} {body orelse : List Stmt}
    (h : wpAny (model prog w) (A.over (.forLoop target it body orelse env) fs) (pyNext it) (fun r s1 => match r with
        | none => Seg (model prog w) A R Y n s₀ (.block orelse env) ((model prog w).den (.block orelse env)) fs s1
        | some v => wpAny (model prog w) (A.over (.forLoop target it body orelse env) fs) (letOwnedTupleGo target it v) (fun _ s2 =>
            wpAny (model prog w) (A.over (.forLoop target it body orelse env) fs) (assign target env v) (fun _ s3 =>
              Seg (model prog w) A R Y n s₀ (.forLoop target it body orelse env) ((execs body env).wrap (fun f => match f with
                | .next | .cont => .pure (.again (.forLoop target it body orelse env))
                | .brk => .pure (.done .next)
                | .ret v => .pure (.done (.ret v))) (noted env) id id) fs s3)
              (fun x s' => Seg (model prog w) A R Y n s₀ (.forLoop target it body orelse env) (noted env x) fs s') s2)
            (fun x s' => Seg (model prog w) A R Y n s₀ (.forLoop target it body orelse env) (noted env x) fs s') s1)
      (fun x s' => Seg (model prog w) A R Y n s₀ (.forLoop target it body orelse env) (noted env x) fs s') s) :
    Seg (model prog w) A R Y n s₀ (.forLoop target it body orelse env) ((model prog w).den (.forLoop target it body orelse env)) fs s := by
  show Seg _ A R Y n s₀ _ ((forTurn target it body orelse env).onRaise (fun x => do noteFrame x env; theTreesLotGoes x)) fs s
  have hn : ∀ x, (do noteFrame x env; theTreesLotGoes x : Sem Unit).bind (fun _ => (.raise x : Sem PySem.Fin)) = noted env x := fun x => Sem.bind_eq_wrap _ _
  rw [Sem.onRaise_eq_wrap, Sem.wrap_congr _ _ _ (K' := .pure) (H' := noted env) (fun _ => rfl) (fun x => by first | exact hn x | rfl)]
  unfold forTurn
  refine seg_bind_wrap (wpAny_standAt ?_)
  refine seg_bind_wrap (wpAny_onRaise (wpAny_mono h (fun r s1 h1 => ?_) fun x s' hx => wpAny_standAt hx))
  cases r with
  | none =>
    show Seg _ A R Y n s₀ _ (.pure (.again (.block orelse env))) fs s1
    exact seg_again rfl h1
  | some v =>
    refine seg_bind_wrap (wpAny_mono h1 (fun _ s2 h2 => ?_) fun _ _ e => e)
    refine seg_bind_wrap (wpAny_mono h2 (fun _ s3 h3 => ?_) fun _ _ e => e)
    rw [Sem.bind_eq_wrap', Sem.wrap_wrap]
    rw [Sem.wrap_congr (execs body env) _ _ (K' := fun f => match f with
      | .next | .cont => .pure (.again (.forLoop target it body orelse env))
      | .brk => .pure (.done .next)
      | .ret v => .pure (.done (.ret v))) (H := fun e => Sem.wrap Sem.pure (noted env) id id (Sem.raise e)) (H' := noted env) (fun f => by cases f <;> rfl) (fun _ => rfl)]
    exact h3
theorem seg_block0 {k : Result → Sem PySem.Fin} {hh g l c p kp} (h : Seg (model prog w) A R Y n s₀ c (k (.ok .next)) fs s) :
    Seg (model prog w) A R Y n s₀ (.block [] env) ((model prog w).den (.block [] env)) (.ret k hh g l c p kp :: fs) s :=
  seg_leaf (.ok .next) h
end
section
variable {X : Cx} {tg iter : Expr} {body : List Stmt}
/-- for in a generator's body -/
def tGFor (wi : TI) (g : TG) (tb : TGn) : TGn := fun D ys σ H => wi σ H fun J H1 => ∃ W : Nat → Nat → List V → L2.St → Hp → Prop, (∃ m, W 0 m ys σ H1) ∧ ∀ i m ys σ H, W i m ys σ H →
  (J.stop i H ∧ D.nx ys σ H) ∨ (J.go i H ∧ ∃ N : List V → L2.St → Hp → Prop, (∀ ys' σ' H', N ys' σ' H' → ∃ m', m' < m ∧ W (i + 1) m' ys' σ' H') ∧ ∀ x H', J.yld i H x H' → g x σ H' fun σ2 H2 => tb { D with nx := N, ct := N, bk := D.nx } ys σ2 H2)
theorem execs_app {env : Env} (l rest : List Stmt) (K : Flow → Sem PySem.Fin) (H : Value → Sem PySem.Fin) (gd : Bool → Bool) (lv : List Value → List Value) : (execs (l ++ rest) env).wrap K H gd lv =
    (execs l env).wrap (fun f => match f with | .next => (execs rest env).wrap K H gd lv | f => K f) H gd lv := by
  induction l with
  | nil => rfl
  | cons s l ih =>
    rw [List.cons_append, execs_cons_wrap, execs_cons_wrap]
    refine Sem.wrap_congr _ _ _ (fun f => ?_) fun _ => rfl
    cases f <;> first | exact ih | rfl
theorem gss_app {l rest : List Stmt} {t u : TGn} (a : GSs X l t) (b : GSs X rest u) : GSs X (l ++ rest) (tGThen t u) := by
  refine ⟨fun A S ip R n ys s₀ c fs K J gd lv s σ H D g hn k hI ht => ?_⟩
  rw [execs_app]
  refine a.run A S ip R n ys s₀ c fs _ J gd lv s σ H { D with nx := fun ys' σ' H' => u D ys' σ' H' } g hn ⟨fun n' ys' s₀' s' f hn' hs => ?_, k.exc⟩ hI ht
  cases f with
  | next =>
    obtain ⟨σ', H', I', q⟩ := hs
    exact b.run A S ip R n' ys' s₀' c fs K J gd lv s' σ' H' D g hn' k I' q
  | brk => exact k.ok n' ys' s₀' s' .brk hn' hs
  | cont => exact k.ok n' ys' s₀' s' .cont hn' hs
  | ret u => exact k.ok n' ys' s₀' s' (.ret u) hn' hs
theorem gs_for {wi : TI} {g : TG} {tb : TGn} {pos : Pos} (hp : PassesOwn (model X.prog X.w) X.A X.env X.xe) (hc : X.calm = true) (hi : PI X tg iter wi) (hg : PG X tg g) (hb : GSs X body tb)
    (hs : ∀ x, foldedSetIterable iter X.env x = pure x) : GS X (.For tg iter body [] pos) (tGFor wi g tb) := by
  refine ⟨fun A S ip R n ys s₀ c fs K J gd lv s σ H D gc hn k hI ht => ?_⟩
  obtain ⟨acc, cc, r, I⟩ := hI
  refine seg_For ?_ hs
  rw [gc.over]
  refine wpAny_mono (hi.run _ s σ H _ I ht) (fun v s1 h1 => ?_) fun x s' hx => k.exc n s₀ x s' hx
  refine wpAny_mono h1 (fun itv s2 h2 p => ?_) fun x s' hx => k.exc n s₀ x s' hx
  obtain ⟨it, fp, tn, JJ, H2, e, I2, T, st2, f2, W, ⟨m0, w0⟩, turn⟩ := h2
  subst e
  have gl := fun (ip : List (Addr × Obj)) (hip : ∀ p ∈ ip, p.1 ≠ S) (kk : Result → Sem PySem.Fin) => gc_loop (k := kk) (c' := .forLoop tg (.ref it) body [] X.env) (l := lv []) (kp := []) (p := p) (GC.mk gc.pn hip gc.apart gc.over gc.split gc.guard gc.gd : GC X S ip A c fs gd) rfl rfl
  have fS : ∀ b ∈ fp, b ≠ S := fun b hb e => (f2 b hb).2.2.2.2.2 (S, lstObj acc cc) (List.mem_append_right _ List.mem_cons_self) e.symm
  have stat : ∀ {H' : Hp} {acc' : Array Value} {cc' : Nat}, (∀ b ∈ fp, H' b = none) → ∀ b ∈ fp, FpOk X ((S, lstObj acc' cc') :: ip) H' b := fun {H' acc' cc'} hn b hb => by
    obtain ⟨_, q1, q2, q3, q4, q5⟩ := f2 b hb
    refine ⟨hn b hb, q1, q2, q3, q4, fun p hp => ?_⟩
    rcases List.mem_append.mp hp with hp | hp
    · exact q5 p (List.mem_append_left _ hp)
    · rcases List.mem_cons.mp hp with hp | hp
      · rw [hp]; exact fun e => fS b hb e.symm
      · exact q5 p (List.mem_append_right _ (List.mem_cons_of_mem _ hp))
  have loop : ∀ (m i n : Nat) (ys : List V) (s₀ s : Shared) (σ : L2.St) (H : Hp), n + ys.length = sizeLine → W i m ys σ H → GI X S ip ys σ H s → tn i s.heap → (∀ b ∈ fp, H b = none) →
      Seg (model X.prog X.w) A R (GY X S) n s₀ (.forLoop tg (.ref it) body [] X.env) ((model X.prog X.w).den (.forLoop tg (.ref it) body [] X.env))
        (.ret (fun r => ((match r with | .ok f => (.pure f : Sem Flow) | .error e => .raise e).onRaise (cameBack X.env)).wrap K J gd lv) none (gd false) (lv []) c p [] :: fs) s := by
    intro m
    induction m using Nat.strongRecOn with
    | ind m ih =>
      intro i n ys s₀ s σ H hn w hI st fr
      have ee : ∀ (n : Nat) (s₀ : Shared) (x : Value) (s' : Shared), X.xe x s' → Seg (model X.prog X.w) A R (GY X S) n s₀ (.forLoop tg (.ref it) body [] X.env)
          (noted X.env x)
          (.ret (fun r => ((match r with | .ok f => (.pure f : Sem Flow) | .error e => .raise e).onRaise (cameBack X.env)).wrap K J gd lv) none (gd false) (lv []) c p [] :: fs) s' := fun n s₀ x s' hx => by
        refine seg_wrap ?_
        rw [(gl ip gc.ip _).over]
        refine wpAny_bind (wpAny_mono (hp x s' hx) (fun _ s'' hcb => wpAny_theTreesLotGoes ?_) fun y s'' hcb => ?_)
        · exact seg_leaf (.error x) (seg_cameBack gc k hcb)
        · exact seg_leaf (.error y) (seg_cameBack gc k hcb)
      refine seg_forLoop ?_
      rw [(gl ip gc.ip _).over]
      obtain ⟨acc, cc, r, I⟩ := hI
      rcases turn i m ys σ H w with ⟨stop, qn⟩ | ⟨go, N, hN, step⟩
      · refine wpAny_mono (T.done X rfl rfl rfl hc i _ s σ H X.xe I (stat fr) st stop) (fun r1 s4 ⟨hr, I4⟩ => ?_) fun x s' hx => ee n s₀ x s' hx
        subst hr
        exact seg_block0 (k.ok n ys s₀ s4 .next hn ⟨σ, H, ⟨acc, cc, r, I4⟩, qn⟩)
      · refine wpAny_mono (T.item X rfl rfl rfl hc i _ s σ H X.xe I (stat fr) st go) (fun r1 s4 ⟨u, hr, h4⟩ => ?_) fun x s' hx => ee n s₀ x s' hx
        subst hr
        refine wpAny_mono h4 (fun _ s5 ⟨x, H5, I5, r5, y5, st5, fr5⟩ => ?_) fun x s' hx => ee n s₀ x s' hx
        have I5' : Inv X ((S, lstObj acc cc) :: (ip ++ pinsAt fp s5.heap)) σ H5 s5 := I5.pinned (stat fr5) (T.obj _ _ st5)
        refine wpAny_mono (hg.run _ s5 σ H5 x u _ I5' r5 (step x H5 y5)) (fun _ s6 ⟨σ6, H6, I6, q6⟩ => ?_) fun x s' hx => ee n s₀ x s' hx
        have hip : ∀ p ∈ ip ++ pinsAt fp s5.heap, p.1 ≠ S := fun p hp => by
          rcases List.mem_append.mp hp with hp | hp
          · exact gc.ip p hp
          · exact fS _ (of_pinsAt hp).1
        have back : ∀ {ys' : List V} {σ7 : L2.St} {H7 : Hp} {s7 : Shared}, GI X S (ip ++ pinsAt fp s5.heap) ys' σ7 H7 s7 → GI X S ip ys' σ7 H7 s7 ∧ tn (i + 1) s7.heap ∧ ∀ b ∈ fp, H7 b = none := fun {ys' σ7 H7 s7} hI7 => by
          obtain ⟨acc7, cc7, r7, I7⟩ := hI7
          refine ⟨⟨acc7, cc7, r7, I7.pins_of fun p hp => I7.pin p ?_⟩, T.keep _ _ _ st5 fun b hb o e => ?_, fun b hb => ?_⟩
          · rcases List.mem_cons.mp hp with hp | hp
            · rw [hp]; exact List.mem_append_right _ List.mem_cons_self
            · exact List.mem_append_right _ (List.mem_cons_of_mem _ (List.mem_append_left _ hp))
          · exact (I7.pin (b, o) (List.mem_append_right _ (List.mem_cons_of_mem _ (List.mem_append_right _ (mem_pinsAt hb e))))).1
          · obtain ⟨o, e, d⟩ := T.obj _ _ st5 b hb
            exact (I7.pin (b, o) (List.mem_append_right _ (List.mem_cons_of_mem _ (List.mem_append_right _ (mem_pinsAt hb e))))).2.1
        refine hb.run A S (ip ++ pinsAt fp s5.heap) R n ys s₀ _ _ _ _ id id s6 σ6 H6 { D with nx := N, ct := N, bk := D.nx } (gl _ hip _) hn ⟨fun n' ys' s₀' s7 f hn' hs => ?_, fun n' s₀' x s3 hx => ee n' s₀' x s3 hx⟩ ⟨acc, cc, r, I6⟩ q6
        cases f with
        | next =>
          obtain ⟨σ7, H7, I7, n7⟩ := hs
          obtain ⟨m', hm, w7⟩ := hN ys' σ7 H7 n7
          obtain ⟨b1, b2, b3⟩ := back I7
          exact seg_again rfl (ih m' hm (i + 1) n' ys' s₀' s7 σ7 H7 hn' w7 b1 b2 b3)
        | cont =>
          obtain ⟨σ7, H7, I7, n7⟩ := hs
          obtain ⟨m', hm, w7⟩ := hN ys' σ7 H7 n7
          obtain ⟨b1, b2, b3⟩ := back I7
          exact seg_again rfl (ih m' hm (i + 1) n' ys' s₀' s7 σ7 H7 hn' w7 b1 b2 b3)
        | brk =>
          obtain ⟨σ7, H7, I7, n7⟩ := hs
          exact seg_leaf (.ok .next) (k.ok n' ys' s₀' s7 .next hn' ⟨σ7, H7, (back I7).1, n7⟩)
        | ret v =>
          obtain ⟨x7, σ7, H7, I7, r7, n7⟩ := hs
          exact seg_leaf (.ok (.ret v)) (k.ok n' ys' s₀' s7 (.ret v) hn' ⟨x7, σ7, H7, (back I7).1, r7, n7⟩)
  exact loop m0 0 n ys s₀ s2 σ H2 hn w0 ⟨acc, cc, r, I2⟩ st2 fun b hb => (f2 b hb).1
end
end LJ
/-! LJa: values as data, how data lie in the abstract heap, slots, the relation between a pure environment and a state. -/
namespace LJ
open PySem PySem.Spec PyProof.Rows L2

inductive D where
  | non | bl (b : Bool) | int (i : Int) | str (x : Str)
  | lst (xs : List D) | tup (xs : List D) | scr (ns : List Int)
  | dK (kvs : List (Key × D)) | dT (kvs : List (List Key × D))

/-- a text as all texts here are: not too long, its signs within Unicode -/
def StrG (x : Str) : Prop := x.length ≤ sizeLine ∧ PyData.strOk x = true
def KeyG : Key → Prop
  | .inl _ => True
  | .inr x => StrG x
/-! data in the heap -/
mutual
def Rp (K : PySem.W.Frag) (H : Hp) : D → V → Prop
  | .non, v => v = .non
  | .bl b, v => v = .bl b
  | .int i, v => v = .int i
  | .str x, v => v = .str x ∧ StrG x
  | .lst ds, v => ∃ a vs, v = .ref a ∧ H a = some (.lst vs) ∧ RpL K H ds vs
  | .tup ds, v => ∃ a vs, v = .ref a ∧ H a = some (.tup vs) ∧ RpL K H ds vs
  | .scr ns, v => ∃ a, v = .ref a ∧ SqL K H a (ns.map V.int)
  | .dK kvs, v => ∃ a o vs, v = .ref a ∧ H a = some (.frz o (.dK vs)) ∧ RpK K H kvs vs
  | .dT kvs, v => ∃ a o vs, v = .ref a ∧ H a = some (.frz o (.dT vs)) ∧ RpT K H kvs vs
def RpL (K : PySem.W.Frag) (H : Hp) : List D → List V → Prop
  | [], vs => vs = []
  | d :: ds, vs => ∃ x r, vs = x :: r ∧ Rp K H d x ∧ RpL K H ds r
def RpK (K : PySem.W.Frag) (H : Hp) : List (Key × D) → List (Key × V) → Prop
  | [], vs => vs = []
  | (k, d) :: ds, vs => ∃ x r, vs = (k, x) :: r ∧ (KeyG k ∧ Rp K H d x) ∧ RpK K H ds r
def RpT (K : PySem.W.Frag) (H : Hp) : List (List Key × D) → List (List Key × V) → Prop
  | [], vs => vs = []
  | (k, d) :: ds, vs => ∃ x r, vs = (k, x) :: r ∧ ((∀ j ∈ k, KeyG j) ∧ Rp K H d x) ∧ RpT K H ds r
end

section
variable {K : PySem.W.Frag} {H H' H1 : Hp}
mutual
theorem Rp.mono (e : Same H H') : ∀ (d : D) {v : V}, Rp K H d v → Rp K H' d v
  | .non, v, h => by simp only [Rp] at h ⊢; exact h
  | .bl b, v, h => by simp only [Rp] at h ⊢; exact h
  | .int i, v, h => by simp only [Rp] at h ⊢; exact h
  | .str x, v, h => by simp only [Rp] at h ⊢; exact h
  | .lst ds, v, h => by
    simp only [Rp] at h ⊢
    obtain ⟨a, vs, e1, e2, e3⟩ := h
    exact ⟨a, vs, e1, e _ _ e2, RpL.mono e ds e3⟩
  | .tup ds, v, h => by
    simp only [Rp] at h ⊢
    obtain ⟨a, vs, e1, e2, e3⟩ := h
    exact ⟨a, vs, e1, e _ _ e2, RpL.mono e ds e3⟩
  | .scr ns, v, h => by
    simp only [Rp] at h ⊢
    obtain ⟨a, e1, e2⟩ := h
    exact ⟨a, e1, e.seq e2⟩
  | .dK kvs, v, h => by
    simp only [Rp] at h ⊢
    obtain ⟨a, o, vs, e1, e2, e3⟩ := h
    exact ⟨a, o, vs, e1, e _ _ e2, RpK.mono e kvs e3⟩
  | .dT kvs, v, h => by
    simp only [Rp] at h ⊢
    obtain ⟨a, o, vs, e1, e2, e3⟩ := h
    exact ⟨a, o, vs, e1, e _ _ e2, RpT.mono e kvs e3⟩
theorem RpL.mono (e : Same H H') : ∀ (ds : List D) {vs : List V}, RpL K H ds vs → RpL K H' ds vs
  | [], vs, h => by simp only [RpL] at h ⊢; exact h
  | d :: ds, vs, h => by
    simp only [RpL] at h ⊢
    obtain ⟨x, r, e1, e2, e3⟩ := h
    exact ⟨x, r, e1, Rp.mono e d e2, RpL.mono e ds e3⟩
theorem RpK.mono (e : Same H H') : ∀ (ds : List (Key × D)) {vs : List (Key × V)}, RpK K H ds vs → RpK K H' ds vs
  | [], vs, h => by simp only [RpK] at h ⊢; exact h
  | (k, d) :: ds, vs, h => by
    simp only [RpK] at h ⊢
    obtain ⟨x, r, e1, e2, e3⟩ := h
    exact ⟨x, r, e1, ⟨e2.1, Rp.mono e d e2.2⟩, RpK.mono e ds e3⟩
theorem RpT.mono (e : Same H H') : ∀ (ds : List (List Key × D)) {vs : List (List Key × V)}, RpT K H ds vs → RpT K H' ds vs
  | [], vs, h => by simp only [RpT] at h ⊢; exact h
  | (k, d) :: ds, vs, h => by
    simp only [RpT] at h ⊢
    obtain ⟨x, r, e1, e2, e3⟩ := h
    exact ⟨x, r, e1, ⟨e2.1, Rp.mono e d e2.2⟩, RpT.mono e ds e3⟩
end

theorem RpL.length : ∀ {ds : List D} {vs : List V}, RpL K H ds vs → vs.length = ds.length
  | [], vs, h => by simp only [RpL] at h; rw [h]; rfl
  | d :: ds, vs, h => by
    simp only [RpL] at h
    obtain ⟨x, r, e1, e2, e3⟩ := h
    rw [e1, List.length_cons, List.length_cons, RpL.length e3]
theorem RpL.get : ∀ {ds : List D} {vs : List V} {i : Nat} {d : D}, RpL K H ds vs → ds[i]? = some d → ∃ v, vs[i]? = some v ∧ Rp K H d v
  | [], vs, i, d, h, e => by simp at e
  | d0 :: ds, vs, 0, d, h, e => by
    simp only [RpL] at h
    obtain ⟨x, r, e1, e2, e3⟩ := h
    simp at e
    subst e
    exact ⟨x, by rw [e1]; rfl, e2⟩
  | d0 :: ds, vs, i + 1, d, h, e => by
    simp only [RpL] at h
    obtain ⟨x, r, e1, e2, e3⟩ := h
    obtain ⟨v, q1, q2⟩ := RpL.get (i := i) e3 (by simpa using e)
    exact ⟨v, by rw [e1]; simpa using q1, q2⟩
/-- the other way -/
theorem RpL.getV {ds : List D} {vs : List V} {i : Nat} {v : V} (h : RpL K H ds vs) (e : vs[i]? = some v) : ∃ d, ds[i]? = some d ∧ Rp K H d v := by
  have hl := h.length
  have hi : i < vs.length := (List.getElem?_eq_some_iff.mp e).1
  obtain ⟨v', q1, q2⟩ := h.get (List.getElem?_eq_getElem (show i < ds.length by omega))
  rw [e] at q1
  cases q1
  exact ⟨_, List.getElem?_eq_getElem (by omega), q2⟩
theorem RpL.nil : RpL K H [] [] := by simp only [RpL]
theorem RpL.cons {d : D} {ds : List D} {v : V} {vs : List V} (h : Rp K H d v) (t : RpL K H ds vs) : RpL K H (d :: ds) (v :: vs) := by
  simp only [RpL]
  exact ⟨v, vs, rfl, h, t⟩
theorem RpL.append : ∀ {ds es : List D} {vs ws : List V}, RpL K H ds vs → RpL K H es ws → RpL K H (ds ++ es) (vs ++ ws)
  | [], es, vs, ws, h, h' => by simp only [RpL] at h; rw [h]; exact h'
  | d :: ds, es, vs, ws, h, h' => by
    simp only [RpL] at h
    obtain ⟨x, r, e1, e2, e3⟩ := h
    rw [e1]
    exact RpL.cons e2 (RpL.append e3 h')
theorem RpL.take : ∀ (n : Nat) {ds : List D} {vs : List V}, RpL K H ds vs → RpL K H (ds.take n) (vs.take n)
  | 0, ds, vs, h => by rw [List.take_zero, List.take_zero]; exact RpL.nil
  | n + 1, [], vs, h => by simp only [RpL] at h; rw [h]; exact RpL.nil
  | n + 1, d :: ds, vs, h => by
    simp only [RpL] at h
    obtain ⟨x, r, e1, e2, e3⟩ := h
    rw [e1]
    exact RpL.cons e2 (RpL.take n e3)
theorem RpL.drop : ∀ (n : Nat) {ds : List D} {vs : List V}, RpL K H ds vs → RpL K H (ds.drop n) (vs.drop n)
  | 0, ds, vs, h => h
  | n + 1, [], vs, h => by simp only [RpL] at h; rw [h]; exact RpL.nil
  | n + 1, d :: ds, vs, h => by
    simp only [RpL] at h
    obtain ⟨x, r, e1, e2, e3⟩ := h
    rw [e1]
    exact RpL.drop n e3
theorem RpL.reverse : ∀ {ds : List D} {vs : List V}, RpL K H ds vs → RpL K H ds.reverse vs.reverse
  | [], vs, h => by simp only [RpL] at h; rw [h]; exact RpL.nil
  | d :: ds, vs, h => by
    simp only [RpL] at h
    obtain ⟨x, r, e1, e2, e3⟩ := h
    rw [e1, List.reverse_cons, List.reverse_cons]
    exact RpL.append (RpL.reverse e3) (RpL.cons e2 RpL.nil)
theorem RpL.set : ∀ {ds : List D} {vs : List V} (i : Nat) {d : D} {v : V}, RpL K H ds vs → Rp K H d v → RpL K H (ds.set i d) (vs.set i v)
  | [], vs, i, d, v, h, _ => by simp only [RpL] at h; rw [h]; exact RpL.nil
  | d0 :: ds, vs, 0, d, v, h, q => by
    simp only [RpL] at h
    obtain ⟨x, r, e1, e2, e3⟩ := h
    rw [e1]
    exact RpL.cons q e3
  | d0 :: ds, vs, i + 1, d, v, h, q => by
    simp only [RpL] at h
    obtain ⟨x, r, e1, e2, e3⟩ := h
    rw [e1]
    exact RpL.cons e2 (RpL.set i e3 q)
theorem RpL.rep {ds : List D} {vs : List V} (h : RpL K H ds vs) : ∀ k : Nat, RpL K H (List.replicate k ds).flatten (List.replicate k vs).flatten
  | 0 => RpL.nil
  | k + 1 => by
    rw [List.replicate_succ, List.replicate_succ, List.flatten_cons, List.flatten_cons]
    exact h.append (h.rep k)
theorem RpL.ints : ∀ {ns : List Int} {vs : List V}, RpL K H (ns.map D.int) vs → vs = ns.map V.int
  | [], vs, h => by simp only [List.map_nil, RpL] at h; exact h
  | n :: ns, vs, h => by
    simp only [List.map_cons, RpL, Rp] at h
    obtain ⟨x, r, e1, e2, e3⟩ := h
    rw [e1, e2, RpL.ints e3]
    rfl
theorem RpL.ofInts : ∀ (ns : List Int), RpL K H (ns.map D.int) (ns.map V.int)
  | [] => RpL.nil
  | n :: ns => RpL.cons (by simp only [Rp]) (RpL.ofInts ns)
theorem RpL.strs : ∀ {ns : List Str} {vs : List V}, RpL K H (ns.map D.str) vs → vs = ns.map V.str ∧ ∀ x ∈ ns, StrG x
  | [], vs, h => by simp only [List.map_nil, RpL] at h; exact ⟨h, by simp⟩
  | n :: ns, vs, h => by
    simp only [List.map_cons, RpL, Rp] at h
    obtain ⟨x, r, e1, ⟨e2, e4⟩, e3⟩ := h
    obtain ⟨q1, q2⟩ := RpL.strs e3
    refine ⟨by rw [e1, e2, q1]; rfl, fun y hy => ?_⟩
    rcases List.mem_cons.mp hy with e | hy
    · rw [e]; exact e4
    · exact q2 y hy
theorem RpL.ofStrs : ∀ (ns : List Str), (∀ x ∈ ns, StrG x) → RpL K H (ns.map D.str) (ns.map V.str)
  | [], _ => RpL.nil
  | n :: ns, h => RpL.cons (by simp only [Rp]; exact ⟨trivial, h n List.mem_cons_self⟩) (RpL.ofStrs ns fun x hx => h x (List.mem_cons_of_mem _ hx))
end

/-! ### slots -/
inductive Slot where
  | sh (d : D) | ol (xs : List D) | ok (kvs : List (Key × D)) | ot (kvs : List (List Key × D))
def Slot.d : Slot → D
  | .sh d => d
  | .ol xs => .lst xs
  | .ok kvs => .dK kvs
  | .ot kvs => .dT kvs
abbrev En := List (Option Slot)

/-- a step of the ghost heap G and the abstract heap H: what stood stands, what is new in G was nowhere -/
structure Stp (G H G' H' : Hp) : Prop where
  g : Same G G'
  h : Same H H'
  gh : Same G' H'
  new : ∀ p o, G' p = some o → G p = some o ∨ H p = none
theorem Stp.refl {G H : Hp} (e : Same G H) : Stp G H G H := ⟨Same.refl _, Same.refl _, e, fun _ _ h => .inl h⟩
theorem Stp.trans {G H G1 H1 G2 H2 : Hp} (a : Stp G H G1 H1) (b : Stp G1 H1 G2 H2) : Stp G H G2 H2 := by
  refine ⟨a.g.trans b.g, a.h.trans b.h, b.gh, fun p o e => ?_⟩
  rcases b.new p o e with q | q
  · exact a.new p o q
  · exact .inr (a.h.free q)
/-- a value in both -/
theorem Stp.pub {G H : Hp} {a : Addr} {o : HO} (e : Same G H) (hn : H a = none) : Stp G H (upd G a o) (upd H a o) := by
  have gn : G a = none := e.free hn
  refine ⟨fun b u q => ?_, fun b u q => ?_, fun b u q => ?_, fun p u q => ?_⟩
  · rw [upd_ne (ne_of_none q gn)]; exact q
  · rw [upd_ne (ne_of_none q hn)]; exact q
  · by_cases hb : b = a
    · subst hb; rw [upd_same] at q ⊢; exact q
    · rw [upd_ne hb] at q ⊢; exact e _ _ q
  · by_cases hp : p = a
    · subst hp; exact .inr hn
    · rw [upd_ne hp] at q; exact .inl q
/-- .. in H alone -/
theorem Stp.own {G H : Hp} {a : Addr} {o : HO} (e : Same G H) (hn : H a = none) : Stp G H G (upd H a o) := by
  refine ⟨Same.refl _, fun b u q => ?_, fun b u q => ?_, fun p u q => .inl q⟩
  · rw [upd_ne (ne_of_none q hn)]; exact q
  · rw [upd_ne (ne_of_none (e _ _ q) hn)]; exact e _ _ q
/-- what is H's alone goes into G -/
theorem Stp.share {G H : Hp} {a : Addr} {o : HO} {G0 H0 : Hp} (s : Stp G0 H0 G H) (h : H a = some o) (gn : G a = none) (hn : H0 a = none) : Stp G0 H0 (upd G a o) H := by
  refine ⟨fun b u q => ?_, s.h, fun b u q => ?_, fun p u q => ?_⟩
  · have := s.g b u q
    rw [upd_ne (ne_of_none this gn)]; exact this
  · by_cases hb : b = a
    · subst hb; rw [upd_same] at q; cases q; exact h
    · rw [upd_ne hb] at q; exact s.gh _ _ q
  · by_cases hp : p = a
    · subst hp; exact .inr hn
    · rw [upd_ne hp] at q; exact s.new p u q

section
variable (K : PySem.W.Frag)
/-- a slot's content: own: not in G, not there at the entry (H0) -/
def SlRp (G H H0 : Hp) : Slot → V → Prop
  | .sh d, v => Rp K G d v
  | .ol xs, v => ∃ a vs, v = .ref a ∧ H a = some (.lst vs) ∧ G a = none ∧ H0 a = none ∧ RpL K G xs vs
  | .ok kvs, v => ∃ a vs, v = .ref a ∧ H a = some (.dK vs) ∧ G a = none ∧ H0 a = none ∧ RpK K G kvs vs
  | .ot kvs, v => ∃ a vs, v = .ref a ∧ H a = some (.dT vs) ∧ G a = none ∧ H0 a = none ∧ RpT K G kvs vs
def Slot.isOwn : Slot → Bool
  | .sh _ => false
  | _ => true
structure SR (G0 H0 : Hp) (ρ : En) (σ : L2.St) (G H : Hp) : Prop where
  len : ρ.length = σ.length
  gh : Same G H
  g0 : Same G0 G
  h0 : Same H0 H
  new : ∀ p o, G p = some o → G0 p = some o ∨ H0 p = none
  slot : ∀ (i : Nat) (sl : Slot), ρ[i]? = some (some sl) → ∃ v, σ[i]? = some (some v) ∧ SlRp K G H H0 sl v
  sep : ∀ (i j : Nat) (s t : Slot) (v : V), ρ[i]? = some (some s) → ρ[j]? = some (some t) → s.isOwn = true → t.isOwn = true → σ[i]? = some (some v) → σ[j]? = some (some v) → i = j
end
section
variable {K : PySem.W.Frag} {G0 H0 G H G' H' : Hp} {ρ : En} {σ : L2.St}
theorem SlRp.step {Hs : Hp} {sl : Slot} {v : V} (h : SlRp K G H Hs sl v) (s : Stp G H G' H') : SlRp K G' H' Hs sl v := by
  have gn : ∀ a o, G a = none → H a = some o → G' a = none := fun a o g1 h1 => by
    cases q : G' a with
    | none => rfl
    | some u =>
      rcases s.new a u q with z | z
      · rw [g1] at z; cases z
      · rw [h1] at z; cases z
  cases sl with
  | sh d => exact Rp.mono s.g d h
  | ol xs =>
    obtain ⟨a, vs, e1, e2, e3, e4, e5⟩ := h
    exact ⟨a, vs, e1, s.h _ _ e2, gn a _ e3 e2, e4, RpL.mono s.g _ e5⟩
  | ok xs =>
    obtain ⟨a, vs, e1, e2, e3, e4, e5⟩ := h
    exact ⟨a, vs, e1, s.h _ _ e2, gn a _ e3 e2, e4, RpK.mono s.g _ e5⟩
  | ot xs =>
    obtain ⟨a, vs, e1, e2, e3, e4, e5⟩ := h
    exact ⟨a, vs, e1, s.h _ _ e2, gn a _ e3 e2, e4, RpT.mono s.g _ e5⟩
theorem SlRp.old {Hs Ht : Hp} {sl : Slot} {v : V} (h : SlRp K G H Hs sl v) (e : Same Ht Hs) : SlRp K G H Ht sl v := by
  cases sl with
  | sh d => exact h
  | ol xs =>
    obtain ⟨a, vs, e1, e2, e3, e4, e5⟩ := h
    exact ⟨a, vs, e1, e2, e3, e.free e4, e5⟩
  | ok xs =>
    obtain ⟨a, vs, e1, e2, e3, e4, e5⟩ := h
    exact ⟨a, vs, e1, e2, e3, e.free e4, e5⟩
  | ot xs =>
    obtain ⟨a, vs, e1, e2, e3, e4, e5⟩ := h
    exact ⟨a, vs, e1, e2, e3, e.free e4, e5⟩
theorem SR.step (r : SR K G0 H0 ρ σ G H) (s : Stp G H G' H') : SR K G0 H0 ρ σ G' H' where
  len := r.len
  gh := s.gh
  g0 := r.g0.trans s.g
  h0 := r.h0.trans s.h
  new := fun p o e => by
    rcases s.new p o e with q | q
    · exact r.new p o q
    · exact .inr (r.h0.free q)
  slot := fun i sl e => by
    obtain ⟨v, e1, e2⟩ := r.slot i sl e
    exact ⟨v, e1, e2.step s⟩
  sep := r.sep
/-- an own slot's address is not a fresh one's -/
theorem SR.own_ne {i : Nat} {sl : Slot} {a : Addr} (r : SR K G0 H0 ρ σ G H) (e : ρ[i]? = some (some sl)) (o : sl.isOwn = true) (hn : H a = none) : σ[i]? ≠ some (some (.ref a)) := fun q => by
  obtain ⟨v, e1, e2⟩ := r.slot i sl e
  rw [q] at e1
  cases e1
  cases sl with
  | sh d => cases o
  | ol xs => obtain ⟨b, vs, e1, e2, _⟩ := e2; cases e1; rw [hn] at e2; cases e2
  | ok xs => obtain ⟨b, vs, e1, e2, _⟩ := e2; cases e1; rw [hn] at e2; cases e2
  | ot xs => obtain ⟨b, vs, e1, e2, _⟩ := e2; cases e1; rw [hn] at e2; cases e2
/-- a slot stored: shared -/
theorem SR.set_sh {i : Nat} {d : D} {v : V} (r : SR K G0 H0 ρ σ G H) (h : Rp K G d v) : SR K G0 H0 (ρ.set i (some (.sh d))) (σ.set i (some v)) G H where
  len := by rw [List.length_set, List.length_set]; exact r.len
  gh := r.gh
  g0 := r.g0
  h0 := r.h0
  new := r.new
  slot := fun j sl e => by
    by_cases hj : i = j
    · subst hj
      have hi : i < ρ.length := by
        have := (List.getElem?_eq_some_iff.mp e).1
        rwa [List.length_set] at this
      rw [List.getElem?_set_self hi] at e
      cases e
      exact ⟨v, List.getElem?_set_self (by rw [← r.len]; exact hi), h⟩
    · rw [List.getElem?_set_ne hj] at e ⊢
      exact r.slot j sl e
  sep := fun a b s t u e1 e2 o1 o2 q1 q2 => by
    by_cases ha : i = a
    · subst ha
      have hi : i < ρ.length := by
        have := (List.getElem?_eq_some_iff.mp e1).1
        rwa [List.length_set] at this
      rw [List.getElem?_set_self hi] at e1
      cases e1
      cases o1
    · by_cases hb : i = b
      · subst hb
        have hi : i < ρ.length := by
          have := (List.getElem?_eq_some_iff.mp e2).1
          rwa [List.length_set] at this
        rw [List.getElem?_set_self hi] at e2
        cases e2
        cases o2
      · rw [List.getElem?_set_ne ha] at e1 q1
        rw [List.getElem?_set_ne hb] at e2 q2
        exact r.sep a b s t u e1 e2 o1 o2 q1 q2
/-- a slot stored: its own, new to the other slots -/
theorem SR.set_own {i : Nat} {sl : Slot} {v : V} (r : SR K G0 H0 ρ σ G H) (h : SlRp K G H H0 sl v) (nu : ∀ (j : Nat) (t : Slot), j ≠ i → ρ[j]? = some (some t) → t.isOwn = true → σ[j]? ≠ some (some v)) :
    SR K G0 H0 (ρ.set i (some sl)) (σ.set i (some v)) G H where
  len := by rw [List.length_set, List.length_set]; exact r.len
  gh := r.gh
  g0 := r.g0
  h0 := r.h0
  new := r.new
  slot := fun j sl' e => by
    by_cases hj : i = j
    · subst hj
      have hi : i < ρ.length := by
        have := (List.getElem?_eq_some_iff.mp e).1
        rwa [List.length_set] at this
      rw [List.getElem?_set_self hi] at e
      cases e
      exact ⟨v, List.getElem?_set_self (by rw [← r.len]; exact hi), h⟩
    · rw [List.getElem?_set_ne hj] at e ⊢
      exact r.slot j sl' e
  sep := fun a b s t u e1 e2 o1 o2 q1 q2 => by
    by_cases ha : i = a
    · by_cases hb : i = b
      · omega
      · subst ha
        have hi : i < σ.length := by
          have := (List.getElem?_eq_some_iff.mp q1).1
          rwa [List.length_set] at this
        rw [List.getElem?_set_self hi] at q1
        cases q1
        rw [List.getElem?_set_ne hb] at e2 q2
        exact absurd q2 (nu b t (Ne.symm hb) e2 o2)
    · by_cases hb : i = b
      · subst hb
        have hi : i < σ.length := by
          have := (List.getElem?_eq_some_iff.mp q2).1
          rwa [List.length_set] at this
        rw [List.getElem?_set_self hi] at q2
        cases q2
        rw [List.getElem?_set_ne ha] at e1 q1
        exact absurd q1 (nu a s (Ne.symm ha) e1 o1)
      · rw [List.getElem?_set_ne ha] at e1 q1
        rw [List.getElem?_set_ne hb] at e2 q2
        exact r.sep a b s t u e1 e2 o1 o2 q1 q2
end
end LJ
/-! LJb: the small language and what it computes. -/
namespace LJ
open PySem PySem.Spec PyProof.Rows L2

inductive BOp where | add | sub | mul | fdiv | mod | pow
  deriving DecidableEq
inductive COp where | eq | ne | lt | le | gt | ge | is_ | nis | in_ | nin
  deriving DecidableEq
/-- built-ins of one argument -/
inductive Bi where | len | tupleO | listO | maxO | minO | sumO | absO | intO | boolO | sortO | allO
  deriving DecidableEq
inductive Ty where | int | bool | str | list | tuple
  deriving DecidableEq
inductive Tg where
  | one (i : Nat) | many (is : List Nat)

inductive E where
  | var (i : Nat)
  | cI (i : Int) | cS (x : Str) | cB (b : Bool) | cN
  | neg (i : Int)
  | glb (g : Nat)
  | bin (op : BOp) (a b : E)
  | cmp (op : COp) (a b : E)
  | chain (op op' : COp) (a b c : E)
  | and_ (a b : E) | or_ (a b : E) | not_ (a : E)
  | ite (c a b : E)
  | idx (a i : E)
  | slc (a lo hi : E)
  | rev (a : E)
  | call (f : Nat) (args : E)
  | glist (f : Nat) (args : E)
  | bi1 (f : Bi) (a : E)
  | biR (f : Bi) (b : E)
  | max2 (a b : E)
  | isi (a : E) (t : Ty)
  | isi2 (a : E) (t t' : Ty)
  | sset (a : E)
  | lset (a : E)
  | join (o a : E)
  | index (o a : E)
  | get (o a b : E)
  | split (o a : E)
  | tupE (es : E) | lstE (es : E)
  | dicK (es : E) | dicT (es : E) | dic1 (a b : E) | dic1T (a b : E)
  | lc (own : List Nat) (elt : E) (tg : Tg) (it : E) (cond : E)
  -- what a for walks, besides plain data
  | rng1 (a : E) | rng2 (a b : E) | enum (a : E) | zip (a b : E) | items (a : E)
  -- nothing (an absent part), argument lists
  | nil | cons (a r : E)

inductive S where
  | skip | pass
  | seq (a b : S)
  | asg (i : Nat) (own : Bool) (e : E)
  | asgT (is : List Nat) (e : E)
  | par (is : List Nat) (own : List Bool) (es : E)
  | aug (i : Nat) (op : BOp) (e : E)
  | put (i : Nat) (k e : E)
  | app (i : Nat) (e : E)
  | expr (e : E)
  | ite (c : E) (a b : S)
  | for_ (tg : Tg) (it : E) (body : S)
  | while_ (n : Nat) (c : E) (body : S)
  | ret (e : E) | retV (i : Nat) | retN
  | brk
  | pub (i : Nat)
  -- a generator def's body: a for that hands e out behind b
  | gen_ (tg : Tg) (it : E) (b : S) (e : E)

/-! ### values -/
mutual
def toPy : D → Option PyData
  | .non => some .none
  | .bl b => some (.bool b)
  | .int i => some (.int i)
  | .str x => some (.str x)
  | .lst ds => (toPyL ds).map .list
  | .tup ds => (toPyL ds).map .tuple
  | .scr _ => none
  | .dK _ => none
  | .dT _ => none
def toPyL : List D → Option (List PyData)
  | [] => some []
  | d :: ds => match toPy d, toPyL ds with
    | some x, some xs => some (x :: xs)
    | _, _ => none
end
/-- a dict beside an empty one -/
def eqK : D → D → Option Bool
  | .dK ks, .dK [] => some ks.isEmpty
  | _, _ => none
def eqD (d e : D) : Option Bool :=
  match toPy d, toPy e with
  | some x, some y => if x.depth ≤ 64 ∧ y.depth ≤ 64 then some (PyData.eqv x y) else none
  | _, _ => eqK d e
/-- a list, a tuple as data -/
def seqD : D → Option (List D)
  | .lst ds => some ds
  | .tup ds => some ds
  | _ => none
def inD (d : D) (c : D) : Option Bool :=
  match c with
  | .str z => match d with
    | .str x => match x.cps.toList with
      | [k] => some (decide (k ∈ z.cps.toList))
      | _ => none
    | _ => none
  | .lst ds => match toPy d, toPyL ds with
    | some x, some ys => if x.depth ≤ 64 ∧ PyData.depth (.list ys) ≤ 64 then some (ys.any fun z => PyData.eqv z x) else none
    | _, _ => none
  | .tup ds => match toPy d, toPyL ds with
    | some x, some ys => if x.depth = 0 ∧ PyData.depthAll ys = 0 then some (ys.any fun z => PyData.eqv z x) else none
    | _, _ => none
  | _ => none
/-- a key of a dict -/
def keyD : D → Option Key
  | .int i => some (.inl i)
  | .str x => some (.inr x)
  | _ => none
def keysD : List D → Option (List Key)
  | [] => some []
  | d :: ds => match keyD d, keysD ds with
    | some k, some ks => some (k :: ks)
    | _, _ => none
def keyT : D → Option (List Key)
  | .tup ds => keysD ds
  | _ => none
def dGet {κ : Type} [DecidableEq κ] (kvs : List (κ × D)) (k : κ) : Option D := (kvs.find? fun p => decide (p.1 = k)).map (·.2)
def dPut {κ : Type} [DecidableEq κ] (kvs : List (κ × D)) (k : κ) (d : D) : List (κ × D) :=
  if kvs.any (fun p => decide (p.1 = k)) then kvs.map fun p => if p.1 = k then (p.1, d) else p else kvs ++ [(k, d)]
def dHas {κ : Type} [DecidableEq κ] (kvs : List (κ × D)) (k : κ) : Bool := kvs.any fun p => decide (p.1 = k)
/-- k in d, d a dict -/
def hasD (d : D) (c : D) : Option Bool :=
  match c with
  | .dK kvs => (keyD d).map (dHas kvs)
  | .dT kvs => (keyT d).map (dHas kvs)
  | _ => none
def memD (d : D) (c : D) : Option Bool :=
  match c with
  | .dK _ => hasD d c
  | .dT _ => hasD d c
  | _ => inD d c

def opBin : BOp → D → D → Option Slot
  | .add, .int i, .int j => some (.sh (.int (i + j)))
  | .add, .str x, .str y => if x.length + y.length ≤ sizeLine then some (.sh (.str (x ++ y))) else none
  | .add, .tup xs, .tup ys => if xs.length + ys.length ≤ sizeLine then some (.sh (.tup (xs ++ ys))) else none
  | .add, .lst xs, .lst ys => if xs.length + ys.length ≤ sizeLine then some (.ol (xs ++ ys)) else none
  | .sub, .int i, .int j => some (.sh (.int (i - j)))
  | .mul, .int i, .int j => if (-(2 ^ 64) < i ∧ i < 2 ^ 64) ∨ (-(2 ^ 64) < j ∧ j < 2 ^ 64) then some (.sh (.int (i * j))) else none
  | .mul, .tup xs, .int k => if 2 ≤ k ∧ k ≤ 1000 ∧ xs ≠ [] ∧ xs.length ≤ 1000 then some (.sh (.tup (List.replicate k.toNat xs).flatten)) else if k = 1 then some (.sh (.tup xs)) else none
  | .mul, .lst xs, .int k => if -(2 ^ 63) ≤ k ∧ k < 2 ^ 63 ∧ xs.length * k.toNat ≤ sizeLine then some (.ol (List.replicate k.toNat xs).flatten) else none
  | .mul, .str x, .int k => if 0 ≤ k ∧ k ≤ 1000 ∧ x.length ≤ 1000 then some (.sh (.str ⟨(List.replicate k.toNat x.cps.toList).flatten.toArray⟩)) else none
  | .fdiv, .int i, .int j => if 0 < j ∧ j < 2 ^ 64 then some (.sh (.int (i / j))) else none
  | .mod, .int i, .int j => if 0 < j then some (.sh (.int (i % j))) else none
  | .pow, .int i, .int j => if 0 ≤ j ∧ j ≤ 1000000 ∧ i.natAbs < 2 ^ 64 then some (.sh (.int (i ^ j.toNat))) else none
  | _, _, _ => none
def isNonD : D → Bool
  | .non => true
  | _ => false
def opCmp : COp → D → D → Option Bool
  | .eq, a, b => eqD a b
  | .ne, a, b => (eqD a b).map (!·)
  | .lt, .int i, .int j => some (decide (i < j))
  | .le, .int i, .int j => some (decide (i ≤ j))
  | .gt, .int i, .int j => some (decide (j < i))
  | .ge, .int i, .int j => some (decide (j ≤ i))
  | .is_, .bl a, .bl b => some (decide (a = b))
  | .nis, .bl a, .bl b => some (!decide (a = b))
  | .is_, a, .non => some (isNonD a)
  | .nis, a, .non => some (!isNonD a)
  | .in_, a, b => memD a b
  | .nin, a, b => (memD a b).map (!·)
  | _, _, _ => none
/-- a[i] -/
def idxD (a i : D) : Option D :=
  match a, i with
  | .str z, .int i => (atI z.cps.toList i).map fun c => .str ⟨#[c]⟩
  | .lst ds, .int i => atI ds i
  | .tup ds, .int i => atI ds i
  | .scr ns, .int i => (atI ns i).map .int
  | .dK kvs, k => (keyD k).bind (dGet kvs)
  | .dT kvs, k => (keyT k).bind (dGet kvs)
  | _, _ => none
def cutL {α : Type} (xs : List α) (lo hi : Option Int) : List α := (xs.drop (HT.sIx xs.length 0 lo)).take (HT.sIx xs.length xs.length hi - HT.sIx xs.length 0 lo)
def slcD (a : D) (lo hi : Option Int) : Option Slot :=
  match a with
  | .str z => some (.sh (.str ⟨(cutL z.cps.toList lo hi).toArray⟩))
  | .lst ds => some (.ol (cutL ds lo hi))
  | .tup ds => some (.sh (.tup (cutL ds lo hi)))
  | _ => none
def revD : D → Option Slot
  | .lst ds => some (.ol ds.reverse)
  | .tup ds => some (.sh (.tup ds.reverse))
  | _ => none
def intsD : List D → Option (List Int)
  | [] => some []
  | .int i :: ds => (intsD ds).map (i :: ·)
  | _ => none
def strsD : List D → Option (List Str)
  | [] => some []
  | .str i :: ds => (strsD ds).map (i :: ·)
  | _ => none
def blsD : List D → Option (List Bool)
  | [] => some []
  | .bl i :: ds => (blsD ds).map (i :: ·)
  | _ => none
/-- ints in order -/
def insI (x : Int) : List Int → List Int
  | [] => [x]
  | y :: l => if x ≤ y then x :: y :: l else y :: insI x l
def sortI : List Int → List Int
  | [] => []
  | x :: l => insI x (sortI l)
theorem insI_perm (x : Int) : ∀ l : List Int, (insI x l).Perm (x :: l)
  | [] => .refl _
  | y :: l => by
    unfold insI
    split
    · exact .refl _
    · exact (((insI_perm x l)).cons y).trans (.swap x y l)
theorem sortI_perm : ∀ l : List Int, (sortI l).Perm l
  | [] => .refl _
  | x :: l => (insI_perm x (sortI l)).trans ((sortI_perm l).cons x)
theorem insI_sorted (x : Int) : ∀ l : List Int, l.Pairwise (· ≤ ·) → (insI x l).Pairwise (· ≤ ·)
  | [], _ => List.pairwise_singleton ..
  | y :: l, h => by
    unfold insI
    have h1 := List.pairwise_cons.mp h
    split
    · rename_i hx
      refine List.pairwise_cons.mpr ⟨fun z hz => ?_, h⟩
      rcases List.mem_cons.mp hz with e | hz
      · rw [e]; exact hx
      · have := h1.1 z hz; omega
    · rename_i hx
      refine List.pairwise_cons.mpr ⟨fun z hz => ?_, insI_sorted x l h1.2⟩
      rcases List.mem_cons.mp (((insI_perm x l)).mem_iff.mp hz) with e | hz
      · rw [e]; omega
      · exact h1.1 z hz
theorem sortI_sorted : ∀ l : List Int, (sortI l).Pairwise (· ≤ ·)
  | [] => .nil
  | x :: l => insI_sorted x _ (sortI_sorted l)
def keyBack : Key → D
  | .inl i => .int i
  | .inr x => .str x
def biD : Bi → D → Option Slot
  | .len, .str x => some (.sh (.int x.length))
  | .len, .lst ds => some (.sh (.int ds.length))
  | .len, .tup ds => some (.sh (.int ds.length))
  | .len, .scr ns => some (.sh (.int ns.length))
  | .len, .dK kvs => some (.sh (.int kvs.length))
  | .len, .dT kvs => some (.sh (.int kvs.length))
  | .tupleO, .lst ds => some (.sh (.tup ds))
  | .tupleO, .tup ds => some (.sh (.tup ds))
  | .listO, .lst ds => some (.ol ds)
  | .listO, .tup ds => some (.ol ds)
  | .maxO, .lst ds => (intsD ds).bind fun ns => ns.max?.map fun m => .sh (.int m)
  | .minO, .lst ds => (intsD ds).bind fun ns => ns.min?.map fun m => .sh (.int m)
  | .sumO, .lst ds => (intsD ds).map fun ns => .sh (.int ns.sum)
  | .allO, .lst ds => (blsD ds).map fun ns => .sh (.bl (ns.all id))
  | .absO, .int i => some (.sh (.int (if i < 0 then -i else i)))
  | .intO, .int i => some (.sh (.int i))
  | .intO, .bl b => some (.sh (.int (if b then 1 else 0)))
  | .boolO, .int i => some (.sh (.bl (i != 0)))
  | .boolO, .bl b => some (.sh (.bl b))
  | .sortO, .lst ds => (intsD ds).bind fun ns => some (.ol ((sortI ns).map .int))
  | .sortO, .dK kvs => (intsD (kvs.map fun p => keyBack p.1)).bind fun ns => if ns.length < 64 then some (.ol ((sortI ns).map .int)) else none
  | _, _ => none
def isTy : Ty → D → Option Bool
  | t, d => match t, d with
    | .int, .int _ => some true
    | .int, .bl _ => some true
    | .bool, .bl _ => some true
    | .str, .str _ => some true
    | .list, .lst _ => some true
    | .tuple, .tup _ => some true
    | _, .dK _ => none
    | _, .dT _ => none
    | _, .scr _ => none
    | _, _ => some false
/-- ints, each once, in order -/
def dedupI : List Int → List Int
  | [] => []
  | x :: xs => if x ∈ xs then dedupI xs else x :: dedupI xs
def ssetI (ns : List Int) : List Int := sortI (dedupI ns)
/-- one-sign texts as their signs -/
def signsD : List D → Option (List Nat)
  | [] => some []
  | .str x :: ds => match x.cps.toList with
    | [c] => (signsD ds).map (c :: ·)
    | _ => none
  | _ => none
def insN (x : Nat) : List Nat → List Nat
  | [] => [x]
  | y :: l => if x ≤ y then x :: y :: l else y :: insN x l
def sortN : List Nat → List Nat
  | [] => []
  | x :: l => insN x (sortN l)
theorem insN_perm (x : Nat) : ∀ l : List Nat, (insN x l).Perm (x :: l)
  | [] => .refl _
  | y :: l => by
    unfold insN
    split
    · exact .refl _
    · exact (((insN_perm x l)).cons y).trans (.swap x y l)
theorem sortN_perm : ∀ l : List Nat, (sortN l).Perm l
  | [] => .refl _
  | x :: l => (insN_perm x (sortN l)).trans ((sortN_perm l).cons x)
theorem insN_sorted (x : Nat) : ∀ l : List Nat, l.Pairwise (· ≤ ·) → (insN x l).Pairwise (· ≤ ·)
  | [], _ => List.pairwise_singleton ..
  | y :: l, h => by
    unfold insN
    have h1 := List.pairwise_cons.mp h
    split
    · rename_i hx
      refine List.pairwise_cons.mpr ⟨fun z hz => ?_, h⟩
      rcases List.mem_cons.mp hz with e | hz
      · rw [e]; exact hx
      · have := h1.1 z hz; omega
    · rename_i hx
      refine List.pairwise_cons.mpr ⟨fun z hz => ?_, insN_sorted x l h1.2⟩
      rcases List.mem_cons.mp (((insN_perm x l)).mem_iff.mp hz) with e | hz
      · rw [e]; omega
      · exact h1.1 z hz
theorem sortN_sorted : ∀ l : List Nat, (sortN l).Pairwise (· ≤ ·)
  | [] => .nil
  | x :: l => insN_sorted x _ (sortN_sorted l)
def dedupN : List Nat → List Nat
  | [] => []
  | x :: xs => if x ∈ xs then dedupN xs else x :: dedupN xs
def ssetN (ns : List Nat) : List Nat := sortN (dedupN ns)
def sgn (c : Nat) : D := .str ⟨#[c]⟩
/-- sorted(set(a)) -/
def ssetD : D → Option Slot
  | .str x => if x.length < 64 then some (.ol ((ssetN x.cps.toList).map sgn)) else none
  | .lst ds => match intsD ds with
    | some ns => if ns.length < 64 then some (.ol ((ssetI ns).map .int)) else none
    | none => match signsD ds with
      | some cs => if cs.length < 64 then some (.ol ((ssetN cs).map sgn)) else none
      | none => none
  | .tup ds => (intsD ds).bind fun ns => if ns.length < 64 then some (.ol ((ssetI ns).map .int)) else none
  | _ => none
def lsetD : D → Option Slot
  | .tup ds => (intsD ds).bind fun ns => if ns.length < 64 then some (.sh (.int (dedupI ns).length)) else none
  | _ => none
def joinD (o a : D) : Option Slot :=
  match o, a with
  | .str z, .lst ds => (strsD ds).bind fun xs => if (xs.map Str.length).sum + xs.length * z.length ≤ 16777216 then some (.sh (.str (Str.join z xs))) else none
  | .str z, .tup ds => (strsD ds).bind fun xs => if (xs.map Str.length).sum + xs.length * z.length ≤ 16777216 then some (.sh (.str (Str.join z xs))) else none
  | _, _ => none
def findIx {α : Type} (p : α → Bool) : List α → Option Nat
  | [] => none
  | x :: xs => if p x then some 0 else (findIx p xs).map (· + 1)
def indexD (o a : D) : Option Slot :=
  match o, a with
  | .lst ds, .int i => (intsD ds).bind fun ns => (findIx (fun z => decide (z = i)) ns).map fun (j : Nat) => .sh (.int (j : Int))
  | _, _ => none
def getD (o a b : D) : Option D :=
  match o with
  | .dK kvs => (keyD a).map fun k => (dGet kvs k).getD b
  | .dT kvs => (keyT a).map fun k => (dGet kvs k).getD b
  | _ => none
def splitD (o a : D) : Option Slot :=
  match o, a with
  | .str z, .str y => if (y.length == 0) = false ∧ z.length + 2 ≤ sizeLine then some (.ol ((Txt.split z y).map .str)) else none
  | _, _ => none
/-- what a for walks -/
def walkD : D → Option (List D)
  | .lst ds => some ds
  | .tup ds => some ds
  | .str z => some (z.cps.toList.map sgn)
  | .dK kvs => some (kvs.map fun p => keyBack p.1)
  | _ => none
def rngD (lo : Int) (n : Nat) : List D := (List.range n).map fun i => .int (lo + (i : Nat))
def enumD (i : Nat) : List D → List D
  | [] => []
  | d :: ds => .tup [.int (i : Nat), d] :: enumD (i + 1) ds
def zipD : List D → List D → List D
  | a :: as, b :: bs => .tup [a, b] :: zipD as bs
  | _, _ => []

/-! ### environments -/
def wipeE (ρ : En) : List Nat → En
  | [] => ρ
  | v :: vs => (wipeE ρ vs).set v none
def setMany (ρ : En) : List Nat → List D → Option En
  | [], [] => some ρ
  | i :: is, d :: ds => setMany (ρ.set i (some (.sh d))) is ds
  | _, _ => none
def bindT : Tg → D → En → Option En
  | .one i, d, ρ => some (ρ.set i (some (.sh d)))
  | .many is, .tup ds, ρ => if ds.length = is.length then setMany ρ is ds else none
  | _, _, _ => none
def rd (ρ : En) (i : Nat) : Option Slot :=
  match ρ[i]? with
  | some (some sl) => some sl
  | _ => none
def asB : Option D → Option Bool
  | some (.bl b) => some b
  | _ => none
def asI : Option D → Option (Option Int)
  | some (.int i) => some (some i)
  | _ => none
def bl (b : Option Bool) : Option Slot := b.map fun c => .sh (.bl c)
def dsl (d : Option D) : Option Slot := d.map .sh
def dOf (s : Option Slot) : Option D := s.map Slot.d

def lcL (F : En → Option D) (C : En → Option Bool) (B : D → Option En) : List D → Option (List D)
  | [] => some []
  | d :: ds => match B d with
    | none => none
    | some ρ' => match C ρ' with
      | none => none
      | some false => lcL F C B ds
      | some true => match F ρ' with
        | none => none
        | some y => (lcL F C B ds).map (y :: ·)

/-- what an expression is worth: as a value, read only, as arguments, as a slice's part, as a comprehension's test, as what is walked -/
structure W where
  s : Option Slot
  b : Option D
  l : Option (List D)
  p : Option (Option Int)
  c : Option Bool
  i : Option (List D)
def W.of (s : Option Slot) : W := ⟨s, dOf s, none, asI (dOf s), asB (dOf s), (dOf s).bind walkD⟩
def W.it (i : Option (List D)) : W := ⟨none, none, none, none, none, i⟩

/-- one step each, of the parts' worths -/
def shOnly : Option Slot → Option Slot
  | some (.sh d) => some (.sh d)
  | _ => none
def noDic : Option Slot → Option Slot
  | some (.ok _) => none
  | some (.ot _) => none
  | s => s
def two {α : Type} (x y : Option D) (f : D → D → Option α) : Option α :=
  match x, y with
  | some a, some b => f a b
  | _, _ => none
def chn (op op' : COp) (x y z : Option D) : Option Slot :=
  match x, y with
  | some x, some y => match opCmp op x y with
    | some false => some (.sh (.bl false))
    | some true => match z with
      | some z => bl (opCmp op' y z)
      | none => none
    | none => none
  | _, _ => none
def andS (x y : Option Bool) : Option Slot :=
  match x with
  | some true => bl y
  | some false => some (.sh (.bl false))
  | none => none
def orS (x y : Option Bool) : Option Slot :=
  match x with
  | some false => bl y
  | some true => some (.sh (.bl true))
  | none => none
def iteS (c : Option Bool) (x y : Option Slot) : Option Slot :=
  match c with
  | some true => x
  | some false => y
  | none => none
def slcS (x : Option D) (l h : Option (Option Int)) : Option Slot :=
  match x, l, h with
  | some x, some l, some h => slcD x l h
  | _, _, _ => none
def biRS (f : Bi) (x : Option D) : Option Slot :=
  match f, x with
  | .tupleO, some (.int n) => if 0 ≤ n ∧ n ≤ 16777216 then some (.sh (.tup (rngD 0 n.toNat))) else none
  | .listO, some (.int n) => if 0 ≤ n ∧ n ≤ 16777216 then some (.ol (rngD 0 n.toNat)) else none
  | _, _ => none
def maxS (x y : Option D) : Option Slot :=
  match x, y with
  | some (.int i), some (.int j) => some (.sh (.int (if j > i then j else i)))
  | _, _ => none
def isi2S (t t' : Ty) (x : Option D) : Option Slot :=
  match x with
  | some d => match isTy t d, isTy t' d with
    | some x, some y => some (.sh (.bl (x || y)))
    | _, _ => none
  | none => none
def getS (x y z : Option D) : Option Slot :=
  match x, y, z with
  | some x, some y, some z => dsl (getD x y z)
  | _, _, _ => none
def tupS (l : Option (List D)) : Option Slot := l.bind fun ds => if ds.length ≤ sizeLine then some (.sh (.tup ds)) else none
def lstS (l : Option (List D)) : Option Slot := l.bind fun ds => if ds.length ≤ sizeLine then some (.ol ds) else none
def dicKS (l : Option (List D)) : Option Slot :=
  match l with
  | some [] => some (.ok [])
  | some [k, v] => (keyD k).map fun k => .ok [(k, v)]
  | _ => none
/-- {k: v} -/
def dic1S (k v : Option D) : Option Slot :=
  match k, v with
  | some k, some v => (keyD k).map fun k => .ok [(k, v)]
  | _, _ => none
def dic1TS (k v : Option D) : Option Slot :=
  match k, v with
  | some k, some v => (keyT k).map fun k => .ot [(k, v)]
  | _, _ => none
def dicTS (l : Option (List D)) : Option Slot :=
  match l with
  | some [] => some (.ot [])
  | some [k, v] => (keyT k).map fun k => .ot [(k, v)]
  | _ => none
def lcS (F : En → Option D) (C : En → Option Bool) (B : D → Option En) (ds : Option (List D)) : Option Slot :=
  ds.bind fun ds => if ds.length ≤ sizeLine then (lcL F C B ds).map .ol else none
def consS (x : Option D) (l : Option (List D)) : Option (List D) :=
  match x, l with
  | some d, some ds => some (d :: ds)
  | _, _ => none
def rng1S (x : Option D) : Option (List D) :=
  match x with
  | some (.int n) => if -(2 ^ 62) ≤ n ∧ n < 2 ^ 62 then some (rngD 0 n.toNat) else none
  | _ => none
def rng2S (x y : Option D) : Option (List D) :=
  match x, y with
  | some (.int m), some (.int n) => if -(2 ^ 62) ≤ m ∧ m < 2 ^ 62 ∧ -(2 ^ 62) ≤ n ∧ n < 2 ^ 62 then some (rngD m (n - m).toNat) else none
  | _, _ => none
def zipS (x y : D) : Option (List D) :=
  match x, y with
  | .lst x, .lst y => some (zipD x y)
  | .tup x, .tup y => some (zipD x y)
  | _, _ => none
def enumS (x : D) : Option (List D) :=
  match x with
  | .lst x => some (enumD 0 x)
  | .tup x => some (enumD 0 x)
  | _ => none
def itemsS (x : Option D) : Option (List D) :=
  match x with
  | some (.dK kvs) => some (kvs.map fun p => .tup [keyBack p.1, p.2])
  | _ => none

section
variable (gv : Nat → Option D) (cal : Nat → List D → Option Slot)
def evA : E → En → W
  | .var i, ρ => ⟨shOnly (rd ρ i), dOf (rd ρ i), none, asI (dOf (rd ρ i)), asB (dOf (rd ρ i)), (dOf (noDic (rd ρ i))).bind walkD⟩
  | .cI i, _ => .of (some (.sh (.int i)))
  | .cS x, _ => .of (some (.sh (.str x)))
  | .cB b, _ => .of (some (.sh (.bl b)))
  | .cN, _ => .of (some (.sh .non))
  | .neg i, _ => .of (some (.sh (.int (-i))))
  | .glb g, _ => .of (dsl (gv g))
  | .bin op a b, ρ => .of (two (evA a ρ).b (evA b ρ).b (opBin op))
  | .cmp op a b, ρ => .of (bl (two (evA a ρ).b (evA b ρ).b (opCmp op)))
  | .chain op op' a b c, ρ => .of (chn op op' (evA a ρ).b (evA b ρ).b (evA c ρ).b)
  | .and_ a b, ρ => .of (andS (asB (evA a ρ).b) (asB (evA b ρ).b))
  | .or_ a b, ρ => .of (orS (asB (evA a ρ).b) (asB (evA b ρ).b))
  | .not_ a, ρ => .of (bl ((asB (evA a ρ).b).map (!·)))
  | .ite c a b, ρ => .of (iteS (asB (evA c ρ).b) (evA a ρ).s (evA b ρ).s)
  | .idx a i, ρ => .of (dsl (two (evA a ρ).b (evA i ρ).b idxD))
  | .slc a lo hi, ρ => .of (slcS (evA a ρ).b (evA lo ρ).p (evA hi ρ).p)
  | .rev a, ρ => .of ((evA a ρ).b.bind revD)
  | .call f args, ρ => .of ((evA args ρ).l.bind (cal f))
  | .glist f args, ρ => .of ((evA args ρ).l.bind (cal f))
  | .bi1 f a, ρ => .of ((evA a ρ).b.bind (biD f))
  | .biR f a, ρ => .of (biRS f (evA a ρ).b)
  | .max2 a b, ρ => .of (maxS (evA a ρ).b (evA b ρ).b)
  | .isi a t, ρ => .of (bl ((evA a ρ).b.bind (isTy t)))
  | .isi2 a t t', ρ => .of (isi2S t t' (evA a ρ).b)
  | .sset a, ρ => .of ((evA a ρ).b.bind ssetD)
  | .lset a, ρ => .of ((evA a ρ).b.bind lsetD)
  | .join o a, ρ => .of (two (evA o ρ).b (evA a ρ).b joinD)
  | .index o a, ρ => .of (two (evA o ρ).b (evA a ρ).b indexD)
  | .get o a b, ρ => .of (getS (evA o ρ).b (evA a ρ).b (dOf (evA b ρ).s))
  | .split o a, ρ => .of (two (evA o ρ).b (evA a ρ).b splitD)
  | .tupE es, ρ => .of (tupS (evA es ρ).l)
  | .lstE es, ρ => .of (lstS (evA es ρ).l)
  | .dicK es, ρ => .of (dicKS (evA es ρ).l)
  | .dicT es, ρ => .of (dicTS (evA es ρ).l)
  | .dic1T a b, ρ => .of (dic1TS (dOf (evA a ρ).s) (dOf (evA b ρ).s))
  | .dic1 a b, ρ => .of (dic1S (dOf (evA a ρ).s) (dOf (evA b ρ).s))
  | .lc own elt tg it cond, ρ => .of (lcS (fun ρ' => dOf (evA elt ρ').s) (fun ρ' => (evA cond ρ').c) (fun d => bindT tg d (wipeE ρ own)) (evA it ρ).i)
  | .rng1 a, ρ => .it (rng1S (evA a ρ).b)
  | .rng2 a b, ρ => .it (rng2S (evA a ρ).b (evA b ρ).b)
  | .enum a, ρ => .it ((dOf (evA a ρ).s).bind enumS)
  | .zip a b, ρ => .it (two (dOf (evA a ρ).s) (dOf (evA b ρ).s) zipS)
  | .items a, ρ => .it (itemsS (dOf (evA a ρ).s))
  | .nil, _ => ⟨none, none, some [], some none, some true, none⟩
  | .cons a r, ρ => ⟨none, none, consS (dOf (evA a ρ).s) (evA r ρ).l, none, none, none⟩

/-! ### statements -/
inductive Out where
  | next (ρ : En) | ret (s : Slot) | brk (ρ : En)
def forL (B : D → En → Option En) (f : En → Option Out) : List D → En → Option Out
  | [], ρ => some (.next ρ)
  | d :: ds, ρ => match B d ρ with
    | none => none
    | some ρ' => match f ρ' with
      | none => none
      | some (.next ρ2) => forL B f ds ρ2
      | some (.brk ρ2) => some (.next ρ2)
      | some (.ret s) => some (.ret s)
/-- all that a generator hands out -/
def genL (B : D → En → Option En) (f : En → Option Out) (v : En → Option D) : List D → List D → En → Option (List D)
  | ys, [], _ => some ys
  | ys, d :: ds, ρ => match B d ρ with
    | none => none
    | some ρ' => match f ρ' with
      | some (.next ρ2) => match v ρ2 with
        | some x => if ys.length < sizeLine then genL B f v (ys ++ [x]) ds ρ2 else none
        | none => none
      | _ => none
def whileN (c : En → Option Bool) (f : En → Option Out) : Nat → En → Option Out
  | 0, _ => none
  | n + 1, ρ => match c ρ with
    | none => none
    | some false => some (.next ρ)
    | some true => match f ρ with
      | none => none
      | some (.next ρ2) => whileN c f n ρ2
      | some (.brk ρ2) => some (.next ρ2)
      | some (.ret s) => some (.ret s)
def seqS (x : Option Out) (f : En → Option Out) : Option Out :=
  match x with
  | some (.next ρ) => f ρ
  | x => x
def sto (ρ : En) (i : Nat) (own : Bool) (s : Option Slot) : Option En :=
  if own then s.map fun s => ρ.set i (some s) else (dOf s).map fun d => ρ.set i (some (.sh d))
def asgTS (ρ : En) (is : List Nat) (d : Option D) : Option En := d.bind fun d => bindT (.many is) d ρ
/-- the slots of a tuple display, one by one -/
def evM (gv : Nat → Option D) (cal : Nat → List D → Option Slot) : E → List Bool → En → Option (List Slot)
  | .nil, [], _ => some []
  | .cons a r, o :: os, ρ => match (evA gv cal a ρ).s, evM gv cal r os ρ with
    | some s, some ss => some ((if o then s else .sh s.d) :: ss)
    | _, _ => none
  | _, _, _ => none
def setSl (ρ : En) : List Nat → List Slot → Option En
  | [], [] => some ρ
  | i :: is, s :: ss => setSl (ρ.set i (some s)) is ss
  | _, _ => none
def augS (ρ : En) (i : Nat) (op : BOp) (d : Option D) : Option En :=
  match rd ρ i, d with
  | some (.sh x), some y => match op, x, y with
    | .add, .int a, .int b => some (ρ.set i (some (.sh (.int (a + b)))))
    | .add, .str a, .str b => if a.length + b.length ≤ sizeLine then some (ρ.set i (some (.sh (.str (a ++ b))))) else none
    | _, _, _ => none
  | _, _ => none
def putS (ρ : En) (i : Nat) (k v : Option D) : Option En :=
  match rd ρ i, k, v with
  | some (.ok kvs), some k, some v => (keyD k).bind fun k => if kvs.length < sizeLine then some (ρ.set i (some (.ok (dPut kvs k v)))) else none
  | some (.ot kvs), some k, some v => (keyT k).bind fun k => if kvs.length < sizeLine then some (ρ.set i (some (.ot (dPut kvs k v)))) else none
  | some (.ol ds), some (.int k), some v => (ixN ds.length k).map fun j => ρ.set i (some (.ol (ds.set j v)))
  | _, _, _ => none
def appS (ρ : En) (i : Nat) (v : Option D) : Option En :=
  match rd ρ i, v with
  | some (.ol ds), some v => if ds.length < sizeLine then some (ρ.set i (some (.ol (ds ++ [v])))) else none
  | _, _ => none
def pubS (ρ : En) (i : Nat) : Option En := (rd ρ i).map fun s => ρ.set i (some (.sh s.d))
def nx (ρ : Option En) : Option Out := ρ.map .next

def hidS : Option Slot → Option Slot
  | some (.sh d) => some (.sh d)
  | _ => none
abbrev hidE (ρ : En) : En := ρ.map hidS
def isVarE : E → Bool
  | .var _ => true
  | _ => false
/-- what a for walks is evaluated: a variable's own thing alone is hidden (the body may change it) -/
def hidI (it : E) (ρ : En) : En := bif isVarE it then hidE ρ else ρ
def ex : S → En → Option Out
  | .skip, ρ => some (.next ρ)
  | .pass, ρ => some (.next ρ)
  | .seq a b, ρ => seqS (ex a ρ) fun ρ => ex b ρ
  | .asg i own e, ρ => nx (sto ρ i own (evA gv cal e ρ).s)
  | .asgT is e, ρ => nx (asgTS ρ is (evA gv cal e ρ).b)
  | .par is own es, ρ => nx ((evM gv cal es own ρ).bind (setSl ρ is))
  | .aug i op e, ρ => nx (augS ρ i op (evA gv cal e ρ).b)
  | .put i k e, ρ => nx (putS ρ i (evA gv cal k ρ).b (dOf (evA gv cal e ρ).s))
  | .app i e, ρ => nx (appS ρ i (dOf (evA gv cal e ρ).s))
  | .expr e, ρ => (evA gv cal e ρ).s.map fun _ => .next ρ
  | .ite c a b, ρ => match asB (evA gv cal c ρ).b with
    | some true => ex a ρ
    | some false => ex b ρ
    | none => none
  | .for_ tg it body, ρ => (evA gv cal it (hidI it ρ)).i.bind fun ds => forL (bindT tg) (fun ρ => ex body ρ) ds ρ
  | .while_ n c body, ρ => whileN (fun ρ => asB (evA gv cal c ρ).b) (fun ρ => ex body ρ) n ρ
  | .ret e, ρ => (evA gv cal e ρ).s.map .ret
  | .retV i, ρ => (rd ρ i).map .ret
  | .retN, _ => some (.ret (.sh .non))
  | .brk, ρ => some (.brk ρ)
  | .pub i, ρ => nx (pubS ρ i)
  | .gen_ tg it b e, ρ => (evA gv cal it (hidI it ρ)).i.bind fun ds => (genL (bindT tg) (fun ρ => ex b ρ) (fun ρ => dOf (evA gv cal e ρ).s) [] ds ρ).map fun ys => .ret (.ol ys)

/-- a def: its parameters' number, its slots' number, its body -/
structure Def where
  np : Nat
  ns : Nat
  body : S
def startE (d : Def) (ds : List D) : En := ds.map (fun d => some (.sh d)) ++ List.replicate (d.ns - ds.length) none
def evDef (d : Def) (ds : List D) : Option Slot :=
  if ds.length = d.np then match ex gv cal d.body (startE d ds) with
    | some (.ret s) => some s
    | some (.next _) => some (.sh .non)
    | _ => none
  else none
end
end LJ
/-! LJc: readings of the small language; operations on data. -/
namespace LJ
open PySem PySem.Spec PyProof.Rows L2

theorem PE.imp {X : Cx} {e : Expr} {t t' : TE} (h : PE X e t) (w : ∀ σ H Q, t' σ H Q → t σ H Q) : PE X e t' := ⟨fun pins s σ H Q I q => h.run pins s σ H Q I (w σ H Q q)⟩
theorem PT.imp {X : Cx} {e : Expr} {t t' : TT} (h : PT X e t) (w : ∀ σ H Q, t' σ H Q → t σ H Q) : PT X e t' := ⟨fun pins s σ H Q I q => h.run pins s σ H Q I (w σ H Q q)⟩
theorem PW.imp {X : Cx} {e : Expr} {t t' : TT} (h : PW X e t) (w : ∀ σ H Q, t' σ H Q → t σ H Q) : PW X e t' := ⟨fun wh pins s σ H Q I q => h.run wh pins s σ H Q I (w σ H Q q)⟩
theorem PA.imp {X : Cx} {es : List Expr} {t t' : TA} (h : PA X es t) (w : ∀ σ H Q, t' σ H Q → t σ H Q) : PA X es t' := ⟨fun pos pins s σ H Q I q => h.run pos pins s σ H Q I (w σ H Q q)⟩
theorem PS.imp {X : Cx} {e : Stmt} {t t' : TS} (h : PS X e t) (w : ∀ D σ H, t' D σ H → t D σ H) : PS X e t' := ⟨fun pins s σ H D I q => h.run pins s σ H D I (w D σ H q)⟩
theorem PSs.imp {X : Cx} {e : List Stmt} {t t' : TS} (h : PSs X e t) (w : ∀ D σ H, t' D σ H → t D σ H) : PSs X e t' := ⟨fun pins s σ H D I q => h.run pins s σ H D I (w D σ H q)⟩
theorem PO.imp {X : Cx} {e : Option Expr} {t t' : TO} (h : PO X e t) (w : ∀ σ H Q, t' σ H Q → t σ H Q) : PO X e t' := ⟨fun pins s σ H Q I q => h.run pins s σ H Q I (w σ H Q q)⟩

section
variable (K : PySem.W.Frag)
/-- read only: an own list or dict at the top -/
def BRp (G H : Hp) : D → V → Prop
  | .lst ds, v => ∃ a vs, v = .ref a ∧ H a = some (.lst vs) ∧ RpL K G ds vs
  | .dK kvs, v => ∃ a vs, v = .ref a ∧ Rd H a (.dK vs) ∧ RpK K G kvs vs
  | .dT kvs, v => ∃ a vs, v = .ref a ∧ Rd H a (.dT vs) ∧ RpT K G kvs vs
  | d, v => Rp K G d v
/-- the reading of a value by its worth -/
def tF (F : En → Option Slot) : TE := fun σ H Q => ∃ G0 H0 ρ G sl, SR K G0 H0 ρ σ G H ∧ F ρ = some sl ∧ ∀ v G' H', Stp G H G' H' → SlRp K G' H' H sl v → Q v H'
def tD (F : En → Option D) : TE := fun σ H Q => ∃ G0 H0 ρ G d, SR K G0 H0 ρ σ G H ∧ F ρ = some d ∧ ∀ v G' H', Stp G H G' H' → Rp K G' d v → Q v H'
def tB (F : En → Option D) : TE := fun σ H Q => ∃ G0 H0 ρ G d, SR K G0 H0 ρ σ G H ∧ F ρ = some d ∧ ∀ v G' H', Stp G H G' H' → BRp K G' H' d v → Q v H'
def tL (F : En → Option (List D)) : TA := fun σ H Q => ∃ G0 H0 ρ G ds, SR K G0 H0 ρ σ G H ∧ F ρ = some ds ∧ ∀ vs G' H', Stp G H G' H' → RpL K G' ds vs → Q vs H'
def tT (F : En → Option Bool) : TT := fun σ H Q => ∃ G0 H0 ρ G b, SR K G0 H0 ρ σ G H ∧ F ρ = some b ∧ ∀ G' H', Stp G H G' H' → Q b H'
def tP (F : En → Option (Option Int)) : TO := fun σ H Q => ∃ G0 H0 ρ G o, SR K G0 H0 ρ σ G H ∧ F ρ = some o ∧ ∀ G' H', Stp G H G' H' → Q o H'
end
section
variable {K : PySem.W.Frag} {G H G' H' : Hp} {d : D} {v : V}
theorem BRp.step (h : BRp K G H d v) (s : Stp G H G' H') : BRp K G' H' d v := by
  cases d with
  | lst ds => obtain ⟨a, vs, e1, e2, e3⟩ := h; exact ⟨a, vs, e1, s.h _ _ e2, RpL.mono s.g _ e3⟩
  | dK kvs =>
    obtain ⟨a, vs, e1, e2, e3⟩ := h
    refine ⟨a, vs, e1, ?_, RpK.mono s.g _ e3⟩
    rcases e2 with e2 | ⟨o, e2⟩
    · exact .inl (s.h _ _ e2)
    · exact .inr ⟨o, s.h _ _ e2⟩
  | dT kvs =>
    obtain ⟨a, vs, e1, e2, e3⟩ := h
    refine ⟨a, vs, e1, ?_, RpT.mono s.g _ e3⟩
    rcases e2 with e2 | ⟨o, e2⟩
    · exact .inl (s.h _ _ e2)
    · exact .inr ⟨o, s.h _ _ e2⟩
  | non => exact h
  | bl b => exact Rp.mono (K := K) s.g (.bl b) h
  | int i => exact Rp.mono (K := K) s.g (.int i) h
  | str x => exact Rp.mono (K := K) s.g (.str x) h
  | tup ds => exact Rp.mono (K := K) s.g (.tup ds) h
  | scr ns => exact Rp.mono (K := K) s.g (.scr ns) h
theorem Rp.br (h : Rp K G d v) (e : Same G H) : BRp K G H d v := by
  cases d with
  | lst ds => simp only [Rp] at h; obtain ⟨a, vs, e1, e2, e3⟩ := h; exact ⟨a, vs, e1, e _ _ e2, e3⟩
  | dK kvs => simp only [Rp] at h; obtain ⟨a, o, vs, e1, e2, e3⟩ := h; exact ⟨a, vs, e1, .inr ⟨o, e _ _ e2⟩, e3⟩
  | dT kvs => simp only [Rp] at h; obtain ⟨a, o, vs, e1, e2, e3⟩ := h; exact ⟨a, vs, e1, .inr ⟨o, e _ _ e2⟩, e3⟩
  | non => exact h
  | bl b => exact h
  | int i => exact h
  | str x => exact h
  | tup ds => exact h
  | scr ns => exact h
theorem SlRp.br {H0 : Hp} {sl : Slot} (h : SlRp K G H H0 sl v) (e : Same G H) : BRp K G H sl.d v := by
  cases sl with
  | sh d => exact Rp.br h e
  | ol xs => obtain ⟨a, vs, e1, e2, e3, e4, e5⟩ := h; exact ⟨a, vs, e1, e2, e5⟩
  | ok xs => obtain ⟨a, vs, e1, e2, e3, e4, e5⟩ := h; exact ⟨a, vs, e1, .inl e2, e5⟩
  | ot xs => obtain ⟨a, vs, e1, e2, e3, e4, e5⟩ := h; exact ⟨a, vs, e1, .inl e2, e5⟩
theorem br_int {i : Int} (h : BRp K G H (.int i) v) : v = .int i := by simpa only [BRp, Rp] using h
theorem br_bl {i : Bool} (h : BRp K G H (.bl i) v) : v = .bl i := by simpa only [BRp, Rp] using h
theorem br_non (h : BRp K G H .non v) : v = .non := by simpa only [BRp, Rp] using h
theorem br_str {i : Str} (h : BRp K G H (.str i) v) : v = .str i ∧ StrG i := by simpa only [BRp, Rp] using h
theorem br_tup {ds : List D} (h : BRp K G H (.tup ds) v) (e : Same G H) : ∃ a vs, v = .ref a ∧ H a = some (.tup vs) ∧ RpL K G ds vs := by
  simp only [BRp, Rp] at h
  obtain ⟨a, vs, e1, e2, e3⟩ := h
  exact ⟨a, vs, e1, e _ _ e2, e3⟩
theorem br_scr {ns : List Int} (h : BRp K G H (.scr ns) v) (e : Same G H) : ∃ a, v = .ref a ∧ SqL K H a (ns.map V.int) := by
  simp only [BRp, Rp] at h
  obtain ⟨a, e1, e2⟩ := h
  exact ⟨a, e1, e.seq e2⟩
end

/-! ### freezing: a dict that becomes shared is locked for good -/
section
variable {X : Cx} {e : Expr}
theorem EP.freeze {pins : List (Addr × Obj)} {σ : L2.St} {H : Hp} {s : Shared} {d : Addr} {u : HO} (I : Inv X pins σ H s) (hd : H d = some u) (mu : Mut (some u)) : ∃ od, Inv X pins σ (upd H d (.frz od u)) s := I.lock hd mu
/-- a value from a slot that it stands in: shared -/
theorem toD {F : En → Option Slot} (h : PE X e (tF X.K F)) : PE X e (tD X.K fun ρ => dOf (F ρ)) := by
  refine ⟨fun pins s σ H Q I q => ?_⟩
  obtain ⟨G0, H0, ρ, G, d, r, ed, k⟩ := q
  replace ed : dOf (F ρ) = some d := ed
  cases es : F ρ with
  | none => rw [es] at ed; cases ed
  | some sl =>
    rw [es] at ed
    cases ed
    refine thn (h.run pins s σ H (fun v H' => ∃ G', Stp G H G' H' ∧ SlRp X.K G' H' H sl v) I ⟨G0, H0, ρ, G, sl, r, es, fun v G' H' st q => ⟨G', st, q⟩⟩) fun u s1 ⟨v, H1, I1, rv, G1, st, q⟩ => ?_
    cases sl with
    | sh d => exact ⟨v, H1, I1, rv, k v G1 H1 st q⟩
    | ol xs =>
      obtain ⟨a, vs, e1, e2, e3, e4, e5⟩ := q
      refine ⟨v, H1, I1, rv, k v (upd G1 a (.lst vs)) H1 (st.share e2 e3 e4) ?_⟩
      have sm : Same G1 (upd G1 a (.lst vs)) := fun b o z => by rw [upd_ne (ne_of_none z e3)]; exact z
      simp only [Slot.d, Rp]
      exact ⟨a, vs, e1, upd_same, RpL.mono sm _ e5⟩
    | ok kvs =>
      obtain ⟨a, vs, e1, e2, e3, e4, e5⟩ := q
      obtain ⟨od, I2⟩ := EP.freeze I1 e2 trivial
      have sm : Same G1 (upd G1 a (.frz od (.dK vs))) := fun b o z => by rw [upd_ne (ne_of_none z e3)]; exact z
      refine ⟨v, _, I2, rv, k v (upd G1 a (.frz od (.dK vs))) (upd H1 a (.frz od (.dK vs))) ⟨st.g.trans sm, fun b o z => ?_, fun b o z => ?_, fun p o z => ?_⟩ ?_⟩
      · rw [upd_ne (ne_of_none z e4)]; exact st.h _ _ z
      · by_cases hb : b = a
        · subst hb; rw [upd_same] at z ⊢; exact z
        · rw [upd_ne hb] at z ⊢; exact st.gh _ _ z
      · by_cases hp : p = a
        · subst hp; exact .inr e4
        · rw [upd_ne hp] at z; exact st.new p o z
      · simp only [Slot.d, Rp]
        exact ⟨a, od, vs, e1, upd_same, RpK.mono sm _ e5⟩
    | ot kvs =>
      obtain ⟨a, vs, e1, e2, e3, e4, e5⟩ := q
      obtain ⟨od, I2⟩ := EP.freeze I1 e2 trivial
      have sm : Same G1 (upd G1 a (.frz od (.dT vs))) := fun b o z => by rw [upd_ne (ne_of_none z e3)]; exact z
      refine ⟨v, _, I2, rv, k v (upd G1 a (.frz od (.dT vs))) (upd H1 a (.frz od (.dT vs))) ⟨st.g.trans sm, fun b o z => ?_, fun b o z => ?_, fun p o z => ?_⟩ ?_⟩
      · rw [upd_ne (ne_of_none z e4)]; exact st.h _ _ z
      · by_cases hb : b = a
        · subst hb; rw [upd_same] at z ⊢; exact z
        · rw [upd_ne hb] at z ⊢; exact st.gh _ _ z
      · by_cases hp : p = a
        · subst hp; exact .inr e4
        · rw [upd_ne hp] at z; exact st.new p o z
      · simp only [Slot.d, Rp]
        exact ⟨a, od, vs, e1, upd_same, RpT.mono sm _ e5⟩
theorem DtoB {F : En → Option D} (h : PE X e (tD X.K F)) : PE X e (tB X.K F) := PE.imp h fun σ H Q ⟨G0, H0, ρ, G, d, r, ed, k⟩ => ⟨G0, H0, ρ, G, d, r, ed, fun v G' H' st q => k v G' H' st (q.br st.gh)⟩
theorem toB {F : En → Option Slot} (h : PE X e (tF X.K F)) : PE X e (tB X.K fun ρ => dOf (F ρ)) := DtoB (toD h)
end

/-! ### putting readings together -/
section
variable {K : PySem.W.Frag}
theorem two_some {α : Type} {x y : Option D} {f : D → D → Option α} {r : α} (h : two x y f = some r) : ∃ a b, x = some a ∧ y = some b ∧ f a b = some r := by
  cases x with
  | none => cases h
  | some a => cases y with
    | none => cases h
    | some b => exact ⟨a, b, rfl, rfl, h⟩
/-- an operation of two by values does what f says -/
def OpD (K : PySem.W.Frag) (r : R2) (f : D → D → Option Slot) : Prop :=
  ∀ G H da db sl va vb Q, Same G H → f da db = some sl → BRp K G H da va → BRp K G H db vb → (∀ v G' H', Stp G H G' H' → SlRp K G' H' H sl v → Q v H') → r va vb H Q
theorem tOp_of {r : R2} {f : D → D → Option Slot} {Fa Fb : En → Option D} (ho : OpD K r f) : ∀ σ H Q, tF K (fun ρ => two (Fa ρ) (Fb ρ) f) σ H Q → tOp r (tB K Fa) (tB K Fb) σ H Q := by
  rintro σ H Q ⟨G0, H0, ρ, G, sl, R, e, k⟩
  obtain ⟨da, db, ea, eb, ef⟩ := two_some e
  refine ⟨G0, H0, ρ, G, da, R, ea, fun va G1 H1 st1 b1 => ⟨G0, H0, ρ, G1, db, R.step st1, eb, fun vb G2 H2 st2 b2 => ?_⟩⟩
  exact ho G2 H2 da db sl va vb Q st2.gh ef (b1.step st2) b2 fun v G3 H3 st3 q => k v G3 H3 (st1.trans (st2.trans st3)) (q.old (st1.h.trans st2.h))
theorem slBl {G H H0 : Hp} {b : Bool} : SlRp K G H H0 (.sh (.bl b)) (.bl b) := by simp only [SlRp, Rp]
theorem slInt {G H H0 : Hp} {b : Int} : SlRp K G H H0 (.sh (.int b)) (.int b) := by simp only [SlRp, Rp]
theorem slNon {G H H0 : Hp} : SlRp K G H H0 (.sh .non) .non := by simp only [SlRp, Rp]
theorem slStr {G H H0 : Hp} {x : Str} (h : StrG x) : SlRp K G H H0 (.sh (.str x)) (.str x) := by simp only [SlRp, Rp]; exact ⟨trivial, h⟩
theorem bl_some {b : Option Bool} {sl : Slot} (h : bl b = some sl) : ∃ c, b = some c ∧ sl = .sh (.bl c) := by
  cases b with
  | none => cases h
  | some c => cases h; exact ⟨c, rfl, rfl⟩
/-- a new list, a new tuple -/
theorem newL {G H : Hp} {ds : List D} {vs : List V} {p : Addr} (e : Same G H) (hp : H p = none) (h : RpL K G ds vs) : Stp G H G (upd H p (.lst vs)) ∧ SlRp K G (upd H p (.lst vs)) H (.ol ds) (.ref p) :=
  ⟨Stp.own e hp, p, vs, rfl, upd_same, e.free hp, hp, h⟩
theorem newT {G H : Hp} {ds : List D} {vs : List V} {p : Addr} (e : Same G H) (hp : H p = none) (h : RpL K G ds vs) :
    Stp G H (upd G p (.tup vs)) (upd H p (.tup vs)) ∧ SlRp K (upd G p (.tup vs)) (upd H p (.tup vs)) H (.sh (.tup ds)) (.ref p) := by
  have st := Stp.pub (o := HO.tup vs) e hp
  refine ⟨st, ?_⟩
  simp only [SlRp, Rp]
  exact ⟨p, vs, rfl, upd_same, RpL.mono st.g _ h⟩
end

/-! ### data as the library knows them -/
section
variable {K : PySem.W.Frag} {G H : Hp}
mutual
theorem Rp.dp (e : Same G H) : ∀ (d : D) {v : V} {x : PyData}, Rp K G d v → toPy d = some x → Dp K H v x
  | .non, v, x, h, q => by simp only [Rp] at h; simp only [toPy] at q; cases q; subst h; exact .non
  | .bl b, v, x, h, q => by simp only [Rp] at h; simp only [toPy] at q; cases q; subst h; exact .bl b
  | .int i, v, x, h, q => by simp only [Rp] at h; simp only [toPy] at q; cases q; subst h; exact .int i
  | .str z, v, x, h, q => by simp only [Rp] at h; simp only [toPy] at q; cases q; rw [h.1]; exact .str z
  | .lst ds, v, x, h, q => by
    simp only [Rp] at h
    obtain ⟨a, vs, e1, e2, e3⟩ := h
    simp only [toPy] at q
    cases qs : toPyL ds with
    | none => rw [qs] at q; cases q
    | some ys => rw [qs] at q; cases q; subst e1; exact .lst (.inl (.inl (e _ _ e2))) (RpL.dp e ds e3 qs)
  | .tup ds, v, x, h, q => by
    simp only [Rp] at h
    obtain ⟨a, vs, e1, e2, e3⟩ := h
    simp only [toPy] at q
    cases qs : toPyL ds with
    | none => rw [qs] at q; cases q
    | some ys => rw [qs] at q; cases q; subst e1; exact .tup (.inl (.inl (e _ _ e2))) (RpL.dp e ds e3 qs)
  | .scr _, v, x, h, q => by simp only [toPy] at q; cases q
  | .dK _, v, x, h, q => by simp only [toPy] at q; cases q
  | .dT _, v, x, h, q => by simp only [toPy] at q; cases q
theorem RpL.dp (e : Same G H) : ∀ (ds : List D) {vs : List V} {xs : List PyData}, RpL K G ds vs → toPyL ds = some xs → DpAll K H vs xs
  | [], vs, xs, h, q => by simp only [RpL] at h; simp only [toPyL] at q; cases q; subst h; exact .nil
  | d :: ds, vs, xs, h, q => by
    simp only [RpL] at h
    obtain ⟨x, r, e1, e2, e3⟩ := h
    simp only [toPyL] at q
    cases q1 : toPy d with
    | none => rw [q1] at q; cases q
    | some y =>
      cases q2 : toPyL ds with
      | none => rw [q1, q2] at q; cases q
      | some ys => rw [q1, q2] at q; cases q; subst e1; exact .cons (Rp.dp e d e2 q1) (RpL.dp e ds e3 q2)
end
theorem BRp.dp (e : Same G H) {d : D} {v : V} {x : PyData} (h : BRp K G H d v) (q : toPy d = some x) : Dp K H v x := by
  cases d with
  | lst ds =>
    obtain ⟨a, vs, e1, e2, e3⟩ := h
    simp only [toPy] at q
    cases qs : toPyL ds with
    | none => rw [qs] at q; cases q
    | some ys => rw [qs] at q; cases q; subst e1; exact .lst (.inl (.inl e2)) (RpL.dp e ds e3 qs)
  | dK kvs => simp only [toPy] at q; cases q
  | dT kvs => simp only [toPy] at q; cases q
  | non => exact Rp.dp (K := K) e .non h q
  | bl b => exact Rp.dp (K := K) e (.bl b) h q
  | int i => exact Rp.dp (K := K) e (.int i) h q
  | str z => exact Rp.dp (K := K) e (.str z) h q
  | tup ds => exact Rp.dp (K := K) e (.tup ds) h q
  | scr ns => exact Rp.dp (K := K) e (.scr ns) h q
mutual
theorem Rp.lay : ∀ (d : D) {v : V} {x : PyData}, Rp K G d v → toPy d = some x → x.canLay0 = true
  | .non, v, x, h, q => by simp only [toPy] at q; cases q; simp only [PyData.canLay0]
  | .bl b, v, x, h, q => by simp only [toPy] at q; cases q; simp only [PyData.canLay0]
  | .int i, v, x, h, q => by simp only [toPy] at q; cases q; simp only [PyData.canLay0]
  | .str z, v, x, h, q => by simp only [Rp] at h; simp only [toPy] at q; cases q; simp only [PyData.canLay0]; exact h.2.2
  | .lst ds, v, x, h, q => by
    simp only [Rp] at h
    obtain ⟨a, vs, e1, e2, e3⟩ := h
    simp only [toPy] at q
    cases qs : toPyL ds with
    | none => rw [qs] at q; cases q
    | some ys => rw [qs] at q; cases q; simp only [PyData.canLay0]; exact RpL.lay ds e3 qs
  | .tup ds, v, x, h, q => by
    simp only [Rp] at h
    obtain ⟨a, vs, e1, e2, e3⟩ := h
    simp only [toPy] at q
    cases qs : toPyL ds with
    | none => rw [qs] at q; cases q
    | some ys => rw [qs] at q; cases q; simp only [PyData.canLay0]; exact RpL.lay ds e3 qs
  | .scr _, v, x, h, q => by simp only [toPy] at q; cases q
  | .dK _, v, x, h, q => by simp only [toPy] at q; cases q
  | .dT _, v, x, h, q => by simp only [toPy] at q; cases q
theorem RpL.lay : ∀ (ds : List D) {vs : List V} {xs : List PyData}, RpL K G ds vs → toPyL ds = some xs → PyData.canLayAll0 xs = true
  | [], vs, xs, h, q => by simp only [toPyL] at q; cases q; simp only [PyData.canLayAll0]
  | d :: ds, vs, xs, h, q => by
    simp only [RpL] at h
    obtain ⟨x, r, e1, e2, e3⟩ := h
    simp only [toPyL] at q
    cases q1 : toPy d with
    | none => rw [q1] at q; cases q
    | some y =>
      cases q2 : toPyL ds with
      | none => rw [q1, q2] at q; cases q
      | some ys => rw [q1, q2] at q; cases q; simp only [PyData.canLayAll0, Bool.and_eq_true]; exact ⟨Rp.lay d e2 q1, RpL.lay ds e3 q2⟩
end
theorem BRp.lay {d : D} {v : V} {x : PyData} (h : BRp K G H d v) (q : toPy d = some x) : x.canLay0 = true := by
  cases d with
  | lst ds =>
    obtain ⟨a, vs, e1, e2, e3⟩ := h
    simp only [toPy] at q
    cases qs : toPyL ds with
    | none => rw [qs] at q; cases q
    | some ys => rw [qs] at q; cases q; simp only [PyData.canLay0]; exact RpL.lay ds e3 qs
  | dK kvs => simp only [toPy] at q; cases q
  | dT kvs => simp only [toPy] at q; cases q
  | non => exact Rp.lay (K := K) (G := G) .non h q
  | bl b => exact Rp.lay (K := K) (G := G) (.bl b) h q
  | int i => exact Rp.lay (K := K) (G := G) (.int i) h q
  | str z => exact Rp.lay (K := K) (G := G) (.str z) h q
  | tup ds => exact Rp.lay (K := K) (G := G) (.tup ds) h q
  | scr ns => exact Rp.lay (K := K) (G := G) (.scr ns) h q
theorem shaped_of {x : PyData} (h : x.canLay0 = true) (hd : x.depth ≤ 64) : SeqAt.shaped x = true := by
  show (x.canLay0 && decide (x.depth ≤ 64)) = true
  rw [Bool.and_eq_true]
  exact ⟨h, decide_eq_true hd⟩
end
end LJ
/-! LJd: operations on data, by the library's rules. -/
namespace LJ
open PySem PySem.Spec PyProof.Rows L2
section
variable {K : PySem.W.Frag}
theorem strOk_append {x y : Str} (hx : PyData.strOk x = true) (hy : PyData.strOk y = true) : PyData.strOk (x ++ y) = true := by
  unfold PyData.strOk at *
  rw [Str.cps_append, Array.all_append, hx, hy]; rfl
theorem strOk_iff {x : Str} : PyData.strOk x = true ↔ ∀ c ∈ x.cps.toList, c < 0x110000 := by
  unfold PyData.strOk
  rw [← Array.all_toList, List.all_eq_true]
  simp only [decide_eq_true_eq]
theorem StrG.append {x y : Str} (hx : StrG x) (hy : StrG y) (h : x.length + y.length ≤ sizeLine) : StrG (x ++ y) :=
  ⟨by rw [Str.length_append]; exact h, strOk_append hx.2 hy.2⟩
theorem StrG.sub {x : Str} {l : List Nat} (hx : StrG x) (hl : l.length ≤ sizeLine) (h : ∀ c ∈ l, c ∈ x.cps.toList) : StrG ⟨l.toArray⟩ :=
  ⟨by show l.toArray.size ≤ _; rw [List.size_toArray]; exact hl, strOk_iff.mpr fun c hc => strOk_iff.mp hx.2 c (h c (by simpa using hc))⟩
theorem StrG.one {x : Str} {c : Nat} (hx : StrG x) (h : c ∈ x.cps.toList) : StrG ⟨#[c]⟩ :=
  StrG.sub (l := [c]) hx (by show 1 ≤ sizeLine; decide) fun d hd => by
    have e : d = c := by simpa using hd
    rw [e]; exact h
theorem str_len {x : Str} : x.cps.toList.length = x.length := by rw [Array.length_toList]; rfl

/-! ### + - * // % ** -/
def rAddA (K : PySem.W.Frag) : R2 := fun x y H Q => ((rI0 fun i j => .int (i + j)) x y H Q ∨ (∃ i j, x = .str i ∧ y = .str j ∧ i.length + j.length ≤ sizeLine ∧ Q (.str (i ++ j)) H)) ∨ (rCatA K x y H Q ∨ rCat x y H Q)
theorem opR_add {X : Cx} : OpR X (binaryOp .Add) (rAddA X.K) := (op_add.or op_add_str).or (op_catA.or op_cat)
theorem tup_nil {ds : List D} {vs : List V} {G : Hp} (h : RpL K G ds vs) : vs = [] ↔ ds = [] := by
  have := h.length
  constructor
  · intro e; rw [e] at this; exact List.eq_nil_of_length_eq_zero this.symm
  · intro e; rw [e] at this; exact List.eq_nil_of_length_eq_zero this
theorem opD_add : OpD K (rAddA K) (opBin .add) := by
  intro G H da db sl va vb Q e hf ha hb k
  cases da with
  | int i => cases db with
    | int j =>
      cases hf
      rw [br_int ha, br_int hb]
      exact .inl (.inl ⟨i, j, rfl, rfl, k _ G H (Stp.refl e) slInt⟩)
    | _ => cases hf
  | str x => cases db with
    | str y =>
      obtain ⟨rfl, gx⟩ := br_str ha
      obtain ⟨rfl, gy⟩ := br_str hb
      simp only [opBin] at hf
      split at hf
      · rename_i hl
        cases hf
        exact .inl (.inr ⟨x, y, rfl, rfl, hl, k _ G H (Stp.refl e) (slStr (gx.append gy hl))⟩)
      · cases hf
    | _ => cases hf
  | tup xs => cases db with
    | tup ys =>
      obtain ⟨a, vs, rfl, h1, r1⟩ := br_tup ha e
      obtain ⟨b, ws, rfl, h2, r2⟩ := br_tup hb e
      simp only [opBin] at hf
      split at hf
      · rename_i hl
        cases hf
        refine .inr (.inl ⟨a, b, vs, ws, rfl, rfl, .inl (.inl h1), .inl (.inl h2), by rw [r1.length, r2.length]; exact hl, fun z => ?_, fun z1 z2 => ?_, fun z1 z2 p hp => ?_⟩)
        · have : xs = [] := (tup_nil r1).mp z
          subst this
          exact k _ G H (Stp.refl e) hb
        · have : ys = [] := (tup_nil r2).mp z2
          subst this
          rw [List.append_nil] at k
          exact k _ G H (Stp.refl e) ha
        · obtain ⟨st, q⟩ := newT e hp (r1.append r2)
          exact k _ _ _ st q
      · cases hf
    | _ => cases hf
  | lst xs => cases db with
    | lst ys =>
      obtain ⟨a, vs, rfl, h1, r1⟩ := ha
      obtain ⟨b, ws, rfl, h2, r2⟩ := hb
      simp only [opBin] at hf
      split at hf
      · rename_i hl
        cases hf
        refine .inr (.inr ⟨a, b, vs, ws, rfl, rfl, h1, h2, by rw [r1.length, r2.length]; exact hl, fun p hp => ?_⟩)
        obtain ⟨st, q⟩ := newL e hp (r1.append r2)
        exact k _ _ _ st q
      · cases hf
    | _ => cases hf
  | _ => cases hf
theorem opD_sub : OpD K (rI0 fun i j => .int (i - j)) (opBin .sub) := by
  intro G H da db sl va vb Q e hf ha hb k
  cases da with
  | int i => cases db with
    | int j =>
      cases hf
      rw [br_int ha, br_int hb]
      exact ⟨i, j, rfl, rfl, k _ G H (Stp.refl e) slInt⟩
    | _ => cases hf
  | _ => cases hf
/-- text * int, up to a thousand -/
def rRepS : R2 := fun x y H Q => ∃ z k, x = .str z ∧ y = .int k ∧ 0 ≤ k ∧ k ≤ 1000 ∧ z.length ≤ 1000 ∧ Q (.str ⟨(List.replicate k.toNat z.cps.toList).flatten.toArray⟩) H
theorem foldl_cps (a : Array Nat) : ∀ (m : Nat) (acc : Array Nat), (List.replicate m a).foldl (· ++ ·) acc = (acc.toList ++ (List.replicate m a.toList).flatten).toArray
  | 0, acc => by simp
  | m + 1, acc => by
    rw [List.replicate_succ, List.foldl_cons, foldl_cps a m, List.replicate_succ, List.flatten_cons, Array.toList_append, List.append_assoc]
theorem rep_len {α : Type} (m : Nat) (l : List α) : (List.replicate m l).flatten.length = m * l.length := by
  induction m with
  | zero => simp
  | succ n ih => rw [List.replicate_succ, List.flatten_cons, List.length_append, ih, Nat.succ_mul]; omega
theorem rep_mem {α : Type} {c : α} (m : Nat) (l : List α) (h : c ∈ (List.replicate m l).flatten) : c ∈ l := by
  induction m with
  | zero => simp at h
  | succ n ih =>
    rw [List.replicate_succ, List.flatten_cons, List.mem_append] at h
    rcases h with h | h
    · exact h
    · exact ih h
theorem op_repS {X : Cx} : OpR X (binaryOp .Mult) rRepS := by
  intro pins s σ H x y v u Q I rx ry h
  obtain ⟨z, k, rfl, rfl, h0, h1, h2, q⟩ := h
  obtain ⟨t, rfl⟩ := rx
  obtain ⟨u', rfl⟩ := ry
  have hs : sizeLine = 16777216 := sizeLine_eq
  have hbig : ((z.length : Nat) : Int) * 1 ≤ 1000 := by omega
  have hlen : z.length * k.toNat ≤ 1000 * 1000 := Nat.mul_le_mul h2 (by omega)
  refine PySem.P.mul_str ?_ (fun k1 _ => ?_) (fun k1 _ => ?_) ?_
  · rw [decide_eq_false (by omega), decide_eq_false (by omega)]; rfl
  · have : (1000 : Int) ≤ (2 ^ 63 - 1) / k := by
      refine Int.le_ediv_of_mul_le (by omega) ?_
      omega
    omega
  · show decide (z.length * k.toNat > sizeLine) = false
    exact decide_eq_false (by omega)
  · by_cases k0 : k < 1
    · rw [if_pos k0]
      have e0 : k = 0 := by omega
      subst e0
      refine ⟨by decide, .str _, H, I.tok _, ⟨_, rfl⟩, ?_⟩
      exact q
    · rw [if_neg k0]
      by_cases k1 : (k == 1 || z.length == 0) = true
      · rw [if_pos k1]
        have ez : (⟨(List.replicate k.toNat z.cps.toList).flatten.toArray⟩ : Str) = z := by
          rw [Bool.or_eq_true, beq_iff_eq, beq_iff_eq] at k1
          rcases k1 with k1 | k1
          · subst k1
            show (⟨(List.replicate 1 z.cps.toList).flatten.toArray⟩ : Str) = z
            simp
          · have : z.cps.toList = [] := List.eq_nil_of_length_eq_zero (by rw [str_len]; exact k1)
            obtain ⟨c⟩ := z
            have hc : c.toList = [] := this
            have : c = #[] := by
              rw [← Array.toArray_toList (xs := c), hc]
            subst this
            simp
        rw [ez] at q
        exact ⟨.str z, H, I, ⟨t, rfl⟩, q⟩
      · rw [if_neg k1]
        have ef : (List.replicate k.toNat z.cps).foldl (· ++ ·) #[] = (List.replicate k.toNat z.cps.toList).flatten.toArray := by
          rw [foldl_cps]; rfl
        refine ⟨?_, .str _, H, I.tok _, ⟨_, rfl⟩, ?_⟩
        · show Array.size _ ≤ _
          rw [ef, List.size_toArray, rep_len, str_len, Nat.mul_comm]
          omega
        · rw [ef]; exact q
theorem tuple_mulSame (l : Addr) (items : Array Value) (n : Nat) (dd : Option Addr) (sl : Array (Option Value)) (x : Int) (u : Tok) (c0 : (decide (x < -(2 ^ 63)) || decide (x ≥ 2 ^ 63)) = false) (c1 : (items.isEmpty || x == 1) = true) :
    Meets (Builtin.«tuple.__mul__» ⟨[.ref l, .int x u], []⟩) (fun _ R s => s.heap.get? l = some { cls := .type "tuple", dict := dd, data := .seq items n, slots := sl } ∧
      R (.ok (.ret (Value.ref l))) s) :=
  .of_wp fun prog w A R s h => by
    obtain ⟨hp, g, d, tk, os⟩ := s
    obtain ⟨hl, h⟩ := h
    have f1 := AutoSeq1.idx_int
    wp_walk using wpAny_loadPart' hl
    repeat (first
      | (refine wpAny_ite_false (decide_eq_false (by rw [c0]; exact Bool.false_ne_true)) ?_; wp_walk using wpAny_loadPart' hl)
      | (refine wpAny_ite_true (decide_eq_true c1) ?_; wp_walk using wpAny_loadPart' hl))
    exact ⟨_, rfl, h⟩
/-- tuple * 1: the tuple itself -/
def rRep1 (K : PySem.W.Frag) : R2 := fun x y H Q => ∃ l xs, x = .ref l ∧ y = .int 1 ∧ SqT K H l xs ∧ Q (.ref l) H
theorem op_rep1 {X : Cx} : OpR X (binaryOp .Mult) (rRep1 X.K) := by
  intro pins s σ H x y v u Q I rx ry h
  obtain ⟨l, xs, rfl, rfl, hT, q⟩ := h
  cases rx
  obtain ⟨t, rfl⟩ := ry
  obtain ⟨its, r, ⟨⟨cls, dd, data, sl⟩, ho, hc, n, hd⟩, hs⟩ := I.tuple hT
  simp only at hc hd
  subst hc hd
  have c0 : (decide ((1 : Int) < -(2 ^ 63)) || decide ((1 : Int) ≥ 2 ^ 63)) = false := by decide
  refine wpAny_binaryOp_repeat_ref (T := "tuple") (U := "int") (by decide) ⟨_, ho, rfl⟩ (fun s' => typeIs_int s' 1 t) noFill_tuple_mul F.fills_int_mul F.slot_int_rmul repeat_tuple F.slot_int_index.lookup
    (call_meets F.slot_int_rmul (typeIs_int s 1 t) F.entry_int_rmul (F.args_int_rmul_2 _ _) (int_rmul_tuple 1 t l its.toArray n dd sl)
      ⟨ho, rfl, ⟨_, ho, rfl⟩, call_meets F.slot_tuple_mul ⟨_, ho, rfl⟩ F.entry_tuple_mul (F.args_tuple_mul_2 _ _) (tuple_mulSame l its.toArray n dd sl 1 t c0 (by simp)) ⟨ho, ?_⟩⟩)
  exact ⟨.ref l, H, I, rfl, q⟩
def rMulA (K : PySem.W.Frag) : R2 := fun x y H Q => ((rI CMul fun i j => .int (i * j)) x y H Q ∨ (rRepT K x y H Q ∨ rRep1 K x y H Q)) ∨ (rRep x y H Q ∨ rRepS x y H Q)
theorem opR_mul {X : Cx} : OpR X (binaryOp .Mult) (rMulA X.K) := (op_mul.or (op_repT.or op_rep1)).or (op_rep.or op_repS)
theorem opD_mul : OpD K (rMulA K) (opBin .mul) := by
  intro G H da db sl va vb Q e hf ha hb k
  cases db with
  | int j =>
    have eb := br_int hb
    subst eb
    cases da with
    | int i =>
      simp only [opBin] at hf
      split at hf
      · rename_i hc
        cases hf
        rw [br_int ha]
        exact .inl (.inl ⟨i, j, rfl, rfl, hc, k _ G H (Stp.refl e) slInt⟩)
      · cases hf
    | str x =>
      obtain ⟨rfl, gx⟩ := br_str ha
      simp only [opBin] at hf
      split at hf
      · rename_i hc
        cases hf
        refine .inr (.inr ⟨x, j, rfl, rfl, hc.1, hc.2.1, hc.2.2, k _ G H (Stp.refl e) (slStr (StrG.sub gx ?_ fun c hm => rep_mem _ _ hm))⟩)
        rw [rep_len, str_len]
        have hs : sizeLine = 16777216 := sizeLine_eq
        have hlen : j.toNat * x.length ≤ 1000 * 1000 := Nat.mul_le_mul (by omega) hc.2.2
        omega
      · cases hf
    | tup xs =>
      obtain ⟨a, vs, rfl, h1, r1⟩ := br_tup ha e
      simp only [opBin] at hf
      split at hf
      · rename_i hc
        cases hf
        refine .inl (.inr (.inl ⟨a, j, vs, rfl, rfl, .inl (.inl h1), fun z => hc.2.2.1 ((tup_nil r1).mp z), hc.1, hc.2.1, by rw [r1.length]; exact hc.2.2.2, fun p hp => ?_⟩))
        obtain ⟨st, q⟩ := newT e hp (r1.rep j.toNat)
        exact k _ _ _ st q
      · split at hf
        · rename_i hc1
          cases hf
          subst hc1
          exact .inl (.inr (.inr ⟨a, vs, rfl, rfl, .inl (.inl h1), k _ G H (Stp.refl e) ha⟩))
        · cases hf
    | lst xs =>
      obtain ⟨a, vs, rfl, h1, r1⟩ := ha
      simp only [opBin] at hf
      split at hf
      · rename_i hc
        cases hf
        refine .inr (.inl ⟨a, j, vs, rfl, rfl, h1, hc.1, hc.2.1, by rw [r1.length]; exact hc.2.2, fun p hp => ?_⟩)
        obtain ⟨st, q⟩ := newL e hp (r1.rep j.toNat)
        exact k _ _ _ st q
      · cases hf
    | _ => cases hf
  | _ => cases da <;> cases hf
theorem log_lt {j : Int} (h : 0 < j ∧ j < 2 ^ 64) : CDivW 0 j := wide_div h.1 (b := 64) (by omega) (by omega) (by omega)
theorem opD_fdiv : OpD K (rI CDivW fun i j => .int (i / j)) (opBin .fdiv) := by
  intro G H da db sl va vb Q e hf ha hb k
  cases da with
  | int i => cases db with
    | int j =>
      simp only [opBin] at hf
      split at hf
      · rename_i hc
        cases hf
        rw [br_int ha, br_int hb]
        exact ⟨i, j, rfl, rfl, log_lt hc, k _ G H (Stp.refl e) slInt⟩
      · cases hf
    | _ => cases hf
  | _ => cases hf
theorem opD_mod : OpD K (rI (fun _ j => 0 < j) fun i j => .int (i % j)) (opBin .mod) := by
  intro G H da db sl va vb Q e hf ha hb k
  cases da with
  | int i => cases db with
    | int j =>
      simp only [opBin] at hf
      split at hf
      · rename_i hc
        cases hf
        rw [br_int ha, br_int hb]
        exact ⟨i, j, rfl, rfl, hc, k _ G H (Stp.refl e) slInt⟩
      · cases hf
    | _ => cases hf
  | _ => cases hf
theorem opD_pow : OpD K (rI CPow fun i j => .int (i ^ j.toNat)) (opBin .pow) := by
  intro G H da db sl va vb Q e hf ha hb k
  cases da with
  | int i => cases db with
    | int j =>
      simp only [opBin] at hf
      split at hf
      · rename_i hc
        cases hf
        rw [br_int ha, br_int hb]
        exact ⟨i, j, rfl, rfl, hc, k _ G H (Stp.refl e) slInt⟩
      · cases hf
    | _ => cases hf
  | _ => cases hf
end

/-! ### comparisons -/
section
variable {K : PySem.W.Frag}
/-- a comparison by values -/
def CmpD (K : PySem.W.Frag) (r : R2) (f : D → D → Option Bool) : Prop := OpD K r fun a b => bl (f a b)
theorem CmpD.mk {r : R2} {f : D → D → Option Bool} (h : ∀ G H da db b va vb Q, Same G H → f da db = some b → BRp K G H da va → BRp K G H db vb → Q (.bl b) H → r va vb H Q) : CmpD K r f := by
  intro G H da db sl va vb Q e hf ha hb k
  obtain ⟨c, e1, rfl⟩ := bl_some hf
  exact h G H da db c va vb Q e e1 ha hb (k _ G H (Stp.refl e) slBl)
theorem cmp_int {r : Int → Int → Bool} {f : D → D → Option Bool} (h1 : ∀ a b c, f a b = some c → ∃ i j, a = .int i ∧ b = .int j ∧ c = r i j) : CmpD K (rI0 fun i j => .bl (r i j)) f := by
  refine CmpD.mk fun G H da db b va vb Q e hf ha hb k => ?_
  obtain ⟨i, j, rfl, rfl, rfl⟩ := h1 _ _ _ hf
  exact ⟨i, j, br_int ha, br_int hb, k⟩
theorem opD_lt : CmpD K (rI0 fun i j => .bl (decide (i < j))) (opCmp .lt) := cmp_int fun a b c h => by cases a <;> cases b <;> cases h <;> exact ⟨_, _, rfl, rfl, rfl⟩
theorem opD_le : CmpD K (rI0 fun i j => .bl (decide (i ≤ j))) (opCmp .le) := cmp_int fun a b c h => by cases a <;> cases b <;> cases h <;> exact ⟨_, _, rfl, rfl, rfl⟩
theorem opD_gt : CmpD K (rI0 fun i j => .bl (decide (j < i))) (opCmp .gt) := cmp_int fun a b c h => by cases a <;> cases b <;> cases h <;> exact ⟨_, _, rfl, rfl, rfl⟩
theorem opD_ge : CmpD K (rI0 fun i j => .bl (decide (j ≤ i))) (opCmp .ge) := cmp_int fun a b c h => by cases a <;> cases b <;> cases h <;> exact ⟨_, _, rfl, rfl, rfl⟩
theorem eqK_some {d e : D} {b : Bool} (h : eqK d e = some b) : ∃ ks, d = .dK ks ∧ e = .dK [] ∧ b = ks.isEmpty := by
  unfold eqK at h
  split at h
  · cases h; exact ⟨_, rfl, rfl, rfl⟩
  · cases h
theorem eqD_some {d e : D} {b : Bool} (h : eqD d e = some b) : (∃ x y, toPy d = some x ∧ toPy e = some y ∧ x.depth ≤ 64 ∧ y.depth ≤ 64 ∧ b = PyData.eqv x y) ∨ ∃ ks, d = .dK ks ∧ e = .dK [] ∧ b = ks.isEmpty := by
  unfold eqD at h
  split at h
  · rename_i x y e1 e2
    split at h
    · rename_i hd
      cases h
      exact .inl ⟨x, y, e1, e2, hd.1, hd.2, rfl⟩
    · cases h
  · exact .inr (eqK_some h)
def rEqK (neg : Bool) : R2 := fun x y H Q => ∃ a b ks, x = .ref a ∧ y = .ref b ∧ Rd H a (.dK ks) ∧ Rd H b (.dK []) ∧ Q (.bl (if neg then !ks.isEmpty else ks.isEmpty)) H
theorem op_eqK {X : Cx} (hu : X.A.units < cLine) : OpR X (compareOp .Eq) (rEqK false) := by
  intro pins s σ H x y v u Q I rx ry h
  obtain ⟨a, b, ks, rfl, rfl, ea, eb, q⟩ := h
  obtain rfl : v = Value.ref a := rx
  obtain rfl : u = Value.ref b := ry
  obtain ⟨_, ya, va, ra, da⟩ := (show ObjOk X.prog X.w H s.heap a (.dK ks) from ea.ok I.hok)
  obtain ⟨_, yb, vb, rb, db⟩ := (show ObjOk X.prog X.w H s.heap b (.dK []) from eb.ok I.hok)
  cases rb
  have la := ra.length
  refine PySem.W.keq_eq (knd := mixKind X.prog X.w) (r := true) ya yb da db hu (fun hl => ?_) (fin_bl I q ?_)
  · have : ks = [] := List.eq_nil_of_length_eq_zero (la.trans hl)
    subst this
    exact hits_all (kvs := ([] : List (Key × V))) .nil ra (fun p hp => by cases hp)
  · cases ks with
    | nil => cases ra; rfl
    | cons k ks => cases ra; rfl
theorem op_neK {X : Cx} (hu : X.A.units < cLine) : OpR X (compareOp .NotEq) (rEqK true) := by
  intro pins s σ H x y v u Q I rx ry h
  obtain ⟨a, b, ks, rfl, rfl, ea, eb, q⟩ := h
  obtain rfl : v = Value.ref a := rx
  obtain rfl : u = Value.ref b := ry
  obtain ⟨_, ya, va, ra, da⟩ := (show ObjOk X.prog X.w H s.heap a (.dK ks) from ea.ok I.hok)
  obtain ⟨_, yb, vb, rb, db⟩ := (show ObjOk X.prog X.w H s.heap b (.dK []) from eb.ok I.hok)
  cases rb
  have la := ra.length
  refine PySem.W.keq_ne (knd := mixKind X.prog X.w) (r := true) ya yb da db hu (fun hl => ?_) (fin_bl I q ?_)
  · have : ks = [] := List.eq_nil_of_length_eq_zero (la.trans hl)
    subst this
    exact hits_all (kvs := ([] : List (Key × V))) .nil ra (fun p hp => by cases hp)
  · cases ks with
    | nil => cases ra; rfl
    | cons k ks => cases ra; rfl
def rEqA (K : PySem.W.Frag) : R2 := fun x y H Q => rEqD K x y H Q ∨ rEqK false x y H Q
def rNeA (K : PySem.W.Frag) : R2 := fun x y H Q => rNeD K x y H Q ∨ rEqK true x y H Q
theorem opR_eqA {X : Cx} (hu : X.A.units + 65 < cLine) : OpR X (compareOp .Eq) (rEqA X.K) := (op_eqD (by omega)).or (op_eqK (by omega))
theorem opR_neA {X : Cx} (hu : X.A.units + 65 < cLine) : OpR X (compareOp .NotEq) (rNeA X.K) := (op_neD (by omega)).or (op_neK (by omega))
theorem br_dK0 {G H : Hp} {v : V} (h : BRp K G H (.dK []) v) : ∃ a, v = .ref a ∧ Rd H a (.dK []) := by
  obtain ⟨a, vs, e1, e2, e3⟩ := h
  simp only [RpK] at e3
  subst e3
  exact ⟨a, e1, e2⟩
theorem br_dKe {G H : Hp} {v : V} {ks : List (Key × D)} (h : BRp K G H (.dK ks) v) : ∃ a vs, v = .ref a ∧ Rd H a (.dK vs) ∧ vs.isEmpty = ks.isEmpty := by
  obtain ⟨a, vs, e1, e2, e3⟩ := h
  refine ⟨a, vs, e1, e2, ?_⟩
  cases ks with
  | nil => simp only [RpK] at e3; rw [e3]; rfl
  | cons k ks =>
    simp only [RpK] at e3
    obtain ⟨x, r, e4, _⟩ := e3
    rw [e4]; rfl
theorem opD_eq : CmpD K (rEqA K) (opCmp .eq) := by
  refine CmpD.mk fun G H da db b va vb Q e hf ha hb k => ?_
  rcases eqD_some (d := da) (e := db) hf with ⟨x, y, e1, e2, h1, h2, rfl⟩ | ⟨ks, rfl, rfl, rfl⟩
  · exact .inl ⟨x, y, ha.dp e e1, hb.dp e e2, shaped_of (ha.lay e1) h1, shaped_of (hb.lay e2) h2, k⟩
  · obtain ⟨a, vs, rfl, q1, q2⟩ := br_dKe ha
    obtain ⟨c, rfl, q3⟩ := br_dK0 hb
    exact .inr ⟨a, c, vs, rfl, rfl, q1, q3, by rw [q2]; exact k⟩
theorem opD_ne : CmpD K (rNeA K) (opCmp .ne) := by
  refine CmpD.mk fun G H da db b va vb Q e hf ha hb k => ?_
  obtain ⟨c, hc, rfl⟩ := Option.map_eq_some_iff.mp (show (eqD da db).map (!·) = some b from hf)
  rcases eqD_some (d := da) (e := db) hc with ⟨x, y, e1, e2, h1, h2, rfl⟩ | ⟨ks, rfl, rfl, rfl⟩
  · exact .inl ⟨x, y, ha.dp e e1, hb.dp e e2, shaped_of (ha.lay e1) h1, shaped_of (hb.lay e2) h2, k⟩
  · obtain ⟨a, vs, rfl, q1, q2⟩ := br_dKe ha
    obtain ⟨c, rfl, q3⟩ := br_dK0 hb
    exact .inr ⟨a, c, vs, rfl, rfl, q1, q3, by rw [q2]; exact k⟩
def rIsA : R2 := fun x y H Q => (y = .non ∧ Q (.bl (decide (x = .non))) H) ∨ rIsB x y H Q
def rNisA : R2 := fun x y H Q => (y = .non ∧ Q (.bl (!decide (x = .non))) H) ∨ rNotB x y H Q
theorem opR_is {X : Cx} : OpR X (compareOp .Is) rIsA := op_isN.or op_isBl
theorem opR_nis {X : Cx} : OpR X (compareOp .IsNot) rNisA := op_notN.or op_notBl
theorem br_isN {G H : Hp} {d : D} {v : V} (h : BRp K G H d v) : decide (v = .non) = isNonD d := by
  cases d with
  | non => rw [br_non h]; rfl
  | bl b => rw [br_bl h]; rfl
  | int i => rw [br_int h]; rfl
  | str x => rw [(br_str h).1]; rfl
  | lst ds => obtain ⟨a, vs, rfl, _⟩ := h; rfl
  | tup ds => simp only [BRp, Rp] at h; obtain ⟨a, vs, rfl, _⟩ := h; rfl
  | scr ds => simp only [BRp, Rp] at h; obtain ⟨a, rfl, _⟩ := h; rfl
  | dK ds => obtain ⟨a, vs, rfl, _⟩ := h; rfl
  | dT ds => obtain ⟨a, vs, rfl, _⟩ := h; rfl
theorem opD_is : CmpD K rIsA (opCmp .is_) := by
  refine CmpD.mk fun G H da db b va vb Q e hf ha hb k => ?_
  cases db with
  | non =>
    refine .inl ⟨br_non hb, ?_⟩
    rw [br_isN ha]
    cases da <;> cases hf <;> exact k
  | bl c =>
    cases da <;> cases hf
    exact .inr ⟨_, c, br_bl ha, br_bl hb, k⟩
  | _ => cases da <;> cases hf
theorem opD_nis : CmpD K rNisA (opCmp .nis) := by
  refine CmpD.mk fun G H da db b va vb Q e hf ha hb k => ?_
  cases db with
  | non =>
    refine .inl ⟨br_non hb, ?_⟩
    rw [br_isN ha]
    cases da <;> cases hf <;> exact k
  | bl c =>
    cases da <;> cases hf
    exact .inr ⟨_, c, br_bl ha, br_bl hb, k⟩
  | _ => cases da <;> cases hf

/-! in, not in -/
theorem dec_mem {c : Nat} {l : List Nat} : decide (c ∈ l) = decide (c ∈ l) := rfl
def rInA (K : PySem.W.Frag) : R2 := fun x y H Q => (rInD K x y H Q ∨ rIn K false x y H Q) ∨ ((∃ (c : Nat) (z : Str), x = .str ⟨#[c]⟩ ∧ y = .str z ∧ Q (.bl (decide (c ∈ z.cps.toList))) H) ∨ (∃ a o, y = .ref a ∧ DGet H a x o ∧ Q (.bl o.isSome) H))
def rNinA (K : PySem.W.Frag) : R2 := fun x y H Q => (rNotInD K x y H Q ∨ rIn K true x y H Q) ∨ ((∃ (c : Nat) (z : Str), x = .str ⟨#[c]⟩ ∧ y = .str z ∧ Q (.bl (!decide (c ∈ z.cps.toList))) H) ∨ (∃ a o, y = .ref a ∧ DGet H a x o ∧ Q (.bl (!o.isSome)) H))
theorem op_dIn {X : Cx} (hu : X.A.units + 1 < cLine) : OpR X (compareOp .In) (fun x y H Q => ∃ a o, y = .ref a ∧ DGet H a x o ∧ Q (.bl o.isSome) H) := by
  intro pins s σ H x y v u Q I rx ry h
  obtain ⟨a, o, rfl, g, q⟩ := h
  cases ry
  exact d_in hu I g rx fun s3 I3 => ⟨.bl o.isSome, H, I3, rfl, q⟩
theorem op_dNin {X : Cx} (hu : X.A.units + 1 < cLine) : OpR X (compareOp .NotIn) (fun x y H Q => ∃ a o, y = .ref a ∧ DGet H a x o ∧ Q (.bl (!o.isSome)) H) := by
  intro pins s σ H x y v u Q I rx ry h
  obtain ⟨a, o, rfl, g, q⟩ := h
  cases ry
  exact d_notIn hu I g rx fun s3 I3 => ⟨.bl (!o.isSome), H, I3, rfl, q⟩
theorem opR_in {X : Cx} (hu : X.A.units + 65 < cLine) : OpR X (compareOp .In) (rInA X.K) := ((op_inD hu).or op_in_seq).or (op_in_sign.or (op_dIn (by omega)))
theorem opR_nin {X : Cx} (hu : X.A.units + 65 < cLine) : OpR X (compareOp .NotIn) (rNinA X.K) := ((op_notInD hu).or op_notIn_seq).or (op_notIn_sign.or (op_dNin (by omega)))
/-- what a dict's rule wants of a key -/
theorem key_rp {G H : Hp} {d : D} {k : Key} {v : V} (h : BRp K G H d v) (e : keyD d = some k) : v = kV k := by
  cases d with
  | int i => cases e; exact br_int h
  | str x => cases e; exact (br_str h).1
  | _ => cases e
theorem keys_rp {G : Hp} : ∀ {ds : List D} {ks : List Key} {vs : List V}, RpL K G ds vs → keysD ds = some ks → vs = ks.map kV
  | [], ks, vs, h, e => by simp only [RpL] at h; cases e; exact h
  | d :: ds, ks, vs, h, e => by
    simp only [RpL] at h
    obtain ⟨x, r, rfl, e2, e3⟩ := h
    simp only [keysD] at e
    cases q1 : keyD d with
    | none => rw [q1] at e; cases e
    | some k =>
      cases q2 : keysD ds with
      | none => rw [q1, q2] at e; cases e
      | some ks' =>
        rw [q1, q2] at e
        cases e
        rw [List.map_cons, keys_rp e3 q2]
        have : x = kV k := by
          cases d with
          | int i => cases q1; simp only [Rp] at e2; exact e2
          | str y => cases q1; simp only [Rp] at e2; exact e2.1
          | _ => cases q1
        rw [this]
theorem keyT_rp {G H : Hp} {d : D} {ks : List Key} {v : V} (h : BRp K G H d v) (sm : Same G H) (e : keyT d = some ks) : ∃ b, v = .ref b ∧ H b = some (.tup (ks.map kV)) := by
  cases d with
  | tup ds =>
    obtain ⟨a, vs, rfl, h1, h2⟩ := br_tup h sm
    rw [keys_rp h2 e] at h1
    exact ⟨a, rfl, h1⟩
  | _ => cases e
theorem rpK_get {G : Hp} : ∀ {kvs : List (Key × D)} {vs : List (Key × V)} (k : Key), RpK K G kvs vs → (∃ d v, dGet kvs k = some d ∧ valV vs k = some v ∧ Rp K G d v) ∨ (dGet kvs k = none ∧ valV vs k = none)
  | [], vs, k, h => by simp only [RpK] at h; subst h; exact .inr ⟨rfl, rfl⟩
  | (k', d) :: kvs, vs, k, h => by
    simp only [RpK] at h
    obtain ⟨x, r, rfl, e2, e3⟩ := h
    by_cases hk : k' = k
    · refine .inl ⟨d, x, ?_, ?_, e2.2⟩
      · simp [dGet, hk]
      · simp [valV, hk]
    · rcases rpK_get k e3 with ⟨d', v', q1, q2, q3⟩ | ⟨q1, q2⟩
      · refine .inl ⟨d', v', ?_, ?_, q3⟩
        · simp only [dGet, List.find?_cons, hk, decide_false] at q1 ⊢; exact q1
        · simp only [valV, List.find?_cons, hk, decide_false] at q2 ⊢; exact q2
      · refine .inr ⟨?_, ?_⟩
        · simp only [dGet, List.find?_cons, hk, decide_false] at q1 ⊢; exact q1
        · simp only [valV, List.find?_cons, hk, decide_false] at q2 ⊢; exact q2
theorem rpT_get {G : Hp} : ∀ {kvs : List (List Key × D)} {vs : List (List Key × V)} (k : List Key), RpT K G kvs vs → (∃ d v, dGet kvs k = some d ∧ valV vs k = some v ∧ Rp K G d v) ∨ (dGet kvs k = none ∧ valV vs k = none)
  | [], vs, k, h => by simp only [RpT] at h; subst h; exact .inr ⟨rfl, rfl⟩
  | (k', d) :: kvs, vs, k, h => by
    simp only [RpT] at h
    obtain ⟨x, r, rfl, e2, e3⟩ := h
    by_cases hk : k' = k
    · refine .inl ⟨d, x, ?_, ?_, e2.2⟩
      · simp [dGet, hk]
      · simp [valV, hk]
    · rcases rpT_get k e3 with ⟨d', v', q1, q2, q3⟩ | ⟨q1, q2⟩
      · refine .inl ⟨d', v', ?_, ?_, q3⟩
        · simp only [dGet, List.find?_cons, hk, decide_false] at q1 ⊢; exact q1
        · simp only [valV, List.find?_cons, hk, decide_false] at q2 ⊢; exact q2
      · refine .inr ⟨?_, ?_⟩
        · simp only [dGet, List.find?_cons, hk, decide_false] at q1 ⊢; exact q1
        · simp only [valV, List.find?_cons, hk, decide_false] at q2 ⊢; exact q2
theorem dHas_get {κ : Type} [DecidableEq κ] (kvs : List (κ × D)) (k : κ) : dHas kvs k = (dGet kvs k).isSome := by
  unfold dHas dGet
  rw [Option.isSome_map, List.isSome_find?]

theorem hasD_get {G H : Hp} {d c : D} {b : Bool} {x y : V} (sm : Same G H) (h : hasD d c = some b) (hx : BRp K G H d x) (hy : BRp K G H c y) : ∃ a o, y = .ref a ∧ DGet H a x o ∧ o.isSome = b := by
  cases c with
  | dK kvs =>
    obtain ⟨k, ek, rfl⟩ := Option.map_eq_some_iff.mp (show (keyD d).map (dHas kvs) = some b from h)
    obtain ⟨a, vs, rfl, h1, h2⟩ := hy
    have e := key_rp hx ek
    subst e
    refine ⟨a, valV vs k, rfl, .inl ⟨vs, k, h1, rfl, rfl⟩, ?_⟩
    rw [dHas_get]
    rcases rpK_get k h2 with ⟨d', v', q1, q2, q3⟩ | ⟨q1, q2⟩
    · rw [q1, q2]; rfl
    · rw [q1, q2]; rfl
  | dT kvs =>
    obtain ⟨k, ek, rfl⟩ := Option.map_eq_some_iff.mp (show (keyT d).map (dHas kvs) = some b from h)
    obtain ⟨a, vs, rfl, h1, h2⟩ := hy
    obtain ⟨q, rfl, hq⟩ := keyT_rp hx sm ek
    refine ⟨a, valV vs k, rfl, .inr ⟨vs, k, q, h1, rfl, hq, rfl⟩, ?_⟩
    rw [dHas_get]
    rcases rpT_get k h2 with ⟨d', v', q1, q2, q3⟩ | ⟨q1, q2⟩
    · rw [q1, q2]; rfl
    · rw [q1, q2]; rfl
  | _ => cases h
/-- flat items -/
theorem flat_one {G : Hp} {d : D} {v : V} {x : PyData} (h : Rp K G d v) (e : toPy d = some x) (h0 : x.depth = 0) : flatV v = true ∧ ∀ {d' : D} {v' : V} {x' : PyData}, Rp K G d' v' → toPy d' = some x' → x'.depth = 0 → eqV v v' = PyData.eqv x x' := by
  have s : ∀ {d : D} {v : V} {x : PyData}, Rp K G d v → toPy d = some x → x.depth = 0 → (x = .none ∧ v = .non) ∨ (∃ b, x = .bool b ∧ v = .bl b) ∨ (∃ i, x = .int i ∧ v = .int i) ∨ ∃ z, x = .str z ∧ v = .str z := by
    intro d v x h e h0
    cases d with
    | non => simp only [toPy] at e; cases e; simp only [Rp] at h; exact .inl ⟨rfl, h⟩
    | bl b => simp only [toPy] at e; cases e; simp only [Rp] at h; exact .inr (.inl ⟨b, rfl, h⟩)
    | int i => simp only [toPy] at e; cases e; simp only [Rp] at h; exact .inr (.inr (.inl ⟨i, rfl, h⟩))
    | str z => simp only [toPy] at e; cases e; simp only [Rp] at h; exact .inr (.inr (.inr ⟨z, rfl, h.1⟩))
    | lst ds =>
      simp only [toPy] at e
      obtain ⟨ys, _, rfl⟩ := Option.map_eq_some_iff.mp e
      simp only [PyData.depth] at h0
      omega
    | tup ds =>
      simp only [toPy] at e
      obtain ⟨ys, _, rfl⟩ := Option.map_eq_some_iff.mp e
      simp only [PyData.depth] at h0
      omega
    | scr ns => simp only [toPy] at e; cases e
    | dK ns => simp only [toPy] at e; cases e
    | dT ns => simp only [toPy] at e; cases e
  constructor
  · rcases s h e h0 with ⟨_, rfl⟩ | ⟨b, _, rfl⟩ | ⟨i, _, rfl⟩ | ⟨z, _, rfl⟩ <;> rfl
  · intro d' v' x' h' e' h0'
    rcases s h e h0 with ⟨rfl, rfl⟩ | ⟨b, rfl, rfl⟩ | ⟨i, rfl, rfl⟩ | ⟨z, rfl, rfl⟩ <;> rcases s h' e' h0' with ⟨rfl, rfl⟩ | ⟨b', rfl, rfl⟩ | ⟨i', rfl, rfl⟩ | ⟨z', rfl, rfl⟩ <;> simp [eqV, PyData.eqv]
theorem flat_all {G : Hp} {d : D} {v : V} {x : PyData} (h : Rp K G d v) (e : toPy d = some x) (h0 : x.depth = 0) : ∀ {ds : List D} {vs : List V} {ys : List PyData}, RpL K G ds vs → toPyL ds = some ys → PyData.depthAll ys = 0 →
    vs.all flatV = true ∧ inV v vs = ys.any fun z => PyData.eqv z x
  | [], vs, ys, hl, el, hd => by simp only [RpL] at hl; subst hl; simp only [toPyL] at el; cases el; exact ⟨rfl, rfl⟩
  | d1 :: ds, vs, ys, hl, el, hd => by
    simp only [RpL] at hl
    obtain ⟨w, r, rfl, e2, e3⟩ := hl
    simp only [toPyL] at el
    cases q1 : toPy d1 with
    | none => rw [q1] at el; cases el
    | some y =>
      cases q2 : toPyL ds with
      | none => rw [q1, q2] at el; cases el
      | some ys' =>
        rw [q1, q2] at el
        cases el
        simp only [PyData.depthAll] at hd
        obtain ⟨f1, f2⟩ := flat_one e2 q1 (by omega)
        obtain ⟨g1, g2⟩ := flat_all h e h0 e3 q2 (by omega)
        refine ⟨by rw [List.all_cons, f1, g1]; rfl, ?_⟩
        show (eqV w v || inV v r) = _
        rw [List.any_cons, g2, f2 h e h0]
theorem in_any {G H : Hp} {d c : D} {b : Bool} {x y : V} (sm : Same G H) (h : memD d c = some b) (hx : BRp K G H d x) (hy : BRp K G H c y) :
    (∃ d' ds, Dp K H x d' ∧ Dp K H y (.list ds) ∧ SeqAt.shaped d' = true ∧ SeqAt.shaped (.list ds) = true ∧ (ds.any fun z => PyData.eqv z d') = b) ∨
    (∃ p xs, y = .ref p ∧ (SqL K H p xs ∨ SqT K H p xs) ∧ flatV x = true ∧ xs.all flatV = true ∧ inV x xs = b) ∨
    (∃ (k : Nat) (z : Str), x = .str ⟨#[k]⟩ ∧ y = .str z ∧ decide (k ∈ z.cps.toList) = b) ∨ ∃ a o, y = .ref a ∧ DGet H a x o ∧ o.isSome = b := by
  cases c with
  | dK kvs => exact .inr (.inr (.inr (hasD_get sm (show hasD d (.dK kvs) = some b from h) hx hy)))
  | dT kvs => exact .inr (.inr (.inr (hasD_get sm (show hasD d (.dT kvs) = some b from h) hx hy)))
  | str z =>
    cases d with
    | str w =>
      refine .inr (.inr (.inl ?_))
      simp only [memD, inD] at h
      split at h
      · rename_i k hk
        cases h
        have ew : w = ⟨#[k]⟩ := by
          obtain ⟨cp⟩ := w
          have : cp = #[k] := by rw [← Array.toArray_toList (xs := cp), hk]
          rw [this]
        subst ew
        exact ⟨k, z, (br_str hx).1, (br_str hy).1, rfl⟩
      · cases h
    | _ => cases h
  | lst ds =>
    refine .inl ?_
    simp only [memD, inD] at h
    split at h
    · rename_i x' ys e1 e2
      split at h
      · rename_i hd
        cases h
        have ey : toPy (.lst ds) = some (.list ys) := by simp only [toPy, e2]; rfl
        exact ⟨x', ys, hx.dp sm e1, hy.dp sm ey, shaped_of (hx.lay e1) hd.1, shaped_of (hy.lay ey) hd.2, rfl⟩
      · cases h
    · cases h
  | tup ds =>
    refine .inr (.inl ?_)
    simp only [memD, inD] at h
    split at h
    · rename_i x' ys e1 e2
      split at h
      · rename_i hd
        cases h
        obtain ⟨a, vs, rfl, h1, h2⟩ := br_tup hy sm
        have hx' : Rp K G d x := by
          cases d with
          | lst es =>
            simp only [toPy] at e1
            obtain ⟨_, _, rfl⟩ := Option.map_eq_some_iff.mp e1
            have := hd.1
            simp only [PyData.depth] at this
            omega
          | dK _ => simp only [toPy] at e1; cases e1
          | dT _ => simp only [toPy] at e1; cases e1
          | non => exact hx
          | bl _ => exact hx
          | int _ => exact hx
          | str _ => exact hx
          | tup _ => exact hx
          | scr _ => exact hx
        obtain ⟨f1, f2⟩ := flat_all hx' e1 hd.1 h2 e2 hd.2
        exact ⟨a, vs, rfl, .inr (.inl (.inl h1)), (flat_one hx' e1 hd.1).1, f1, f2⟩
      · cases h
    · cases h
  | _ => cases h
theorem opD_in : CmpD K (rInA K) (opCmp .in_) := by
  refine CmpD.mk fun G H da db b va vb Q e hf ha hb k => ?_
  rcases in_any e (show memD da db = some b from hf) ha hb with ⟨d', ds, q1, q2, q3, q4, rfl⟩ | ⟨p, xs, q1, q2, q3, q4, rfl⟩ | ⟨c, z, q1, q2, rfl⟩ | ⟨a, o, q1, q2, rfl⟩
  · exact .inl (.inl ⟨d', ds, q1, q2, q3, q4, k⟩)
  · exact .inl (.inr ⟨p, xs, q1, q2, q3, q4, k⟩)
  · exact .inr (.inl ⟨c, z, q1, q2, k⟩)
  · exact .inr (.inr ⟨a, o, q1, q2, k⟩)
theorem opD_nin : CmpD K (rNinA K) (opCmp .nin) := by
  refine CmpD.mk fun G H da db b va vb Q e hf ha hb k => ?_
  obtain ⟨c, hc, rfl⟩ := Option.map_eq_some_iff.mp (show (memD da db).map (!·) = some b from hf)
  rcases in_any e hc ha hb with ⟨d', ds, q1, q2, q3, q4, rfl⟩ | ⟨p, xs, q1, q2, q3, q4, rfl⟩ | ⟨c, z, q1, q2, rfl⟩ | ⟨a, o, q1, q2, rfl⟩
  · exact .inl (.inl ⟨d', ds, q1, q2, q3, q4, k⟩)
  · exact .inl (.inr ⟨p, xs, q1, q2, q3, q4, k⟩)
  · exact .inr (.inl ⟨c, z, q1, q2, k⟩)
  · exact .inr (.inr ⟨a, o, q1, q2, k⟩)
end

/-! ### places, slices, the other way round -/
section
variable {K : PySem.W.Frag}
theorem atI_map {α β : Type} {f : α → β} {xs : List α} {i : Int} {y : β} (h : atI (xs.map f) i = some y) : ∃ x, atI xs i = some x ∧ y = f x := by
  unfold atI at h ⊢
  rw [List.length_map] at h
  cases e : ixN xs.length i with
  | none => rw [e] at h; cases h
  | some j =>
    rw [e] at h
    have h : (xs.map f)[j]? = some y := h
    rw [List.getElem?_map] at h
    obtain ⟨x, e1, rfl⟩ := Option.map_eq_some_iff.mp h
    exact ⟨x, e1, rfl⟩
theorem RpL.atI {G : Hp} {ds : List D} {vs : List V} {i : Int} {d : D} (h : RpL K G ds vs) (e : atI ds i = some d) : ∃ v, L2.atI vs i = some v ∧ Rp K G d v := by
  unfold L2.atI at e ⊢
  rw [h.length]
  cases q : ixN ds.length i with
  | none => rw [q] at e; cases e
  | some j => rw [q] at e; exact h.get e
/-- a[i] of all kinds but dicts -/
theorem ixD_seq {X : Cx} : IxR X (rIx X.K) := ix_seq
def isDic : D → Bool
  | .dK _ => true
  | .dT _ => true
  | _ => false
theorem idx_ok {G H : Hp} {a i d : D} {x y : V} {Q : VK} (sm : Same G H) (h : idxD a i = some d) (nd : isDic a = false) (hx : BRp K G H a x) (hy : BRp K G H i y) (k : ∀ v, Rp K G d v → Q v H) : rIx K x y H Q := by
  cases a with
  | str z =>
    cases i with
    | int j =>
      obtain ⟨c, hc, rfl⟩ := Option.map_eq_some_iff.mp (show (L2.atI z.cps.toList j).map (fun c => D.str ⟨#[c]⟩) = some d from h)
      obtain ⟨rfl, g⟩ := br_str hx
      have ey := br_int hy
      subst ey
      refine .inr (.inr ⟨z, j, c, rfl, rfl, g.1, hc, k _ ?_⟩)
      simp only [Rp]
      refine ⟨trivial, g.one ?_⟩
      unfold L2.atI at hc
      cases q : ixN z.cps.toList.length j with
      | none => rw [q] at hc; cases hc
      | some m => rw [q] at hc; exact List.mem_of_getElem? hc
    | _ => cases h
  | lst ds =>
    cases i with
    | int j =>
      obtain ⟨p, vs, rfl, h1, h2⟩ := hx
      have ey := br_int hy
      subst ey
      obtain ⟨v, e1, e2⟩ := h2.atI (show L2.atI ds j = some d from h)
      exact .inl ⟨p, vs, j, v, rfl, rfl, .inl (.inl h1), e1, k v e2⟩
    | _ => cases h
  | tup ds =>
    cases i with
    | int j =>
      obtain ⟨p, vs, rfl, h1, h2⟩ := br_tup hx sm
      have ey := br_int hy
      subst ey
      obtain ⟨v, e1, e2⟩ := h2.atI (show L2.atI ds j = some d from h)
      exact .inr (.inl ⟨p, vs, j, v, rfl, rfl, .inl (.inl h1), e1, k v e2⟩)
    | _ => cases h
  | scr ns =>
    cases i with
    | int j =>
      obtain ⟨n, hn, rfl⟩ := Option.map_eq_some_iff.mp (show (L2.atI ns j).map D.int = some d from h)
      obtain ⟨p, rfl, h1⟩ := br_scr hx sm
      have ey := br_int hy
      subst ey
      refine .inl ⟨p, _, j, .int n, rfl, rfl, h1, ?_, k _ (by simp only [Rp])⟩
      unfold L2.atI at hn ⊢
      rw [List.length_map]
      cases q : ixN ns.length j with
      | none => rw [q] at hn; cases hn
      | some m =>
        rw [q] at hn
        show (ns.map V.int)[m]? = _
        rw [List.getElem?_map, show ns[m]? = some n from hn]
        rfl
    | _ => cases h
  | dK _ => cases nd
  | dT _ => cases nd
  | _ => cases i <;> cases h
theorem dget_ok {G H : Hp} {a i d : D} {x y : V} (sm : Same G H) (h : idxD a i = some d) (nd : isDic a = true) (hx : BRp K G H a x) (hy : BRp K G H i y) : ∃ p v, x = .ref p ∧ DGet H p y (some v) ∧ Rp K G d v := by
  cases a with
  | dK kvs =>
    obtain ⟨kk, ek, e2⟩ := Option.bind_eq_some_iff.mp (show (keyD i).bind (dGet kvs) = some d from h)
    obtain ⟨p, vs, rfl, h1, h2⟩ := hx
    have ey := key_rp hy ek
    subst ey
    rcases rpK_get kk h2 with ⟨d', v', q1, q2, q3⟩ | ⟨q1, q2⟩
    · rw [e2] at q1; cases q1
      exact ⟨p, v', rfl, .inl ⟨vs, kk, h1, rfl, q2.symm⟩, q3⟩
    · rw [e2] at q1; cases q1
  | dT kvs =>
    obtain ⟨kk, ek, e2⟩ := Option.bind_eq_some_iff.mp (show (keyT i).bind (dGet kvs) = some d from h)
    obtain ⟨p, vs, rfl, h1, h2⟩ := hx
    obtain ⟨q, rfl, hq⟩ := keyT_rp hy sm ek
    rcases rpT_get kk h2 with ⟨d', v', q1, q2, q3⟩ | ⟨q1, q2⟩
    · rw [e2] at q1; cases q1
      exact ⟨p, v', rfl, .inr ⟨vs, kk, q, h1, rfl, hq, q2.symm⟩, q3⟩
    · rw [e2] at q1; cases q1
  | _ => cases nd
theorem cut_eq (xs : List V) (lo hi : Option Int) : cutV xs lo hi = cutL xs lo hi := rfl
theorem RpL.cut {G : Hp} {ds : List D} {vs : List V} (h : RpL K G ds vs) (lo hi : Option Int) : RpL K G (cutL ds lo hi) (cutL vs lo hi) := by
  unfold cutL
  rw [h.length]
  exact RpL.take _ (RpL.drop _ h)
def rSlAll (K : PySem.W.Frag) : V → Option Int → Option Int → Hp → VK → Prop := fun x lo hi H Q => (rSlS x lo hi H Q ∨ rSlL K x lo hi H Q) ∨ rSlA K x lo hi H Q
theorem sl_all {X : Cx} : SlR X (rSlAll X.K) := (sl_str.or sl_list).or sl_tupA
theorem cutL_all {α : Type} (xs : List α) (lo hi : Option Int) (h : HT.sIx xs.length 0 lo = 0 ∧ HT.sIx xs.length xs.length hi = xs.length) : cutL xs lo hi = xs := by
  unfold cutL
  rw [h.1, h.2]
  simp
theorem cutL_mem {α : Type} {xs : List α} {lo hi : Option Int} {c : α} (h : c ∈ cutL xs lo hi) : c ∈ xs := List.mem_of_mem_drop (List.mem_of_mem_take h)
theorem cutL_len {α : Type} (xs : List α) (lo hi : Option Int) : (cutL xs lo hi).length ≤ xs.length := by
  unfold cutL
  rw [List.length_take, List.length_drop]
  omega
theorem slc_ok {G H : Hp} {a : D} {lo hi : Option Int} {sl : Slot} {x : V} {Q : VK} (sm : Same G H) (h : slcD a lo hi = some sl) (hx : BRp K G H a x) (k : ∀ v G' H', Stp G H G' H' → SlRp K G' H' H sl v → Q v H') : rSlAll K x lo hi H Q := by
  cases a with
  | str z =>
    cases h
    obtain ⟨rfl, g⟩ := br_str hx
    refine .inl (.inl ⟨z, rfl, g.1, ?_⟩)
    have e : cutS z lo hi = ⟨(cutL z.cps.toList lo hi).toArray⟩ := by
      unfold cutS cutL
      rw [str_len]
    rw [e]
    exact k _ G H (Stp.refl sm) (slStr (g.sub (Nat.le_trans (cutL_len _ _ _) (by rw [str_len]; exact g.1)) fun c hc => cutL_mem hc))
  | lst ds =>
    cases h
    obtain ⟨p, vs, rfl, h1, h2⟩ := hx
    refine .inl (.inr ⟨p, vs, rfl, .inl (.inl h1), fun q hq => ?_⟩)
    obtain ⟨st, w⟩ := newL sm hq (h2.cut lo hi)
    exact k _ _ _ st w
  | tup ds =>
    cases h
    obtain ⟨p, vs, rfl, h1, h2⟩ := br_tup hx sm
    refine .inr ⟨p, vs, rfl, .inl (.inl h1), fun hw => ?_, fun hw q hq => ?_⟩
    · have e : cutL ds lo hi = ds := cutL_all ds lo hi (by rw [← h2.length]; exact hw)
      rw [e] at k
      exact k _ G H (Stp.refl sm) hx
    · obtain ⟨st, w⟩ := newT sm hq (h2.cut lo hi)
      exact k _ _ _ st w
  | _ => cases h
end
end LJ
/-! LJe: built-in functions on data. -/
namespace LJ
open PySem PySem.Spec PyProof.Rows L2
section
variable {K : PySem.W.Frag}
/-- a call of one value does what f says -/
def OpD1 (K : PySem.W.Frag) (r : List V → Hp → VK → Prop) (f : D → Option Slot) : Prop :=
  ∀ G H d sl v Q, Same G H → f d = some sl → BRp K G H d v → (∀ v G' H', Stp G H G' H' → SlRp K G' H' H sl v → Q v H') → r [v] H Q
/-! len -/
def rLenA (K : PySem.W.Frag) : List V → Hp → VK → Prop := fun xs H Q => (∃ x n, xs = [x] ∧ LenV K x H n ∧ Q (.int n) H) ∨ ((∃ (p : Addr) (kvs : List (Key × V)), xs = [.ref p] ∧ Rd H p (.dK kvs) ∧ Q (.int ((kvs.length : Nat) : Int)) H) ∨ ∃ (p : Addr) (kvs : List (List Key × V)), xs = [.ref p] ∧ Rd H p (.dT kvs) ∧ Q (.int ((kvs.length : Nat) : Int)) H)
theorem call_lenK {X : Cx} : CallR X (.builtin "len") (fun xs H Q => ∃ (p : Addr) (kvs : List (Key × V)), xs = [.ref p] ∧ Rd H p (.dK kvs) ∧ Q (.int ((kvs.length : Nat) : Int)) H) := by
  intro pins s σ H xs us Q I r h
  obtain ⟨p, kvs, rfl, hp, q⟩ := h
  obtain ⟨u, rfl, rx⟩ := vals1 r
  cases rx
  exact d_len I hp fun t s' I' => ⟨.int kvs.length, H, I', ⟨t, rfl⟩, q⟩
theorem call_lenT {X : Cx} : CallR X (.builtin "len") (fun xs H Q => ∃ (p : Addr) (kvs : List (List Key × V)), xs = [.ref p] ∧ Rd H p (.dT kvs) ∧ Q (.int ((kvs.length : Nat) : Int)) H) := by
  intro pins s σ H xs us Q I r h
  obtain ⟨p, kvs, rfl, hp, q⟩ := h
  obtain ⟨u, rfl, rx⟩ := vals1 r
  cases rx
  obtain ⟨z, hd, ys, rel, dd⟩ := dt_rd I.hok hp
  have hl : kvs.length = ys.length := Paired.length rel
  refine PySem.call_len_dictH hd dd (by rw [← hl]; rw [sizeLine_eq] at z; omega) ?_
  rw [← hl]
  exact ⟨.int kvs.length, H, I.tok _, ⟨_, rfl⟩, q⟩
theorem callR_len {X : Cx} : CallR X (.builtin "len") (rLenA X.K) := call_len.or (call_lenK.or call_lenT)
theorem RpK.length {G : Hp} : ∀ {kvs : List (Key × D)} {vs : List (Key × V)}, RpK K G kvs vs → vs.length = kvs.length
  | [], vs, h => by simp only [RpK] at h; rw [h]; rfl
  | (k, d) :: ds, vs, h => by
    simp only [RpK] at h
    obtain ⟨x, r, e1, e2, e3⟩ := h
    rw [e1, List.length_cons, List.length_cons, RpK.length e3]
theorem RpT.length {G : Hp} : ∀ {kvs : List (List Key × D)} {vs : List (List Key × V)}, RpT K G kvs vs → vs.length = kvs.length
  | [], vs, h => by simp only [RpT] at h; rw [h]; rfl
  | (k, d) :: ds, vs, h => by
    simp only [RpT] at h
    obtain ⟨x, r, e1, e2, e3⟩ := h
    rw [e1, List.length_cons, List.length_cons, RpT.length e3]
theorem opD_len : OpD1 K (rLenA K) (biD .len) := by
  intro G H d sl v Q e hf h k
  cases d with
  | str x =>
    cases hf
    obtain ⟨rfl, g⟩ := br_str h
    exact .inl ⟨_, x.length, rfl, ⟨g.1, rfl⟩, k _ G H (Stp.refl e) slInt⟩
  | lst ds =>
    cases hf
    obtain ⟨a, vs, rfl, h1, h2⟩ := h
    refine .inl ⟨_, ds.length, rfl, .inl ⟨vs, .inl (.inl h1), h2.length.symm⟩, k _ G H (Stp.refl e) slInt⟩
  | tup ds =>
    cases hf
    obtain ⟨a, vs, rfl, h1, h2⟩ := br_tup h e
    refine .inl ⟨_, ds.length, rfl, .inr ⟨vs, .inl (.inl h1), h2.length.symm⟩, k _ G H (Stp.refl e) slInt⟩
  | scr ns =>
    cases hf
    obtain ⟨a, rfl, h1⟩ := br_scr h e
    refine .inl ⟨_, ns.length, rfl, .inl ⟨_, h1, by rw [List.length_map]⟩, k _ G H (Stp.refl e) slInt⟩
  | dK kvs =>
    cases hf
    obtain ⟨a, vs, rfl, h1, h2⟩ := h
    refine .inr (.inl ⟨a, vs, rfl, h1, ?_⟩)
    rw [h2.length]
    exact k _ G H (Stp.refl e) slInt
  | dT kvs =>
    cases hf
    obtain ⟨a, vs, rfl, h1, h2⟩ := h
    refine .inr (.inr ⟨a, vs, rfl, h1, ?_⟩)
    rw [h2.length]
    exact k _ G H (Stp.refl e) slInt
  | _ => cases hf
/-! tuple, list -/
def rTupA (K : PySem.W.Frag) : List V → Hp → VK → Prop := fun xs H Q => ∃ p ys, xs = [.ref p] ∧ ((SqL K H p ys ∧ ∀ l, H l = none → Q (.ref l) (upd H l (.tup ys))) ∨ (SqT K H p ys ∧ Q (.ref p) H))
def rLstA (K : PySem.W.Frag) : List V → Hp → VK → Prop := fun xs H Q => ∃ p ys, xs = [.ref p] ∧ (SqL K H p ys ∨ SqT K H p ys) ∧ ∀ l, H l = none → Q (.ref l) (upd H l (.lst ys))
theorem opD_tuple : OpD1 K (rTupA K) (biD .tupleO) := by
  intro G H d sl v Q e hf h k
  cases d with
  | lst ds =>
    cases hf
    obtain ⟨a, vs, rfl, h1, h2⟩ := h
    refine ⟨a, vs, rfl, .inl ⟨.inl (.inl h1), fun l hl => ?_⟩⟩
    obtain ⟨st, q⟩ := newT e hl h2
    exact k _ _ _ st q
  | tup ds =>
    cases hf
    obtain ⟨a, vs, rfl, h1, h2⟩ := br_tup h e
    exact ⟨a, vs, rfl, .inr ⟨.inl (.inl h1), k _ G H (Stp.refl e) h⟩⟩
  | _ => cases hf
theorem opD_list : OpD1 K (rLstA K) (biD .listO) := by
  intro G H d sl v Q e hf h k
  cases d with
  | lst ds =>
    cases hf
    obtain ⟨a, vs, rfl, h1, h2⟩ := h
    refine ⟨a, vs, rfl, .inl (.inl (.inl h1)), fun l hl => ?_⟩
    obtain ⟨st, q⟩ := newL e hl h2
    exact k _ _ _ st q
  | tup ds =>
    cases hf
    obtain ⟨a, vs, rfl, h1, h2⟩ := br_tup h e
    refine ⟨a, vs, rfl, .inr (.inl (.inl h1)), fun l hl => ?_⟩
    obtain ⟨st, q⟩ := newL e hl h2
    exact k _ _ _ st q
  | _ => cases hf
/-! max, min, sum -/
theorem intsD_eq : ∀ {ds : List D} {ns : List Int}, intsD ds = some ns → ds = ns.map D.int
  | [], ns, h => by cases h; rfl
  | d :: ds, ns, h => by
    cases d with
    | int i =>
      obtain ⟨ms, e, rfl⟩ := Option.map_eq_some_iff.mp (show (intsD ds).map (i :: ·) = some ns from h)
      rw [intsD_eq e]; rfl
    | _ => cases h
theorem intsD_map : ∀ (ns : List Int), intsD (ns.map D.int) = some ns
  | [] => rfl
  | n :: ns => by
    show (intsD (ns.map D.int)).map (n :: ·) = _
    rw [intsD_map ns]; rfl
theorem max_one {ns : List Int} {m m' : Int} (h : ns.max? = some m) (h1 : m' ∈ ns) (h2 : ∀ y, y ∈ ns → y ≤ m') : m' = m := by
  have := List.max?_eq_some_iff.mp h
  have a := h2 m this.1
  have b := this.2 m' h1
  omega
theorem min_one {ns : List Int} {m m' : Int} (h : ns.min? = some m) (h1 : m' ∈ ns) (h2 : ∀ y, y ∈ ns → m' ≤ y) : m' = m := by
  have := List.min?_eq_some_iff.mp h
  have a := h2 m this.1
  have b := this.2 m' h1
  omega
theorem opD_max : OpD1 K (rMax K) (biD .maxO) := by
  intro G H d sl v Q e hf h k
  cases d with
  | lst ds =>
    obtain ⟨ns, e1, e2⟩ := Option.bind_eq_some_iff.mp (show (intsD ds).bind (fun ns => ns.max?.map fun m => Slot.sh (.int m)) = some sl from hf)
    obtain ⟨m, e3, rfl⟩ := Option.map_eq_some_iff.mp e2
    obtain ⟨a, vs, rfl, h1, h2⟩ := h
    rw [intsD_eq e1] at h2
    rw [h2.ints] at h1
    refine ⟨a, ns, rfl, .inl (.inl h1), ?_, fun m' q1 q2 => ?_⟩
    · have := (List.max?_eq_some_iff.mp e3).1
      exact List.length_pos_of_mem this
    · rw [max_one e3 q1 q2]
      exact k _ G H (Stp.refl e) slInt
  | _ => cases hf
theorem opD_min : OpD1 K (rMin K) (biD .minO) := by
  intro G H d sl v Q e hf h k
  cases d with
  | lst ds =>
    obtain ⟨ns, e1, e2⟩ := Option.bind_eq_some_iff.mp (show (intsD ds).bind (fun ns => ns.min?.map fun m => Slot.sh (.int m)) = some sl from hf)
    obtain ⟨m, e3, rfl⟩ := Option.map_eq_some_iff.mp e2
    obtain ⟨a, vs, rfl, h1, h2⟩ := h
    rw [intsD_eq e1] at h2
    rw [h2.ints] at h1
    refine ⟨a, ns, rfl, .inl (.inl h1), ?_, fun m' q1 q2 => ?_⟩
    · have := (List.min?_eq_some_iff.mp e3).1
      exact List.length_pos_of_mem this
    · rw [min_one e3 q1 q2]
      exact k _ G H (Stp.refl e) slInt
  | _ => cases hf
theorem opD_sum : OpD1 K (rSum K) (biD .sumO) := by
  intro G H d sl v Q e hf h k
  cases d with
  | lst ds =>
    obtain ⟨ns, e1, rfl⟩ := Option.map_eq_some_iff.mp (show (intsD ds).map (fun ns => Slot.sh (.int ns.sum)) = some sl from hf)
    obtain ⟨a, vs, rfl, h1, h2⟩ := h
    rw [intsD_eq e1] at h2
    rw [h2.ints] at h1
    exact ⟨a, ns, rfl, .inl (.inl h1), k _ G H (Stp.refl e) slInt⟩
  | _ => cases hf
theorem blsD_eq : ∀ {ds : List D} {ns : List Bool}, blsD ds = some ns → ds = ns.map D.bl
  | [], ns, h => by cases h; rfl
  | d :: ds, ns, h => by
    cases d with
    | bl i =>
      obtain ⟨ms, e, rfl⟩ := Option.map_eq_some_iff.mp (show (blsD ds).map (i :: ·) = some ns from h)
      rw [blsD_eq e]; rfl
    | _ => cases h
theorem RpL.blsV {K : PySem.W.Frag} {H : Hp} : ∀ {ns : List Bool} {vs : List V}, RpL K H (ns.map D.bl) vs → vs = ns.map V.bl
  | [], vs, h => by simp only [List.map_nil, RpL] at h; exact h
  | n :: ns, vs, h => by
    simp only [List.map_cons, RpL, Rp] at h
    obtain ⟨x, r, e1, e2, e3⟩ := h
    rw [e1, e2, RpL.blsV e3]
    rfl
theorem opD_all : OpD1 K (rAll K) (biD .allO) := by
  intro G H d sl v Q e hf h k
  cases d with
  | lst ds =>
    obtain ⟨ns, e1, rfl⟩ := Option.map_eq_some_iff.mp (show (blsD ds).map (fun ns => Slot.sh (.bl (ns.all id))) = some sl from hf)
    obtain ⟨a, vs, rfl, h1, h2⟩ := h
    rw [blsD_eq e1] at h2
    rw [h2.blsV] at h1
    exact ⟨a, ns, rfl, .inl (.inl h1), k _ G H (Stp.refl e) slBl⟩
  | _ => cases hf
theorem opD_abs : OpD1 K (fun xs H Q => ∃ i, xs = [.int i] ∧ Q (.int (if i < 0 then -i else i)) H) (biD .absO) := by
  intro G H d sl v Q e hf h k
  cases d with
  | int i => cases hf; rw [br_int h]; exact ⟨i, rfl, k _ G H (Stp.refl e) slInt⟩
  | _ => cases hf
theorem opD_int : OpD1 K (fun xs H Q => (∃ i, xs = [.int i] ∧ Q (.int i) H) ∨ ∃ k, xs = [.bl k] ∧ Q (.int (if k then 1 else 0)) H) (biD .intO) := by
  intro G H d sl v Q e hf h k
  cases d with
  | int i => cases hf; rw [br_int h]; exact .inl ⟨i, rfl, k _ G H (Stp.refl e) slInt⟩
  | bl i => cases hf; rw [br_bl h]; exact .inr ⟨i, rfl, k _ G H (Stp.refl e) slInt⟩
  | _ => cases hf
theorem opD_bool : OpD1 K (fun xs H Q => (∃ i, xs = [.int i] ∧ Q (.bl (i != 0)) H) ∨ ∃ k, xs = [.bl k] ∧ Q (.bl k) H) (biD .boolO) := by
  intro G H d sl v Q e hf h k
  cases d with
  | int i => cases hf; rw [br_int h]; exact .inl ⟨i, rfl, k _ G H (Stp.refl e) slBl⟩
  | bl i => cases hf; rw [br_bl h]; exact .inr ⟨i, rfl, k _ G H (Stp.refl e) slBl⟩
  | _ => cases hf
/-! sorted -/
theorem sorted_one {ns ms : List Int} (h1 : ms.Perm ns) (h2 : ms.Pairwise (· ≤ ·)) : ms = sortI ns := by
  have p : (sortI ns).Perm ns := sortI_perm ns
  exact List.Perm.eq_of_pairwise (le := fun a b : Int => a ≤ b) (fun a b _ _ h3 h4 => by omega) h2 (sortI_sorted ns) (h1.trans p.symm)
def rSortA (K : PySem.W.Frag) : List V → Hp → VK → Prop := fun vs H Q => rSortedI K vs H Q ∨ (∃ (a : Addr) (kvs : List (Key × V)) (ks : List Int), vs = [.ref a] ∧ Rd H a (.dK kvs) ∧ kvs.map (·.1) = ks.map Sum.inl ∧ ks.length < 64 ∧
    ∀ (ys : List Int) (p : Addr), ys.Perm ks → ys.Pairwise (· ≤ ·) → H p = none → Q (.ref p) (upd H p (.lst (ys.map V.int))))
theorem callR_sorted {X : Cx} (hc : X.calm = true) : CallR X (.builtin "sorted") (rSortA X.K) := cr_sortedI.or (call_sortedDI hc)
theorem RpK.keys {G : Hp} : ∀ {kvs : List (Key × D)} {vs : List (Key × V)}, RpK K G kvs vs → vs.map (·.1) = kvs.map (·.1)
  | [], vs, h => by simp only [RpK] at h; rw [h]; rfl
  | (k, d) :: ds, vs, h => by
    simp only [RpK] at h
    obtain ⟨x, r, e1, e2, e3⟩ := h
    rw [e1, List.map_cons, List.map_cons, RpK.keys e3]
theorem keyBack_ints : ∀ {ks : List Key} {ns : List Int}, intsD (ks.map keyBack) = some ns → ks = ns.map Sum.inl
  | [], ns, h => by cases h; rfl
  | k :: ks, ns, h => by
    cases k with
    | inl i =>
      obtain ⟨ms, e, rfl⟩ := Option.map_eq_some_iff.mp (show (intsD (ks.map keyBack)).map (i :: ·) = some ns from h)
      rw [keyBack_ints e]; rfl
    | inr x => cases h
theorem opD_sort : OpD1 K (rSortA K) (biD .sortO) := by
  intro G H d sl v Q e hf h k
  cases d with
  | lst ds =>
    obtain ⟨ns, e1, e2⟩ := Option.bind_eq_some_iff.mp (show (intsD ds).bind (fun ns => some (Slot.ol ((sortI ns).map .int))) = some sl from hf)
    cases e2
    obtain ⟨a, vs, rfl, h1, h2⟩ := h
    rw [intsD_eq e1] at h2
    rw [h2.ints] at h1
    refine .inl ⟨a, ns, rfl, .inl (.inl h1), fun ms p q1 q2 hp => ?_⟩
    rw [sorted_one q1 q2]
    obtain ⟨st, q⟩ := newL e hp (RpL.ofInts (K := K) (H := G) (sortI ns))
    exact k _ _ _ st q
  | dK kvs =>
    obtain ⟨ns, e1, e2⟩ := Option.bind_eq_some_iff.mp (show (intsD (kvs.map fun p => keyBack p.1)).bind (fun ns => if ns.length < 64 then some (Slot.ol ((sortI ns).map .int)) else none) = some sl from hf)
    split at e2
    · rename_i h64
      cases e2
      obtain ⟨a, vs, rfl, h1, h2⟩ := h
      have ek : kvs.map (·.1) = ns.map Sum.inl := keyBack_ints (by rw [List.map_map]; exact e1)
      refine .inr ⟨a, vs, ns, rfl, h1, by rw [h2.keys]; exact ek, h64, fun ms p q1 q2 hp => ?_⟩
      rw [sorted_one q1 q2]
      obtain ⟨st, q⟩ := newL e hp (RpL.ofInts (K := K) (H := G) (sortI ns))
      exact k _ _ _ st q
    · cases e2
  | _ => cases hf
/-! isinstance -/
def tyN : Ty → String
  | .int => "int" | .bool => "bool" | .str => "str" | .list => "list" | .tuple => "tuple"
theorem isTy_kit {G H : Hp} {d : D} {v : V} {t : Ty} {b : Bool} (e : Same G H) (h : BRp K G H d v) (hi : isTy t d = some b) : ∃ tv, TyX K H v tv ∧ PySem.W.kitOne K tv (.type (tyN t)) = some b := by
  cases d with
  | non => rw [br_non h]; exact ⟨_, .base .non, kit_ty (by cases t <;> cases hi <;> decide +kernel)⟩
  | bl x => rw [br_bl h]; exact ⟨_, .base (.bl x), kit_ty (by cases t <;> cases hi <;> decide +kernel)⟩
  | int x => rw [br_int h]; exact ⟨_, .base (.int x), kit_ty (by cases t <;> cases hi <;> decide +kernel)⟩
  | str x => rw [(br_str h).1]; exact ⟨_, .base (.str x), kit_ty (by cases t <;> cases hi <;> decide +kernel)⟩
  | lst ds => obtain ⟨a, vs, rfl, h1, h2⟩ := h; exact ⟨_, .base (.lst h1), kit_ty (by cases t <;> cases hi <;> decide +kernel)⟩
  | tup ds => obtain ⟨a, vs, rfl, h1, h2⟩ := br_tup h e; exact ⟨_, .base (.tup h1), kit_ty (by cases t <;> cases hi <;> decide +kernel)⟩
  | scr _ => cases t <;> cases hi
  | dK _ => cases t <;> cases hi
  | dT _ => cases t <;> cases hi
end
end LJ
/-! LJf: what is walked; the world's facts; the look that compares the small language with the text. -/
namespace LJ
open PySem PySem.Spec PyProof.Rows L2

/-! ### what is walked -/
def Wk (K : PySem.W.Frag) (J : L2.It) (ds : List D) (Kp : Hp → Hp → Prop) : Prop :=
  ∀ i G1 H1, Kp G1 H1 → (∀ d, ds[i]? = some d → J.go i H1 ∧ ∀ x H', J.yld i H1 x H' → ∃ G', Stp G1 H1 G' H' ∧ Rp K G' d x) ∧ (ds.length ≤ i → J.stop i H1)
def KpC (G' H' : Hp) : Hp → Hp → Prop := fun G1 H1 => Stp G' H' G1 H1
def KpS (G' H' : Hp) : Hp → Hp → Prop := fun G1 H1 => Same G' G1 ∧ Same G1 H1
section
variable (K : PySem.W.Frag)
def tI (kp : Hp → Hp → Hp → Hp → Prop) (F : En → Option (List D)) : TI := fun σ H R => ∃ G0 H0 ρ G ds, SR K G0 H0 ρ σ G H ∧ F ρ = some ds ∧ ∀ J G' H', Stp G H G' H' → Wk K J ds (kp G' H') → R J H'
end
section
variable {K : PySem.W.Frag} {Kp : Hp → Hp → Prop}
theorem wk_list {a : Addr} {ds : List D} {vs : List V} (h : ∀ G1 H1, Kp G1 H1 → Same G1 H1 ∧ H1 a = some (.lst vs) ∧ RpL K G1 ds vs) : Wk K (Itl K a) ds Kp := by
  intro i G1 H1 hk
  obtain ⟨sm, h1, h2⟩ := h G1 H1 hk
  have hs : SqL K H1 a vs := .inl (.inl h1)
  refine ⟨fun d hd => ?_, fun hi => ⟨vs, hs, by rw [h2.length]; exact hi⟩⟩
  obtain ⟨v, hv, rv⟩ := h2.get hd
  refine ⟨⟨vs, v, hs, hv⟩, fun x H' ⟨e, q⟩ => ?_⟩
  subst e
  have := q vs hs
  rw [hv] at this
  cases this
  exact ⟨G1, Stp.refl sm, rv⟩
theorem wk_tup {a : Addr} {ds : List D} {vs : List V} (h : ∀ G1 H1, Kp G1 H1 → Same G1 H1 ∧ H1 a = some (.tup vs) ∧ RpL K G1 ds vs) : Wk K (Itt K a) ds Kp := by
  intro i G1 H1 hk
  obtain ⟨sm, h1, h2⟩ := h G1 H1 hk
  have hs : SqT K H1 a vs := .inl (.inl h1)
  refine ⟨fun d hd => ?_, fun hi => ⟨vs, hs, by rw [h2.length]; exact hi⟩⟩
  obtain ⟨v, hv, rv⟩ := h2.get hd
  refine ⟨⟨vs, v, hs, hv⟩, fun x H' ⟨e, q⟩ => ?_⟩
  subst e
  have := q vs hs
  rw [hv] at this
  cases this
  exact ⟨G1, Stp.refl sm, rv⟩
theorem wk_str {z : Str} (g : StrG z) (h : ∀ G1 H1, Kp G1 H1 → Same G1 H1) : Wk K (Its z) (z.cps.toList.map sgn) Kp := by
  intro i G1 H1 hk
  have sm := h G1 H1 hk
  refine ⟨fun d hd => ?_, fun hi => ?_⟩
  · rw [List.getElem?_map, Array.getElem?_toList] at hd
    obtain ⟨c, hc, rfl⟩ := Option.map_eq_some_iff.mp hd
    refine ⟨(Array.getElem?_eq_some_iff.mp hc).1, fun x H' ⟨e, c', hc', ex⟩ => ?_⟩
    subst e
    rw [hc] at hc'
    cases hc'
    refine ⟨G1, Stp.refl sm, ?_⟩
    subst ex
    simp only [sgn, Rp]
    exact ⟨trivial, g.one (by rw [← Array.getElem?_toList] at hc; exact List.mem_of_getElem? hc)⟩
  · rw [List.length_map, Array.length_toList] at hi
    exact hi
theorem wk_rng {lo : Int} {n : Nat} (h : ∀ G1 H1, Kp G1 H1 → Same G1 H1) : Wk K (Itr lo n) (rngD lo n) Kp := by
  intro i G1 H1 hk
  have sm := h G1 H1 hk
  refine ⟨fun d hd => ?_, fun hi => ?_⟩
  · unfold rngD at hd
    rw [List.getElem?_map] at hd
    obtain ⟨c, hc, rfl⟩ := Option.map_eq_some_iff.mp hd
    obtain ⟨h1, h2⟩ := List.getElem?_eq_some_iff.mp hc
    rw [List.length_range] at h1
    rw [List.getElem_range] at h2
    subst h2
    refine ⟨h1, fun x H' ⟨e, ex⟩ => ?_⟩
    subst e
    refine ⟨G1, Stp.refl sm, ?_⟩
    subst ex
    simp only [Rp]
  · unfold rngD at hi
    rw [List.length_map, List.length_range] at hi
    exact hi
theorem enumD_get : ∀ (ds : List D) (j i : Nat) (d : D), (enumD j ds)[i]? = some d → ∃ d', ds[i]? = some d' ∧ d = .tup [.int ((j + i : Nat) : Int), d']
  | [], _, _, _, h => by simp [enumD] at h
  | d0 :: ds, j, 0, d, h => by
    simp only [enumD, List.getElem?_cons_zero, Option.some.injEq] at h
    exact ⟨d0, rfl, h.symm⟩
  | d0 :: ds, j, i + 1, d, h => by
    simp only [enumD, List.getElem?_cons_succ] at h
    obtain ⟨d', e1, e2⟩ := enumD_get ds (j + 1) i d h
    refine ⟨d', e1, ?_⟩
    rw [e2, show j + 1 + i = j + (i + 1) by omega]
theorem enumD_len : ∀ (ds : List D) (j : Nat), (enumD j ds).length = ds.length
  | [], _ => rfl
  | d :: ds, j => by simp only [enumD, List.length_cons, enumD_len ds]
/-- a pair just laid -/
theorem pair_new {G H : Hp} {T : Addr} {d1 d2 : D} {x y : V} (sm : Same G H) (hT : H T = none) (h1 : Rp K G d1 x) (h2 : Rp K G d2 y) : ∃ G', Stp G H G' (upd H T (.tup [x, y])) ∧ Rp K G' (.tup [d1, d2]) (.ref T) := by
  obtain ⟨st, q⟩ := newT sm hT (RpL.cons h1 (RpL.cons h2 RpL.nil))
  exact ⟨_, st, q⟩
theorem wk_enum {a : Addr} {ds : List D} {vs : List V} (h : ∀ G1 H1, Kp G1 H1 → Same G1 H1 ∧ H1 a = some (.lst vs) ∧ RpL K G1 ds vs) : Wk K (Ite K a) (enumD 0 ds) Kp := by
  intro i G1 H1 hk
  obtain ⟨sm, h1, h2⟩ := h G1 H1 hk
  have hs : SqL K H1 a vs := .inl (.inl h1)
  refine ⟨fun d hd => ?_, fun hi => ⟨vs, hs, by rw [h2.length]; rw [enumD_len] at hi; exact hi⟩⟩
  obtain ⟨d', e1, rfl⟩ := enumD_get ds 0 i d hd
  obtain ⟨v, hv, rv⟩ := h2.get e1
  refine ⟨⟨vs, v, hs, hv⟩, fun x H' ⟨T, y, ex, hT, eH, q⟩ => ?_⟩
  subst ex eH
  have := q vs hs
  rw [hv] at this
  cases this
  rw [Nat.zero_add]
  exact pair_new sm hT (by simp only [Rp]) rv
theorem zipD_get : ∀ (as bs : List D) (i : Nat) (d : D), (zipD as bs)[i]? = some d → ∃ x y, as[i]? = some x ∧ bs[i]? = some y ∧ d = .tup [x, y]
  | [], bs, _, _, h => by simp [zipD] at h
  | a :: as, [], _, _, h => by simp [zipD] at h
  | a :: as, b :: bs, 0, d, h => by
    simp only [zipD, List.getElem?_cons_zero, Option.some.injEq] at h
    exact ⟨a, b, rfl, rfl, h.symm⟩
  | a :: as, b :: bs, i + 1, d, h => by
    simp only [zipD, List.getElem?_cons_succ] at h
    exact zipD_get as bs i d h
theorem zipD_len : ∀ (as bs : List D), (zipD as bs).length = min as.length bs.length
  | [], bs => by simp [zipD]
  | a :: as, [] => by simp [zipD]
  | a :: as, b :: bs => by simp only [zipD, List.length_cons, zipD_len as bs]; omega
theorem wk_zipL {a b : Addr} {ds es : List D} {vs ws : List V} (h : ∀ G1 H1, Kp G1 H1 → Same G1 H1 ∧ (H1 a = some (.lst vs) ∧ RpL K G1 ds vs) ∧ (H1 b = some (.lst ws) ∧ RpL K G1 es ws)) : Wk K (Itz K a b) (zipD ds es) Kp := by
  intro i G1 H1 hk
  obtain ⟨sm, ⟨h1, h2⟩, h3, h4⟩ := h G1 H1 hk
  have hs : SqL K H1 a vs := .inl (.inl h1)
  have ht : SqL K H1 b ws := .inl (.inl h3)
  refine ⟨fun d hd => ?_, fun hi => ⟨vs, ws, hs, ht, by rw [h2.length, h4.length]; rw [zipD_len] at hi; omega⟩⟩
  obtain ⟨x, y, e1, e2, rfl⟩ := zipD_get ds es i d hd
  obtain ⟨v, hv, rv⟩ := h2.get e1
  obtain ⟨w, hw, rw'⟩ := h4.get e2
  refine ⟨⟨vs, ws, v, w, hs, ht, hv, hw⟩, fun x H' ⟨T, y, z, ex, hT, eH, q1, q2⟩ => ?_⟩
  subst ex eH
  have z1 := q1 vs hs
  have z2 := q2 ws ht
  rw [hv] at z1
  rw [hw] at z2
  cases z1
  cases z2
  exact pair_new sm hT rv rw'
theorem wk_zipT {a b : Addr} {ds es : List D} {vs ws : List V} (h : ∀ G1 H1, Kp G1 H1 → Same G1 H1 ∧ (H1 a = some (.tup vs) ∧ RpL K G1 ds vs) ∧ (H1 b = some (.tup ws) ∧ RpL K G1 es ws)) : Wk K (RZ.ItzT K a b) (zipD ds es) Kp := by
  intro i G1 H1 hk
  obtain ⟨sm, ⟨h1, h2⟩, h3, h4⟩ := h G1 H1 hk
  have hs : SqT K H1 a vs := .inl (.inl h1)
  have ht : SqT K H1 b ws := .inl (.inl h3)
  refine ⟨fun d hd => ?_, fun hi => ⟨vs, ws, hs, ht, by rw [h2.length, h4.length]; rw [zipD_len] at hi; omega⟩⟩
  obtain ⟨x, y, e1, e2, rfl⟩ := zipD_get ds es i d hd
  obtain ⟨v, hv, rv⟩ := h2.get e1
  obtain ⟨w, hw, rw'⟩ := h4.get e2
  refine ⟨⟨vs, ws, v, w, hs, ht, hv, hw⟩, fun x H' ⟨T, y, z, ex, hT, eH, q1, q2⟩ => ?_⟩
  subst ex eH
  have z1 := q1 vs hs
  have z2 := q2 ws ht
  rw [hv] at z1
  rw [hw] at z2
  cases z1
  cases z2
  exact pair_new sm hT rv rw'
theorem RpK.getE {G : Hp} : ∀ {kvs : List (Key × D)} {vs : List (Key × V)} {i : Nat} {k : Key} {d : D}, RpK K G kvs vs → kvs[i]? = some (k, d) → ∃ v, vs[i]? = some (k, v) ∧ KeyG k ∧ Rp K G d v
  | [], vs, i, k, d, h, e => by simp at e
  | (k0, d0) :: ds, vs, 0, k, d, h, e => by
    simp only [RpK] at h
    obtain ⟨x, r, e1, e2, e3⟩ := h
    simp at e
    obtain ⟨rfl, rfl⟩ := e
    exact ⟨x, by rw [e1]; rfl, e2.1, e2.2⟩
  | (k0, d0) :: ds, vs, i + 1, k, d, h, e => by
    simp only [RpK] at h
    obtain ⟨x, r, e1, e2, e3⟩ := h
    obtain ⟨v, q1, q2⟩ := RpK.getE (i := i) e3 (by simpa using e)
    exact ⟨v, by rw [e1]; simpa using q1, q2⟩
theorem RpT.getE {G : Hp} : ∀ {kvs : List (List Key × D)} {vs : List (List Key × V)} {i : Nat} {k : List Key} {d : D}, RpT K G kvs vs → kvs[i]? = some (k, d) → ∃ v, vs[i]? = some (k, v) ∧ (∀ j ∈ k, KeyG j) ∧ Rp K G d v
  | [], vs, i, k, d, h, e => by simp at e
  | (k0, d0) :: ds, vs, 0, k, d, h, e => by
    simp only [RpT] at h
    obtain ⟨x, r, e1, e2, e3⟩ := h
    simp at e
    obtain ⟨rfl, rfl⟩ := e
    exact ⟨x, by rw [e1]; rfl, e2.1, e2.2⟩
  | (k0, d0) :: ds, vs, i + 1, k, d, h, e => by
    simp only [RpT] at h
    obtain ⟨x, r, e1, e2, e3⟩ := h
    obtain ⟨v, q1, q2⟩ := RpT.getE (i := i) e3 (by simpa using e)
    exact ⟨v, by rw [e1]; simpa using q1, q2⟩
end

section
variable {K : PySem.W.Frag} {Kp : Hp → Hp → Prop}
theorem kV_rp {G : Hp} {k : Key} (h : KeyG k) : Rp K G (keyBack k) (kV k) := by
  cases k with
  | inl i => simp only [keyBack, Rp]; rfl
  | inr x => simp only [keyBack, Rp]; exact ⟨rfl, h⟩
theorem kVs_rp {G : Hp} : ∀ {ks : List Key}, (∀ j ∈ ks, KeyG j) → RpL K G (ks.map keyBack) (ks.map kV)
  | [], _ => RpL.nil
  | k :: ks, h => RpL.cons (kV_rp (h k List.mem_cons_self)) (kVs_rp fun j hj => h j (List.mem_cons_of_mem _ hj))
theorem wk_keysK {a : Addr} {o : Obj} {kvs : List (Key × D)} {vs : List (Key × V)} (h : ∀ G1 H1, Kp G1 H1 → Same G1 H1 ∧ H1 a = some (.frz o (.dK vs)) ∧ RpK K G1 kvs vs) : Wk K (Itk a o vs) (kvs.map fun p => keyBack p.1) Kp := by
  intro i G1 H1 hk
  obtain ⟨sm, h1, h2⟩ := h G1 H1 hk
  refine ⟨fun d hd => ?_, fun hi => ⟨h1, by rw [h2.length]; simpa using hi⟩⟩
  rw [List.getElem?_map] at hd
  obtain ⟨⟨kk, dd⟩, e1, rfl⟩ := Option.map_eq_some_iff.mp hd
  obtain ⟨v, hv, kg, rv⟩ := h2.getE e1
  refine ⟨⟨h1, (List.getElem?_eq_some_iff.mp hv).1⟩, fun x H' ⟨e, k', v', ek, ex⟩ => ?_⟩
  subst e
  rw [hv] at ek
  cases ek
  subst ex
  exact ⟨G1, Stp.refl sm, kV_rp kg⟩
theorem wk_items {a : Addr} {o : Obj} {kvs : List (Key × D)} {vs : List (Key × V)} (h : ∀ G1 H1, Kp G1 H1 → Same G1 H1 ∧ H1 a = some (.frz o (.dK vs)) ∧ RpK K G1 kvs vs) : Wk K (Iti a o vs) (kvs.map fun p => .tup [keyBack p.1, p.2]) Kp := by
  intro i G1 H1 hk
  obtain ⟨sm, h1, h2⟩ := h G1 H1 hk
  refine ⟨fun d hd => ?_, fun hi => ⟨h1, by rw [h2.length]; simpa using hi⟩⟩
  rw [List.getElem?_map] at hd
  obtain ⟨⟨kk, dd⟩, e1, rfl⟩ := Option.map_eq_some_iff.mp hd
  obtain ⟨v, hv, kg, rv⟩ := h2.getE e1
  refine ⟨⟨h1, (List.getElem?_eq_some_iff.mp hv).1⟩, fun x H' ⟨T, k', v', ek, ex, hT, eH⟩ => ?_⟩
  rw [hv] at ek
  cases ek
  subst ex eH
  exact pair_new sm hT (kV_rp kg) rv
end
/-! ### the world's facts -/
/-- what a def promises, by its worth -/
def spC (K : PySem.W.Frag) (n : Nat) (F : List D → Option Slot) : Sp := fun vs H Q _ => vs.length = n ∧ ∃ G ds sl, Same G H ∧ RpL K G ds vs ∧ F ds = some sl ∧ ∀ v G' H', Stp G H G' H' → SlRp K G' H' H sl v → Q v H'
/-- the built-in names that are taken as they are -/
def bnames : List Str := ["len", "range", "tuple", "list", "max", "min", "sum", "abs", "int", "bool", "str", "sorted", "set", "isinstance", "enumerate", "zip", "all"]
/-- a generator def's promise: all that it hands out -/
def spG (K : PySem.W.Frag) (n : Nat) (F : List D → Option Slot) : SpG := fun vs H Q _ => vs.length = n ∧ ∃ G ds ys, Same G H ∧ RpL K G ds vs ∧ F ds = some (.ol ys) ∧ ∀ ws G' H', Stp G H G' H' → RpL K G' ys ws → Q ws H'
structure Wd (fn gn : Nat → Str) (gv : Nat → Option D) (cal : Nat → List D → Option Slot) (k : Nat) (P : Program) (w : World) (K : PySem.W.Frag) (mg : Str → Option Value) (base : Heap) : Prop where
  blt : ∀ x ∈ bnames, mg x = none
  glb : ∀ g d, gv g = some d → ∃ u v, mg (gn g) = some u ∧ RelV v u ∧ ∀ G, Rp K G d v
  gen : ∀ f ds sl, 1000 ≤ f → cal f ds = some sl → ∃ ys, sl = .ol ys ∧ ∃ (fa : Addr) (fd : FuncData) (ps : List Str) (j : Nat), j + 3 ≤ k ∧ ds.length = ps.length ∧ mg (fn f) = some (.ref fa) ∧ PySem.W.keepIn K (.ref fa) = true ∧ Binds K fd ps [] ∧ GFn P w K mg base j fa fd ps (spG K ps.length (cal f))
  cal : ∀ f ds sl, f < 1000 → cal f ds = some sl → ∃ (fa : Addr) (fd : FuncData) (ps : List Str) (j : Nat), j ≤ k ∧ ds.length = ps.length ∧ mg (fn f) = some (.ref fa) ∧ PySem.W.keepIn K (.ref fa) = true ∧ Binds K fd ps [] ∧ FnOk P w K mg base CX0 j fa fd ps (spC K ps.length (cal f))
structure Good (fn gn : Nat → Str) (gv : Nat → Option D) (cal : Nat → List D → Option Slot) (k : Nat) (N : List Str) (sc : Scope) (X : Cx) : Prop where
  wd : Wd fn gn gv cal k X.prog X.w X.K X.mg X.base
  room : Room k X.A
  nN : X.N = N
  nd : N.Nodup
  hsc : X.env.scope = sc
  calm : X.calm = true

/-! ### the look -/
def visB (sc : Scope) (x : Str) : Bool := match sc.names.lookup x with
  | some .local => true
  | some .cell => true
  | some .free => true
  | _ => false
def glB (sc : Scope) (x : Str) : Bool := match sc.names.lookup x with
  | some .globalImplicit => true
  | _ => false
def locB (sc : Scope) (x : Str) : Bool := match sc.names.lookup x with
  | some .local => true
  | some .cell => true
  | _ => false
theorem visB_ok {sc : Scope} {x : Str} (h : visB sc x = true) : Vis sc x := by
  unfold visB at h
  split at h
  · exact .inl (by assumption)
  · exact .inr (.inl (by assumption))
  · exact .inr (.inr (by assumption))
  · cases h
theorem locB_ok {sc : Scope} {x : Str} (h : locB sc x = true) : Loc sc x := by
  unfold locB at h
  split at h
  · exact .inl (by assumption)
  · exact .inr (by assumption)
  · cases h
def nmB (x : Str) : Bool := !(x == ("__debug__" : Str)) && !(x == ("__classdict__" : Str)) && !(x == ("__name__" : Str))
theorem nmB_ok {x : Str} (h : nmB x = true) : (x == ("__debug__" : Str)) = false ∧ (x == ("__classdict__" : Str)) = false ∧ x ≠ "__name__" := by
  unfold nmB at h
  simp only [Bool.and_eq_true, Bool.not_eq_true'] at h
  exact ⟨h.1.1, h.1.2, by simpa using h.2⟩
def isOp : BOp → Operator → Bool
  | .add, .Add => true | .sub, .Sub => true | .mul, .Mult => true | .fdiv, .FloorDiv => true | .mod, .Mod => true | .pow, .Pow => true
  | _, _ => false
def isCo : COp → CmpOp → Bool
  | .eq, .Eq => true | .ne, .NotEq => true | .lt, .Lt => true | .le, .LtE => true | .gt, .Gt => true | .ge, .GtE => true | .is_, .Is => true | .nis, .IsNot => true | .in_, .In => true | .nin, .NotIn => true
  | _, _ => false
def biN : Bi → Str
  | .len => "len" | .tupleO => "tuple" | .listO => "list" | .maxO => "max" | .minO => "min" | .sumO => "sum" | .absO => "abs" | .intO => "int" | .boolO => "bool" | .sortO => "sorted" | .allO => "all"
def strB (x : Str) : Bool := decide (x.length ≤ sizeLine) && PyData.strOk x
/-- a piece of the text: an expression, a list of them -/
inductive Px where
  | e (x : Expr) | l (xs : List Expr)
def isNil : E → Bool
  | .nil => true
  | _ => false
def notSet : Expr → Bool
  | .Set _ _ _ => false
  | _ => true
def plainIx : Expr → Bool
  | .Slice _ _ _ _ => false
  | _ => true
def isNone : Option Expr → Bool
  | none => true
  | _ => false
def optB (o : Option Expr) (n : Bool) (f : Expr → Bool) : Bool := match o with
  | none => n
  | some x => f x
def isM1 : Option Expr → Bool
  | some (.UnaryOp .USub (.Constant (.int 1) _ _) _) => true
  | _ => false
def isCall1 (sc : Scope) (f : Str) : Expr → Option Expr
  | .Call (.Name n _) [a] [] _ => if n = f ∧ glB sc n = true then some a else none
  | _ => none
def isCall2 (sc : Scope) (f : Str) : Expr → Option (Expr × Expr)
  | .Call (.Name n _) [a, b] [] _ => if n = f ∧ glB sc n = true then some (a, b) else none
  | _ => none
def isName (sc : Scope) (f : Str) : Expr → Bool
  | .Name n _ => decide (n = f) && glB sc n
  | _ => false
def isTup2 (sc : Scope) (f g : Str) : Expr → Bool
  | .Tuple [a, b] _ _ => isName sc f a && isName sc g b
  | _ => false
def isMeth1 (m : Str) : Expr → Option (Expr × Expr)
  | .Call (.Attribute o n apos) [a] [] pos => if n = m ∧ (apos.endLine == pos.line) = true then some (o, a) else none
  | _ => none
def isMeth2 (m : Str) : Expr → Option (Expr × Expr × Expr)
  | .Call (.Attribute o n apos) [a, b] [] pos => if n = m ∧ (apos.endLine == pos.line) = true then some (o, a, b) else none
  | _ => none
def isMeth0 (m : Str) : Expr → Option Expr
  | .Call (.Attribute o n apos) [] [] pos => if n = m ∧ (apos.endLine == pos.line) = true then some o else none
  | _ => none
def noCall0 : Expr → Bool
  | .Call _ [] _ _ => false
  | .Starred _ _ => false
  | _ => true
def tgB (N : List Str) (sc : Scope) : Tg → Expr → Bool
  | .one i, .Name x _ => decide (N[i]? = some x) && locB sc x
  | .many is, .Tuple es _ _ => decide (es.length = is.length) && (is.zip es).all fun p => match p.2 with
    | .Name x _ => decide (N[p.1]? = some x) && locB sc x
    | _ => false
  | _, _ => false
def needTup : E → Bool
  | .enum _ => true | .zip _ _ => true | .items _ => true
  | _ => false
def isTupX : Expr → Bool
  | .Tuple _ _ _ => true
  | _ => false
def ownB (tg : Tg) (own : List Nat) : Bool := match tg with
  | .one i => decide (i ∈ own)
  | .many is => is.all fun i => decide (i ∈ own)
def stB (scope : Scope) (n : Str) : Bool := match scope.names.lookup n with | some .local => true | some .cell => true | _ => false
def stN (scope : Scope) : Expr → Bool
  | .Name n _ => stB scope n
  | _ => false
def stT (scope : Scope) : Expr → Bool
  | .Name n _ => stB scope n
  | .Tuple es _ _ => es.all (stN scope)
  | _ => false
def condB (ifs : List Expr) (n : Bool) (f : Expr → Bool) : Bool := match ifs with
  | [] => n
  | [c] => f c
  | _ => false
section
variable (fn gn : Nat → Str) (N : List Str)
def chk : E → Scope → Px → Bool
  | .var i, sc, .e (.Name x _) => decide (N[i]? = some x) && visB sc x && nmB x
  | .cI i, _, .e (.Constant (.int j) _ _) => decide (i = j)
  | .cS z, _, .e (.Constant (.str y) _ _) => decide (z = y) && strB z
  | .cB b, _, .e (.Constant (.bool c) _ _) => b == c
  | .cN, _, .e (.Constant .none _ _) => true
  | .neg i, _, .e (.UnaryOp .USub (.Constant (.int j) _ _) _) => decide (i = j)
  | .glb g, sc, .e (.Name x _) => decide (x = gn g) && glB sc x && nmB x
  | .bin op a b, sc, .e (.BinOp x o y _) => isOp op o && chk a sc (.e x) && chk b sc (.e y)
  | .cmp op a b, sc, .e (.Compare x [o] [y] _) => isCo op o && notSet y && chk a sc (.e x) && chk b sc (.e y)
  | .chain op op' a b c, sc, .e (.Compare x [o, o'] [y, z] _) => isCo op o && isCo op' o' && notSet z && chk a sc (.e x) && chk b sc (.e y) && chk c sc (.e z)
  | .and_ a b, sc, .e (.BoolOp .And (x :: y :: r) pos) => chk a sc (.e x) && (if r.isEmpty then chk b sc (.e y) else chk b sc (.e (.BoolOp .And (y :: r) pos)))
  | .or_ a b, sc, .e (.BoolOp .Or (x :: y :: r) pos) => chk a sc (.e x) && (if r.isEmpty then chk b sc (.e y) else chk b sc (.e (.BoolOp .Or (y :: r) pos)))
  | .not_ a, sc, .e (.UnaryOp .Not x _) => chk a sc (.e x)
  | .ite c a b, sc, .e (.IfExp x y z _) => chk c sc (.e x) && chk a sc (.e y) && chk b sc (.e z)
  | .idx a i, sc, .e (.Subscript x y _) => plainIx y && chk a sc (.e x) && chk i sc (.e y)
  | .slc a lo hi, sc, .e (.Subscript x (.Slice l h st _) _) => isNone st && chk a sc (.e x) && optB l (isNil lo) (fun y => chk lo sc (.e y)) && optB h (isNil hi) (fun y => chk hi sc (.e y))
  | .rev a, sc, .e (.Subscript x (.Slice l h st _) _) => isNone l && isNone h && isM1 st && chk a sc (.e x)
  | .glist f args, sc, .e x => (match isCall1 sc "list" x with
    | some (.Call (.Name y _) (z :: es) [] _) => decide (1000 ≤ f) && decide (y = fn f) && glB sc y && nmB y && chk args sc (.l (z :: es))
    | _ => false)
  | .call f args, sc, .e (.Call (.Name x _) es [] _) => decide (f < 1000) && decide (x = fn f) && glB sc x && nmB x && chk args sc (.l es)
  | .bi1 f a, sc, .e x => (match isCall1 sc (biN f) x with | some y => chk a sc (.e y) | none => false)
  | .biR f a, sc, .e x => (match isCall1 sc (biN f) x with
    | some y => (match isCall1 sc "range" y with | some z => (f == .tupleO || f == .listO) && chk a sc (.e z) | none => false)
    | none => false)
  | .max2 a b, sc, .e x => (match isCall2 sc "max" x with | some (y, z) => chk a sc (.e y) && chk b sc (.e z) | none => false)
  | .sset a, sc, .e x => (match isCall1 sc "sorted" x with
    | some y => (match isCall1 sc "set" y with | some z => chk a sc (.e z) | none => false)
    | none => false)
  | .isi2 a t t', sc, .e x => (match isCall2 sc "isinstance" x with | some (y, z) => chk a sc (.e y) && isTup2 sc (Str.ofString (tyN t)) (Str.ofString (tyN t')) z | none => false)
  | .isi a t, sc, .e x => (match isCall2 sc "isinstance" x with | some (y, z) => chk a sc (.e y) && isName sc (Str.ofString (tyN t)) z | none => false)

  | .join o a, sc, .e x => (match isMeth1 "join" x with | some (y, z) => noCall0 y && chk o sc (.e y) && chk a sc (.e z) | none => false)
  | .index o a, sc, .e x => (match isMeth1 "index" x with | some (y, z) => noCall0 y && chk o sc (.e y) && chk a sc (.e z) | none => false)
  | .get o a b, sc, .e x => (match isMeth2 "get" x with | some (y, z, t) => noCall0 y && chk o sc (.e y) && chk a sc (.e z) && chk b sc (.e t) | none => false)
  | .dicK es, _, .e (.Dict [] [] _) => isNil es
  | .dicT es, _, .e (.Dict [] [] _) => isNil es
  | .dic1T a b, sc, .e (.Dict [some x] [y] _) => chk a sc (.e x) && chk b sc (.e y)
  | .dic1 a b, sc, .e (.Dict [some x] [y] _) => chk a sc (.e x) && chk b sc (.e y)
  | .tupE es, sc, .e (.Tuple xs _ _) => chk es sc (.l xs)
  | .lstE es, sc, .e (.List xs _) => chk es sc (.l xs)
  | .lc own elt tg it cond, sc, .e (.ListComp el [⟨t, x, ifs, a⟩] scope _) =>
    decide (a = 0) && notSet x && chk it sc (.e x) && tgB N (relS scope sc) tg t && (!needTup it || isTupX t) && blkC N sc scope (own.map fun i => (N.getD i Str.empty, i)) && chk elt (relS scope sc) (.e el) && ownB tg own && stT scope t &&
      condB ifs (isNil cond) (fun c => chk cond (relS scope sc) (.e c))
  | .rng1 a, sc, .e x => (match isCall1 sc "range" x with | some y => chk a sc (.e y) | none => false)
  | .rng2 a b, sc, .e x => (match isCall2 sc "range" x with | some (y, z) => chk a sc (.e y) && chk b sc (.e z) | none => false)
  | .enum a, sc, .e x => (match isCall1 sc "enumerate" x with | some y => chk a sc (.e y) | none => false)
  | .items a, sc, .e x => (match isMeth0 "items" x with | some y => noCall0 y && chk a sc (.e y) | none => false)
  | .zip a b, sc, .e x => (match isCall2 sc "zip" x with | some (y, z) => chk a sc (.e y) && chk b sc (.e z) | none => false)
  | .nil, _, .l [] => true
  | .cons a r, sc, .l (x :: xs) => chk a sc (.e x) && chk r sc (.l xs)
  | _, _, _ => false
end
end LJ
/-! LJg: expressions of the small language are what they say. -/
namespace LJ
open PySem PySem.Spec PyProof.Rows L2
section
variable {fn gn : Nat → Str} {gv : Nat → Option D} {cal : Nat → List D → Option Slot} {k : Nat} {N : List Str}
theorem Good.hu {sc : Scope} {X : Cx} (g : Good fn gn gv cal k N sc X) : X.A.units + 65 < cLine := by have := g.room.un; omega
theorem Good.hu1 {sc : Scope} {X : Cx} (g : Good fn gn gv cal k N sc X) : X.A.units + 1 < cLine := by have := g.room.un; omega
theorem Good.gl {sc : Scope} {X : Cx} (g : Good fn gn gv cal k N sc X) {x : Str} (h : glB sc x = true) : Gl X x := by
  unfold Gl PySem.Env.kindOf
  rw [g.hsc]
  unfold glB at h
  split at h
  · assumption
  · cases h
theorem Good.bl {sc : Scope} {X : Cx} (g : Good fn gn gv cal k N sc X) {x : Str} (h : x ∈ bnames) : X.mg x = none := Wd.blt g.wd x h

/-- what an expression's soundness says -/
structure Pe (fn gn : Nat → Str) (gv : Nat → Option D) (cal : Nat → List D → Option Slot) (k : Nat) (N : List Str) (e : E) : Prop where
  s : ∀ sc x, chk fn gn N e sc (.e x) = true → ∀ X, Good fn gn gv cal k N sc X → PE X x (tF X.K fun ρ => (evA gv cal e ρ).s)
  b : ∀ sc x, chk fn gn N e sc (.e x) = true → ∀ X, Good fn gn gv cal k N sc X → PE X x (tB X.K fun ρ => (evA gv cal e ρ).b)
  t : ∀ sc x, chk fn gn N e sc (.e x) = true → ∀ X, Good fn gn gv cal k N sc X → PT X x (tT X.K fun ρ => asB (evA gv cal e ρ).b)
  iC : ∀ sc x, chk fn gn N e sc (.e x) = true → ∀ X, Good fn gn gv cal k N sc X → ∀ tg, (needTup e = true → isTupX tg = true) → PI X tg x (tI X.K KpC fun ρ => (evA gv cal e ρ).i)
  iS : ∀ sc x, chk fn gn N e sc (.e x) = true → ∀ X, Good fn gn gv cal k N sc X → ∀ tg, (needTup e = true → isTupX tg = true) → PI X tg x (tI X.K KpS fun ρ => (evA gv cal e (hidI e ρ)).i)
  w : ∀ sc op vs p, chk fn gn N e sc (.e (.BoolOp op vs p)) = true → ∀ X, Good fn gn gv cal k N sc X → PW X (.BoolOp op vs p) (tT X.K fun ρ => asB (evA gv cal e ρ).b)
  l : ∀ sc xs, chk fn gn N e sc (.l xs) = true → ∀ X, Good fn gn gv cal k N sc X → PA X xs (tL X.K fun ρ => (evA gv cal e ρ).l)
  p : ∀ sc x, chk fn gn N e sc (.e x) = true → ∀ ρ, (evA gv cal e ρ).p = asI (evA gv cal e ρ).b
  c : ∀ sc x, chk fn gn N e sc (.e x) = true → ∀ ρ, (evA gv cal e ρ).c = asB (evA gv cal e ρ).b
  sb : ∀ ρ sl, (evA gv cal e ρ).s = some sl → (evA gv cal e ρ).b = some sl.d

theorem PI.imp {X : Cx} {tg x : Expr} {t t' : TI} (h : PI X tg x t) (w : ∀ σ H Q, t' σ H Q → t σ H Q) : PI X tg x t' := ⟨fun pins s σ H R I q => h.run pins s σ H R I (w σ H R q)⟩
theorem PI.by {X : Cx} {tg x : Expr} {t' : TI} (h : ∀ σ H R, t' σ H R → ∃ t, PI X tg x t ∧ t σ H R) : PI X tg x t' := ⟨fun pins s σ H R I q => let ⟨t, h1, h2⟩ := h σ H R q; h1.run pins s σ H R I h2⟩
theorem PE.by {X : Cx} {x : Expr} {t' : TE} (h : ∀ σ H R, t' σ H R → ∃ t, PE X x t ∧ t σ H R) : PE X x t' := ⟨fun pins s σ H R I q => let ⟨t, h1, h2⟩ := h σ H R q; h1.run pins s σ H R I h2⟩
theorem SR.hid {K : PySem.W.Frag} {G0 H0 G H : Hp} {ρ : En} {σ : L2.St} (r : SR K G0 H0 ρ σ G H) : SR K G0 H0 (hidE ρ) σ G H where
  len := by rw [List.length_map]; exact r.len
  gh := r.gh
  g0 := r.g0
  h0 := r.h0
  new := r.new
  slot := fun i sl e => by
    rw [List.getElem?_map] at e
    obtain ⟨s, e1, e2⟩ := Option.map_eq_some_iff.mp e
    cases s with
    | none => cases e2
    | some t => cases t with
      | sh d => cases e2; exact r.slot i _ e1
      | _ => cases e2
  sep := fun i j s t v e1 e2 o1 o2 q1 q2 => by
    rw [List.getElem?_map] at e1
    obtain ⟨s', e1', e2'⟩ := Option.map_eq_some_iff.mp e1
    cases s' with
    | none => cases e2'
    | some t' => cases t' with
      | sh d => cases e2'; cases o1
      | _ => cases e2'

/-- what plain data are walked as -/
theorem walkD_some {d : D} {ds : List D} (h : walkD d = some ds) :
    (d = .lst ds) ∨ (d = .tup ds) ∨ (∃ z, d = .str z ∧ ds = z.cps.toList.map sgn) ∨ (∃ kvs, d = .dK kvs ∧ ds = kvs.map fun p => keyBack p.1) := by
  cases d with
  | lst _ => cases h; exact .inl rfl
  | tup _ => cases h; exact .inr (.inl rfl)
  | str z => cases h; exact .inr (.inr (.inl ⟨z, rfl, rfl⟩))
  | dK kvs => cases h; exact .inr (.inr (.inr ⟨kvs, rfl, rfl⟩))
  | _ => cases h
/-- shared data walked -/
def KpOk (kp : Hp → Hp → Hp → Hp → Prop) : Prop := ∀ G' H' G1 H1, kp G' H' G1 H1 → Same G' G1 ∧ Same G1 H1
theorem kpC_ok : KpOk KpC := fun _ _ _ _ h => ⟨h.g, h.gh⟩
theorem kpS_ok : KpOk KpS := fun _ _ _ _ h => h
theorem walk_of {X : Cx} {tg x : Expr} {F : En → Option D} {kp : Hp → Hp → Hp → Hp → Prop} (ok : KpOk kp) (h : PE X x (tD X.K F)) : PI X tg x (tI X.K kp fun ρ => (F ρ).bind walkD) := by
  refine PI.by ?_
  rintro σ H R ⟨G0, H0, ρ, G, ds, r, e, q⟩
  obtain ⟨d, e1, e2⟩ := Option.bind_eq_some_iff.mp e
  rcases walkD_some e2 with rfl | rfl | ⟨z, rfl, rfl⟩ | ⟨kvs, rfl, rfl⟩
  · refine ⟨_, pi_list h, G0, H0, ρ, G, .lst ds, r, e1, fun v G' H' st rv => ?_⟩
    simp only [Rp] at rv
    obtain ⟨a, vs, rfl, h1, h2⟩ := rv
    refine ⟨a, rfl, ⟨vs, .inl (.inl (st.gh _ _ h1))⟩, q _ G' H' st (wk_list (vs := vs) fun G1 H1 hk => ?_)⟩
    obtain ⟨k1, k2⟩ := ok _ _ _ _ hk
    exact ⟨k2, k2 _ _ (k1 _ _ h1), RpL.mono k1 _ h2⟩
  · refine ⟨_, pi_tup h, G0, H0, ρ, G, .tup ds, r, e1, fun v G' H' st rv => ?_⟩
    simp only [Rp] at rv
    obtain ⟨a, vs, rfl, h1, h2⟩ := rv
    refine ⟨a, rfl, ⟨vs, .inl (.inl (st.gh _ _ h1))⟩, q _ G' H' st (wk_tup (vs := vs) fun G1 H1 hk => ?_)⟩
    obtain ⟨k1, k2⟩ := ok _ _ _ _ hk
    exact ⟨k2, k2 _ _ (k1 _ _ h1), RpL.mono k1 _ h2⟩
  · refine ⟨_, pi_str h, G0, H0, ρ, G, .str z, r, e1, fun v G' H' st rv => ?_⟩
    simp only [Rp] at rv
    exact ⟨z, rv.1, q _ G' H' st (wk_str rv.2 fun G1 H1 hk => (ok _ _ _ _ hk).2)⟩
  · refine ⟨_, pi_keys h, G0, H0, ρ, G, .dK kvs, r, e1, fun v G' H' st rv => ?_⟩
    simp only [Rp] at rv
    obtain ⟨a, o, vs, rfl, h1, h2⟩ := rv
    refine ⟨a, o, rfl, .inl ⟨vs, st.gh _ _ h1, q _ G' H' st (wk_keysK (vs := vs) fun G1 H1 hk => ?_)⟩⟩
    obtain ⟨k1, k2⟩ := ok _ _ _ _ hk
    exact ⟨k2, k2 _ _ (k1 _ _ h1), RpK.mono k1 _ h2⟩
theorem hid_of {X : Cx} {tg x : Expr} {F : En → Option (List D)} (h : PI X tg x (tI X.K KpS F)) : PI X tg x (tI X.K KpS fun ρ => F (hidE ρ)) :=
  PI.imp h fun σ H R ⟨G0, H0, ρ, G, ds, r, e, q⟩ => ⟨G0, H0, hidE ρ, G, ds, r.hid, e, q⟩
theorem hid_ofI {X : Cx} {tg x : Expr} {F : En → Option (List D)} {e : E} (h : PI X tg x (tI X.K KpS F)) : PI X tg x (tI X.K KpS fun ρ => F (hidI e ρ)) := by
  unfold hidI
  cases isVarE e with
  | true => exact hid_of h
  | false => exact h
theorem tT_of {X : Cx} {x : Expr} {F : En → Option D} (hs : ∀ env whole, isTrue x env whole = (do let v ← whole; standAt x.pos; holding [v] (truthy v))) (h : PE X x (tB X.K F)) : PT X x (tT X.K fun ρ => asB (F ρ)) := by
  refine PT.imp (pt_val h fun whole => hs _ whole) ?_
  rintro σ H Q ⟨G0, H0, ρ, G, b, r, e, q⟩
  cases ed : F ρ with
  | none => simp only [ed] at e; cases e
  | some d =>
    simp only [ed] at e
    cases d with
    | bl c =>
      cases e
      exact ⟨G0, H0, ρ, G, .bl b, r, ed, fun v G' H' st bv => ⟨b, br_bl bv, q G' H' st⟩⟩
    | _ => cases e
theorem asB_dOf {s : Option Slot} {t : Bool} (e : asB (dOf s) = some t) : s = some (.sh (.bl t)) := by
  cases s with
  | none => cases e
  | some s => cases s with
    | sh d => cases d with
      | bl b' => cases e; rfl
      | _ => cases e
    | _ => cases e
/-- most expressions: from their worth alone -/
theorem Pe.of {e : E} {F : En → Option Slot} (hF : ∀ ρ, evA gv cal e ρ = W.of (F ρ)) (nt : needTup e = false) (nl : ∀ sc xs, chk fn gn N e sc (.l xs) = false)
    (hs : ∀ sc x, chk fn gn N e sc (.e x) = true → ∀ X, Good fn gn gv cal k N sc X → PE X x (tF X.K F))
    (ht : (∀ sc x, chk fn gn N e sc (.e x) = true → ∀ env whole, isTrue x env whole = (do let v ← whole; standAt x.pos; holding [v] (truthy v))) ∨ ∀ sc x, chk fn gn N e sc (.e x) = true → ∀ X, Good fn gn gv cal k N sc X → PT X x (tT X.K fun ρ => asB (dOf (F ρ)))) (nb : ∀ sc op vs p, chk fn gn N e sc (.e (.BoolOp op vs p)) = false := by intros; rfl) : Pe fn gn gv cal k N e where
  s := fun sc x h X g => by simp only [hF]; exact hs sc x h X g
  b := fun sc x h X g => by simp only [hF]; exact toB (hs sc x h X g)
  t := fun sc x h X g => by
    simp only [hF]
    rcases ht with ht | ht
    · exact tT_of (ht sc x h) (toB (hs sc x h X g))
    · exact ht sc x h X g
  iC := fun sc x h X g tg _ => by simp only [hF]; exact walk_of kpC_ok (toD (hs sc x h X g))
  iS := fun sc x h X g tg _ => by
    simp only [hF]
    exact hid_ofI (F := fun ρ => (W.of (F ρ)).i) (walk_of kpS_ok (toD (hs sc x h X g)))
  w := fun sc op vs p h => by rw [nb] at h; cases h
  l := fun sc xs h => by rw [nl] at h; cases h
  p := fun sc x h ρ => by rw [hF]; rfl
  c := fun sc x h ρ => by rw [hF]; rfl
  sb := fun ρ sl h => by
    rw [hF] at h ⊢
    show dOf (F ρ) = _
    rw [show F ρ = some sl from h]; rfl
end
end LJ
/-! LJh: the constructors, one by one. -/
namespace LJ
open PySem PySem.Spec PyProof.Rows L2
section
variable {fn gn : Nat → Str} {gv : Nat → Option D} {cal : Nat → List D → Option Slot} {k : Nat} {N : List Str}

theorem chk_var {i : Nat} {sc : Scope} {x : Expr} (h : chk fn gn N (.var i) sc (.e x) = true) : ∃ n p, x = .Name n p ∧ N[i]? = some n ∧ visB sc n = true ∧ nmB n = true := by
  cases x with
  | Name n p =>
    have h : (decide (N[i]? = some n) && visB sc n && nmB n) = true := h
    simp only [Bool.and_eq_true, decide_eq_true_eq] at h
    exact ⟨n, p, rfl, h.1.1, h.1.2, h.2⟩
  | _ => exact absurd h Bool.false_ne_true
theorem pe_v {i : Nat} {sc : Scope} {x : Expr} (h : chk fn gn N (.var i) sc (.e x) = true) {X : Cx} (g : Good fn gn gv cal k N sc X) : PE X x (tVar i) := by
  obtain ⟨n, p, rfl, h1, h2, h3⟩ := chk_var h
  obtain ⟨n1, n2, _⟩ := nmB_ok h3
  exact pe_var (by rw [g.nN]; exact h1) (by rw [g.hsc]; exact visB_ok h2) n1 n2
theorem rd_some {ρ : En} {i : Nat} {sl : Slot} (h : rd ρ i = some sl) : ρ[i]? = some (some sl) := by
  unfold rd at h
  split at h
  · cases h; assumption
  · cases h
theorem Pe.var {i : Nat} : Pe fn gn gv cal k N (.var i) where
  s := fun sc x h X g => by
    refine PE.imp (pe_v h g) ?_
    rintro σ H Q ⟨G0, H0, ρ, G, sl, r, e, q⟩
    replace e : shOnly (rd ρ i) = some sl := e
    cases es : rd ρ i with
    | none => rw [es] at e; cases e
    | some t =>
      rw [es] at e
      cases t with
      | sh d =>
        cases e
        obtain ⟨v, e1, e2⟩ := r.slot i _ (rd_some es)
        exact ⟨v, e1, q v G H (Stp.refl r.gh) e2⟩
      | _ => cases e
  b := fun sc x h X g => by
    refine PE.imp (pe_v h g) ?_
    rintro σ H Q ⟨G0, H0, ρ, G, d, r, e, q⟩
    obtain ⟨sl, e1, rfl⟩ := Option.map_eq_some_iff.mp (show dOf (rd ρ i) = some d from e)
    obtain ⟨v, e2, e3⟩ := r.slot i _ (rd_some e1)
    exact ⟨v, e2, q v G H (Stp.refl r.gh) (e3.br r.gh)⟩
  t := fun sc x h X g => by
    obtain ⟨n, p, rfl, _⟩ := chk_var h
    refine tT_of (F := fun ρ => dOf (rd ρ i)) (fun _ _ => rfl) (PE.imp (pe_v h g) ?_)
    rintro σ H Q ⟨G0, H0, ρ, G, d, r, e, q⟩
    obtain ⟨sl, e1, rfl⟩ := Option.map_eq_some_iff.mp (show dOf (rd ρ i) = some d from e)
    obtain ⟨v, e2, e3⟩ := r.slot i _ (rd_some e1)
    exact ⟨v, e2, q v G H (Stp.refl r.gh) (e3.br r.gh)⟩
  iC := fun sc x h X g tg _ => by
    refine PI.by ?_
    rintro σ H R ⟨G0, H0, ρ, G, ds, r, e, q⟩
    replace e : (dOf (noDic (rd ρ i))).bind walkD = some ds := e
    cases es : rd ρ i with
    | none => rw [es] at e; cases e
    | some t =>
      rw [es] at e
      obtain ⟨v, e1, e2⟩ := r.slot i _ (rd_some es)
      cases t with
      | sh d =>
        have hp : PE X x (tD X.K fun ρ => dOf (shOnly (rd ρ i))) := by
          refine PE.imp (pe_v h g) ?_
          rintro σ H Q ⟨G0, H0, ρ, G, d, r, e, q⟩
          cases es : rd ρ i with
          | none => simp only [es] at e; cases e
          | some t =>
            simp only [es] at e
            cases t with
            | sh d =>
              cases e
              obtain ⟨v, e1, e2⟩ := r.slot i _ (rd_some es)
              exact ⟨v, e1, q v G H (Stp.refl r.gh) e2⟩
            | _ => cases e
        exact ⟨_, walk_of (tg := tg) kpC_ok hp, G0, H0, ρ, G, ds, r, by simp only [es]; exact e, q⟩
      | ol xs =>
        cases e
        obtain ⟨a, vs, rfl, h1, h2, h3, h4⟩ := e2
        refine ⟨_, pi_list (pe_v h g), .ref a, e1, a, rfl, ⟨vs, .inl (.inl h1)⟩, q _ G H (Stp.refl r.gh) (wk_list (vs := vs) fun G1 H1 hk => ⟨hk.gh, hk.h _ _ h1, RpL.mono hk.g _ h4⟩)⟩
      | ok xs => cases e
      | ot xs => cases e
  iS := fun sc x h X g tg _ => by
    have hp : PE X x (tD X.K fun ρ => dOf (shOnly (rd ρ i))) := by
      refine PE.imp (pe_v h g) ?_
      rintro σ H Q ⟨G0, H0, ρ, G, d, r, e, q⟩
      cases es : rd ρ i with
      | none => simp only [es] at e; cases e
      | some t =>
        simp only [es] at e
        cases t with
        | sh d =>
          cases e
          obtain ⟨v, e1, e2⟩ := r.slot i _ (rd_some es)
          exact ⟨v, e1, q v G H (Stp.refl r.gh) e2⟩
        | _ => cases e
    refine PI.imp (walk_of (tg := tg) kpS_ok hp) ?_
    rintro σ H R ⟨G0, H0, ρ, G, ds, r, e, q⟩
    refine ⟨G0, H0, hidE ρ, G, ds, r.hid, ?_, q⟩
    replace e : (dOf (noDic (rd (hidE ρ) i))).bind walkD = some ds := e
    cases es : rd (hidE ρ) i with
    | none => rw [es] at e; cases e
    | some t =>
      rw [es] at e
      have := rd_some es
      rw [List.getElem?_map] at this
      obtain ⟨s0, _, e2⟩ := Option.map_eq_some_iff.mp this
      cases s0 with
      | none => cases e2
      | some t0 => cases t0 with
        | sh d => cases e2; simp only [es]; exact e
        | _ => cases e2
  w := fun sc op vs p h => absurd h Bool.false_ne_true
  l := fun sc xs h => absurd h Bool.false_ne_true
  p := fun sc x h ρ => rfl
  c := fun sc x h ρ => rfl
  sb := fun ρ sl h => by
    show dOf (rd ρ i) = _
    replace h : shOnly (rd ρ i) = some sl := h
    cases es : rd ρ i with
    | none => rw [es] at h; cases h
    | some t =>
      rw [es] at h
      cases t with
      | sh d => cases h; rfl
      | _ => cases h

/-- a constant -/
theorem tC_of {X : Cx} {x : Expr} {v : V} {d : D} (h : PE X x (tC v)) (hd : ∀ G, Rp X.K G d v) : PE X x (tF X.K fun _ => some (.sh d)) :=
  PE.imp h fun σ H Q ⟨G0, H0, ρ, G, sl, r, e, q⟩ => by cases e; exact q v G H (Stp.refl r.gh) (hd G)
theorem Pe.cI {i : Int} : Pe fn gn gv cal k N (.cI i) := by
  refine Pe.of (F := fun _ => some (.sh (.int i))) (fun _ => rfl) rfl (fun sc xs => rfl) (fun sc x h X g => ?_) (.inl fun sc x h env whole => ?_)
  · cases x with
    | Constant c j p => cases c with
      | int j => have h := of_decide_eq_true (show decide (i = j) = true from h); subst h; exact tC_of pe_int fun G => by simp only [Rp]
      | _ => exact absurd h Bool.false_ne_true
    | _ => exact absurd h Bool.false_ne_true
  · cases x with
    | Constant c j p => rfl
    | _ => exact absurd h Bool.false_ne_true
theorem Pe.cS {z : Str} : Pe fn gn gv cal k N (.cS z) := by
  refine Pe.of (F := fun _ => some (.sh (.str z))) (fun _ => rfl) rfl (fun sc xs => rfl) (fun sc x h X g => ?_) (.inl fun sc x h env whole => ?_)
  · cases x with
    | Constant c j p => cases c with
      | str j =>
        have h : (decide (z = j) && strB z) = true := h
        simp only [Bool.and_eq_true, decide_eq_true_eq, strB] at h
        obtain ⟨e, h1, h2⟩ := h
        subst e
        exact tC_of pe_str fun G => by simp only [Rp]; exact ⟨trivial, h1, h2⟩
      | _ => exact absurd h Bool.false_ne_true
    | _ => exact absurd h Bool.false_ne_true
  · cases x with
    | Constant c j p => rfl
    | _ => exact absurd h Bool.false_ne_true
theorem Pe.cB {b : Bool} : Pe fn gn gv cal k N (.cB b) := by
  refine Pe.of (F := fun _ => some (.sh (.bl b))) (fun _ => rfl) rfl (fun sc xs => rfl) (fun sc x h X g => ?_) (.inl fun sc x h env whole => ?_)
  · cases x with
    | Constant c j p => cases c with
      | bool j => have h := eq_of_beq (show (b == j) = true from h); subst h; exact tC_of pe_bl fun G => by simp only [Rp]
      | _ => exact absurd h Bool.false_ne_true
    | _ => exact absurd h Bool.false_ne_true
  · cases x with
    | Constant c j p => rfl
    | _ => exact absurd h Bool.false_ne_true
theorem Pe.cN : Pe fn gn gv cal k N .cN := by
  refine Pe.of (F := fun _ => some (.sh .non)) (fun _ => rfl) rfl (fun sc xs => rfl) (fun sc x h X g => ?_) (.inl fun sc x h env whole => ?_)
  · cases x with
    | Constant c j p => cases c with
      | none => exact tC_of pe_non fun G => by simp only [Rp]
      | _ => exact absurd h Bool.false_ne_true
    | _ => exact absurd h Bool.false_ne_true
  · cases x with
    | Constant c j p => rfl
    | _ => exact absurd h Bool.false_ne_true
theorem Pe.neg {i : Int} : Pe fn gn gv cal k N (.neg i) := by
  refine Pe.of (F := fun _ => some (.sh (.int (-i)))) (fun _ => rfl) rfl (fun sc xs => rfl) (fun sc x h X g => ?_) (.inl fun sc x h env whole => ?_)
  · cases x with
    | UnaryOp op e p => cases op with
      | USub => cases e with
        | Constant c j p => cases c with
          | int j =>
            have h := of_decide_eq_true (show decide (i = j) = true from h)
            subst h
            refine PE.imp (pe_un un_neg pe_int) ?_
            rintro σ H Q ⟨G0, H0, ρ, G, sl, r, e, q⟩
            cases e
            exact ⟨i, rfl, q _ G H (Stp.refl r.gh) slInt⟩
          | _ => exact absurd h Bool.false_ne_true
        | _ => exact absurd h Bool.false_ne_true
      | _ => exact absurd h Bool.false_ne_true
    | _ => exact absurd h Bool.false_ne_true
  · cases x with
    | UnaryOp op e p => cases op with
      | USub => rfl
      | _ => exact absurd h Bool.false_ne_true
    | _ => exact absurd h Bool.false_ne_true
theorem Pe.glb {g : Nat} : Pe fn gn gv cal k N (.glb g) := by
  refine Pe.of (F := fun _ => dsl (gv g)) (fun _ => rfl) rfl (fun sc xs => rfl) (fun sc x h X gd => ?_) (.inl fun sc x h env whole => ?_)
  · cases x with
    | Name n p =>
      have h : (decide (n = gn g) && glB sc n && nmB n) = true := h
      simp only [Bool.and_eq_true, decide_eq_true_eq] at h
      obtain ⟨⟨rfl, h2⟩, h3⟩ := h
      refine PE.by ?_
      rintro σ H Q ⟨G0, H0, ρ, G, sl, r, e, q⟩
      obtain ⟨d, ed, rfl⟩ := Option.map_eq_some_iff.mp (show (gv g).map Slot.sh = some sl from e)
      obtain ⟨u, v, hm, rv, hr⟩ := gd.wd.glb g d ed
      refine ⟨_, pe_glob (gd.gl h2) hm rv (nmB_ok h3).1, ?_⟩
      exact q v G H (Stp.refl r.gh) (hr G)
    | _ => exact absurd h Bool.false_ne_true
  · cases x with
    | Name n p => rfl
    | _ => exact absurd h Bool.false_ne_true
end
end LJ
/-! LJi: the constructors with parts. -/
namespace LJ
open PySem PySem.Spec PyProof.Rows L2
section
variable {fn gn : Nat → Str} {gv : Nat → Option D} {cal : Nat → List D → Option Slot} {k : Nat} {N : List Str}

/-! ### operators -/
def rOf (K : PySem.W.Frag) : BOp → R2
  | .add => rAddA K | .sub => rI0 fun i j => .int (i - j) | .mul => rMulA K | .fdiv => rI CDivW fun i j => .int (i / j) | .mod => rI (fun _ j => 0 < j) fun i j => .int (i % j) | .pow => rI CPow fun i j => .int (i ^ j.toNat)
theorem rOf_ok {X : Cx} {op : BOp} {o : Operator} (h : isOp op o = true) : OpR X (binaryOp o) (rOf X.K op) := by
  cases op <;> cases o <;> first | exact absurd h Bool.false_ne_true | skip
  · exact opR_add
  · exact op_sub
  · exact opR_mul
  · exact op_fdivW
  · exact op_mod
  · exact op_pow
theorem opD_of {K : PySem.W.Frag} (op : BOp) : OpD K (rOf K op) (opBin op) := by
  cases op
  · exact opD_add
  · exact opD_sub
  · exact opD_mul
  · exact opD_fdiv
  · exact opD_mod
  · exact opD_pow
theorem Pe.bin {op : BOp} {a b : E} (ha : Pe fn gn gv cal k N a) (hb : Pe fn gn gv cal k N b) : Pe fn gn gv cal k N (.bin op a b) := by
  refine Pe.of (F := fun ρ => two (evA gv cal a ρ).b (evA gv cal b ρ).b (opBin op)) (fun _ => rfl) rfl (fun sc xs => rfl) (fun sc x h X g => ?_) (.inl fun sc x h env whole => ?_)
  · cases x with
    | BinOp x o y p =>
      have h : (isOp op o && chk fn gn N a sc (.e x) && chk fn gn N b sc (.e y)) = true := h
      simp only [Bool.and_eq_true] at h
      obtain ⟨⟨h1, h2⟩, h3⟩ := h
      exact PE.imp (pe_op (rOf_ok h1) (ha.b sc x h2 X g) (hb.b sc y h3 X g)) (tOp_of (opD_of op))
    | _ => exact absurd h Bool.false_ne_true
  · cases x with
    | BinOp x o y p => rfl
    | _ => exact absurd h Bool.false_ne_true
def rCo (K : PySem.W.Frag) : COp → R2
  | .eq => rEqA K | .ne => rNeA K | .lt => rI0 fun i j => .bl (decide (i < j)) | .le => rI0 fun i j => .bl (decide (i ≤ j)) | .gt => rI0 fun i j => .bl (decide (j < i)) | .ge => rI0 fun i j => .bl (decide (j ≤ i))
  | .is_ => rIsA | .nis => rNisA | .in_ => rInA K | .nin => rNinA K
theorem opR_eqD {X : Cx} (hu : X.A.units + 65 < cLine) : OpR X (compareOp .Eq) (rEqD X.K) := op_eqD (by omega)
theorem rCo_ok {X : Cx} (hu : X.A.units + 65 < cLine) {op : COp} {o : CmpOp} (h : isCo op o = true) : OpR X (compareOp o) (rCo X.K op) := by
  cases op <;> cases o <;> first | exact absurd h Bool.false_ne_true | skip
  · exact opR_eqA hu
  · exact opR_neA hu
  · exact op_lt
  · exact op_le
  · exact op_gt
  · exact op_ge
  · exact opR_is
  · exact opR_nis
  · exact opR_in hu
  · exact opR_nin hu
theorem opD_co {K : PySem.W.Frag} (op : COp) : CmpD K (rCo K op) (opCmp op) := by
  cases op
  · exact opD_eq
  · exact opD_ne
  · exact opD_lt
  · exact opD_le
  · exact opD_gt
  · exact opD_ge
  · exact opD_is
  · exact opD_nis
  · exact opD_in
  · exact opD_nin
theorem notSet_mark {o : CmpOp} {y : Expr} (h : notSet y = true) : behindInMarks o y = false := by
  cases y <;> first | exact absurd h Bool.false_ne_true | rfl
theorem bl_two {x y : Option D} {f : D → D → Option Bool} : bl (two x y f) = two x y fun a b => bl (f a b) := by
  cases x <;> cases y <;> rfl
theorem Pe.cmp {op : COp} {a b : E} (ha : Pe fn gn gv cal k N a) (hb : Pe fn gn gv cal k N b) : Pe fn gn gv cal k N (.cmp op a b) := by
  have inv : ∀ {sc x}, chk fn gn N (.cmp op a b) sc (.e x) = true → ∃ x' o y p, x = .Compare x' [o] [y] p ∧ isCo op o = true ∧ notSet y = true ∧ chk fn gn N a sc (.e x') = true ∧ chk fn gn N b sc (.e y) = true := by
    intro sc x h
    cases x with
    | Compare x os ys p =>
      match os, ys, h with
      | [o], [y], h =>
        have h : (isCo op o && notSet y && chk fn gn N a sc (.e x) && chk fn gn N b sc (.e y)) = true := h
        simp only [Bool.and_eq_true] at h
        exact ⟨x, o, y, p, rfl, h.1.1.1, h.1.1.2, h.1.2, h.2⟩
      | [], _, h => exact absurd h Bool.false_ne_true
      | _ :: _ :: _, _, h => exact absurd h Bool.false_ne_true
      | [_], [], h => exact absurd h Bool.false_ne_true
      | [_], _ :: _ :: _, h => exact absurd h Bool.false_ne_true
    | _ => exact absurd h Bool.false_ne_true
  refine Pe.of (F := fun ρ => bl (two (evA gv cal a ρ).b (evA gv cal b ρ).b (opCmp op))) (fun _ => rfl) rfl (fun sc xs => rfl) (fun sc x h X g => ?_) (.inr fun sc x h X g => ?_)
  · obtain ⟨x', o, y, p, rfl, h1, h2, h3, h4⟩ := inv h
    simp only [bl_two]
    exact PE.imp (pe_cmpR (rCo_ok g.hu h1) (ha.b sc x' h3 X g) (hb.b sc y h4 X g) (notSet_mark h2)) (tOp_of (opD_co op))
  · obtain ⟨x', o, y, p, rfl, h1, h2, h3, h4⟩ := inv h
    refine PT.imp (pt_cmpR (rCo_ok g.hu h1) (ha.b sc x' h3 X g) (hb.b sc y h4 X g) (notSet_mark h2)) ?_
    rintro σ H Q ⟨G0, H0, ρ, G, c, r, e, q⟩
    refine tOp_of (opD_co op) σ H _ ⟨G0, H0, ρ, G, .sh (.bl c), r, ?_, fun v G' H' st sv => ?_⟩
    · replace e : asB (dOf (bl (two (evA gv cal a ρ).b (evA gv cal b ρ).b (opCmp op)))) = some c := e
      simp only [← bl_two]
      cases ez : two (evA gv cal a ρ).b (evA gv cal b ρ).b (opCmp op) with
      | none => rw [ez] at e; cases e
      | some z => rw [ez] at e; cases e; rfl
    · have : v = .bl c := by simpa only [SlRp, Rp] using sv
      exact ⟨c, this, q G' H' st⟩
/-- a comparison's answer, by values -/
theorem cmp_use {K : PySem.W.Frag} {r : R2} {f : D → D → Option Bool} (ho : CmpD K r f) {G H : Hp} {da db : D} {b : Bool} {va vb : V} {Q : VK} (e : Same G H) (hf : f da db = some b) (ha : BRp K G H da va) (hb : BRp K G H db vb)
    (k : ∀ v G' H', Stp G H G' H' → v = .bl b → Q v H') : r va vb H Q :=
  ho G H da db (.sh (.bl b)) va vb Q e (by show LJ.bl (f da db) = _; rw [hf]; rfl) ha hb fun v G' H' st sv => k v G' H' st (by simpa only [SlRp, Rp] using sv)
theorem Pe.chain {op op' : COp} {a b c : E} (ha : Pe fn gn gv cal k N a) (hb : Pe fn gn gv cal k N b) (hc : Pe fn gn gv cal k N c) : Pe fn gn gv cal k N (.chain op op' a b c) := by
  have inv : ∀ {sc x}, chk fn gn N (.chain op op' a b c) sc (.e x) = true → ∃ x' o o' y z p, x = .Compare x' [o, o'] [y, z] p ∧ isCo op o = true ∧ isCo op' o' = true ∧ notSet z = true ∧ chk fn gn N a sc (.e x') = true ∧ chk fn gn N b sc (.e y) = true ∧ chk fn gn N c sc (.e z) = true := by
    intro sc x h
    cases x with
    | Compare x os ys p =>
      match os, ys, h with
      | [o, o'], [y, z], h =>
        have h : (isCo op o && isCo op' o' && notSet z && chk fn gn N a sc (.e x) && chk fn gn N b sc (.e y) && chk fn gn N c sc (.e z)) = true := h
        simp only [Bool.and_eq_true] at h
        exact ⟨x, o, o', y, z, p, rfl, h.1.1.1.1.1, h.1.1.1.1.2, h.1.1.1.2, h.1.1.2, h.1.2, h.2⟩
      | [], _, h => exact absurd h Bool.false_ne_true
      | [_], _, h => exact absurd h Bool.false_ne_true
      | _ :: _ :: _ :: _, _, h => exact absurd h Bool.false_ne_true
      | [_, _], [], h => exact absurd h Bool.false_ne_true
      | [_, _], [_], h => exact absurd h Bool.false_ne_true
      | [_, _], _ :: _ :: _ :: _, h => exact absurd h Bool.false_ne_true
    | _ => exact absurd h Bool.false_ne_true
  have core : ∀ {K : PySem.W.Frag} {σ H Q}, tF K (fun ρ => chn op op' (evA gv cal a ρ).b (evA gv cal b ρ).b (evA gv cal c ρ).b) σ H Q →
      tChain (rCo K op) (rCo K op') (tB K fun ρ => (evA gv cal a ρ).b) (tB K fun ρ => (evA gv cal b ρ).b) (tB K fun ρ => (evA gv cal c ρ).b) σ H Q := by
    rintro K σ H Q ⟨G0, H0, ρ, G, sl, R, e, q⟩
    cases ea : (evA gv cal a ρ).b with
    | none => simp only [ea, chn] at e; cases e
    | some da =>
      cases eb : (evA gv cal b ρ).b with
      | none => simp only [ea, eb, chn] at e; cases e
      | some db =>
        simp only [ea, eb, chn] at e
        refine ⟨G0, H0, ρ, G, da, R, ea, fun va G1 H1 st1 b1 => ⟨G0, H0, ρ, G1, db, R.step st1, eb, fun vb G2 H2 st2 b2 => ?_⟩⟩
        cases ec : opCmp op da db with
        | none => simp only [ec] at e; cases e
        | some t =>
          simp only [ec] at e
          refine cmp_use (opD_co op) st2.gh ec (b1.step st2) b2 fun v G3 H3 st3 ev => ⟨t, ev, ?_⟩
          have st := st1.trans (st2.trans st3)
          cases t with
          | false => cases e; exact q _ G3 H3 st slBl
          | true =>
            cases ez : (evA gv cal c ρ).b with
            | none => simp only [ez] at e; cases e
            | some dz =>
              simp only [ez] at e
              obtain ⟨u, eu, rfl⟩ := bl_some e
              refine ⟨G0, H0, ρ, G3, dz, R.step st, ez, fun vz G4 H4 st4 b4 => ?_⟩
              refine cmp_use (opD_co op') st4.gh eu ((b2.step st3).step st4) b4 fun v5 G5 H5 st5 ev5 => ?_
              subst ev5
              exact q _ G5 H5 (st.trans (st4.trans st5)) slBl
  refine Pe.of (F := fun ρ => chn op op' (evA gv cal a ρ).b (evA gv cal b ρ).b (evA gv cal c ρ).b) (fun _ => rfl) rfl (fun sc xs => rfl) (fun sc x h X g => ?_) (.inr fun sc x h X g => ?_)
  · obtain ⟨x', o, o', y, z, p, rfl, h1, h2, h3, h4, h5, h6⟩ := inv h
    exact PE.imp (pe_chain (rCo_ok g.hu h1) (rCo_ok g.hu h2) (ha.b sc x' h4 X g) (hb.b sc y h5 X g) (hc.b sc z h6 X g) (notSet_mark h3)) fun σ H Q q => core q
  · obtain ⟨x', o, o', y, z, p, rfl, h1, h2, h3, h4, h5, h6⟩ := inv h
    refine PT.imp (pt_chain (rCo_ok g.hu h1) (rCo_ok g.hu h2) (ha.b sc x' h4 X g) (hb.b sc y h5 X g) (hc.b sc z h6 X g) (notSet_mark h3)) ?_
    rintro σ H Q ⟨G0, H0, ρ, G, t, r, e, q⟩
    refine core ⟨G0, H0, ρ, G, .sh (.bl t), r, ?_, fun v G' H' st sv => ?_⟩
    · replace e : asB (dOf (chn op op' (evA gv cal a ρ).b (evA gv cal b ρ).b (evA gv cal c ρ).b)) = some t := e
      exact asB_dOf e
    · have : v = .bl t := by simpa only [SlRp, Rp] using sv
      exact ⟨t, this, q G' H' st⟩

/-! ### and, or, not, if -/
theorem sb_of {F : Option Slot} {sl : Slot} (h : (W.of F).s = some sl) : (W.of F).b = some sl.d := by
  show dOf F = _
  rw [show F = some sl from h]; rfl
theorem tB_bl {K : PySem.W.Frag} {F : En → Option D} {σ : L2.St} {H : Hp} {Q : VK} {G0 H0 G : Hp} {ρ : En} {b : Bool} (r : SR K G0 H0 ρ σ G H) (e : asB (F ρ) = some b) (q : ∀ G' H', Stp G H G' H' → Q (.bl b) H') : tB K F σ H Q := by
  cases ed : F ρ with
  | none => rw [ed] at e; cases e
  | some d =>
    rw [ed] at e
    cases d with
    | bl c => cases e; exact ⟨G0, H0, ρ, G, _, r, ed, fun v G' H' st bv => by rw [br_bl bv]; exact q G' H' st⟩
    | _ => cases e
theorem Pe.and_ {a b : E} (ha : Pe fn gn gv cal k N a) (hb : Pe fn gn gv cal k N b) : Pe fn gn gv cal k N (.and_ a b) := by
  have inv : ∀ {sc x}, chk fn gn N (.and_ a b) sc (.e x) = true → ∃ x' y r p, x = .BoolOp .And (x' :: y :: r) p ∧ chk fn gn N a sc (.e x') = true ∧ ((r = [] ∧ chk fn gn N b sc (.e y) = true) ∨ chk fn gn N b sc (.e (.BoolOp .And (y :: r) p)) = true) := by
    intro sc x h
    cases x with
    | BoolOp op vs p =>
      match op, vs, h with
      | .And, x' :: y :: r, h =>
        have h : (chk fn gn N a sc (.e x') && (if r.isEmpty then chk fn gn N b sc (.e y) else chk fn gn N b sc (.e (.BoolOp .And (y :: r) p)))) = true := h
        rw [Bool.and_eq_true] at h
        refine ⟨x', y, r, p, rfl, h.1, ?_⟩
        cases r with
        | nil => exact .inl ⟨rfl, h.2⟩
        | cons _ _ => exact .inr h.2
      | .And, [], h => exact absurd h Bool.false_ne_true
      | .And, [_], h => exact absurd h Bool.false_ne_true
      | .Or, [], h => exact absurd h Bool.false_ne_true
      | .Or, _ :: _, h => exact absurd h Bool.false_ne_true
    | _ => exact absurd h Bool.false_ne_true
  have pe : ∀ {sc x}, chk fn gn N (.and_ a b) sc (.e x) = true → ∀ X, Good fn gn gv cal k N sc X → PE X x (tF X.K fun ρ => andS (asB (evA gv cal a ρ).b) (asB (evA gv cal b ρ).b)) := by
    intro sc x h X g
    obtain ⟨x', y, r, p, rfl, h1, h2⟩ := inv h
    have hr : PE X (.BoolOp .And (y :: r) p) (tB X.K fun ρ => (evA gv cal b ρ).b) := by
      rcases h2 with ⟨rfl, h2⟩ | h2
      · exact pe_one (hb.b sc y h2 X g)
      · exact hb.b sc _ h2 X g
    refine PE.imp (pe_and (ha.b sc x' h1 X g) hr) ?_
    rintro σ H Q ⟨G0, H0, ρ, G, sl, R, e, q⟩
    cases ea : asB (evA gv cal a ρ).b with
    | none => simp only [ea, andS] at e; cases e
    | some c =>
      simp only [ea, andS] at e
      refine tB_bl R ea fun G1 H1 st1 => ⟨c, rfl, ?_⟩
      cases c with
      | false => cases e; rw [if_neg Bool.false_ne_true]; exact q _ G1 H1 st1 slBl
      | true =>
        rw [if_pos rfl]
        obtain ⟨c2, e2, rfl⟩ := bl_some e
        exact tB_bl (R.step st1) e2 fun G2 H2 st2 => q _ G2 H2 (st1.trans st2) slBl
  have pw : ∀ sc op vs p, chk fn gn N (.and_ a b) sc (.e (.BoolOp op vs p)) = true → ∀ X, Good fn gn gv cal k N sc X → PW X (.BoolOp op vs p) (tT X.K fun ρ => asB (evA gv cal (.and_ a b) ρ).b) := by
    intro sc op vs p h X g
    obtain ⟨x', y, r, p, ex, h1, h2⟩ := inv h
    cases ex
    have hr : PW X (.BoolOp .And (y :: r) p) (tT X.K fun ρ => asB (evA gv cal b ρ).b) := by
      rcases h2 with ⟨rfl, h2⟩ | h2
      · exact pw_and1 (hb.t sc y h2 X g)
      · exact hb.w sc _ _ _ h2 X g
    refine PW.imp (pw_and (ha.t sc x' h1 X g) hr) ?_
    rintro σ H Q ⟨G0, H0, ρ, G, t, R, e, q⟩
    have e := asB_dOf (show asB (dOf (andS (asB (evA gv cal a ρ).b) (asB (evA gv cal b ρ).b))) = some t from e)
    cases ea : asB (evA gv cal a ρ).b with
    | none => simp only [ea, andS] at e; cases e
    | some c =>
      simp only [ea, andS] at e
      refine ⟨G0, H0, ρ, G, c, R, ea, fun G1 H1 st1 => ?_⟩
      cases c with
      | false => cases e; rw [if_neg Bool.false_ne_true]; exact q G1 H1 st1
      | true =>
        rw [if_pos rfl]
        obtain ⟨c2, e2, e3⟩ := bl_some e
        cases e3
        exact ⟨G0, H0, ρ, G1, t, R.step st1, e2, fun G2 H2 st2 => q G2 H2 (st1.trans st2)⟩
  exact { s := fun sc x h => pe h
          b := fun sc x h X g => toB (pe h X g)
          t := fun sc x h X g => by
            obtain ⟨x', y, r, p, ex, _⟩ := inv h
            subst ex
            exact (pw sc _ _ p h X g).pt
          iC := fun sc x h X g tg _ => walk_of kpC_ok (toD (pe h X g))
          iS := fun sc x h X g tg _ => hid_ofI (F := fun ρ => (W.of (andS (asB (evA gv cal a ρ).b) (asB (evA gv cal b ρ).b))).i) (walk_of kpS_ok (toD (pe h X g)))
          w := pw
          l := fun sc xs h => absurd h Bool.false_ne_true
          p := fun sc x h ρ => rfl
          c := fun sc x h ρ => rfl
          sb := fun ρ sl h => sb_of h }
theorem Pe.or_ {a b : E} (ha : Pe fn gn gv cal k N a) (hb : Pe fn gn gv cal k N b) : Pe fn gn gv cal k N (.or_ a b) := by
  have inv : ∀ {sc x}, chk fn gn N (.or_ a b) sc (.e x) = true → ∃ x' y r p, x = .BoolOp .Or (x' :: y :: r) p ∧ chk fn gn N a sc (.e x') = true ∧ ((r = [] ∧ chk fn gn N b sc (.e y) = true) ∨ chk fn gn N b sc (.e (.BoolOp .Or (y :: r) p)) = true) := by
    intro sc x h
    cases x with
    | BoolOp op vs p =>
      match op, vs, h with
      | .Or, x' :: y :: r, h =>
        have h : (chk fn gn N a sc (.e x') && (if r.isEmpty then chk fn gn N b sc (.e y) else chk fn gn N b sc (.e (.BoolOp .Or (y :: r) p)))) = true := h
        rw [Bool.and_eq_true] at h
        refine ⟨x', y, r, p, rfl, h.1, ?_⟩
        cases r with
        | nil => exact .inl ⟨rfl, h.2⟩
        | cons _ _ => exact .inr h.2
      | .Or, [], h => exact absurd h Bool.false_ne_true
      | .Or, [_], h => exact absurd h Bool.false_ne_true
      | .And, [], h => exact absurd h Bool.false_ne_true
      | .And, _ :: _, h => exact absurd h Bool.false_ne_true
    | _ => exact absurd h Bool.false_ne_true
  have pe : ∀ {sc x}, chk fn gn N (.or_ a b) sc (.e x) = true → ∀ X, Good fn gn gv cal k N sc X → PE X x (tF X.K fun ρ => orS (asB (evA gv cal a ρ).b) (asB (evA gv cal b ρ).b)) := by
    intro sc x h X g
    obtain ⟨x', y, r, p, rfl, h1, h2⟩ := inv h
    have hr : PE X (.BoolOp .Or (y :: r) p) (tB X.K fun ρ => (evA gv cal b ρ).b) := by
      rcases h2 with ⟨rfl, h2⟩ | h2
      · exact pe_one (hb.b sc y h2 X g)
      · exact hb.b sc _ h2 X g
    refine PE.imp (pe_or (ha.b sc x' h1 X g) hr) ?_
    rintro σ H Q ⟨G0, H0, ρ, G, sl, R, e, q⟩
    cases ea : asB (evA gv cal a ρ).b with
    | none => simp only [ea, orS] at e; cases e
    | some c =>
      simp only [ea, orS] at e
      refine tB_bl R ea fun G1 H1 st1 => ⟨c, rfl, ?_⟩
      cases c with
      | true => cases e; rw [if_pos rfl]; exact q _ G1 H1 st1 slBl
      | false =>
        rw [if_neg Bool.false_ne_true]
        obtain ⟨c2, e2, rfl⟩ := bl_some e
        exact tB_bl (R.step st1) e2 fun G2 H2 st2 => q _ G2 H2 (st1.trans st2) slBl
  have pw : ∀ sc op vs p, chk fn gn N (.or_ a b) sc (.e (.BoolOp op vs p)) = true → ∀ X, Good fn gn gv cal k N sc X → PW X (.BoolOp op vs p) (tT X.K fun ρ => asB (evA gv cal (.or_ a b) ρ).b) := by
    intro sc op vs p h X g
    obtain ⟨x', y, r, p, ex, h1, h2⟩ := inv h
    cases ex
    have hr : PW X (.BoolOp .Or (y :: r) p) (tT X.K fun ρ => asB (evA gv cal b ρ).b) := by
      rcases h2 with ⟨rfl, h2⟩ | h2
      · exact pw_or1 (hb.t sc y h2 X g)
      · exact hb.w sc _ _ _ h2 X g
    refine PW.imp (pw_or (ha.t sc x' h1 X g) hr) ?_
    rintro σ H Q ⟨G0, H0, ρ, G, t, R, e, q⟩
    have e := asB_dOf (show asB (dOf (orS (asB (evA gv cal a ρ).b) (asB (evA gv cal b ρ).b))) = some t from e)
    cases ea : asB (evA gv cal a ρ).b with
    | none => simp only [ea, orS] at e; cases e
    | some c =>
      simp only [ea, orS] at e
      refine ⟨G0, H0, ρ, G, c, R, ea, fun G1 H1 st1 => ?_⟩
      cases c with
      | true => cases e; rw [if_pos rfl]; exact q G1 H1 st1
      | false =>
        rw [if_neg Bool.false_ne_true]
        obtain ⟨c2, e2, e3⟩ := bl_some e
        cases e3
        exact ⟨G0, H0, ρ, G1, t, R.step st1, e2, fun G2 H2 st2 => q G2 H2 (st1.trans st2)⟩
  exact { s := fun sc x h => pe h
          b := fun sc x h X g => toB (pe h X g)
          t := fun sc x h X g => by
            obtain ⟨x', y, r, p, ex, _⟩ := inv h
            subst ex
            exact (pw sc _ _ p h X g).pt
          iC := fun sc x h X g tg _ => walk_of kpC_ok (toD (pe h X g))
          iS := fun sc x h X g tg _ => hid_ofI (F := fun ρ => (W.of (orS (asB (evA gv cal a ρ).b) (asB (evA gv cal b ρ).b))).i) (walk_of kpS_ok (toD (pe h X g)))
          w := pw
          l := fun sc xs h => absurd h Bool.false_ne_true
          p := fun sc x h ρ => rfl
          c := fun sc x h ρ => rfl
          sb := fun ρ sl h => sb_of h }
theorem Pe.not_ {a : E} (ha : Pe fn gn gv cal k N a) : Pe fn gn gv cal k N (.not_ a) := by
  have inv : ∀ {sc x}, chk fn gn N (.not_ a) sc (.e x) = true → ∃ x' p, x = .UnaryOp .Not x' p ∧ chk fn gn N a sc (.e x') = true := by
    intro sc x h
    cases x with
    | UnaryOp op e p => cases op with
      | Not => exact ⟨e, p, rfl, h⟩
      | _ => exact absurd h Bool.false_ne_true
    | _ => exact absurd h Bool.false_ne_true
  refine Pe.of (F := fun ρ => LJ.bl ((asB (evA gv cal a ρ).b).map (!·))) (fun _ => rfl) rfl (fun sc xs => rfl) (fun sc x h X g => ?_) (.inr fun sc x h X g => ?_)
  · obtain ⟨x', p, rfl, h1⟩ := inv h
    refine PE.imp (pe_not (ha.b sc x' h1 X g)) ?_
    rintro σ H Q ⟨G0, H0, ρ, G, sl, R, e, q⟩
    obtain ⟨c, ec, rfl⟩ := bl_some e
    obtain ⟨c', ec', rfl⟩ := Option.map_eq_some_iff.mp ec
    exact tB_bl R ec' fun G1 H1 st1 => ⟨c', rfl, q _ G1 H1 st1 slBl⟩
  · obtain ⟨x', p, rfl, h1⟩ := inv h
    refine PT.imp (pt_not (ha.t sc x' h1 X g)) ?_
    rintro σ H Q ⟨G0, H0, ρ, G, t, R, e, q⟩
    have e := asB_dOf e
    obtain ⟨c, ec, e2⟩ := bl_some e
    cases e2
    obtain ⟨c', ec', rfl⟩ := Option.map_eq_some_iff.mp ec
    exact ⟨G0, H0, ρ, G, c', R, ec', fun G1 H1 st1 => q G1 H1 st1⟩
theorem Pe.ite {c a b : E} (hc : Pe fn gn gv cal k N c) (ha : Pe fn gn gv cal k N a) (hb : Pe fn gn gv cal k N b) : Pe fn gn gv cal k N (.ite c a b) := by
  have inv : ∀ {sc x}, chk fn gn N (.ite c a b) sc (.e x) = true → ∃ x' y z p, x = .IfExp x' y z p ∧ chk fn gn N c sc (.e x') = true ∧ chk fn gn N a sc (.e y) = true ∧ chk fn gn N b sc (.e z) = true := by
    intro sc x h
    cases x with
    | IfExp x' y z p =>
      have h : (chk fn gn N c sc (.e x') && chk fn gn N a sc (.e y) && chk fn gn N b sc (.e z)) = true := h
      simp only [Bool.and_eq_true] at h
      exact ⟨x', y, z, p, rfl, h.1.1, h.1.2, h.2⟩
    | _ => exact absurd h Bool.false_ne_true
  refine Pe.of (F := fun ρ => iteS (asB (evA gv cal c ρ).b) (evA gv cal a ρ).s (evA gv cal b ρ).s) (fun _ => rfl) rfl (fun sc xs => rfl) (fun sc x h X g => ?_) (.inr fun sc x h X g => ?_)
  · obtain ⟨x', y, z, p, rfl, h1, h2, h3⟩ := inv h
    refine PE.imp (pe_ifExp (hc.t sc x' h1 X g) (ha.s sc y h2 X g) (hb.s sc z h3 X g)) ?_
    rintro σ H Q ⟨G0, H0, ρ, G, sl, R, e, q⟩
    cases ec : asB (evA gv cal c ρ).b with
    | none => simp only [ec, iteS] at e; cases e
    | some t =>
      simp only [ec, iteS] at e
      refine ⟨G0, H0, ρ, G, t, R, ec, fun G1 H1 st1 => ?_⟩
      cases t with
      | true => rw [if_pos rfl]; exact ⟨G0, H0, ρ, G1, sl, R.step st1, e, fun v G2 H2 st2 sv => q v G2 H2 (st1.trans st2) (sv.old st1.h)⟩
      | false => rw [if_neg Bool.false_ne_true]; exact ⟨G0, H0, ρ, G1, sl, R.step st1, e, fun v G2 H2 st2 sv => q v G2 H2 (st1.trans st2) (sv.old st1.h)⟩
  · obtain ⟨x', y, z, p, rfl, h1, h2, h3⟩ := inv h
    refine ⟨fun pins s σ H Q I q => ?_⟩
    obtain ⟨G0, H0, ρ, G, t, R, e, q⟩ := q
    have e := asB_dOf (show asB (dOf (iteS (asB (evA gv cal c ρ).b) (evA gv cal a ρ).s (evA gv cal b ρ).s)) = some t from e)
    show wpAny _ _ (do if ← isTrue x' X.env (eval x' X.env) then isTrue y X.env (eval y X.env) else isTrue z X.env (eval z X.env)) _ _ s
    cases ec : asB (evA gv cal c ρ).b with
    | none => simp only [ec, iteS] at e; cases e
    | some t' =>
      simp only [ec, iteS] at e
      have hcr := (hc.t sc x' h1 X g).run pins s σ H (fun b H1 => b = t' ∧ ∃ G1, Stp G H G1 H1) I ⟨G0, H0, ρ, G, t', R, ec, fun G1 H1 st => ⟨rfl, G1, st⟩⟩
      refine wpAny_bind (thn hcr fun b s1 ⟨H1, I1, eb, G1, st⟩ => ?_)
      subst eb
      cases b with
      | true =>
        exact (ha.t sc y h2 X g).run pins s1 σ H1 Q I1 ⟨G0, H0, ρ, G1, t, R.step st, by show asB _ = _; rw [ha.sb ρ _ e]; rfl, fun G2 H2 st2 => q G2 H2 (st.trans st2)⟩
      | false =>
        exact (hb.t sc z h3 X g).run pins s1 σ H1 Q I1 ⟨G0, H0, ρ, G1, t, R.step st, by show asB _ = _; rw [hb.sb ρ _ e]; rfl, fun G2 H2 st2 => q G2 H2 (st.trans st2)⟩
end
end LJ
/-! LJrt: t[::-1] of a tuple. -/
namespace HT
open PySem PySem.Spec PyProof.Rows
section
variable {prog : Program} {w : World} {A : Around} {E : Value → Shared → Prop} {s : Shared}
theorem sliceApplied_rev {sl : Addr} {vs : Value} {n : Nat} {Q : Int × Int × Nat → Shared → Prop} (hs : s.heap.IsSliceOf sl .none .none vs) (ps : IsPart vs (some (-1)))
    (h : Q ((n : Int) - 1, -1, n) s) : wpAny (model prog w) A (Builtin.Slice.sliceApplied (.ref sl) (pure (n : Int))) Q E s := by
  obtain ⟨os, hos, hcs, hds⟩ := id hs
  unfold Builtin.Slice.sliceApplied Builtin.Slice.sliceFields
  refine wpAny_bind (wpAny_bind (wpAny_field hos hds (x := .none) rfl (wpAny_bind (wpAny_field hos hds (x := .none) rfl (wpAny_bind (wpAny_field hos hds (x := vs) rfl (wpAny_pure ?_)))))))
  refine wpAny_bind (slicePart_ ps ?_)
  show wpAny _ _ (if ((-1 : Int) == 0) = true then _ else _) _ _ s
  rw [if_neg (by decide)]
  refine wpAny_bind (slicePart_none (wpAny_bind (slicePart_none (wpAny_bind (wpAny_pure ?_)))))
  show wpAny _ _ (match Builtin.Slice.sliceAdjust none none (-1) (n : Int) with | (lo, hi) => pure (lo, (-1 : Int), Builtin.Slice.slicePlaces lo hi (-1))) _ _ s
  show wpAny _ _ (pure ((n : Int) - 1, (-1 : Int), Builtin.Slice.slicePlaces ((n : Int) - 1) (-1) (-1))) _ _ s
  have e : Builtin.Slice.slicePlaces ((n : Int) - 1) (-1) (-1) = n := by
    unfold Builtin.Slice.slicePlaces
    rw [if_neg (by decide)]
    by_cases hn : n = 0
    · subst hn; decide
    · rw [if_pos (by omega), show (-(-1) : Int) = 1 from by decide, Int.ediv_one]
      omega
  rw [e]
  exact wpAny_pure h
theorem fm_congr {α β : Type} {f g : α → Option β} : ∀ {l : List α}, (∀ x ∈ l, f x = g x) → l.filterMap f = l.filterMap g
  | [], _ => rfl
  | x :: l, h => by
    rw [List.filterMap_cons, List.filterMap_cons, h x List.mem_cons_self, fm_congr fun y hy => h y (List.mem_cons_of_mem _ hy)]
theorem pick_rev (xs : Array Value) : ((List.range xs.size).filterMap fun (m : Nat) => xs[(((xs.size : Int) - 1) + (m : Int) * (-1)).toNat]?).toArray = xs.toList.reverse.toArray := by
  have e := PySem.W.krv_pick xs
  unfold PySem.slicePick at e
  rw [PySem.W.krv_bounds] at e
  replace e : ((PySem.sliceRange ((xs.size : Int) - 1) (-1) (-1)).filterMap (xs[·]?)).toArray = xs.toList.reverse.toArray := e
  rw [PySem.W.krv_sliceRange, List.filterMap_map] at e
  rw [← e]
  refine congrArg List.toArray (fm_congr fun m hm => ?_)
  have hm := List.mem_range.mp hm
  show xs[(((xs.size : Int) - 1) + (m : Int) * (-1)).toNat]? = xs[xs.size - 1 - m]?
  congr 1
  omega
theorem getItem_tuple_rev {t sl : Addr} {items : Array Value} {vs : Value} {Q : Value → Shared → Prop} (ht : IsTup s.heap t items) (hs : s.heap.IsSliceOf sl .none .none vs) (ps : IsPart vs (some (-1)))
    (h : Q (.ref s.heap.objs.size) { s with heap := s.heap.push { cls := .type "tuple", data := .seq items.toList.reverse.toArray } })
    (hsz : items.size ≤ sizeLine) : wpAny (model prog w) A (getItem (.ref t) (.ref sl)) Q E s := by
  have htake : sizeOk (.seq items.toList.reverse.toArray) := by
    show items.toList.reverse.toArray.size ≤ sizeLine
    rw [List.size_toArray, List.length_reverse, Array.length_toList]
    exact hsz
  obtain ⟨os, hos, hcs, hds⟩ := id hs
  have hTs : s.TypeIs (.ref sl) "slice" := ⟨os, hos, hcs⟩
  unfold getItem
  try with_reducible refine wpAny_holding ?_
  first | refine wpAny_bind (wpAny_pure ?_) | skip
  refine wpAny_bind (wpAny_sequenceKey ht.typeIs (by decide) ?_)
  refine wpAny_bind (wpAny_callSpecial?_slot (name := Str.ofString "__getitem__") ht.typeIs PyProof.Rows.slot_tuple_getitem
    (wpAny_call_entry PyProof.Rows.slot_tuple_getitem ht.typeIs entry_tuple_getitem ?_ (args_tuple_getitem _ _)))
  show wpAny _ _ (Builtin.Tuple.tupleItemsOf (.ref t) >>= _) _ _ s
  refine wpAny_bind (tupleItemsOf_ ht ?_)
  refine wpAny_bind (wpAny_typeOf hTs ?_)
  rw [if_pos (by decide)]
  refine wpAny_bind (sliceApplied_rev hs ps ?_)
  have hno : ¬ ((((items.size : Int) - 1) == 0 && (-1 : Int) == 1 && items.size == items.size) = true) := by
    intro q
    rw [Bool.and_eq_true, Bool.and_eq_true] at q
    exact absurd q.1.2 (by decide)
  show wpAny _ _ (if (((items.size : Int) - 1) == 0 && (-1 : Int) == 1 && items.size == items.size) = true then _ else _) _ _ s
  rw [if_neg hno, pick_rev]
  first
    | exact wpAny_bind (m := Builtin.Tuple.tupleExact _) (wpAny_newObj_type (wpAny_pure ⟨_, rfl, wpAny_pure h⟩) htake)
    | exact wpAny_bind (m := Builtin.Tuple.tupleExact _) (wpAny_newObj_type (wpAny_bind (wpAny_pure (wpAny_pure ⟨_, rfl, wpAny_pure h⟩))) htake)
    | exact wpAny_bind (wpAny_bind (m := Builtin.Tuple.tupleExact _) (wpAny_newObj_type (wpAny_pure (wpAny_pure ⟨_, rfl, wpAny_pure h⟩)) htake))
    | exact wpAny_bind (wpAny_bind (m := Builtin.Tuple.tupleExact _) (wpAny_newObj_type (wpAny_pure ⟨_, rfl, wpAny_pure h⟩) htake))
end
end HT
namespace LJ
open PySem PySem.Spec PyProof.Rows L2
/-- xs[::-1], a list or a tuple -/
def tRevA (K : PySem.W.Frag) (te : TE) : TE := fun σ H Q => te σ H fun x H1 => ∃ a xs, x = .ref a ∧ ((SqL K H1 a xs ∧ ∀ p, H1 p = none → Q (.ref p) (upd H1 p (.lst xs.reverse))) ∨ (SqT K H1 a xs ∧ ∀ p, H1 p = none → Q (.ref p) (upd H1 p (.tup xs.reverse))))
theorem pe_revA {X : Cx} {e : Expr} {te : TE} {k : Nat} {p1 p2 p3 pos : Pos} (he : PE X e te) : PE X (.Subscript e (.Slice none none (some (.UnaryOp .USub (.Constant (.int 1) k p1) p2)) p3) pos) (tRevA X.K te) := by
  refine ⟨fun pins s σ H Q I h => ?_⟩
  refine Subscript_ (thn (he.run pins s σ H _ I h) fun v s1 ⟨x, H1, I1, r1, q1⟩ => ?_)
  obtain ⟨a, xs, ex, q⟩ := q1
  subst ex
  cases r1
  have hst : PO X (some (.UnaryOp .USub (.Constant (.int 1) k p1) p2)) (tPart (tUn (rU fun i => .int (-i)) (tC (.int 1)))) := po_some (pe_un un_neg pe_int)
  refine wpAny_Slice (thn (po_none.run pins s1 σ H1 (fun o H2 => o = none ∧ H2 = H1) I1 ⟨rfl, rfl⟩) fun vl s2 ⟨l, H2, I2, pl, el, e2⟩ => ?_)
  subst el e2
  refine thn (po_none.run pins s2 σ H2 (fun o H3 => o = none ∧ H3 = H2) I2 ⟨rfl, rfl⟩) fun vu s3 ⟨u, H3, I3, pu, eu, e3⟩ => ?_
  subst eu e3
  refine thn (hst.run pins s3 σ H3 (fun o H4 => o = some (-1) ∧ H4 = H3) I3 ⟨1, rfl, -1, rfl, rfl, rfl⟩) fun vs s4 ⟨o, H4, I4, ps, eo, e4⟩ => ?_
  subst eo e4
  have I5 : Inv X pins σ H4 { s4 with heap := s4.heap.push { cls := .type "slice", data := .fields #[vl, vu, vs] } } := I4.kept (t' := s4.toks) fun b ob q => Heap.get?_push_of_some _ q
  show wpAny (model X.prog X.w) X.A (subscriptTail e (.Slice none none (some (.UnaryOp .USub (.Constant (.int 1) k p1) p2)) p3) (.ref a) (.ref s4.heap.objs.size)) (EP X pins σ Q) X.xe { s4 with heap := s4.heap.push { cls := .type "slice", data := .fields #[vl, vu, vs] } }
  rcases q with ⟨hx, q⟩ | ⟨hx, q⟩
  · obtain ⟨its, r, ht, hz⟩ := I5.list hx
    have hlen := r.length
    refine tail_any (ops := [.ref a, .ref s4.heap.objs.size]) ht.isList.typeIs (PySem.slot_list_getitem.lookup) ?_ (by with_unfolding_all rfl)
    refine wpAny_getItem_list_slice ht.isList (Heap.IsSliceOf.new _ vl vu vs) pl pu ps (by decide) ?_ (by rw [List.size_toArray]; omega)
    rw [PySem.W.krv_pick]
    refine ⟨.ref _, _, I5.laid (t' := s4.toks) (o := .lst xs.reverse) (fun b ob q => Heap.get?_push_of_some _ q) (Nat.le_refl _) ?_, rfl, q _ (I5.hok.fresh (Nat.le_refl _))⟩
    exact ⟨by rw [List.length_reverse]; exact hz, _, 0, r.reverse, Heap.get?_push_size _ rfl⟩
  · obtain ⟨its, r, ht, hz⟩ := I5.tuple hx
    have hlen := r.length
    have ht : IsTup _ a its.toArray := ht
    refine tail_any (ops := [.ref a, .ref s4.heap.objs.size]) ht.typeIs (PyProof.Rows.slot_tuple_getitem.lookup) ?_ (by with_unfolding_all rfl)
    cases pl
    cases pu
    refine HT.getItem_tuple_rev ht (Heap.IsSliceOf.new _ .none .none vs) ps ?_ (by rw [List.size_toArray]; omega)
    refine ⟨.ref _, _, I5.laid (t' := s4.toks) (o := .tup xs.reverse) (fun b ob q => Heap.get?_push_of_some _ q) (Nat.le_refl _) ?_, rfl, q _ (I5.hok.fresh (Nat.le_refl _))⟩
    exact ⟨by rw [List.length_reverse]; exact hz, _, r.reverse, _, Heap.get?_push_size _ rfl, rfl, 0, rfl⟩
end LJ
/-! LJj: places, slices, calls, displays, what is walked. -/
namespace LJ
open PySem PySem.Spec PyProof.Rows L2
section
variable {fn gn : Nat → Str} {gv : Nat → Option D} {cal : Nat → List D → Option Slot} {k : Nat} {N : List Str}
theorem plainIx_ok {y : Expr} (h : plainIx y = true) : PlainIx y := by
  cases y <;> first | exact absurd h Bool.false_ne_true | exact fun _ _ => rfl
/-- no starred one -/
def noStar : Expr → Bool
  | .Starred _ _ => false
  | _ => true
theorem star_of {x : Expr} (h : noStar x = true) (xs : List Expr) (env : PySem.Env) : starEach (x :: xs) env = (false, eval x env) :: starEach xs env := by
  cases x <;> first | exact absurd h Bool.false_ne_true | rfl
theorem chk_star {e : E} {sc : Scope} {x : Expr} (h : chk fn gn N e sc (.e x) = true) : noStar x = true := by
  cases x <;> first | rfl | (cases e <;> exact absurd h Bool.false_ne_true)
theorem Pe.idx {a i : E} (ha : Pe fn gn gv cal k N a) (hi : Pe fn gn gv cal k N i) : Pe fn gn gv cal k N (.idx a i) := by
  have inv : ∀ {sc x}, chk fn gn N (.idx a i) sc (.e x) = true → ∃ x' y p, x = .Subscript x' y p ∧ plainIx y = true ∧ chk fn gn N a sc (.e x') = true ∧ chk fn gn N i sc (.e y) = true := by
    intro sc x h
    cases x with
    | Subscript x' y p =>
      have h : (plainIx y && chk fn gn N a sc (.e x') && chk fn gn N i sc (.e y)) = true := h
      simp only [Bool.and_eq_true] at h
      exact ⟨x', y, p, rfl, h.1.1, h.1.2, h.2⟩
    | _ => exact absurd h Bool.false_ne_true
  refine Pe.of (F := fun ρ => dsl (two (evA gv cal a ρ).b (evA gv cal i ρ).b idxD)) (fun _ => rfl) rfl (fun sc xs => rfl) (fun sc x h X g => ?_) (.inl fun sc x h env whole => ?_)
  · obtain ⟨x', y, p, rfl, h1, h2, h3⟩ := inv h
    refine PE.by ?_
    rintro σ H Q ⟨G0, H0, ρ, G, sl, R, e, q⟩
    obtain ⟨d, ed, rfl⟩ := Option.map_eq_some_iff.mp (show (two (evA gv cal a ρ).b (evA gv cal i ρ).b idxD).map Slot.sh = some sl from e)
    obtain ⟨da, di, ea, ei, ef⟩ := two_some ed
    cases nd : isDic da with
    | false =>
      refine ⟨_, pe_ix ixD_seq (ha.b sc x' h2 X g) (hi.b sc y h3 X g) (plainIx_ok h1), G0, H0, ρ, G, da, R, ea, fun va G1 H1 st1 b1 => ⟨G0, H0, ρ, G1, di, R.step st1, ei, fun vi G2 H2 st2 b2 => ?_⟩⟩
      exact idx_ok st2.gh ef nd (b1.step st2) b2 fun v rv => q v G2 H2 (st1.trans st2) rv
    | true =>
      refine ⟨_, pe_dget g.hu1 (ha.b sc x' h2 X g) (hi.b sc y h3 X g) (plainIx_ok h1), G0, H0, ρ, G, da, R, ea, fun va G1 H1 st1 b1 => ⟨G0, H0, ρ, G1, di, R.step st1, ei, fun vi G2 H2 st2 b2 => ?_⟩⟩
      obtain ⟨p', v, e1, e2, e3⟩ := dget_ok st2.gh ef nd (b1.step st2) b2
      exact ⟨p', v, e1, e2, q v G2 H2 (st1.trans st2) e3⟩
  · obtain ⟨x', y, p, rfl, _⟩ := inv h
    rfl
/-- a slice's part -/
theorem po_of {e : E} (he : Pe fn gn gv cal k N e) {sc : Scope} {o : Option Expr} (h : optB o (isNil e) (fun y => chk fn gn N e sc (.e y)) = true) {X : Cx} (g : Good fn gn gv cal k N sc X) : PO X o (tP X.K fun ρ => (evA gv cal e ρ).p) := by
  cases o with
  | none =>
    cases e <;> first | exact absurd h Bool.false_ne_true | skip
    refine PO.imp po_none ?_
    rintro σ H Q ⟨G0, H0, ρ, G, o, R, e, q⟩
    cases e
    exact q G H (Stp.refl R.gh)
  | some x =>
    refine PO.imp (po_some (he.b sc x h X g)) ?_
    rintro σ H Q ⟨G0, H0, ρ, G, o, R, eo, q⟩
    simp only [he.p sc x h ρ] at eo
    cases ed : (evA gv cal e ρ).b with
    | none => rw [ed] at eo; cases eo
    | some d =>
      rw [ed] at eo
      cases d with
      | int i => cases eo; exact ⟨G0, H0, ρ, G, _, R, ed, fun v G' H' st bv => ⟨i, br_int bv, q G' H' st⟩⟩
      | _ => cases eo
theorem Pe.slc {a lo hi : E} (ha : Pe fn gn gv cal k N a) (hl : Pe fn gn gv cal k N lo) (hh : Pe fn gn gv cal k N hi) : Pe fn gn gv cal k N (.slc a lo hi) := by
  have inv : ∀ {sc x}, chk fn gn N (.slc a lo hi) sc (.e x) = true → ∃ x' l h' p p2, x = .Subscript x' (.Slice l h' none p) p2 ∧ chk fn gn N a sc (.e x') = true ∧ optB l (isNil lo) (fun y => chk fn gn N lo sc (.e y)) = true ∧ optB h' (isNil hi) (fun y => chk fn gn N hi sc (.e y)) = true := by
    intro sc x h
    cases x with
    | Subscript x' y p2 => cases y with
      | Slice l h' st p =>
        have h : (isNone st && chk fn gn N a sc (.e x') && optB l (isNil lo) (fun y => chk fn gn N lo sc (.e y)) && optB h' (isNil hi) (fun y => chk fn gn N hi sc (.e y))) = true := h
        simp only [Bool.and_eq_true] at h
        cases st with
        | none => exact ⟨x', l, h', p, p2, rfl, h.1.1.2, h.1.2, h.2⟩
        | some _ => exact absurd h.1.1.1 Bool.false_ne_true
      | _ => exact absurd h Bool.false_ne_true
    | _ => exact absurd h Bool.false_ne_true
  refine Pe.of (F := fun ρ => slcS (evA gv cal a ρ).b (evA gv cal lo ρ).p (evA gv cal hi ρ).p) (fun _ => rfl) rfl (fun sc xs => rfl) (fun sc x h X g => ?_) (.inl fun sc x h env whole => ?_)
  · obtain ⟨x', l, h', p, p2, rfl, h1, h2, h3⟩ := inv h
    refine PE.imp (pe_slice sl_all (ha.b sc x' h1 X g) (po_of hl h2 g) (po_of hh h3 g)) ?_
    rintro σ H Q ⟨G0, H0, ρ, G, sl, R, e, q⟩
    cases ea : (evA gv cal a ρ).b with
    | none => simp only [ea, slcS] at e; cases e
    | some da =>
      cases el : (evA gv cal lo ρ).p with
      | none => simp only [ea, el, slcS] at e; cases e
      | some ol =>
        cases eh : (evA gv cal hi ρ).p with
        | none => simp only [ea, el, eh, slcS] at e; cases e
        | some oh =>
          simp only [ea, el, eh, slcS] at e
          refine ⟨G0, H0, ρ, G, da, R, ea, fun va G1 H1 st1 b1 => ⟨G0, H0, ρ, G1, ol, R.step st1, el, fun G2 H2 st2 => ⟨G0, H0, ρ, G2, oh, (R.step st1).step st2, eh, fun G3 H3 st3 => ?_⟩⟩⟩
          have st := st1.trans (st2.trans st3)
          exact slc_ok st3.gh e ((b1.step st2).step st3) fun v G4 H4 st4 sv => q v G4 H4 (st.trans st4) (sv.old st.h)
  · obtain ⟨x', l, h', p, p2, rfl, _⟩ := inv h
    rfl
theorem Pe.rev {a : E} (ha : Pe fn gn gv cal k N a) : Pe fn gn gv cal k N (.rev a) := by
  have inv : ∀ {sc x}, chk fn gn N (.rev a) sc (.e x) = true → ∃ x' kk p1 p2 p3 p, x = .Subscript x' (.Slice none none (some (.UnaryOp .USub (.Constant (.int 1) kk p1) p2)) p3) p ∧ chk fn gn N a sc (.e x') = true := by
    intro sc x h
    cases x with
    | Subscript x' y p => cases y with
      | Slice l h' st p3 =>
        have h : (isNone l && isNone h' && isM1 st && chk fn gn N a sc (.e x')) = true := h
        simp only [Bool.and_eq_true] at h
        obtain ⟨⟨⟨h1, h2⟩, h3⟩, h4⟩ := h
        cases l with
        | some _ => exact absurd h1 Bool.false_ne_true
        | none => cases h' with
          | some _ => exact absurd h2 Bool.false_ne_true
          | none =>
            unfold isM1 at h3
            split at h3
            · exact ⟨_, _, _, _, _, _, rfl, h4⟩
            · cases h3
      | _ => exact absurd h Bool.false_ne_true
    | _ => exact absurd h Bool.false_ne_true
  refine Pe.of (F := fun ρ => (evA gv cal a ρ).b.bind revD) (fun _ => rfl) rfl (fun sc xs => rfl) (fun sc x h X g => ?_) (.inl fun sc x h env whole => ?_)
  · obtain ⟨x', kk, p1, p2, p3, p, rfl, h1⟩ := inv h
    refine PE.imp (pe_revA (ha.b sc x' h1 X g)) ?_
    rintro σ H Q ⟨G0, H0, ρ, G, sl, R, e, q⟩
    obtain ⟨d, ed, ef⟩ := Option.bind_eq_some_iff.mp e
    refine ⟨G0, H0, ρ, G, d, R, ed, fun v G1 H1 st1 b1 => ?_⟩
    cases d with
    | lst ds =>
      cases ef
      obtain ⟨b, vs, rfl, h2, h3⟩ := b1
      refine ⟨b, vs, rfl, .inl ⟨.inl (.inl h2), fun p hp => ?_⟩⟩
      obtain ⟨st2, sv⟩ := newL st1.gh hp h3.reverse
      exact q _ _ _ (st1.trans st2) (sv.old st1.h)
    | tup ds =>
      cases ef
      obtain ⟨b, vs, rfl, h2, h3⟩ := br_tup b1 st1.gh
      refine ⟨b, vs, rfl, .inr ⟨.inl (.inl h2), fun p hp => ?_⟩⟩
      obtain ⟨st2, sv⟩ := newT st1.gh hp h3.reverse
      exact q _ _ _ (st1.trans st2) (sv.old st1.h)
    | _ => cases ef
  · obtain ⟨x', kk, p1, p2, p3, p, rfl, h1⟩ := inv h
    rfl
/-! ### arguments -/
theorem Pe.nil : Pe fn gn gv cal k N .nil where
  s := fun sc x h => by cases x <;> exact absurd h Bool.false_ne_true
  b := fun sc x h => by cases x <;> exact absurd h Bool.false_ne_true
  t := fun sc x h => by cases x <;> exact absurd h Bool.false_ne_true
  iC := fun sc x h => by cases x <;> exact absurd h Bool.false_ne_true
  iS := fun sc x h => by cases x <;> exact absurd h Bool.false_ne_true
  w := fun sc op vs p h => absurd h Bool.false_ne_true
  l := fun sc xs h X g => by
    cases xs with
    | nil =>
      refine PA.imp pa_nil ?_
      rintro σ H Q ⟨G0, H0, ρ, G, ds, R, e, q⟩
      cases e
      exact q [] G H (Stp.refl R.gh) RpL.nil
    | cons _ _ => exact absurd h Bool.false_ne_true
  p := fun sc x h => by cases x <;> exact absurd h Bool.false_ne_true
  c := fun sc x h => by cases x <;> exact absurd h Bool.false_ne_true
  sb := fun ρ sl h => by cases h
theorem Pe.cons {a r : E} (ha : Pe fn gn gv cal k N a) (hr : Pe fn gn gv cal k N r) : Pe fn gn gv cal k N (.cons a r) where
  s := fun sc x h => by cases x <;> exact absurd h Bool.false_ne_true
  b := fun sc x h => by cases x <;> exact absurd h Bool.false_ne_true
  t := fun sc x h => by cases x <;> exact absurd h Bool.false_ne_true
  iC := fun sc x h => by cases x <;> exact absurd h Bool.false_ne_true
  iS := fun sc x h => by cases x <;> exact absurd h Bool.false_ne_true
  w := fun sc op vs p h => absurd h Bool.false_ne_true
  l := fun sc xs h X g => by
    cases xs with
    | nil => exact absurd h Bool.false_ne_true
    | cons x xs =>
      have h : (chk fn gn N a sc (.e x) && chk fn gn N r sc (.l xs)) = true := h
      rw [Bool.and_eq_true] at h
      refine PA.imp (pa_cons (toD (ha.s sc x h.1 X g)) (hr.l sc xs h.2 X g) (star_of (chk_star h.1) xs X.env)) ?_
      rintro σ H Q ⟨G0, H0, ρ, G, ds, R, e, q⟩
      replace e : consS (dOf (evA gv cal a ρ).s) (evA gv cal r ρ).l = some ds := e
      cases ea : dOf (evA gv cal a ρ).s with
      | none => rw [ea] at e; cases e
      | some d =>
        cases er : (evA gv cal r ρ).l with
        | none => rw [ea, er] at e; cases e
        | some ds' =>
          rw [ea, er] at e
          cases e
          refine ⟨G0, H0, ρ, G, d, R, ea, fun v G1 H1 st1 rv => ⟨G0, H0, ρ, G1, ds', R.step st1, er, fun vs G2 H2 st2 rvs => ?_⟩⟩
          exact q (v :: vs) G2 H2 (st1.trans st2) (RpL.cons (Rp.mono st2.g d rv) rvs)
  p := fun sc x h => by cases x <;> exact absurd h Bool.false_ne_true
  c := fun sc x h => by cases x <;> exact absurd h Bool.false_ne_true
  sb := fun ρ sl h => by cases h
theorem Pe.tupE {es : E} (he : Pe fn gn gv cal k N es) : Pe fn gn gv cal k N (.tupE es) := by
  refine Pe.of (F := fun ρ => tupS (evA gv cal es ρ).l) (fun _ => rfl) rfl (fun sc xs => rfl) (fun sc x h X g => ?_) (.inl fun sc x h env whole => ?_)
  · cases x with
    | Tuple xs kk p =>
      refine PE.imp (pe_tup (he.l sc xs h X g)) ?_
      rintro σ H Q ⟨G0, H0, ρ, G, sl, R, e, q⟩
      obtain ⟨ds, ed, ef⟩ := Option.bind_eq_some_iff.mp e
      split at ef
      · rename_i hz
        cases ef
        refine ⟨G0, H0, ρ, G, ds, R, ed, fun vs G1 H1 st1 rv => ⟨by rw [rv.length]; exact hz, fun p hp => ?_⟩⟩
        obtain ⟨st2, sv⟩ := newT st1.gh hp rv
        exact q _ _ _ (st1.trans st2) (sv.old st1.h)
      · cases ef
    | _ => exact absurd h Bool.false_ne_true
  · cases x with
    | Tuple xs kk p => rfl
    | _ => exact absurd h Bool.false_ne_true
theorem Pe.lstE {es : E} (he : Pe fn gn gv cal k N es) : Pe fn gn gv cal k N (.lstE es) := by
  refine Pe.of (F := fun ρ => lstS (evA gv cal es ρ).l) (fun _ => rfl) rfl (fun sc xs => rfl) (fun sc x h X g => ?_) (.inl fun sc x h env whole => ?_)
  · cases x with
    | List xs p =>
      refine PE.imp (pe_lst (he.l sc xs h X g)) ?_
      rintro σ H Q ⟨G0, H0, ρ, G, sl, R, e, q⟩
      obtain ⟨ds, ed, ef⟩ := Option.bind_eq_some_iff.mp e
      split at ef
      · rename_i hz
        cases ef
        refine ⟨G0, H0, ρ, G, ds, R, ed, fun vs G1 H1 st1 rv => ⟨by rw [rv.length]; exact hz, fun p hp => ?_⟩⟩
        obtain ⟨st2, sv⟩ := newL st1.gh hp rv
        exact q _ _ _ (st1.trans st2) (sv.old st1.h)
      · cases ef
    | _ => exact absurd h Bool.false_ne_true
  · cases x with
    | List xs p => rfl
    | _ => exact absurd h Bool.false_ne_true
/-- all arguments plain -/
theorem args_star {e : E} : ∀ {sc : Scope} {xs : List Expr}, chk fn gn N e sc (.l xs) = true → ∀ (pos : Pos) (env : PySem.Env), (backTo pos (starEach xs env)).any (·.1) = false := by
  induction e with
  | nil =>
    intro sc xs h pos env
    cases xs with
    | nil => rfl
    | cons _ _ => exact absurd h Bool.false_ne_true
  | cons a r _ ih =>
    intro sc xs h pos env
    cases xs with
    | nil => exact absurd h Bool.false_ne_true
    | cons x xs =>
      have h : (chk fn gn N a sc (.e x) && chk fn gn N r sc (.l xs)) = true := h
      rw [Bool.and_eq_true] at h
      rw [star_of (chk_star h.1)]
      have := ih h.2 pos env
      simpa [backTo] using this
  | _ => intro sc xs h; exact absurd h Bool.false_ne_true
end
end LJ
/-! LJk: calls, built-ins. -/
namespace LJ
open PySem PySem.Spec PyProof.Rows L2
section
variable {fn gn : Nat → Str} {gv : Nat → Option D} {cal : Nat → List D → Option Slot} {k : Nat} {N : List Str}
theorem Pe.call {f : Nat} {args : E} (ha : Pe fn gn gv cal k N args) : Pe fn gn gv cal k N (.call f args) := by
  have inv : ∀ {sc x}, chk fn gn N (.call f args) sc (.e x) = true → ∃ n p es pos, x = .Call (.Name n p) es [] pos ∧ f < 1000 ∧ n = fn f ∧ glB sc n = true ∧ nmB n = true ∧ chk fn gn N args sc (.l es) = true := by
    intro sc x h
    cases x with
    | Call fx es ks pos => cases fx with
      | Name n p => cases ks with
        | nil =>
          have h : (decide (f < 1000) && decide (n = fn f) && glB sc n && nmB n && chk fn gn N args sc (.l es)) = true := h
          simp only [Bool.and_eq_true, decide_eq_true_eq] at h
          exact ⟨n, p, es, pos, rfl, h.1.1.1.1, h.1.1.1.2, h.1.1.2, h.1.2, h.2⟩
        | cons _ _ => exact absurd h Bool.false_ne_true
      | _ => exact absurd h Bool.false_ne_true
    | _ => exact absurd h Bool.false_ne_true
  refine Pe.of (F := fun ρ => (evA gv cal args ρ).l.bind (cal f)) (fun _ => rfl) rfl (fun sc xs => rfl) (fun sc x h X g => ?_) (.inl fun sc x h env whole => ?_)
  · obtain ⟨n, p, es, pos, rfl, hf, rfl, h1, h2, h3⟩ := inv h
    refine PE.by ?_
    rintro σ H Q ⟨G0, H0, ρ, G, sl, R, e, q⟩
    obtain ⟨ds, ed, ef⟩ := Option.bind_eq_some_iff.mp e
    obtain ⟨fa, fd, ps, j, hj, hl, hm, hk, hb, F⟩ := g.wd.cal f ds sl hf ef
    have fin : ∀ vs G1 H1, Stp G H G1 H1 → RpL X.K G1 ds vs → spC X.K ps.length (cal f) (vs ++ []) H1 Q E0 := fun vs G1 H1 st1 rv => by
      rw [List.append_nil]
      exact ⟨by rw [rv.length]; exact hl, G1, ds, sl, st1.gh, rv, ef, fun v G2 H2 st2 sv => q v G2 H2 (st1.trans st2) (sv.old st1.h)⟩
    cases es with
    | nil =>
      refine ⟨_, pe_call0 F (g.room.mono hj) (g.gl h1) hm hk hb .nil pass0 (nmB_ok h2).1, ?_⟩
      have hds : ds = [] := by
        cases args <;> first | exact absurd h3 Bool.false_ne_true | skip
        cases ed; rfl
      subst hds
      exact fin [] G H (Stp.refl R.gh) RpL.nil
    | cons a es =>
      have hst : starEach (a :: es) X.env = (false, eval a X.env) :: starEach es X.env := by
        cases args <;> first | exact absurd h3 Bool.false_ne_true | skip
        rename_i a' r'
        have h3 : (chk fn gn N a' sc (.e a) && chk fn gn N r' sc (.l es)) = true := h3
        rw [Bool.and_eq_true] at h3
        exact star_of (chk_star h3.1) _ _
      have hpl : (backTo pos (starEach es X.env)).any (·.1) = false := by
        cases args <;> first | exact absurd h3 Bool.false_ne_true | skip
        rename_i a' r'
        have h3 : (chk fn gn N a' sc (.e a) && chk fn gn N r' sc (.l es)) = true := h3
        rw [Bool.and_eq_true] at h3
        exact args_star h3.2 _ _
      refine ⟨_, pe_call F (g.room.mono hj) (g.gl h1) hm hk hb .nil pass0 (ha.l sc _ h3 X g) (nmB_ok h2).1 hst hpl, G0, H0, ρ, G, ds, R, ed, fun vs G1 H1 st1 rv => fin vs G1 H1 st1 rv⟩
  · obtain ⟨n, p, es, pos, rfl, _⟩ := inv h
    rfl
/-! ### built-ins of one argument -/
theorem isCall1_some {sc : Scope} {f : Str} {x y : Expr} (h : isCall1 sc f x = some y) : ∃ p pos, x = .Call (.Name f p) [y] [] pos ∧ glB sc f = true := by
  unfold isCall1 at h
  split at h
  · split at h
    · rename_i hc
      cases h
      obtain ⟨rfl, h2⟩ := hc
      exact ⟨_, _, rfl, h2⟩
    · cases h
  · cases h
theorem isCall2_some {sc : Scope} {f : Str} {x y z : Expr} (h : isCall2 sc f x = some (y, z)) : ∃ p pos, x = .Call (.Name f p) [y, z] [] pos ∧ glB sc f = true := by
  unfold isCall2 at h
  split at h
  · split at h
    · rename_i hc
      cases h
      obtain ⟨rfl, h2⟩ := hc
      exact ⟨_, _, rfl, h2⟩
    · cases h
  · cases h
/-- list(f(e, ..)) of a generator def -/
theorem Pe.glist {f : Nat} {args : E} (ha : Pe fn gn gv cal k N args) : Pe fn gn gv cal k N (.glist f args) := by
  have inv : ∀ {sc x}, chk fn gn N (.glist f args) sc (.e x) = true → ∃ p pos y p2 z es pos2, x = .Call (.Name "list" p) [.Call (.Name y p2) (z :: es) [] pos2] [] pos ∧ glB sc "list" = true ∧ 1000 ≤ f ∧ y = fn f ∧ glB sc y = true ∧ nmB y = true ∧ chk fn gn N args sc (.l (z :: es)) = true := by
    intro sc x h
    replace h : (match isCall1 sc "list" x with
      | some (.Call (.Name y _) (z :: es) [] _) => decide (1000 ≤ f) && decide (y = fn f) && glB sc y && nmB y && chk fn gn N args sc (.l (z :: es))
      | _ => false) = true := h
    split at h
    · rename_i y p2 z es pos2 hy
      obtain ⟨p, pos, rfl, h2⟩ := isCall1_some hy
      simp only [Bool.and_eq_true, decide_eq_true_eq] at h
      exact ⟨p, pos, y, p2, z, es, pos2, rfl, h2, h.1.1.1.1, h.1.1.1.2, h.1.1.2, h.1.2, h.2⟩
    · cases h
  refine Pe.of (F := fun ρ => (evA gv cal args ρ).l.bind (cal f)) (fun _ => rfl) rfl (fun sc xs => rfl) (fun sc x h X g => ?_) (.inl fun sc x h env whole => ?_)
  · obtain ⟨p, pos, y, p2, z, es, pos2, rfl, h1, hf, rfl, h2, h3, h4⟩ := inv h
    refine PE.by ?_
    rintro σ H Q ⟨G0, H0, ρ, G, sl, R, e, q⟩
    obtain ⟨ds, ed, ef⟩ := Option.bind_eq_some_iff.mp e
    obtain ⟨ys, rfl, fa, fd, ps, j, hj, hl, hm, hk, hb, F⟩ := g.wd.gen f ds sl hf ef
    have hst : starEach (z :: es) X.env = (false, eval z X.env) :: starEach es X.env := by
      cases args <;> first | exact absurd h4 Bool.false_ne_true | skip
      rename_i a' r'
      have h3 : (chk fn gn N a' sc (.e z) && chk fn gn N r' sc (.l es)) = true := h4
      rw [Bool.and_eq_true] at h3
      exact star_of (chk_star h3.1) _ _
    have hpl : (backTo pos2 (starEach es X.env)).any (·.1) = false := by
      cases args <;> first | exact absurd h4 Bool.false_ne_true | skip
      rename_i a' r'
      have h3 : (chk fn gn N a' sc (.e z) && chk fn gn N r' sc (.l es)) = true := h4
      rw [Bool.and_eq_true] at h3
      exact args_star h3.2 _ _
    refine ⟨_, pe_listG (E := E0) (pgen_call F (g.room.mono (by omega)) (g.gl h2) hm hk hb .nil (ha.l sc _ h4 X g) (nmB_ok h3).1 hst hpl) (fun _ _ _ _ _ _ _ h => ?_) (fun _ _ _ h => h.elim) (g.room.mono hj) (g.gl h1) (g.bl (by decide +kernel)) (by decide +kernel) (by decide +kernel) (by decide +kernel) rfl, G0, H0, ρ, G, ds, R, ed, fun vs G1 H1 st1 rv => ?_⟩
    · obtain ⟨_, _, _, _, _, _, _, _, _, _, _, _, _, z⟩ := h
    · show spG X.K ps.length (cal f) (vs ++ []) H1 _ E0
      rw [List.append_nil]
      refine ⟨by rw [rv.length]; exact hl, G1, ds, ys, st1.gh, rv, ef, fun ws G2 H2 st2 rw => ?_⟩
      intro p hp
      obtain ⟨st3, sv⟩ := newL st2.gh hp rw
      exact q _ _ _ (st1.trans (st2.trans st3)) (sv.old (st1.trans st2).h)
  · obtain ⟨p, pos, y, p2, z, es, pos2, rfl, _⟩ := inv h
    rfl
def rBi (K : PySem.W.Frag) : Bi → List V → Hp → VK → Prop
  | .len => rLenA K | .tupleO => rTupA K | .listO => rLstA K | .maxO => rMax K | .minO => rMin K | .sumO => rSum K
  | .absO => fun xs H Q => ∃ i, xs = [.int i] ∧ Q (.int (if i < 0 then -i else i)) H
  | .intO => fun xs H Q => (∃ i, xs = [.int i] ∧ Q (.int i) H) ∨ ∃ k, xs = [.bl k] ∧ Q (.int (if k then 1 else 0)) H
  | .boolO => fun xs H Q => (∃ i, xs = [.int i] ∧ Q (.bl (i != 0)) H) ∨ ∃ k, xs = [.bl k] ∧ Q (.bl k) H
  | .sortO => rSortA K | .allO => rAll K
theorem opD_bi {K : PySem.W.Frag} (f : Bi) : OpD1 K (rBi K f) (biD f) := by
  cases f
  · exact opD_len
  · exact opD_tuple
  · exact opD_list
  · exact opD_max
  · exact opD_min
  · exact opD_sum
  · exact opD_abs
  · exact opD_int
  · exact opD_bool
  · exact opD_sort
  · exact opD_all
theorem pe_bi {X : Cx} {f : Bi} {a : Expr} {t : TE} {p pos : Pos} (hc : X.calm = true) (hg : Gl X (biN f)) (hm : X.mg (biN f) = none) (ha : PE X a t) (hs : noStar a = true) :
    PE X (.Call (.Name (biN f) p) [a] [] pos) (fun σ H Q => t σ H fun v H1 => rBi X.K f [v] H1 Q) := by
  have hpa : PA X [a] (tCons t tNil) := pa_cons ha pa_nil (star_of hs [] X.env)
  cases f with
  | len => exact pe_callB callR_len hg hm PySem.boot_len hpa (by decide +kernel) (by decide +kernel) (star_of hs [] X.env)
  | tupleO => exact pe_callTy call_tuple_of hg hm (by decide +kernel) hpa (by decide +kernel) (by decide +kernel) (star_of hs [] X.env)
  | listO => exact pe_callTy call_list_of hg hm (by decide +kernel) hpa (by decide +kernel) (by decide +kernel) (star_of hs [] X.env)
  | maxO => exact pe_callB (cr_max hc) hg hm (by decide +kernel) hpa (by decide +kernel) (by decide +kernel) (star_of hs [] X.env)
  | minO => exact pe_callB (cr_min hc) hg hm (by decide +kernel) hpa (by decide +kernel) (by decide +kernel) (star_of hs [] X.env)
  | sumO => exact pe_callB (cr_sum hc) hg hm (by decide +kernel) hpa (by decide +kernel) (by decide +kernel) (star_of hs [] X.env)
  | absO => exact pe_callB call_abs hg hm (by decide +kernel) hpa (by decide +kernel) (by decide +kernel) (star_of hs [] X.env)
  | intO => exact pe_callTy call_int1 hg hm (by decide +kernel) hpa (by decide +kernel) (by decide +kernel) (star_of hs [] X.env)
  | boolO => exact pe_callTy call_bool1 hg hm (by decide +kernel) hpa (by decide +kernel) (by decide +kernel) (star_of hs [] X.env)
  | sortO => exact pe_callB (callR_sorted hc) hg hm (by decide +kernel) hpa (by decide +kernel) (by decide +kernel) (star_of hs [] X.env)
  | allO => exact pe_callB (cr_all hc) hg hm (by decide +kernel) hpa (by decide +kernel) (by decide +kernel) (star_of hs [] X.env)
theorem biN_mem (f : Bi) : biN f ∈ bnames := by cases f <;> decide +kernel
theorem Pe.bi1 {f : Bi} {a : E} (ha : Pe fn gn gv cal k N a) : Pe fn gn gv cal k N (.bi1 f a) := by
  have inv : ∀ {sc x}, chk fn gn N (.bi1 f a) sc (.e x) = true → ∃ p pos y, x = .Call (.Name (biN f) p) [y] [] pos ∧ glB sc (biN f) = true ∧ chk fn gn N a sc (.e y) = true := by
    intro sc x h
    replace h : (match isCall1 sc (biN f) x with | some y => chk fn gn N a sc (.e y) | none => false) = true := h
    split at h
    · rename_i y hy
      obtain ⟨p, pos, rfl, h2⟩ := isCall1_some hy
      exact ⟨p, pos, y, rfl, h2, h⟩
    · cases h
  refine Pe.of (F := fun ρ => (evA gv cal a ρ).b.bind (biD f)) (fun _ => rfl) rfl (fun sc xs => rfl) (fun sc x h X g => ?_) (.inl fun sc x h env whole => ?_)
  · obtain ⟨p, pos, y, rfl, h1, h2⟩ := inv h
    refine PE.imp (pe_bi g.calm (g.gl h1) (g.bl (biN_mem f)) (ha.b sc y h2 X g) (chk_star h2)) ?_
    rintro σ H Q ⟨G0, H0, ρ, G, sl, R, e, q⟩
    obtain ⟨d, ed, ef⟩ := Option.bind_eq_some_iff.mp e
    refine ⟨G0, H0, ρ, G, d, R, ed, fun v G1 H1 st1 b1 => ?_⟩
    exact opD_bi f G1 H1 d sl v Q st1.gh ef b1 fun v2 G2 H2 st2 sv => q v2 G2 H2 (st1.trans st2) (sv.old st1.h)
  · obtain ⟨p, pos, y, rfl, _⟩ := inv h
    rfl
theorem rpL_map {K : PySem.W.Frag} {G : Hp} {α : Type} (f : α → D) (g : α → V) (h : ∀ a, Rp K G (f a) (g a)) : ∀ l : List α, RpL K G (l.map f) (l.map g)
  | [] => RpL.nil
  | a :: l => RpL.cons (h a) (rpL_map f g h l)
theorem rng_rp {K : PySem.W.Frag} {G : Hp} (n : Int) : RpL K G (rngD 0 n.toNat) (rgV 0 n) := by
  unfold rngD rgV
  rw [Int.sub_zero]
  exact rpL_map _ _ (fun a => by simp only [Rp]) _
theorem Pe.biR {f : Bi} {a : E} (ha : Pe fn gn gv cal k N a) : Pe fn gn gv cal k N (.biR f a) := by
  have inv : ∀ {sc x}, chk fn gn N (.biR f a) sc (.e x) = true → ∃ p pos p2 pos2 z, x = .Call (.Name (biN f) p) [.Call (.Name "range" p2) [z] [] pos2] [] pos ∧ glB sc (biN f) = true ∧ glB sc "range" = true ∧ (f = .tupleO ∨ f = .listO) ∧ chk fn gn N a sc (.e z) = true := by
    intro sc x h
    replace h : (match isCall1 sc (biN f) x with
      | some y => (match isCall1 sc "range" y with | some z => (f == .tupleO || f == .listO) && chk fn gn N a sc (.e z) | none => false)
      | none => false) = true := h
    split at h
    · rename_i y hy
      split at h
      · rename_i z hz
        obtain ⟨p, pos, rfl, h2⟩ := isCall1_some hy
        obtain ⟨p2, pos2, rfl, h3⟩ := isCall1_some hz
        simp only [Bool.and_eq_true, Bool.or_eq_true, beq_iff_eq] at h
        exact ⟨p, pos, p2, pos2, z, rfl, h2, h3, h.1, h.2⟩
      · cases h
    · cases h
  refine Pe.of (F := fun ρ => biRS f (evA gv cal a ρ).b) (fun _ => rfl) rfl (fun sc xs => rfl) (fun sc x h X g => ?_) (.inl fun sc x h env whole => ?_)
  · obtain ⟨p, pos, p2, pos2, z, rfl, h1, h2, h3, h4⟩ := inv h
    have hr := prg_1 (p := p2) (pos := pos2) (g.gl h2) (g.bl (by decide +kernel)) (ha.b sc z h4 X g) (star_of (chk_star h4) [] X.env)
    rcases h3 with rfl | rfl
    · refine PE.imp (pe_tupRg g.calm (g.gl h1) (g.bl (by decide +kernel)) hr rfl) ?_
      rintro σ H Q ⟨G0, H0, ρ, G, sl, R, e, q⟩
      cases ea : (evA gv cal a ρ).b with
      | none => simp only [ea, biRS] at e; cases e
      | some d =>
        cases d with
        | int n =>
          simp only [ea, biRS] at e
          split at e
          · rename_i hn
            cases e
            refine ⟨G0, H0, ρ, G, _, R, ea, fun v G1 H1 st1 b1 => ⟨n, br_int b1, ?_, fun r hr => ?_⟩⟩
            · exact ⟨by omega, by omega, by omega, by omega, by omega⟩
            · obtain ⟨st2, sv⟩ := newT st1.gh hr (rng_rp (K := X.K) n)
              exact q _ _ _ (st1.trans st2) (sv.old st1.h)
          · cases e
        | _ => simp only [ea, biRS] at e; cases e
    · refine PE.imp (pe_listRg g.calm (g.gl h1) (g.bl (by decide +kernel)) hr rfl) ?_
      rintro σ H Q ⟨G0, H0, ρ, G, sl, R, e, q⟩
      cases ea : (evA gv cal a ρ).b with
      | none => simp only [ea, biRS] at e; cases e
      | some d =>
        cases d with
        | int n =>
          simp only [ea, biRS] at e
          split at e
          · rename_i hn
            cases e
            refine ⟨G0, H0, ρ, G, _, R, ea, fun v G1 H1 st1 b1 => ⟨n, br_int b1, ?_, fun r hr => ?_⟩⟩
            · exact ⟨by omega, by omega, by omega, by omega, by omega⟩
            · obtain ⟨st2, sv⟩ := newL st1.gh hr (rng_rp (K := X.K) n)
              exact q _ _ _ (st1.trans st2) (sv.old st1.h)
          · cases e
        | _ => simp only [ea, biRS] at e; cases e
  · obtain ⟨p, pos, p2, pos2, z, rfl, _⟩ := inv h
    rfl
end
end LJ
/-! LJset: sorted(set(..)) of ints and of texts. -/
namespace LJ
open PySem PySem.Spec PyProof.Rows L2

/-- a set of keys of one kind whose table can be walked: kf reads the key off a member -/
def SetG {P : Program} {w : World} {κ : Type} [DecidableEq κ] (kd : PySem.KeyKind P w κ) (kf : Value → κ) (h : Heap) (a : Addr) (S : κ → Bool) (n : Nat) : Prop :=
  ∃ ob ms ep tb, h.get? a = some ob ∧ ob.ExactSet ∧ ob.data = .set ms ep tb ∧ (∀ m ∈ ms.toList, kd.is (kf m.2) m.2 = true ∧ m.1 = kd.hash (kf m.2) ∧ m.2.scannable = true) ∧
    (ms.toList.map fun m => kf m.2).Nodup ∧ (∀ k, S k = true ↔ k ∈ ms.toList.map fun m => kf m.2) ∧ ms.size < scanBound ∧ tb.fits ms.size = true ∧ ms.size = n ∧ Ris tb.place.toList ∧
    (w.params.followText "set-order" = true ∨ tb.led = true)
section
variable {P : Program} {w : World} {κ : Type} [DecidableEq κ] {kd : PySem.KeyKind P w κ} {kf : Value → κ} {A : Around} {E : Value → Shared → Prop} {s : Shared} {a : Addr} {S : κ → Bool} {n : Nat}
theorem SetG.keep {h h' : Heap} (g : SetG kd kf h a S n) (q : ∀ o, h.get? a = some o → h'.get? a = some o) : SetG kd kf h' a S n := by
  obtain ⟨ob, ms, ep, tb, h1, h2⟩ := g
  exact ⟨ob, ms, ep, tb, q _ h1, h2⟩
theorem SetG.same {h : Heap} {S' : κ → Bool} (g : SetG kd kf h a S n) (q : ∀ k, S' k = S k) : SetG kd kf h a S' n := (funext q : S' = S) ▸ g
theorem sg_elems {l : List (Int × Value)} (g : ∀ m ∈ l, kd.is (kf m.2) m.2 = true ∧ m.1 = kd.hash (kf m.2) ∧ m.2.scannable = true) : ElemsOf kd l := fun m hm => ⟨⟨_, (g m hm).1, (g m hm).2.1⟩, (g m hm).2.2⟩
theorem sg_mem {l : List (Int × Value)} (g : ∀ m ∈ l, kd.is (kf m.2) m.2 = true ∧ m.1 = kd.hash (kf m.2) ∧ m.2.scannable = true) (k : κ) : (k ∈ l.map fun m => kf m.2) ↔ ∃ m ∈ l, kd.is k m.2 = true := by
  rw [List.mem_map]
  exact ⟨fun ⟨m, h1, h2⟩ => ⟨m, h1, h2 ▸ (g m h1).1⟩, fun ⟨m, h1, h2⟩ => ⟨m, h1, kd.inj _ _ _ (g m h1).1 h2⟩⟩
/-- what stands after the store: perhaps the table is laid anew -/
theorem sg_tail {gg : Bool → Sem Unit} (hgg : ∀ (b : Bool) (s' : Shared) (Q' : Unit → Shared → Prop), Q' () s' → wpAny (model P w) A (gg b) Q' E s') {ob : Obj} {ms : Array (Int × Value)} {ep : Nat} {tb : SetTable}
    (p0 : s.heap.get? a = some ob) (px : ob.ExactSet) (pd : ob.data = .set ms ep tb) {ms' : Array (Int × Value)} {tb' : SetTable} {S' : κ → Bool}
    (pe : ∀ m ∈ ms'.toList, kd.is (kf m.2) m.2 = true ∧ m.1 = kd.hash (kf m.2) ∧ m.2.scannable = true) (pn : (ms'.toList.map fun m => kf m.2).Nodup) (pm : ∀ k, S' k = true ↔ k ∈ ms'.toList.map fun m => kf m.2)
    (pb : ms'.size < scanBound) (pf : tb'.fits ms'.size = true) (pr : Ris tb'.place.toList) (pl : w.params.followText "set-order" = true ∨ tb'.led = true) {wd : Bool} {R : Option Bool → Shared → Prop}
    (fin : ∀ h', Heap.SameBut a s.heap h' → SetG kd kf h' a S' ms'.size → R (some true) { s with heap := h' }) :
    wpAny (model P w) A (do storeSet a ms' tb'; if (!wd && tb'.tooFull) = true then do { gg (relayAll tb' ms' (SetTable.grown ms'.size)).2.2; storeSet a (relayAll tb' ms' (SetTable.grown ms'.size)).1 (relayAll tb' ms' (SetTable.grown ms'.size)).2.1; pure (some true) } else pure (some true)) R E s := by
  refine wpAny_bind (wpAny_storeSet_of p0 pd ?_ (fits_of_scanBound pb))
  have p1 := store_at (es' := ms') (t' := tb') p0 pd
  have sb := Heap.SameBut.update s.heap a (Obj.putSet ms' tb')
  split
  · have q1 := relayAll_perm tb' ms' (SetTable.grown ms'.size)
    have q2 := relayAll_fits tb' ms' (SetTable.grown ms'.size)
    have q3 := relayAll_ris tb' ms' (SetTable.grown ms'.size)
    have q4 := relayAll_led tb' ms' (SetTable.grown ms'.size)
    generalize relayAll tb' ms' (SetTable.grown ms'.size) = Z at q1 q2 q3 q4 ⊢
    obtain ⟨mz, tz, gz⟩ := Z
    dsimp only at q1 q2 q3 q4 ⊢
    have zz : mz.size = ms'.size := by rw [← Array.length_toList, q1.length_eq, Array.length_toList]
    refine wpAny_bind (hgg _ _ _ (wpAny_bind (wpAny_storeSet_of p1 rfl ?_ (fits_of_scanBound (zz ▸ pb)))))
    have p2 := store_at (es' := mz) (t' := tz) p1 rfl
    exact wpAny_pure (fin _ (sb.trans (Heap.SameBut.update _ a _)) ⟨_, mz, _, tz, p2, px, rfl, fun m hm => pe m (q1.mem_iff.mp hm), (q1.map _).nodup_iff.mpr pn, fun k => (pm k).trans (q1.map _).mem_iff.symm, zz ▸ pb, q2, zz, q3, pl.imp id fun z => q4.trans z⟩)
  · exact wpAny_pure (fin _ sb ⟨_, ms', _, tb', p1, px, rfl, pe, pn, pm, pb, pf, rfl, pr, pl⟩)
theorem sg_add {k : κ} {x : Value} {Q : Bool → Shared → Prop} (hk : kd.is k x = true) (hf : kf x = k) (hx : x.scannable = true) (g : SetG kd kf s.heap a S n) (room : n + 1 < scanBound)
    (fin : ∀ h', Heap.SameBut a s.heap h' → SetG kd kf h' a (fun j => S j || decide (j = k)) (if S k = true then n else n + 1) → Q (!S k) { s with heap := h' }) : wpAny (model P w) A (setAddHashed a x (kd.hash k)) Q E s := by
  obtain ⟨ob, ms, ep, tb, p0, px, pd, pe, pn, pm, pb, pf, pz, pr, pl⟩ := g
  have el : ElemsOf kd ms.toList := sg_elems pe
  unfold setAddHashed setAddHashedIn
  refine wpAny_holding (wpAny_bind (wpAny_setState_of p0 pd pf ?_))
  dsimp only
  rw [byScan_of hx pb el]
  simp only [↓reduceIte]
  unfold setAddByScan
  refine wpAny_bind (wpAny_bind (wpAny_rule (wpAny_bind (wpAny_setScan_of hk p0 pd pf el ?_))))
  cases fi : List.findIdx? (fun m => kd.is k m.2) ms.toList with
  | some j =>
    dsimp only
    obtain ⟨hj, pj, _⟩ := List.findIdx?_eq_some_iff_getElem.mp fi
    have sk : S k = true := (pm k).2 ((sg_mem pe k).2 ⟨ms.toList[j], List.getElem_mem hj, pj⟩)
    refine wpAny_pure (wpAny_pure ?_)
    have q := fin s.heap (Heap.SameBut.refl a s.heap) ⟨ob, ms, ep, tb, p0, px, pd, pe, pn, fun i => by
      rw [Bool.or_eq_true, decide_eq_true_eq, ← pm i]
      exact ⟨fun z => z.elim id fun e => e ▸ sk, .inl⟩, pb, pf, by rw [if_pos sk]; exact pz, pr, pl⟩
    rw [sk] at q
    exact q
  | none =>
    dsimp only
    have nk : k ∉ ms.toList.map fun m => kf m.2 := fun z => by
      obtain ⟨m, hm, q⟩ := (sg_mem pe k).1 z
      rw [List.findIdx?_eq_none_iff.mp fi m hm] at q
      cases q
    have sk : S k = false := by
      cases q : S k with
      | false => rfl
      | true => exact absurd ((pm k).1 q) nk
    have gw : ∀ (b : Bool) {s' : Shared} {Q' : Unit → Shared → Prop}, Q' () s' → wpAny (model P w) A (match b with | true => rule "set.scan.the-table-gave-way" | false => pure ()) Q' E s' := fun b _ _ q => by cases b <;> first | exact wpAny_pure q | exact wpAny_rule q
    have q1 := layNew_perm tb ms (kd.hash k) x
    have q2 := layNew_fits tb ms (kd.hash k) x
    have q3 := layNew_ris tb ms (kd.hash k) x pr
    have q4 := layNew_led tb ms (kd.hash k) x
    generalize layNew tb ms (kd.hash k) x = Z at q1 q2 q3 q4 ⊢
    obtain ⟨mz, tz, wd, gz⟩ := Z
    dsimp only at q1 q2 q3 q4 ⊢
    rw [Array.toList_push] at q1
    have pc : mz.toList.Perm ((kd.hash k, x) :: ms.toList) := q1.trans (List.perm_append_singleton _ _)
    have pk : (mz.toList.map fun m => kf m.2).Perm (k :: ms.toList.map fun m => kf m.2) := by
      have := pc.map fun m => kf m.2
      rw [List.map_cons, hf] at this
      exact this
    have e1 : ∀ m ∈ mz.toList, kd.is (kf m.2) m.2 = true ∧ m.1 = kd.hash (kf m.2) ∧ m.2.scannable = true := fun m hm => by
      rcases List.mem_cons.mp (pc.mem_iff.mp hm) with z | z
      · rw [z]; exact ⟨by show kd.is (kf x) x = true; rw [hf]; exact hk, by show kd.hash k = kd.hash (kf x); rw [hf], hx⟩
      · exact pe m z
    have e2 : (mz.toList.map fun m => kf m.2).Nodup := pk.nodup_iff.mpr (List.nodup_cons.mpr ⟨nk, pn⟩)
    have e3 : ∀ i, (S i || decide (i = k)) = true ↔ i ∈ mz.toList.map fun m => kf m.2 := fun i => by
      rw [Bool.or_eq_true, decide_eq_true_eq, pm i, pk.mem_iff, List.mem_cons]
      exact Or.comm
    have e4 : mz.size = n + 1 := by rw [← Array.length_toList, pc.length_eq, List.length_cons, Array.length_toList, pz]
    have e5 : mz.size < scanBound := by rw [e4]; exact room
    have e6 : w.params.followText "set-order" = true ∨ tz.led = true := pl.imp id fun z => q4.trans z
    have done : ∀ h', Heap.SameBut a s.heap h' → SetG kd kf h' a (fun j => S j || decide (j = k)) mz.size → Q true { s with heap := h' } := fun h' sb r => by
      have q := fin h' sb
      rw [sk] at q
      rw [e4] at r
      exact q r
    refine wpAny_bind (gw _ ?_)
    split
    · refine wpAny_bind ?_
      rw [hashByValue_scannable 8 hx]
      refine wpAny_pure (sg_tail (fun b s' Q' q => by cases b <;> first | exact wpAny_pure q | exact wpAny_rule q) p0 px pd e1 e2 e3 e5 ?_ ?_ ?_ fun h' sb r => wpAny_pure (done h' sb r))
      · first | (split <;> first | exact q2 | exact SetTable.fits_plain_off q2) | exact q2
      · first | (split <;> exact q3) | exact q3
      · first | (split <;> exact e6) | exact e6
    · refine wpAny_bind (wpAny_pure ?_)
      simp only [↓reduceIte]
      exact sg_tail (fun b s' Q' q => by cases b <;> first | exact wpAny_pure q | exact wpAny_rule q) p0 px pd e1 e2 e3 e5 q2 q3 e6 fun h' sb r => wpAny_pure (done h' sb r)
/-- the loop of set(xs) -/
theorem sg_loop {I : Addr} {fp wr : List Addr} {G : Array GenState → Array GenState → Prop} {m : Nat} {Pv : Nat → Value → Prop} {St : Nat → Shared → Prop} {R : Result → Shared → Prop} (W : WalksS P w A.in1 I fp wr G m Pv St) (T : Addr) (hT : T ∉ fp)
    (ks : List κ) (hm : m = ks.length) (hb : ks.length + 1 < scanBound) (hv : ∀ i v, Pv i v → ∃ k, ks[i]? = some k ∧ kd.is k v = true ∧ kf v = k ∧ v.scannable = true) :
    ∀ (d i : Nat) (s : Shared), m - i = d → i ≤ m → St i s → (∃ c, c ≤ i ∧ SetG kd kf s.heap T (fun j => decide (j ∈ ks.take i)) c) →
      (∀ s' c, Moved (T :: wr) G s s' → c ≤ m → SetG kd kf s'.heap T (fun j => decide (j ∈ ks)) c → R (.ok (.ret .none)) s') →
      codeAny (model P w) A (.builtin "set.update.loop" ⟨[.ref T, .ref I], []⟩) R s := by
  have hw : T ∉ wr := fun z => hT (W.sub _ z)
  intro d
  induction d with
  | zero =>
    intro i s hd hi st ⟨c, hc, gg⟩ hR
    have ei : i = m := by omega
    subst ei
    refine codeAny_builtin PyProof.Rows.F.entry_set_update_loop ?_
    rw [Around.under_plainId PyProof.Rows.F.plain_set_update_loop _]
    refine wpAny_bind (m := pyNext (.ref I)) (W.done s _ _ st fun s' mv => ?_)
    rw [List.take_of_length_le (by omega)] at gg
    exact wpAny_pure (hR s' c (mv.mono fun b z => List.mem_cons_of_mem _ z) hc (gg.keep fun o e => mv.heap T o hw e))
  | succ d ih =>
    intro i s hd hi st ⟨c, hc, gg⟩ hR
    have hlt : i < m := by omega
    refine codeAny_builtin PyProof.Rows.F.entry_set_update_loop ?_
    rw [Around.under_plainId PyProof.Rows.F.plain_set_update_loop _]
    refine wpAny_bind (m := pyNext (.ref I)) (W.item i s _ _ hlt st fun v s' hP st' mv => ?_)
    obtain ⟨k, ek, k1, k2, k3⟩ := hv i v hP
    have g1 : SetG kd kf s'.heap T (fun j => decide (j ∈ ks.take i)) c := gg.keep fun o e => mv.heap T o hw e
    show wpAny _ A.in1 (holding [v] (setAdd T v) >>= _) _ _ s'
    refine wpAny_bind (wpAny_holding ?_)
    unfold setAdd
    refine wpAny_holding (wpAny_bind (kd.pyHash k1 ?_))
    refine sg_add (s := { s' with toks := s'.toks + 1 }) k1 k2 k3 g1 (by omega) fun h' sb g2 => ?_
    have g3 : SetG kd kf h' T (fun j => decide (j ∈ ks.take (i + 1))) (if decide (k ∈ ks.take i) = true then c else c + 1) := g2.same fun j => by
      rw [List.take_add_one, ek]
      simp [List.mem_append]
    refine wpAny_pure ⟨plainId_quiet PyProof.Rows.F.plain_set_update_loop _, ih (i + 1) _ (by omega) hlt (W.frame _ s' _ _ st' (Nat.le_succ _) fun b hb' o e => ?_) ⟨_, by split <;> omega, g3⟩ fun s2 c2 mv2 hc2 g4 => ?_⟩
    · rw [sb.2 b fun z : b = T => hT (z ▸ hb')]; exact e
    · refine hR s2 c2 (Moved.trans W.gtrans ((mv.mono fun b z => List.mem_cons_of_mem _ z).then_heap (Nat.le_succ _) fun b o hb' e => ?_) mv2) hc2 g4
      rw [sb.2 b fun z : b = T => hb' (z ▸ List.mem_cons_self)]; exact e
end
section
variable {P : Program} {w : World} {κ : Type} [DecidableEq κ] {kd : PySem.KeyKind P w κ} {kf : Value → κ} {A : Around} {E : Value → Shared → Prop} {s : Shared}
/-- an empty set, as it is made -/
abbrev newSetO (w : World) : Obj := { cls := .type "set", dict := none, data := .set #[] 0 (.fresh 0 0 (!w.params.followText "set-order")) }
theorem sg_new {h : Heap} {a : Addr} {ks : List κ} (ho : h.get? a = some (newSetO w)) : SetG kd kf h a (fun j => decide (j ∈ ks.take 0)) 0 :=
  ⟨_, #[], 0, _, ho, ⟨rfl, rfl, rfl⟩, rfl, fun m hm => by simp at hm, by simp, fun k => by simp, by decide, by rfl, rfl, List.Pairwise.nil, by
    show _ ∨ (!w.params.followText "set-order") = true
    cases w.params.followText "set-order"
    · exact .inr rfl
    · exact .inl rfl⟩
theorem str_not_set : isSubtype (.type "str") (.type "set") = pure false := by rw [isSubtype_type]; kernel_rfl
theorem str_not_frozen : isSubtype (.type "str") (.type "frozenset") = pure false := by rw [isSubtype_type]; kernel_rfl
/-- what iter(v) gives, wherever the heap has grown -/
def IterOf (P : Program) (w : World) (v : Value) (h0 : Heap) (m : Nat) (Pv : Nat → Value → Prop) : Prop :=
  ∀ (A : Around) (E : Value → Shared → Prop) (s : Shared) (Q : Value → Shared → Prop), (∀ b o, h0.get? b = some o → s.heap.get? b = some o) → h0.objs.size ≤ s.heap.objs.size →
    (∀ (ob : Obj) (fp : List Addr) (St : Nat → Heap → Prop), (∀ A' : Around, A'.handled = none → Walks P w A' s.heap.objs.size fp [s.heap.objs.size] m Pv St) → (∀ b ∈ fp, b = s.heap.objs.size ∨ b < h0.objs.size) → St 0 (s.heap.push ob) →
      Q (.ref s.heap.objs.size) { s with heap := s.heap.push ob }) → wpAny (model P w) A (pyIter v) Q E s
theorem iterOf_list {h0 : Heap} {l : Addr} {its : Array Value} (hl : h0.IsList l its) : IterOf P w (.ref l) h0 its.size fun i v => its[i]? = some v := fun A E s Q k hz q => by
  have hlt : l < h0.objs.size := by obtain ⟨o, ho, _⟩ := hl; exact Heap.lt_size ho
  have hl' : s.heap.IsList l its := by obtain ⟨o, ho, r⟩ := hl; exact ⟨o, k _ _ ho, r⟩
  have hne : l ≠ s.heap.objs.size := Nat.ne_of_lt (Nat.lt_of_lt_of_le hlt hz)
  refine wpAny_pyIter_list hl' (q _ _ _ (fun A' hA => Walks.list hA _ l hne its) (fun b hb => ?_) ⟨⟨_, Heap.get?_push_size _ rfl, rfl, rfl⟩, hl'.push _⟩)
  rcases List.mem_cons.mp hb with z | z
  · exact .inl z
  · exact .inr (List.mem_singleton.mp z ▸ hlt)
theorem iterOf_str {h0 : Heap} {x : Str} {t : Tok} : IterOf P w (.str x t) h0 x.cps.size (SignAt x) := fun A E s Q k hz q =>
  wpAny_pyIter_str fun ob St W st => q ob _ St W (fun b hb => .inl (List.mem_singleton.mp hb)) st
/-- what set(v) needs of v's type -/
inductive SetSrc (s : Shared) : Value → Prop where
  | list {l : Addr} {its : Array Value} (h : s.heap.IsList l its) : SetSrc s (.ref l)
  | str {x : Str} {t : Tok} : SetSrc s (.str x t)
theorem not_any_set {M : Model} {v : Value} {Q : Bool → Shared → Prop} {s0 : Shared} (src : SetSrc s0 v) (k : ∀ b o, s0.heap.get? b = some o → s.heap.get? b = some o) (h : Q false s) : wpAny M A (Builtin.Frozenset.isAnySet v) Q E s := by
  cases src with
  | list hl =>
    obtain ⟨o, ho, hc, _⟩ := hl
    have hT : s.TypeIs (.ref _) "list" := ⟨o, k _ _ ho, hc⟩
    unfold Builtin.Frozenset.isAnySet
    exact wpAny_bind (wpAny_isInstance hT PySem.F.sub_list_set (wpAny_isInstance hT PySem.F.sub_list_frozenset h))
  | str =>
    unfold Builtin.Frozenset.isAnySet
    exact wpAny_bind (wpAny_isInstance_val rfl str_not_set (wpAny_isInstance_val rfl str_not_frozen h))
theorem not_dict {M : Model} {v : Value} {Q : Value → Shared → Prop} {s0 : Shared} (src : SetSrc s0 v) (k : ∀ b o, s0.heap.get? b = some o → s.heap.get? b = some o) (h : ∀ T : String, (Value.type T == Value.type "dict") = false → Q (.type T) s) : wpAny M A (typeOf v) Q E s := by
  cases src with
  | list hl =>
    obtain ⟨o, ho, hc, _⟩ := hl
    exact wpAny_typeOf (T := "list") ⟨o, k _ _ ho, hc⟩ (h _ (by decide))
  | str => exact wpAny_of_eq (a := .type "str") rfl (h _ (by decide))
set_option maxRecDepth 100000 in
set_option maxHeartbeats 3200000 in
theorem call_setG {v : Value} {m : Nat} {Pv : Nat → Value → Prop} (ks : List κ) {Q : Value → Shared → Prop} (hh : A.handled = none) (src : SetSrc s v) (it : IterOf P w v s.heap m Pv) (hm : m = ks.length) (hb : ks.length + 1 < scanBound)
    (hv : ∀ i x, Pv i x → ∃ k, ks[i]? = some k ∧ kd.is k x = true ∧ kf x = k ∧ x.scannable = true)
    (h : ∀ (h' : Heap) (tk c : Nat), SetG kd kf h' s.heap.objs.size (fun j => decide (j ∈ ks)) c → c ≤ ks.length → (∀ b o, s.heap.get? b = some o → h'.get? b = some o) → Q (.ref s.heap.objs.size) { s with heap := h', toks := tk }) :
    wpAny (model P w) A (call (.type "set") [v]) Q E s := by
  obtain ⟨c0, tl, hmro⟩ := PySem.F.called_set.mro
  have hmade := PySem.F.called_set.made
  have hsub := PySem.F.called_set.sub
  refine wpAny_call (codeAny_of_tree ?_)
  show wpAny _ _ (callAny (.type "set") _) _ _ _
  refine wpAny_pure ⟨Code.quiet_builtin _ (by decide +kernel), codeAny_builtin PySem.F.entry_type_call ?_⟩
  rw [Around.under_plain (weight_type_call_type "set" [v] []) rfl]
  have h1 := PySem.F.called_set.notType
  have h2 := PySem.F.called_set.canCreate
  have hct := PySem.F.typeCall_set_1 v
  repeat (any_goals (first | assumption | wp_step))
  refine codeAny_mono (code_set_led1 v (E := E) (Q₁ := fun ob s' => ob = .ref s.heap.objs.size ∧ s' = { s with heap := s.heap.push (newSetO w) }) ⟨rfl, rfl⟩) fun r s' hr => ?_
  cases r with
  | error e => exact hr
  | ok fl => cases fl with
    | ret ob =>
      obtain ⟨rfl, rfl⟩ := hr
      have p0 : (s.heap.push (newSetO w)).get? s.heap.objs.size = some (newSetO w) := Heap.get?_push_size _ rfl
      have hT : Shared.TypeIs { s with heap := s.heap.push (newSetO w) } (.ref s.heap.objs.size) "set" := ⟨_, p0, rfl⟩
      have hli := PySem.F.called_set.init.lookup
      have hbi := PySem.F.called_set.init.bind (.ref s.heap.objs.size)
      have ext : ∀ b o, s.heap.get? b = some o → (s.heap.push (newSetO w)).get? b = some o := fun b o e => Heap.get?_push_of_some _ e
      have z1 : (s.heap.push (newSetO w)).objs.size = s.heap.objs.size + 1 := Heap.size_push ..
      repeat (any_goals (first | assumption | wp_step))
      refine codeAny_mono (codeAny_call_builtin (R := wants (fun r s2 => r = .none ∧ ∃ h' tk c, s2 = { s with heap := h', toks := tk } ∧ SetG kd kf h' s.heap.objs.size (fun j => decide (j ∈ ks)) c ∧ c ≤ ks.length ∧
          (∀ b o, s.heap.get? b = some o → h'.get? b = some o)) E) PySem.F.called_set.init.plain PySem.F.entry_set_init (check_set_init_1 hT ?_)) fun r2 s2 hr2 => ?_
      · unfold Builtin.«set.__init__» noKeywords
        generalize hUF : Builtin.Frozenset.updateFrom = UF
        wp_walk
        subst hUF
        unfold Builtin.Frozenset.updateFrom
        refine wpAny_bind (not_any_set src ext (wp_if_neg Bool.false_ne_true (wpAny_bind (not_dict src ext fun T hT2 => wp_if_neg (by rw [hT2]; exact Bool.false_ne_true) (wpAny_bind (it _ _ _ _ ext (by rw [z1]; omega) fun ob fp St W hfp st => ?_))))))
        have hS : s.heap.objs.size ∉ fp := fun z => by
          rcases hfp _ z with e | e
          · have e' : s.heap.objs.size = (s.heap.push (newSetO w)).objs.size := e
            rw [z1] at e'
            omega
          · exact Nat.lt_irrefl _ e
        refine wpAny_bind (wpAny_runValue (sg_loop (W A.in1.in1.in1 (by simp [hh])).toS s.heap.objs.size hS ks hm hb hv (m - 0) 0 _ rfl (Nat.zero_le _) st ⟨0, Nat.le_refl 0, sg_new (Heap.get?_push_of_some _ p0)⟩ ?_))
        intro s3 c mv hc g3
        obtain ⟨h3, g0, d0, t0, o0⟩ := s3
        have eg : g0 = s.gens := mv.gens
        have ed : d0 = s.drawn := mv.drawn
        have eo : o0 = s.os := mv.os
        subst eg
        subst ed
        subst eo
        show wpAny _ _ _ _ _ _
        refine wpAny_pure ?_
        show wpAny _ _ (ret Value.none) _ _ _
        rw [hm] at hc
        refine wpAny_pure ⟨rfl, h3, t0, c, rfl, g3, hc, fun b o e => ?_⟩
        have hb0 : b < s.heap.objs.size := Heap.lt_size e
        refine mv.heap b o (fun z => ?_) (Heap.get?_push_of_some _ (ext b o e))
        rcases List.mem_cons.mp z with z | z
        · exact absurd z (Nat.ne_of_lt hb0)
        · have z' : b = (s.heap.push (newSetO w)).objs.size := List.mem_singleton.mp z
          rw [z1] at z'
          exact absurd z' (Nat.ne_of_lt (Nat.lt_succ_of_lt hb0))
      · cases r2 with
        | error e => exact hr2
        | ok fl2 => cases fl2 with
          | ret r =>
            obtain ⟨rfl, h', tk, c, rfl, g, hc, hk⟩ := hr2
            repeat (any_goals (first | assumption | wp_step))
            exact h _ _ _ g hc hk
          | _ => exact hr2.elim
    | _ => exact hr.elim
end
end LJ
/-! LJsetb: sorted(set(..)). -/
namespace LJ
open PySem PySem.Spec PyProof.Rows L2
def kInt (v : Value) : Int := match v with
  | .int k _ => k
  | _ => 0
def kStr (v : Value) : Str := match v with
  | .str k _ => k
  | _ => Str.empty
section
variable {P : Program} {w : World} {A : Around} {E : Value → Shared → Prop} {s : Shared} {a : Addr}
theorem SetG.ints {h : Heap} {S : Int → Bool} {n : Nat} (g : SetG (intKind P w) kInt h a S n) : SetR w h a S n := by
  obtain ⟨ob, ms, ep, tb, p0, px, pd, pe, pn, pm, r⟩ := g
  have key : ∀ m ∈ ms.toList, kInt m.2 = keyOf m ∧ GoodE m := fun m hm => by
    obtain ⟨e1, e2, _⟩ := pe m hm
    obtain ⟨h1, v⟩ := m
    cases v with
    | int k t => exact ⟨rfl, k, t, rfl, e2⟩
    | _ => exact absurd e1 Bool.false_ne_true
  have e : (ms.toList.map fun m => kInt m.2) = ms.toList.map keyOf := List.map_congr_left fun m hm => (key m hm).1
  rw [e] at pn
  simp only [e] at pm
  exact ⟨ob, ms, ep, tb, p0, px, pd, fun m hm => (key m hm).2, pn, pm, r⟩
theorem SetR.gen {h : Heap} {S : Int → Bool} {n : Nat} (g : SetR w h a S n) : True := trivial
theorem strs_of : ∀ (l : List Value), (∀ v ∈ l, ∃ k tk, v = Value.str k tk) → StrsAre l (l.map kStr)
  | [], _ => .nil
  | v :: l, h => by
    obtain ⟨k, tk, rfl⟩ := h v List.mem_cons_self
    exact .cons k tk (strs_of l fun u hu => h u (List.mem_cons_of_mem _ hu))
/-- sorted(a set of texts) -/
theorem sorted_setS {S : Str → Bool} {n : Nat} {Q : Value → Shared → Prop} (g : SetG (PySem.strKind P w) kStr s.heap a S n) (hh : A.handled = none) (h64 : n < 64)
    (fin : ∀ s' p (out : Array Value) (c : Nat) (xs : List Str), (∀ b o, s.heap.get? b = some o → s'.heap.get? b = some o) → s'.gens = s.gens → s'.os = s.os → s.heap.objs.size ≤ p →
      s'.heap.get? p = some (seqObj "list" out c) → StrsAre out.toList xs → sortedS xs = true → xs.Nodup → (∀ k, k ∈ xs ↔ S k = true) → xs.length = n → Q (.ref p) s') :
    wpAny (model P w) A (call (.builtin "sorted") [.ref a]) Q E s := by
  obtain ⟨ob, ms, ep, tb, p0, px, pd, pe, pn, pm, pb, pf, pz, pr, pl⟩ := g
  refine Calls.call_function_entry kind_sorted plain_sorted entry_sorted (args_sorted1 _) ?_
  unfold Builtin.«sorted»
  refine wpAny_bind (m := checkCount "sorted" 1 1 _) (wpAny_pure (wpAny_bind (collect_set (A := A.in1) hh ⟨ob, p0, px.1, pd⟩ pf pb pr pl fun s1 vs k1 hz g1 o1 pv => ?_)))
  have hvl : vs.length = n := by rw [pv.length_eq, List.length_map, Array.length_toList]; exact pz
  have hst : ∀ v ∈ vs, ∃ k tk, v = Value.str k tk := fun v hv => by
    obtain ⟨m, hm, q⟩ := List.mem_map.mp (pv.mem_iff.mp hv)
    have := (pe m hm).1
    rw [q] at this
    obtain ⟨t, e⟩ := Value.isStrOf_shape this
    exact ⟨_, t, e⟩
  have hI := strs_of vs hst
  have pk : (vs.map kStr).Perm (ms.toList.map fun m => kStr m.2) := by
    have q := pv.map kStr
    rw [List.map_map] at q
    exact q
  refine wpAny_bind (wpAny_newList ?_ (by rw [hvl, sizeLine_eq]; omega))
  have hoL : (s1.heap.push (seqObj "list" vs.toArray 0)).get? s1.heap.objs.size = some (seqObj "list" vs.toArray 0) := Heap.get?_push_size _ rfl
  refine wpAny_bind (wpAny_holding (wpAny_call_entry slot_list_sort ⟨_, hoL, rfl⟩ entry_list_sort (list_sort_treeK strKind_oneLt hoL hI.keysOf (fun v1 v2 rest e => keyKind_strs (by rw [← e]; exact hI)) (by rw [hvl]; exact h64) fun st' q1 q2 => ⟨_, rfl, ?_⟩) (args_list_sort _)))
  obtain ⟨xs, x1, x2, x3⟩ := sorted_out_str hI (Array.perm_iff_toList_perm.mpr (Array.perm_iff_toList_perm.mp q1)) q2
  obtain ⟨c, hc⟩ := sortedHeap_at (vs := vs) (out := (arrOf st').map (·.2)) hoL
  have pp := x2.trans pk
  refine wpAny_pure ⟨_, rfl, fin _ s1.heap.objs.size _ c xs (fun b u e => ?_) g1 o1 hz hc x1 x3 (pp.nodup_iff.mpr pn) (fun k => by rw [pp.mem_iff, ← pm k]) ?_⟩
  · have q := k1 b u e
    have hlt := Heap.lt_size q
    show (sortedHeap (s1.heap.push (seqObj "list" vs.toArray 0)) s1.heap.objs.size vs _).get? b = some u
    rw [sortedHeap_old (Nat.ne_of_lt hlt) (by rw [size_push']; exact Nat.lt_succ_of_lt hlt)]
    exact Heap.get?_push_of_some _ q
  · rw [pp.length_eq, List.length_map, Array.length_toList]; exact pz
end
end LJ
/-! LJsetc: sorted(set(..)) over data. -/
namespace LJ
open PySem PySem.Spec PyProof.Rows L2
/-! ### the mathematics -/
theorem dedupI_mem {x : Int} : ∀ {l : List Int}, x ∈ dedupI l ↔ x ∈ l
  | [] => Iff.rfl
  | y :: l => by
    unfold dedupI
    split
    · rename_i h
      rw [dedupI_mem, List.mem_cons]
      exact ⟨.inr, fun z => z.elim (fun e => e ▸ h) id⟩
    · rw [List.mem_cons, List.mem_cons, dedupI_mem]
theorem dedupI_nodup : ∀ l : List Int, (dedupI l).Nodup
  | [] => List.nodup_nil
  | y :: l => by
    unfold dedupI
    split
    · exact dedupI_nodup l
    · rename_i h
      exact List.nodup_cons.mpr ⟨fun z => h (dedupI_mem.mp z), dedupI_nodup l⟩
theorem dedupN_mem {x : Nat} : ∀ {l : List Nat}, x ∈ dedupN l ↔ x ∈ l
  | [] => Iff.rfl
  | y :: l => by
    unfold dedupN
    split
    · rename_i h
      rw [dedupN_mem, List.mem_cons]
      exact ⟨.inr, fun z => z.elim (fun e => e ▸ h) id⟩
    · rw [List.mem_cons, List.mem_cons, dedupN_mem]
theorem dedupN_nodup : ∀ l : List Nat, (dedupN l).Nodup
  | [] => List.nodup_nil
  | y :: l => by
    unfold dedupN
    split
    · exact dedupN_nodup l
    · rename_i h
      exact List.nodup_cons.mpr ⟨fun z => h (dedupN_mem.mp z), dedupN_nodup l⟩
theorem ssetI_one {ns ms : List Int} (h1 : ms.Pairwise (· < ·)) (h2 : ∀ k, k ∈ ms ↔ k ∈ ns) : ms = ssetI ns := by
  refine sorted_one ?_ (h1.imp fun h => Int.le_of_lt h)
  refine (List.perm_ext_iff_of_nodup (h1.imp fun h => Int.ne_of_lt h) (dedupI_nodup ns)).mpr fun k => ?_
  rw [h2, dedupI_mem]
theorem ssetN_one {ns ms : List Nat} (h1 : ms.Pairwise (· ≤ ·)) (h0 : ms.Nodup) (h2 : ∀ k, k ∈ ms ↔ k ∈ ns) : ms = ssetN ns := by
  have p : (sortN (dedupN ns)).Perm (dedupN ns) := sortN_perm _
  have q : ms.Perm (dedupN ns) := (List.perm_ext_iff_of_nodup h0 (dedupN_nodup ns)).mpr fun k => by rw [h2, dedupN_mem]
  exact List.Perm.eq_of_pairwise (le := fun a b : Nat => a ≤ b) (fun a b _ _ h3 h4 => by omega) h1 (sortN_sorted _) (q.trans p.symm)
def one (c : Nat) : Str := ⟨#[c]⟩
theorem one_inj {a b : Nat} (h : one a = one b) : a = b := by
  have := congrArg (fun x : Str => x.cps.toList) h
  simpa [one] using this
theorem ones_rising : ∀ (l : List Nat), sortedS (l.map one) = true → l.Pairwise (· ≤ ·) := by
  have key : ∀ (p : Nat) (l : List Nat), risingS (one p) (l.map one) = true → (p :: l).Pairwise (· ≤ ·) := by
    intro p l
    induction l generalizing p with
    | nil => intro _; simp
    | cons x l ih =>
      intro h
      have h' : (!ltCps [x] [p] && risingS (one x) (l.map one)) = true := h
      rw [Bool.and_eq_true, Bool.not_eq_true'] at h'
      have r := ih x h'.2
      have px : p ≤ x := by
        have h1 := h'.1
        rw [ltCps_eq, decide_eq_false_iff_not] at h1
        by_cases z : p ≤ x
        · exact z
        · exact absurd (List.cons_lt_cons_iff.mpr (.inl (by omega))) h1
      refine List.pairwise_cons.mpr ⟨fun y hy => ?_, r⟩
      rcases List.mem_cons.mp hy with rfl | hy
      · exact px
      · have := List.rel_of_pairwise_cons r hy
        omega
  intro l h
  cases l with
  | nil => simp
  | cons p l => exact key p l h
end LJ
/-! LJsetd: set(..) and sorted(..) as rules of the hand layer. -/
namespace LJ
open PySem PySem.Spec PyProof.Rows L2
/-- a set of texts in the abstract heap -/
def SetSO (P : Program) (w : World) (a : Addr) (S : Str → Bool) (n : Nat) : HO := .ext fun h => SetG (PySem.strKind P w) kStr h a S n
theorem setSO_new {P : Program} {w : World} {H : Hp} {h : Heap} {a : Addr} {S : Str → Bool} {n : Nat} (g : SetG (PySem.strKind P w) kStr h a S n) : ObjOk P w H h a (SetSO P w a S n) := by
  have ⟨o, _, _, _, ho, _⟩ := g
  exact ⟨g, ⟨o, ho⟩, fun h1 h2 p k => SetG.keep p k⟩
theorem strsAt : ∀ {vs : List Value} {xs : List Str}, StrsAre vs xs → ∀ (i : Nat) (v : Value), vs[i]? = some v → ∃ t, v = .str (xs.getD i Str.empty) t
  | _, _, .nil, i, v, h => by simp at h
  | _, _, .cons x t hr, 0, v, h => by
    simp at h
    exact ⟨t, h.symm⟩
  | _, _, .cons x t hr, i + 1, v, h => by
    simp only [List.getElem?_cons_succ] at h
    obtain ⟨t', e⟩ := strsAt hr i v h
    exact ⟨t', by rw [e]; rfl⟩
section
variable {X : Cx}
theorem setSO_get {pins : List (Addr × Obj)} {σ : L2.St} {H : Hp} {s : Shared} {a : Addr} {S : Str → Bool} {n : Nat} (I : Inv X pins σ H s) (ha : H a = some (SetSO X.prog X.w a S n)) : SetG (PySem.strKind X.prog X.w) kStr s.heap a S n := (I.hok a _ ha).1
def gotI (w : World) (ns : List Int) (H : Hp) (Q : V → Hp → Prop) : Prop := ∀ p n, H p = none → n ≤ ns.length → Q (.ref p) (upd H p (SetO w p (fun j => decide (j ∈ ns)) n))
def gotS (P : Program) (w : World) (xs : List Str) (H : Hp) (Q : V → Hp → Prop) : Prop := ∀ p n, H p = none → n ≤ xs.length → Q (.ref p) (upd H p (SetSO P w p (fun j => decide (j ∈ xs)) n))
/-- set(v): v a list or a tuple of ints, a list of texts, a text -/
def rSetX (P : Program) (w : World) (K : PySem.W.Frag) : List V → Hp → VK → Prop := fun vs H Q =>
  (∃ (a : Addr) (ns : List Int), vs = [.ref a] ∧ SqL K H a (ns.map V.int) ∧ ns.length < 64 ∧ gotI w ns H Q) ∨
  (∃ (a : Addr) (ns : List Int), vs = [.ref a] ∧ SqT K H a (ns.map V.int) ∧ ns.length < 64 ∧ gotI w ns H Q) ∨
  (∃ (a : Addr) (xs : List Str), vs = [.ref a] ∧ SqL K H a (xs.map V.str) ∧ xs.length < 64 ∧ gotS P w xs H Q) ∨
  (∃ x : Str, vs = [.str x] ∧ x.length < 64 ∧ gotS P w (x.cps.toList.map one) H Q)
theorem laidI {pins : List (Addr × Obj)} {σ : L2.St} {H : Hp} {s : Shared} {ns : List Int} {Q : V → Hp → Prop} {h' : Heap} {tk c : Nat} (I : Inv X pins σ H s) (R : SetR X.w h' s.heap.objs.size (fun j => decide (j ∈ ns)) c) (hc : c ≤ ns.length)
    (k : ∀ b o, s.heap.get? b = some o → h'.get? b = some o) (q : gotI X.w ns H Q) : ∃ x H', Inv X pins σ H' { s with heap := h', toks := tk } ∧ RelV x (.ref s.heap.objs.size) ∧ Q x H' :=
  ⟨.ref _, _, I.laid (t' := tk) k (Nat.le_refl _) (setO_new R), rfl, q _ c (I.hok.fresh (Nat.le_refl _)) hc⟩
theorem laidS {pins : List (Addr × Obj)} {σ : L2.St} {H : Hp} {s : Shared} {ns : List Str} {Q : V → Hp → Prop} {h' : Heap} {tk c : Nat} (I : Inv X pins σ H s) (R : SetG (PySem.strKind X.prog X.w) kStr h' s.heap.objs.size (fun j => decide (j ∈ ns)) c) (hc : c ≤ ns.length)
    (k : ∀ b o, s.heap.get? b = some o → h'.get? b = some o) (q : gotS X.prog X.w ns H Q) : ∃ x H', Inv X pins σ H' { s with heap := h', toks := tk } ∧ RelV x (.ref s.heap.objs.size) ∧ Q x H' :=
  ⟨.ref _, _, I.laid (t' := tk) k (Nat.le_refl _) (setSO_new R), rfl, q _ c (I.hok.fresh (Nat.le_refl _)) hc⟩
theorem cr_setX (hc : X.calm = true) : CallR X (.type "set") (rSetX X.prog X.w X.K) := by
  intro pins s σ H vs us Q I r h
  have hd := I.ok.hd hc
  rcases h with ⟨a, ns, rfl, hs, hl, q⟩ | ⟨a, ns, rfl, hs, hl, q⟩ | ⟨a, xs, rfl, hs, hl, q⟩ | ⟨x, rfl, hl, q⟩
  · obtain ⟨its, rv, pl, _⟩ := I.list hs
    rw [Vals.ref1 r]
    have hi := rv.ints
    have hn : its.toArray.size = ns.length := by rw [List.size_toArray]; exact IntsAre.length hi
    refine call_setG (kd := intKind X.prog X.w) (kf := kInt) ns hd (.list pl.isList) (iterOf_list pl.isList) hn (by unfold scanBound; omega) (fun i v hv => ?_) fun h' tk c g hcc k => laidI I g.ints hcc k q
    have hi2 : i < ns.length := by rw [← hn]; exact (Array.getElem?_eq_some_iff.mp hv).1
    obtain ⟨t, e⟩ := IntsAre.int_at hi i v (by simpa using hv)
    refine ⟨ns[i], List.getElem?_eq_getElem hi2, ?_⟩
    rw [e, List.getD_eq_getElem?_getD, List.getElem?_eq_getElem hi2]
    exact ⟨intKind_is _ _ _ _, rfl, rfl⟩
  · obtain ⟨its, rv, pl, _⟩ := I.tuple hs
    rw [Vals.ref1 r]
    exact call_set_tupI ns hd (show s.heap.IsTuple a its.toArray from pl) (ints_of_vals rv) (by unfold scanBound; omega) fun h' tk c g hcc k => laidI I g hcc k q
  · obtain ⟨its, rv, pl, _⟩ := I.list hs
    rw [Vals.ref1 r]
    have hi := rv.strs
    have hn : its.toArray.size = xs.length := by rw [List.size_toArray]; exact StrsAre.len_eq hi
    refine call_setG (kd := PySem.strKind X.prog X.w) (kf := kStr) xs hd (.list pl.isList) (iterOf_list pl.isList) hn (by unfold scanBound; omega) (fun i v hv => ?_) fun h' tk c g hcc k => laidS I g hcc k q
    have hi2 : i < xs.length := by rw [← hn]; exact (Array.getElem?_eq_some_iff.mp hv).1
    obtain ⟨t, e⟩ := strsAt hi i v (by simpa using hv)
    refine ⟨xs[i], List.getElem?_eq_getElem hi2, ?_⟩
    rw [e, List.getD_eq_getElem?_getD, List.getElem?_eq_getElem hi2]
    exact ⟨strKind_is _ _ _ _, rfl, rfl⟩
  · obtain ⟨u, rfl, ru⟩ := vals1 r
    obtain ⟨t, rfl⟩ := ru
    have hn : x.cps.size = (x.cps.toList.map one).length := by rw [List.length_map, Array.length_toList]
    refine call_setG (kd := PySem.strKind X.prog X.w) (kf := kStr) (x.cps.toList.map one) hd .str iterOf_str hn (by rw [← hn]; unfold scanBound; exact Nat.lt_trans (Nat.succ_lt_succ hl) (by decide)) (fun i v hv => ?_) fun h' tk c g hcc k => laidS I g hcc k q
    obtain ⟨c, t, e1, e2⟩ := hv
    subst e2
    refine ⟨one c, ?_, strKind_is _ _ _ _, rfl, rfl⟩
    rw [List.getElem?_map, Array.getElem?_toList, e1]
    rfl
/-- sorted(a set of texts) -/
def rSortedSO (P : Program) (w : World) : List V → Hp → VK → Prop := fun vs H Q => ∃ (a : Addr) (S : Str → Bool) (n : Nat), vs = [V.ref a] ∧ H a = some (SetSO P w a S n) ∧ n < 64 ∧
  ∀ (xs : List Str) (p : Addr), sortedS xs = true → xs.Nodup → (∀ k, k ∈ xs ↔ S k = true) → H p = none → Q (.ref p) (upd H p (.lst (xs.map V.str)))
theorem cr_sortedSO (hc : X.calm = true) : CallR X (.builtin "sorted") (rSortedSO X.prog X.w) := by
  intro pins s σ H vs us Q I r h
  obtain ⟨a, S, n, rfl, ha, h64, q⟩ := h
  have R := setSO_get I ha
  rw [Vals.ref1 r]
  refine sorted_setS R (I.ok.hd hc) h64 fun s' p out c xs k g o hp hg hi hs hm hl hn2 => ?_
  have hlen : (xs.map V.str).length ≤ sizeLine := by rw [List.length_map, hn2, sizeLine_eq]; omega
  have hn : H p = none := I.hok.fresh hp
  have J : Inv X pins σ (upd H p (.lst (xs.map V.str))) { s with heap := s'.heap, gens := s'.gens, drawn := s'.drawn, toks := s'.toks } :=
    I.call (ch := []) (Un.laid k hp hn) (I.hok.laid k hp ⟨hlen, out.toList, c, vals_of_strs hi, hg⟩) (by rw [g]; exact I.bare) (fun _ z => nomatch z)
  have e : s' = { s with heap := s'.heap, gens := s'.gens, drawn := s'.drawn, toks := s'.toks } := by
    cases s'; cases s; cases o; rfl
  rw [e]
  exact ⟨.ref p, _, J, rfl, q xs p hs hm hl hn⟩
end
end LJ
/-! LJsete: sorted(set(e)) is what it says. -/
namespace LJ
open PySem PySem.Spec PyProof.Rows L2
section
variable {K : PySem.W.Frag} {G H : Hp}
theorem stp_junk {p : Addr} {o : HO} (e : Same G H) (hp : H p = none) : Stp G H G (upd H p o) where
  g := Same.refl _
  h := fun b u z => by rw [upd_ne (ne_of_none z hp)]; exact z
  gh := fun b u z => by rw [upd_ne (ne_of_none (e _ _ z) hp)]; exact e _ _ z
  new := fun b u z => .inl z
theorem signsD_eq : ∀ {ds : List D} {cs : List Nat}, signsD ds = some cs → ds = (cs.map one).map D.str
  | [], cs, h => by cases h; rfl
  | d :: ds, cs, h => by
    cases d with
    | str x =>
      unfold signsD at h
      split at h
      · rename_i c hc
        obtain ⟨r, e, rfl⟩ := Option.map_eq_some_iff.mp h
        rw [signsD_eq e]
        have : x = one c := by
          cases x with
          | mk a =>
            show (⟨a⟩ : Str) = ⟨#[c]⟩
            rw [show a = #[c] from by
              apply Array.toList_inj.mp
              exact hc]
        rw [this]
        rfl
      · cases h
    | _ => cases h
theorem sgn_strs (l : List Nat) : l.map sgn = (l.map one).map D.str := by rw [List.map_map]; rfl
theorem ones_of : ∀ (xs : List Str) (cs : List Nat), (∀ k ∈ xs, k ∈ cs.map one) → ∃ ms : List Nat, xs = ms.map one
  | [], _, _ => ⟨[], rfl⟩
  | x :: xs, cs, h => by
    obtain ⟨c, _, rfl⟩ := List.mem_map.mp (h x List.mem_cons_self)
    obtain ⟨ms, rfl⟩ := ones_of xs cs fun k hk => h k (List.mem_cons_of_mem _ hk)
    exact ⟨c :: ms, rfl⟩
theorem nodup_of_one : ∀ {l : List Nat}, (l.map one).Nodup → l.Nodup
  | [], _ => List.nodup_nil
  | x :: l, h => by
    obtain ⟨h1, h2⟩ := List.nodup_cons.mp h
    exact List.nodup_cons.mpr ⟨fun z => h1 (List.mem_map.mpr ⟨x, z, rfl⟩), nodup_of_one h2⟩
theorem sset_strs {xs : List Str} {cs : List Nat} (h1 : sortedS xs = true) (h2 : xs.Nodup) (h3 : ∀ k, k ∈ xs ↔ decide (k ∈ cs.map one) = true) : xs = (ssetN cs).map one := by
  obtain ⟨ms, rfl⟩ := ones_of xs cs fun k hk => of_decide_eq_true ((h3 k).mp hk)
  rw [ssetN_one (ns := cs) (ones_rising ms h1) (nodup_of_one h2) fun k => ?_]
  constructor
  · intro hk
    have := of_decide_eq_true ((h3 (one k)).mp (List.mem_map.mpr ⟨k, hk, rfl⟩))
    obtain ⟨c, hc, e⟩ := List.mem_map.mp this
    rw [← one_inj e]; exact hc
  · intro hk
    have := (h3 (one k)).mpr (decide_eq_true (List.mem_map.mpr ⟨k, hk, rfl⟩))
    obtain ⟨c, hc, e⟩ := List.mem_map.mp this
    rw [← one_inj e]; exact hc
def rSS (P : Program) (w : World) (K : PySem.W.Frag) : List V → Hp → VK → Prop := fun vs H Q => rSortedSet w vs H Q ∨ rSortedSO P w vs H Q
theorem ssetN_mem {c : Nat} {cs : List Nat} : c ∈ ssetN cs ↔ c ∈ cs := by
  unfold ssetN
  rw [(sortN_perm _).mem_iff, dedupN_mem]
/-- the composite, over data -/
theorem opD_sset {P : Program} {w : World} : OpD1 K (fun vs H Q => rSetX P w K vs H fun x H1 => rSS P w K [x] H1 Q) ssetD := by
  intro G H d sl v Q e hf h k
  have hI : ∀ ns : List Int, ns.length < 64 → sl = .ol ((ssetI ns).map .int) → gotI w ns H fun x H1 => rSS P w K [x] H1 Q := by
    rintro ns h64 rfl p n hp hn
    refine .inl ⟨p, _, n, rfl, upd_same, by omega, fun ms q r1 r2 r3 r4 => ?_⟩
    have st := stp_junk (o := SetO w p (fun j => decide (j ∈ ns)) n) e hp
    rw [ssetI_one (ns := ns) r1 fun k => by rw [r2, decide_eq_true_eq]]
    obtain ⟨st2, sv⟩ := newL st.gh r4 (RpL.ofInts (K := K) (H := G) (ssetI ns))
    exact k _ _ _ (st.trans st2) (sv.old st.h)
  have hS : ∀ cs : List Nat, cs.length < 64 → (∀ x ∈ cs.map one, StrG x) → sl = .ol ((ssetN cs).map sgn) → gotS P w (cs.map one) H fun x H1 => rSS P w K [x] H1 Q := by
    rintro cs h64 hg rfl p n hp hn
    rw [List.length_map] at hn
    refine .inr ⟨p, _, n, rfl, upd_same, by omega, fun xs q r1 r2 r3 r4 => ?_⟩
    have st := stp_junk (o := SetSO P w p (fun j => decide (j ∈ cs.map one)) n) e hp
    have ex := sset_strs r1 r2 r3
    subst ex
    rw [sgn_strs] at k
    obtain ⟨st2, sv⟩ := newL st.gh r4 (RpL.ofStrs (K := K) (H := G) ((ssetN cs).map one) fun x hx => by
      obtain ⟨c, hc, rfl⟩ := List.mem_map.mp hx
      exact hg _ (List.mem_map.mpr ⟨c, ssetN_mem.mp hc, rfl⟩))
    exact k _ _ _ (st.trans st2) (sv.old st.h)
  cases d with
  | str x =>
    replace hf : (if x.length < 64 then some (Slot.ol ((ssetN x.cps.toList).map sgn)) else none) = some sl := hf
    split at hf
    · rename_i h64
      cases hf
      obtain ⟨rfl, gx⟩ := br_str h
      have hlx : x.cps.toList.length < 64 := by rw [Array.length_toList]; exact h64
      refine .inr (.inr (.inr ⟨x, rfl, h64, hS _ hlx (fun y hy => ?_) rfl⟩))
      obtain ⟨c, hc, rfl⟩ := List.mem_map.mp hy
      exact StrG.one gx hc
    · cases hf
  | lst ds =>
    obtain ⟨a, vs, rfl, h1, h2⟩ := h
    replace hf : (match intsD ds with
      | some ns => if ns.length < 64 then some (Slot.ol ((ssetI ns).map .int)) else none
      | none => match signsD ds with
        | some cs => if cs.length < 64 then some (Slot.ol ((ssetN cs).map sgn)) else none
        | none => none) = some sl := hf
    split at hf
    · rename_i ns hn
      split at hf
      · rename_i h64
        cases hf
        rw [intsD_eq hn] at h2
        rw [h2.ints] at h1
        exact .inl ⟨a, ns, rfl, .inl (.inl h1), h64, hI ns h64 rfl⟩
      · cases hf
    · split at hf
      · rename_i cs hn
        split at hf
        · rename_i h64
          cases hf
          rw [signsD_eq hn] at h2
          obtain ⟨e3, e4⟩ := h2.strs
          rw [e3] at h1
          exact .inr (.inr (.inl ⟨a, cs.map one, rfl, .inl (.inl h1), by rw [List.length_map]; exact h64, hS cs h64 e4 rfl⟩))
        · cases hf
      · cases hf
  | tup ds =>
    obtain ⟨a, vs, rfl, h1, h2⟩ := br_tup h e
    obtain ⟨ns, e1, e2⟩ := Option.bind_eq_some_iff.mp (show (intsD ds).bind (fun ns => if ns.length < 64 then some (Slot.ol ((ssetI ns).map .int)) else none) = some sl from hf)
    split at e2
    · rename_i h64
      cases e2
      rw [intsD_eq e1] at h2
      rw [h2.ints] at h1
      exact .inr (.inl ⟨a, ns, rfl, .inl (.inl h1), h64, hI ns h64 rfl⟩)
    · cases e2
  | _ => cases hf
end
section
variable {fn gn : Nat → Str} {gv : Nat → Option D} {cal : Nat → List D → Option Slot} {k : Nat} {N : List Str}
theorem pe_sset {X : Cx} {a : Expr} {t : TE} {p pos p2 pos2 : Pos} (hc : X.calm = true) (hg : Gl X "sorted") (hm : X.mg "sorted" = none) (hg2 : Gl X "set") (hm2 : X.mg "set" = none) (ha : PE X a t) (hs : noStar a = true) :
    PE X (.Call (.Name "sorted" p) [.Call (.Name "set" p2) [a] [] pos2] [] pos) (fun σ H Q => t σ H fun v H1 => rSetX X.prog X.w X.K [v] H1 fun x H2 => rSS X.prog X.w X.K [x] H2 Q) := by
  have hpa : PA X [a] (tCons t tNil) := pa_cons ha pa_nil (star_of hs [] X.env)
  have h1 : PE X (.Call (.Name "set" p2) [a] [] pos2) _ := pe_callTy (cr_setX hc) hg2 hm2 PyProof.Rows.boot_set hpa (by decide +kernel) (by decide +kernel) (star_of hs [] X.env)
  have h2 : CallR X (.builtin "sorted") (rSS X.prog X.w X.K) := (cr_sortedSet hc).or (cr_sortedSO hc)
  exact pe_callB h2 hg hm (by decide +kernel) (pa_cons h1 pa_nil) (by decide +kernel) (by decide +kernel)
theorem Pe.sset {a : E} (ha : Pe fn gn gv cal k N a) : Pe fn gn gv cal k N (.sset a) := by
  have inv : ∀ {sc x}, chk fn gn N (.sset a) sc (.e x) = true → ∃ p pos p2 pos2 z, x = .Call (.Name "sorted" p) [.Call (.Name "set" p2) [z] [] pos2] [] pos ∧ glB sc "sorted" = true ∧ glB sc "set" = true ∧ chk fn gn N a sc (.e z) = true := by
    intro sc x h
    replace h : (match isCall1 sc "sorted" x with
      | some y => (match isCall1 sc "set" y with | some z => chk fn gn N a sc (.e z) | none => false)
      | none => false) = true := h
    split at h
    · rename_i y hy
      split at h
      · rename_i z hz
        obtain ⟨p, pos, rfl, h2⟩ := isCall1_some hy
        obtain ⟨p2, pos2, rfl, h3⟩ := isCall1_some hz
        exact ⟨p, pos, p2, pos2, z, rfl, h2, h3, h⟩
      · cases h
    · cases h
  refine Pe.of (F := fun ρ => (evA gv cal a ρ).b.bind ssetD) (fun _ => rfl) rfl (fun sc xs => rfl) (fun sc x h X g => ?_) (.inl fun sc x h env whole => ?_)
  · obtain ⟨p, pos, p2, pos2, z, rfl, h1, h2, h3⟩ := inv h
    refine PE.imp (pe_sset g.calm (g.gl h1) (g.bl (by decide +kernel)) (g.gl h2) (g.bl (by decide +kernel)) (ha.b sc z h3 X g) (chk_star h3)) ?_
    rintro σ H Q ⟨G0, H0, ρ, G, sl, R, e, q⟩
    obtain ⟨d, ed, ef⟩ := Option.bind_eq_some_iff.mp e
    refine ⟨G0, H0, ρ, G, d, R, ed, fun v G1 H1 st1 b1 => ?_⟩
    exact opD_sset G1 H1 d sl v Q st1.gh ef b1 fun v2 G2 H2 st2 sv => q v2 G2 H2 (st1.trans st2) (sv.old st1.h)
  · obtain ⟨p, pos, p2, pos2, z, rfl, _⟩ := inv h
    rfl
end
end LJ
/-! LJenum: enumerate over a tuple. -/
namespace LJ
open PySem PySem.Spec PyProof.Rows L2
open AutoSeq1 (wpAny_loadPart')
theorem meets_en1 {v : Value} {o : Obj} {Hh : Heap → Prop} (B : Begins v o Hh) :
    Meets (Builtin.«enumerate.__new__» ⟨[.type "enumerate", v], []⟩) (fun _ R s => Hh s.heap ∧
      R (.ok (.ret (.ref (s.heap.push o).objs.size))) { s with heap := (s.heap.push o).push { cls := .type "enumerate", data := .fields #[.none, .bool false, .ref s.heap.objs.size, rawInt 0, .none, .none] } }) :=
  .of_wp fun prog w A R s h => by
    obtain ⟨hp, g, d, tk, os⟩ := s
    obtain ⟨h1, h⟩ := h
    have hsub := sub_enumerate
    have it : ∀ {A' : Around} {E : Value → Shared → Prop} {Q : Value → Shared → Prop}, Q (.ref hp.objs.size) ⟨hp.push o, g, d, tk, os⟩ → wpAny (model prog w) A' (pyIter v) Q E ⟨hp, g, d, tk, os⟩ := fun q => B.iter prog w _ _ ⟨hp, g, d, tk, os⟩ _ h1 q
    wp_walk using it
    refine wpAny_stack_any fun st => wpAny_pure ?_
    split
    · rename_i c _ _ _ _ _
      cases (c == Value.type "enumerate")
      · wp_walk using it
        exact ⟨_, rfl, h⟩
      · wp_walk using it
        exact ⟨_, rfl, h⟩
    · wp_walk using it
      exact ⟨_, rfl, h⟩
section
variable {prog : Program} {w : World} {A : Around} {E : Value → Shared → Prop} {s : Shared}
theorem call_en1 {v : Value} {o : Obj} {Hh : Heap → Prop} {Q : Value → Shared → Prop} (B : Begins v o Hh) (h1 : Hh s.heap)
    (h : ∀ h', IsEnum h' (s.heap.objs.size + 1) s.heap.objs.size 0 .none → h'.get? s.heap.objs.size = some o → h'.objs.size = s.heap.objs.size + 2 → (∀ b u, s.heap.get? b = some u → h'.get? b = some u) → Q (.ref (s.heap.objs.size + 1)) { s with heap := h' }) :
    wpAny (model prog w) A (call (.type "enumerate") [v]) Q E s := by
  refine callType_new PySem.F.called_enumerate (by decide) (PySem.F.typeCall_enumerate_1 _) (PySem.F.newCall_enumerate_1 _) (fun obj => PySem.F.args_object_init_2 obj _) PySem.F.entry_enumerate_new (meets_en1 B) ⟨h1, ?_⟩
  have hz : (s.heap.push o).objs.size = s.heap.objs.size + 1 := Heap.size_push ..
  show _ ∧ _
  rw [hz]
  have he : IsEnum ((s.heap.push o).push { cls := .type "enumerate", data := .fields #[.none, .bool false, .ref s.heap.objs.size, rawInt 0, .none, .none] }) (s.heap.objs.size + 1) s.heap.objs.size 0 .none := by
    have := Heap.get?_push_size (s.heap.push o) (o := { cls := .type "enumerate", data := .fields #[.none, .bool false, .ref s.heap.objs.size, rawInt 0, .none, .none] }) rfl
    rw [hz] at this
    exact this
  exact ⟨⟨_, he, rfl⟩, h _ he (Heap.get?_push_of_some _ (Heap.get?_push_size _ B.free)) (by rw [Heap.size_push, hz]) fun b u x => Heap.get?_push_of_some _ (Heap.get?_push_of_some _ x)⟩
end
/-- the tuple at a, each item in a new pair -/
def ItT (K : PySem.W.Frag) (a : Addr) : L2.It :=
  ⟨fun i H => ∃ (xs : List V) (x : V), SqT K H a xs ∧ xs[i]? = some x, fun i H v H' => ∃ T x, v = .ref T ∧ H T = none ∧ H' = upd H T (.tup [.int (i : Nat), x]) ∧ ∀ xs, SqT K H a xs → xs[i]? = some x, fun i H => ∃ xs : List V, SqT K H a xs ∧ xs.length ≤ i⟩
theorem en_end {prog : Program} {w : World} {A : Around} {E : Value → Shared → Prop} {s : Shared} {e it t : Addr} {i : Nat} {j : Int} {its : Array Value} {old : Value} {Q : Option Value → Shared → Prop} (hh : A.handled = none)
    (he : IsEnum s.heap e it j old) (hit : s.heap.IsTupleIter it t i) (ht : s.heap.IsTuple t its) (hx : its[i]? = none) (fin : ∀ h', Heap.ExtBut it s.heap h' → Q none { s with heap := h' }) : wpAny (model prog w) A (pyNext (.ref e)) Q E s := by
  have hT : s.TypeIs (.ref e) "enumerate" := ⟨_, he, rfl⟩
  unfold pyNext
  refine wpAny_bind (wpAny_attempt (wpAny_callSpecial?_slot (name := Str.ofString "__next__") hT PySem.F.slot_enumerate_next (wpAny_call_entry PySem.F.slot_enumerate_next hT PySem.F.entry_enumerate_next ?_ (PySem.F.args_enumerate_next_1 _))))
  refine wpAny_bind (m := field (.ref e) 2) (wpAny_field he rfl (x := .ref it) rfl (wpAny_bind (wpAny_nextOf_tuple_end (A := A.in1) hh hit ht hx fun h' x q1 q2 => ?_)))
  obtain ⟨o, ho, hc⟩ := q2
  exact wpAny_bind (wpAny_isInstance (T := "StopIteration") (b := true) ⟨o, ho, hc⟩ isSubtype_stop (wpAny_pure (fin _ q1)))
theorem turn_enT {P : Program} {w : World} {K : PySem.W.Frag} {elts : List Expr} {kk : Nat} {tpos : Pos} (a e it : Addr) (hea : e ≠ a) (hia : a ≠ it) :
    Turn P w K (.Tuple elts kk tpos) (ItT K a) [e, it] e (fun i h => (∃ old, IsEnum h e it ((i : Nat) : Int) old) ∧ h.IsTupleIter it a i ∧ e ≠ it) where
  mem := by simp
  obj := fun i h st b hb => by
    obtain ⟨⟨old, he⟩, ⟨o, ho, hc, hd⟩, _⟩ := st
    have e' : b = e ∨ b = it := by simpa using hb
    rcases e' with z | z
    · rw [z]; exact ⟨_, he, fun v q => nomatch q⟩
    · rw [z]; exact ⟨o, ho, fun v q => by rw [hd] at q; cases q⟩
  keep := fun i h h' st k => let ⟨⟨old, he⟩, hi, hne⟩ := st; ⟨⟨old, k e (by simp) _ he⟩, hi.at fun o q => k it (by simp) o q, hne⟩
  item := by
    intro X hP hw hK hc i pins s σ H E I hf st hg
    subst hP hw hK
    obtain ⟨⟨old, he⟩, hit, hne⟩ := st
    obtain ⟨xs, x, hq, hx⟩ := hg
    obtain ⟨its, rv, p, hz⟩ := I.tuple hq
    obtain ⟨u, hu, ru⟩ := rv.get hx
    have hel : e < s.heap.objs.size := Heap.lt_size he
    have hil : it < s.heap.objs.size := by obtain ⟨_, q, _⟩ := hit; exact Heap.lt_size q
    have hlen : i < its.toArray.size := by rw [List.size_toArray]; exact (List.getElem?_eq_some_iff.mp hu).1
    have pt : s.heap.IsTuple a its.toArray := p
    refine wpAny_pyNext_enum_itemD (Draws.tuple (A := X.A.in1) (I.ok.hd hc) it a hia its.toArray) he ⟨hit, pt⟩ hlen hne (by simp [hne, hea]) fun y h' tk hy ho hst hT hsz hk => ?_
    have ey : y = u := by
      have : its[i]? = some y := by simpa using hy
      rw [hu] at this
      exact (Option.some.inj this).symm
    subst ey
    refine ⟨_, rfl, wpAny_letOwnedTupleGo_enum (s := { s with heap := h', toks := tk + 1 }) ho fun h'' he' sb => ?_⟩
    have hT2 : h''.get? s.heap.objs.size = some { cls := .type "tuple", data := .seq #[.int i tk, y] } := (sb.2 _ (Nat.ne_of_gt hel)).trans hT
    have new : ObjOk X.prog X.w (upd H s.heap.objs.size (.tup [.int (i : Nat), x])) h'' s.heap.objs.size (.tup [.int (i : Nat), x]) :=
      ⟨by show 2 ≤ sizeLine; decide, [.int i tk, y], .cons ⟨_, rfl⟩ (.cons ru .nil), ⟨_, hT2, rfl, _, rfl⟩⟩
    have I1 : Inv X pins σ (upd H s.heap.objs.size (.tup [.int (i : Nat), x])) { s with heap := h'', toks := tk + 1 } :=
      I.turnedNew (ch := [e, it]) (fun b ob hb q => (sb.2 b (fun z => hb (by simp [z]))).trans (hk b ob (fun z => hb (by simp [z])) (fun z => hb (by simp [z])) q)) hf (Nat.le_refl _) new
    refine ⟨.ref s.heap.objs.size, _, I1, rfl, ⟨_, x, rfl, I.hok.fresh (Nat.le_refl _), rfl, fun ys hy => by rw [I.tuple_inj hy hq]; exact hx⟩, ⟨⟨y, ?_⟩, hst.1.at fun o q => (sb.2 it (Ne.symm hne)).trans q, hne⟩, fun b hb => ?_⟩
    · have e1 : ((i + 1 : Nat) : Int) = (i : Int) + 1 := by omega
      rw [e1]; exact he'
    · have hb' : b < s.heap.objs.size := by
        have e' : b = e ∨ b = it := by simpa using hb
        rcases e' with z | z
        · rw [z]; exact hel
        · rw [z]; exact hil
      rw [upd_ne (Nat.ne_of_lt hb')]
      exact (hf b hb).1
  done := by
    intro X hP hw hK hc i pins s σ H E I hf st hg
    subst hP hw hK
    obtain ⟨⟨old, he⟩, hit, hne⟩ := st
    obtain ⟨xs, hq, hx⟩ := hg
    obtain ⟨its, rv, p, hz⟩ := I.tuple hq
    obtain ⟨f0, f1, f2, f3, f4, f5⟩ := hf it (by simp)
    have hl := rv.length
    exact en_end (I.ok.hd hc) he hit (show s.heap.IsTuple a its.toArray from p) (by simp; omega) fun h' eb => ⟨rfl, I.turned (t' := s.toks) (fun b o hb q => eb b o hb q) f0 f1 f3 f4 f5⟩
  self := fun A i s Q E st h => let ⟨⟨_, he⟩, _⟩ := st; wpAny_pyIter_enum he h
def iEnT (K : PySem.W.Frag) (ta : TA) : TI := fun σ H R => ta σ H fun vs H1 => (∃ a xs, vs = [.ref a] ∧ SqL K H1 a xs ∧ R (Ite K a) H1) ∨ ∃ a xs, vs = [.ref a] ∧ SqT K H1 a xs ∧ R (ItT K a) H1
theorem pi_enT {X : Cx} {e : Expr} {ta : TA} {p pos tpos : Pos} {elts : List Expr} {kk : Nat} (hg : Gl X "enumerate") (hm : X.mg "enumerate" = none) (ha : PA X [e] ta) (hs : starEach [e] X.env = [(false, eval e X.env)] := by rfl) :
    PI X (.Tuple elts kk tpos) (.Call (.Name "enumerate" p) [e] [] pos) (iEnT X.K ta) := by
  refine ⟨fun pins s σ H R I h => ?_⟩
  refine Call_ (ld_blt I hg hm boot_enumerate (PyProof.Rows.callWith_type1 (thn (ha.run pos pins s σ H _ I h) fun us s1 ⟨vs, H1, I1, r1, q1⟩ => ?_) hs rfl))
  have low : ∀ b, b = s1.heap.objs.size + 1 ∨ b = s1.heap.objs.size → s1.heap.objs.size ≤ b := fun b z => by
    rcases z with z | z
    · rw [z]; exact Nat.le_add_right _ _
    · rw [z]; exact Nat.le_refl _
  rcases q1 with ⟨a, xs, rfl, hq, q⟩ | ⟨a, xs, rfl, hq, q⟩
  · rw [Vals.ref1 r1]
    obtain ⟨its, rv, p', hz⟩ := I1.list hq
    refine call_enumerate_list p'.isList fun h' he hit hsz hk => wpAny_pyIter_enum he ?_
    have I2 : Inv X pins σ H1 { s1 with heap := h' } := I1.kept (t' := s1.toks) hk
    refine ⟨s1.heap.objs.size + 1, [s1.heap.objs.size + 1, s1.heap.objs.size], _, _, H1, rfl, I2, turn_enum a (s1.heap.objs.size + 1) s1.heap.objs.size, ⟨⟨.none, he⟩, hit, Nat.succ_ne_self _⟩, fun b hb => ?_, q⟩
    have z : b = s1.heap.objs.size + 1 ∨ b = s1.heap.objs.size := by simpa using hb
    exact I1.fpOk (low b z) (I1.hok.fresh (low b z))
  · rw [Vals.ref1 r1]
    obtain ⟨its, rv, p', hz⟩ := I1.tuple hq
    have pt : s1.heap.IsTuple a its.toArray := p'
    have hal : a < s1.heap.objs.size := by obtain ⟨o, ho, _⟩ := pt; exact Heap.lt_size ho
    refine call_en1 (begins_tuple a its.toArray) pt fun h' he hit hsz hk => wpAny_pyIter_enum he ?_
    have I2 : Inv X pins σ H1 { s1 with heap := h' } := I1.kept (t' := s1.toks) hk
    refine ⟨s1.heap.objs.size + 1, [s1.heap.objs.size + 1, s1.heap.objs.size], _, _, H1, rfl, I2, turn_enT a (s1.heap.objs.size + 1) s1.heap.objs.size (Nat.ne_of_gt (Nat.lt_succ_of_lt hal)) (Nat.ne_of_lt hal), ⟨⟨.none, he⟩, ⟨_, hit, rfl, rfl⟩, Nat.succ_ne_self _⟩, fun b hb => ?_, q⟩
    have z : b = s1.heap.objs.size + 1 ∨ b = s1.heap.objs.size := by simpa using hb
    exact I1.fpOk (low b z) (I1.hok.fresh (low b z))
theorem wk_enT {K : PySem.W.Frag} {Kp : Hp → Hp → Prop} {a : Addr} {ds : List D} {vs : List V} (h : ∀ G1 H1, Kp G1 H1 → Same G1 H1 ∧ H1 a = some (.tup vs) ∧ RpL K G1 ds vs) : Wk K (ItT K a) (enumD 0 ds) Kp := by
  intro i G1 H1 hk
  obtain ⟨sm, h1, h2⟩ := h G1 H1 hk
  have hs : SqT K H1 a vs := .inl (.inl h1)
  refine ⟨fun d hd => ?_, fun hi => ⟨vs, hs, by rw [h2.length]; rw [enumD_len] at hi; exact hi⟩⟩
  obtain ⟨d', e1, rfl⟩ := enumD_get ds 0 i d hd
  obtain ⟨v, hv, rv⟩ := h2.get e1
  refine ⟨⟨vs, v, hs, hv⟩, fun x H' ⟨T, y, ex, hT, eH, q⟩ => ?_⟩
  subst ex eH
  have := q vs hs
  rw [hv] at this
  cases this
  rw [Nat.zero_add]
  exact pair_new sm hT (by simp only [Rp]) rv
end LJ
/-! LJl: more built-ins, what is walked, comprehensions. -/
namespace LJ
open PySem PySem.Spec PyProof.Rows L2
section
variable {fn gn : Nat → Str} {gv : Nat → Option D} {cal : Nat → List D → Option Slot} {k : Nat} {N : List Str}
/-- two arguments, read only -/
theorem pa2 {X : Cx} {x y : Expr} {Fa Fb : En → Option D} (ha : PE X x (tB X.K Fa)) (hb : PE X y (tB X.K Fb)) (sx : noStar x = true) (sy : noStar y = true) : PA X [x, y] (tCons (tB X.K Fa) (tCons (tB X.K Fb) tNil)) :=
  pa_cons ha (pa_cons hb pa_nil (star_of sy [] X.env)) (star_of sx [y] X.env)
theorem Pe.max2 {a b : E} (ha : Pe fn gn gv cal k N a) (hb : Pe fn gn gv cal k N b) : Pe fn gn gv cal k N (.max2 a b) := by
  have inv : ∀ {sc x}, chk fn gn N (.max2 a b) sc (.e x) = true → ∃ p pos y z, x = .Call (.Name "max" p) [y, z] [] pos ∧ glB sc "max" = true ∧ chk fn gn N a sc (.e y) = true ∧ chk fn gn N b sc (.e z) = true := by
    intro sc x h
    replace h : (match isCall2 sc "max" x with | some (y, z) => chk fn gn N a sc (.e y) && chk fn gn N b sc (.e z) | none => false) = true := h
    split at h
    · rename_i y z hy
      obtain ⟨p, pos, rfl, h2⟩ := isCall2_some hy
      rw [Bool.and_eq_true] at h
      exact ⟨p, pos, y, z, rfl, h2, h.1, h.2⟩
    · cases h
  refine Pe.of (F := fun ρ => maxS (evA gv cal a ρ).b (evA gv cal b ρ).b) (fun _ => rfl) rfl (fun sc xs => rfl) (fun sc x h X g => ?_) (.inl fun sc x h env whole => ?_)
  · obtain ⟨p, pos, y, z, rfl, h1, h2, h3⟩ := inv h
    refine PE.imp (pe_callB (call_max2 g.calm) (g.gl h1) (g.bl (by decide +kernel)) (by decide +kernel) (pa2 (ha.b sc y h2 X g) (hb.b sc z h3 X g) (chk_star h2) (chk_star h3)) (by decide +kernel) (by decide +kernel) (star_of (chk_star h2) _ _) ?_) ?_
    · rw [star_of (chk_star h3)]; rfl
    rintro σ H Q ⟨G0, H0, ρ, G, sl, R, e, q⟩
    cases ea : (evA gv cal a ρ).b with
    | none => simp only [ea, maxS] at e; cases e
    | some da =>
      cases eb : (evA gv cal b ρ).b with
      | none => simp only [ea, eb, maxS] at e; cases da <;> cases e
      | some db =>
        cases da with
        | int i => cases db with
          | int j =>
            simp only [ea, eb, maxS] at e
            cases e
            refine ⟨G0, H0, ρ, G, _, R, ea, fun va G1 H1 st1 b1 => ⟨G0, H0, ρ, G1, _, R.step st1, eb, fun vb G2 H2 st2 b2 => ⟨i, j, by rw [br_int b1, br_int b2], q _ G2 H2 (st1.trans st2) slInt⟩⟩⟩
          | _ => simp only [ea, eb, maxS] at e; cases e
        | _ => simp only [ea, eb, maxS] at e; cases db <;> cases e
  · obtain ⟨p, pos, y, z, rfl, _⟩ := inv h
    rfl
theorem isName_some {sc : Scope} {f : Str} {x : Expr} (h : isName sc f x = true) : ∃ p, x = .Name f p ∧ glB sc f = true := by
  cases x with
  | Name n p =>
    have h : (decide (n = f) && glB sc n) = true := h
    rw [Bool.and_eq_true, decide_eq_true_eq] at h
    obtain ⟨rfl, h2⟩ := h
    exact ⟨p, rfl, h2⟩
  | _ => exact absurd h Bool.false_ne_true
theorem ty_mem (t : Ty) : Str.ofString (tyN t) ∈ bnames := by cases t <;> decide +kernel
theorem pe_ty {X : Cx} {t : Ty} {p : Pos} (hg : Gl X (Str.ofString (tyN t))) (hm : X.mg (Str.ofString (tyN t)) = none) : PE X (.Name (Str.ofString (tyN t)) p) (tC (.ty (tyN t))) :=
  pe_bltn hg hm (u := .type (tyN t)) (by cases t <;> decide +kernel) rfl (by cases t <;> decide +kernel) (by cases t <;> decide +kernel)
theorem Pe.isi {a : E} {t : Ty} (ha : Pe fn gn gv cal k N a) : Pe fn gn gv cal k N (.isi a t) := by
  have inv : ∀ {sc x}, chk fn gn N (.isi a t) sc (.e x) = true → ∃ p pos y p2, x = .Call (.Name "isinstance" p) [y, .Name (Str.ofString (tyN t)) p2] [] pos ∧ glB sc "isinstance" = true ∧ glB sc (Str.ofString (tyN t)) = true ∧ chk fn gn N a sc (.e y) = true := by
    intro sc x h
    replace h : (match isCall2 sc "isinstance" x with | some (y, z) => chk fn gn N a sc (.e y) && isName sc (Str.ofString (tyN t)) z | none => false) = true := h
    split at h
    · rename_i y z hy
      obtain ⟨p, pos, rfl, h2⟩ := isCall2_some hy
      rw [Bool.and_eq_true] at h
      obtain ⟨p2, rfl, h3⟩ := isName_some h.2
      exact ⟨p, pos, y, p2, rfl, h2, h3, h.1⟩
    · cases h
  refine Pe.of (F := fun ρ => LJ.bl ((evA gv cal a ρ).b.bind (isTy t))) (fun _ => rfl) rfl (fun sc xs => rfl) (fun sc x h X g => ?_) (.inl fun sc x h env whole => ?_)
  · obtain ⟨p, pos, y, p2, rfl, h1, h2, h3⟩ := inv h
    have hty := pe_ty (t := t) (p := p2) (g.gl h2) (g.bl (ty_mem t))
    refine PE.imp (pe_callB call_isi (g.gl h1) (g.bl (by decide +kernel)) (by decide +kernel) (pa_cons (ha.b sc y h3 X g) (pa_cons hty pa_nil) (star_of (chk_star h3) _ _)) (by decide +kernel) (by decide +kernel) (star_of (chk_star h3) _ _)) ?_
    rintro σ H Q ⟨G0, H0, ρ, G, sl, R, e, q⟩
    obtain ⟨c, ec, rfl⟩ := bl_some e
    obtain ⟨d, ed, ef⟩ := Option.bind_eq_some_iff.mp ec
    refine ⟨G0, H0, ρ, G, d, R, ed, fun v G1 H1 st1 b1 => ?_⟩
    obtain ⟨tv, q1, q2⟩ := isTy_kit st1.gh b1 ef
    exact ⟨v, .ty (tyN t), tv, _, c, rfl, .ty _, q1, q2, q _ G1 H1 st1 slBl⟩
  · obtain ⟨p, pos, y, p2, rfl, _⟩ := inv h
    rfl
theorem isTy_kit2 {K : PySem.W.Frag} {G H : Hp} {d : D} {v : V} {t t' : Ty} {b b' : Bool} (e : Same G H) (h : BRp K G H d v) (hi : isTy t d = some b) (hi' : isTy t' d = some b') :
    ∃ tv, TyX K H v tv ∧ PySem.W.kitOne K tv (.type (tyN t)) = some b ∧ PySem.W.kitOne K tv (.type (tyN t')) = some b' := by
  cases d with
  | non => rw [br_non h]; exact ⟨_, .base .non, kit_ty (by cases t <;> cases hi <;> decide +kernel), kit_ty (by cases t' <;> cases hi' <;> decide +kernel)⟩
  | bl x => rw [br_bl h]; exact ⟨_, .base (.bl x), kit_ty (by cases t <;> cases hi <;> decide +kernel), kit_ty (by cases t' <;> cases hi' <;> decide +kernel)⟩
  | int x => rw [br_int h]; exact ⟨_, .base (.int x), kit_ty (by cases t <;> cases hi <;> decide +kernel), kit_ty (by cases t' <;> cases hi' <;> decide +kernel)⟩
  | str x => rw [(br_str h).1]; exact ⟨_, .base (.str x), kit_ty (by cases t <;> cases hi <;> decide +kernel), kit_ty (by cases t' <;> cases hi' <;> decide +kernel)⟩
  | lst ds => obtain ⟨a, vs, rfl, h1, h2⟩ := h; exact ⟨_, .base (.lst h1), kit_ty (by cases t <;> cases hi <;> decide +kernel), kit_ty (by cases t' <;> cases hi' <;> decide +kernel)⟩
  | tup ds => obtain ⟨a, vs, rfl, h1, h2⟩ := br_tup h e; exact ⟨_, .base (.tup h1), kit_ty (by cases t <;> cases hi <;> decide +kernel), kit_ty (by cases t' <;> cases hi' <;> decide +kernel)⟩
  | scr _ => cases t <;> cases hi
  | dK _ => cases t <;> cases hi
  | dT _ => cases t <;> cases hi
theorem isTup2_some {sc : Scope} {f g : Str} {x : Expr} (h : isTup2 sc f g x = true) : ∃ p p' kk pos, x = .Tuple [.Name f p, .Name g p'] kk pos ∧ glB sc f = true ∧ glB sc g = true := by
  unfold isTup2 at h
  split at h
  · rw [Bool.and_eq_true] at h
    obtain ⟨p, rfl, h1⟩ := isName_some h.1
    obtain ⟨p', rfl, h2⟩ := isName_some h.2
    exact ⟨p, p', _, _, rfl, h1, h2⟩
  · cases h
theorem Pe.isi2 {a : E} {t t' : Ty} (ha : Pe fn gn gv cal k N a) : Pe fn gn gv cal k N (.isi2 a t t') := by
  have inv : ∀ {sc x}, chk fn gn N (.isi2 a t t') sc (.e x) = true → ∃ p pos y p1 p2 kk p3, x = .Call (.Name "isinstance" p) [y, .Tuple [.Name (Str.ofString (tyN t)) p1, .Name (Str.ofString (tyN t')) p2] kk p3] [] pos ∧ glB sc "isinstance" = true ∧ glB sc (Str.ofString (tyN t)) = true ∧ glB sc (Str.ofString (tyN t')) = true ∧ chk fn gn N a sc (.e y) = true := by
    intro sc x h
    replace h : (match isCall2 sc "isinstance" x with | some (y, z) => chk fn gn N a sc (.e y) && isTup2 sc (Str.ofString (tyN t)) (Str.ofString (tyN t')) z | none => false) = true := h
    split at h
    · rename_i y z hy
      obtain ⟨p, pos, rfl, h2⟩ := isCall2_some hy
      rw [Bool.and_eq_true] at h
      obtain ⟨p1, p2, kk, p3, rfl, h3, h4⟩ := isTup2_some h.2
      exact ⟨p, pos, y, p1, p2, kk, p3, rfl, h2, h3, h4, h.1⟩
    · cases h
  refine Pe.of (F := fun ρ => isi2S t t' (evA gv cal a ρ).b) (fun _ => rfl) rfl (fun sc xs => rfl) (fun sc x h X g => ?_) (.inl fun sc x h env whole => ?_)
  · obtain ⟨p, pos, y, p1, p2, kk, p3, rfl, h1, h2, h2', h3⟩ := inv h
    have hty := pe_ty (t := t) (p := p1) (g.gl h2) (g.bl (ty_mem t))
    have hty' := pe_ty (t := t') (p := p2) (g.gl h2') (g.bl (ty_mem t'))
    refine PE.imp (pe_callB call_isiT (g.gl h1) (g.bl (by decide +kernel)) (by decide +kernel) (pa_cons (ha.b sc y h3 X g) (pa_cons (pe_tup (pa_cons hty (pa_cons hty' pa_nil))) pa_nil) (star_of (chk_star h3) _ _)) (by decide +kernel) (by decide +kernel) (star_of (chk_star h3) _ _)) ?_
    rintro σ H Q ⟨G0, H0, ρ, G, sl, R, e, q⟩
    replace e : isi2S t t' (evA gv cal a ρ).b = some sl := e
    unfold isi2S at e
    split at e
    · rename_i d ed
      split at e
      · rename_i c c' ec ec'
        cases e
        refine ⟨G0, H0, ρ, G, d, R, ed, fun v G1 H1 st1 b1 => ?_⟩
        refine ⟨show 2 ≤ sizeLine by decide, fun p hp => ?_⟩
        have st2 : Stp G1 H1 G1 (upd H1 p (.tup [.ty (tyN t), .ty (tyN t')])) := Stp.own st1.gh hp
        have b2 := b1.step st2
        obtain ⟨tv, q1, q2, q2'⟩ := isTy_kit2 st2.gh b2 ec ec'
        refine ⟨v, p, _, tv, [.type (tyN t), .type (tyN t')], c || c', rfl, upd_same, .cons (.ty _) (.cons (.ty _) .nil), q1, ?_, q _ G1 _ (st1.trans st2) slBl⟩
        refine kitAny_cons q2 (fun hb => kitAny_cons q2' (fun hb' => ?_) fun hb' => by rw [hb', Bool.or_true]) fun hb => by rw [hb, Bool.true_or]
        rw [hb, hb']
        rfl
      · cases e
    · cases e
  · obtain ⟨p, pos, y, p1, p2, kk, p3, rfl, _⟩ := inv h
    rfl
/-! ### join -/
theorem isMeth1_some {m : Str} {x o a : Expr} (h : isMeth1 m x = some (o, a)) : ∃ apos pos, x = .Call (.Attribute o m apos) [a] [] pos ∧ (apos.endLine == pos.line) = true := by
  unfold isMeth1 at h
  split at h
  · split at h
    · rename_i hc
      cases h
      obtain ⟨rfl, h2⟩ := hc
      exact ⟨_, _, rfl, h2⟩
    · cases h
  · cases h
theorem noCall0_base {o : Expr} (h : noCall0 o = true) (m : Str) (env : PySem.Env) : attributeBase o m env (eval o env) = eval o env := by
  cases o with
  | Call f es ks p => cases es with
    | nil => exact absurd h Bool.false_ne_true
    | cons _ _ => cases f <;> rfl
  | _ => rfl
theorem strsD_eq : ∀ {ds : List D} {ns : List Str}, strsD ds = some ns → ds = ns.map D.str
  | [], ns, h => by cases h; rfl
  | d :: ds, ns, h => by
    cases d with
    | str i =>
      obtain ⟨ms, e, rfl⟩ := Option.map_eq_some_iff.mp (show (strsD ds).map (i :: ·) = some ns from h)
      rw [strsD_eq e]; rfl
    | _ => cases h
theorem strsD_map : ∀ (ns : List Str), strsD (ns.map D.str) = some ns
  | [] => rfl
  | n :: ns => by
    show (strsD (ns.map D.str)).map (n :: ·) = _
    rw [strsD_map ns]; rfl
theorem join_len (z : Str) : ∀ (xs : List Str), (Str.join z xs).length = (xs.map Str.length).sum + (xs.length - 1) * z.length
  | [] => by simp [Str.join, Str.empty, Str.length]
  | [x] => by simp [Str.join]
  | x :: y :: r => by
    show (x ++ z ++ Str.join z (y :: r)).length = _
    rw [Str.length_append, Str.length_append, join_len z (y :: r)]
    simp only [List.map_cons, List.sum_cons, List.length_cons, Nat.add_sub_cancel, Nat.succ_mul]
    omega
theorem join_good {z : Str} {xs : List Str} (hz : StrG z) (hx : ∀ x ∈ xs, StrG x) (hl : (xs.map Str.length).sum + xs.length * z.length ≤ 16777216) : StrG (Str.join z xs) := by
  refine ⟨?_, strOk_iff.mpr fun c hc => ?_⟩
  · rw [join_len, sizeLine_eq]
    have : (xs.length - 1) * z.length ≤ xs.length * z.length := Nat.mul_le_mul_right _ (by omega)
    omega
  · rcases (PyProof.Rows.mem_join z c xs).mp hc with ⟨t, ht, h⟩ | ⟨_, h⟩
    · exact strOk_iff.mp (hx t ht).2 c h
    · exact strOk_iff.mp hz.2 c h

theorem Pe.join {o a : E} (ho : Pe fn gn gv cal k N o) (ha : Pe fn gn gv cal k N a) : Pe fn gn gv cal k N (.join o a) := by
  have inv : ∀ {sc x}, chk fn gn N (.join o a) sc (.e x) = true → ∃ apos pos y z, x = .Call (.Attribute y "join" apos) [z] [] pos ∧ (apos.endLine == pos.line) = true ∧ noCall0 y = true ∧ chk fn gn N o sc (.e y) = true ∧ chk fn gn N a sc (.e z) = true := by
    intro sc x h
    replace h : (match isMeth1 "join" x with | some (y, z) => noCall0 y && chk fn gn N o sc (.e y) && chk fn gn N a sc (.e z) | none => false) = true := h
    split at h
    · rename_i y z hy
      obtain ⟨apos, pos, rfl, h2⟩ := isMeth1_some hy
      simp only [Bool.and_eq_true] at h
      exact ⟨apos, pos, y, z, rfl, h2, h.1.1, h.1.2, h.2⟩
    · cases h
  refine Pe.of (F := fun ρ => two (evA gv cal o ρ).b (evA gv cal a ρ).b joinD) (fun _ => rfl) rfl (fun sc xs => rfl) (fun sc x h X g => ?_) (.inl fun sc x h env whole => ?_)
  · obtain ⟨apos, pos, y, z, rfl, h1, h2, h3, h4⟩ := inv h
    refine PE.imp (pe_join (ho.b sc y h3 X g) (ha.b sc z h4 X g) (star_of (chk_star h4) [] X.env) (noCall0_base h2 _ _) h1) ?_
    rintro σ H Q ⟨G0, H0, ρ, G, sl, R, e, q⟩
    obtain ⟨dz, da, eo, ea, ef⟩ := two_some e
    cases dz with
    | str w =>
      refine ⟨G0, H0, ρ, G, _, R, eo, fun vo G1 H1 st1 b1 => ⟨⟨w, (br_str b1).1⟩, G0, H0, ρ, G1, da, R.step st1, ea, fun va G2 H2 st2 b2 => ?_⟩⟩
      obtain ⟨rfl, gw⟩ := br_str b1
      cases da with
      | lst ds =>
        obtain ⟨xs, e1, e2⟩ := Option.bind_eq_some_iff.mp (show (strsD ds).bind (fun xs => if (xs.map Str.length).sum + xs.length * w.length ≤ 16777216 then some (Slot.sh (.str (Str.join w xs))) else none) = some sl from ef)
        split at e2
        · rename_i hl
          cases e2
          obtain ⟨b, vs, rfl, h5, h6⟩ := b2
          rw [strsD_eq e1] at h6
          obtain ⟨e3, e4⟩ := h6.strs
          rw [e3] at h5
          refine ⟨w, b, xs, rfl, rfl, .inl (.inl (.inl h5)), hl, ?_⟩
          have : Txt.join w xs = Str.join w xs := StrLaws.glued_eq_join w xs
          rw [this]
          exact q _ G2 H2 (st1.trans st2) (slStr (join_good gw e4 hl))
        · cases e2
      | tup ds =>
        obtain ⟨xs, e1, e2⟩ := Option.bind_eq_some_iff.mp (show (strsD ds).bind (fun xs => if (xs.map Str.length).sum + xs.length * w.length ≤ 16777216 then some (Slot.sh (.str (Str.join w xs))) else none) = some sl from ef)
        split at e2
        · rename_i hl
          cases e2
          obtain ⟨b, vs, rfl, h5, h6⟩ := br_tup b2 st2.gh
          rw [strsD_eq e1] at h6
          obtain ⟨e3, e4⟩ := h6.strs
          rw [e3] at h5
          refine ⟨w, b, xs, rfl, rfl, .inr (.inl (.inl h5)), hl, ?_⟩
          have : Txt.join w xs = Str.join w xs := StrLaws.glued_eq_join w xs
          rw [this]
          exact q _ G2 H2 (st1.trans st2) (slStr (join_good gw e4 hl))
        · cases e2
      | _ => cases ef
    | _ => cases da <;> cases ef
  · obtain ⟨apos, pos, y, z, rfl, _⟩ := inv h
    rfl
/-! ### what is walked, alone -/
theorem Pe.ofIt {e : E} {F : En → Option (List D)} (hF : ∀ ρ, evA gv cal e ρ = W.it (F ρ)) (nl : ∀ sc xs, chk fn gn N e sc (.l xs) = false)
    (hp : ∀ kp, KpOk kp → ∀ sc x, chk fn gn N e sc (.e x) = true → ∀ X, Good fn gn gv cal k N sc X → ∀ tg, (needTup e = true → isTupX tg = true) → PI X tg x (tI X.K kp F))
    (ns : ∀ sc x, chk fn gn N e sc (.e x) = true → ∃ f as pos, x = .Call f as [] pos) : Pe fn gn gv cal k N e where
  s := fun sc x h X g => by
    simp only [hF]
    refine ⟨fun pins s σ H Q I q => ?_⟩
    obtain ⟨_, _, _, _, _, _, e, _⟩ := q
    cases e
  b := fun sc x h X g => by
    simp only [hF]
    refine ⟨fun pins s σ H Q I q => ?_⟩
    obtain ⟨_, _, _, _, _, _, e, _⟩ := q
    cases e
  t := fun sc x h X g => by
    simp only [hF]
    refine ⟨fun pins s σ H Q I q => ?_⟩
    obtain ⟨_, _, _, _, _, _, e, _⟩ := q
    cases e
  iC := fun sc x h X g tg nt => by simp only [hF]; exact hp KpC kpC_ok sc x h X g tg nt
  iS := fun sc x h X g tg nt => by
    simp only [hF]
    exact hid_ofI (F := fun ρ => (W.it (F ρ)).i) (hp KpS kpS_ok sc x h X g tg nt)
  w := fun sc op vs p h => by
    obtain ⟨f, as, pos, e⟩ := ns sc _ h
    cases e
  l := fun sc xs h => by rw [nl] at h; cases h
  p := fun sc x h ρ => by rw [hF]; rfl
  c := fun sc x h ρ => by rw [hF]; rfl
  sb := fun ρ sl h => by rw [hF] at h; cases h
theorem Pe.rng1 {a : E} (ha : Pe fn gn gv cal k N a) : Pe fn gn gv cal k N (.rng1 a) := by
  have inv : ∀ {sc x}, chk fn gn N (.rng1 a) sc (.e x) = true → ∃ p pos y, x = .Call (.Name "range" p) [y] [] pos ∧ glB sc "range" = true ∧ chk fn gn N a sc (.e y) = true := by
    intro sc x h
    replace h : (match isCall1 sc "range" x with | some y => chk fn gn N a sc (.e y) | none => false) = true := h
    split at h
    · rename_i y hy
      obtain ⟨p, pos, rfl, h2⟩ := isCall1_some hy
      exact ⟨p, pos, y, rfl, h2, h⟩
    · cases h
  refine Pe.ofIt (F := fun ρ => rng1S (evA gv cal a ρ).b) (fun _ => rfl) (fun sc xs => rfl) (fun kp ok sc x h X g tg _ => ?_) (fun sc x h => ?_)
  · obtain ⟨p, pos, y, rfl, h1, h2⟩ := inv h
    refine PI.imp (pi_range1 (g.gl h1) (g.bl (by decide +kernel)) (pa_cons (ha.b sc y h2 X g) pa_nil (star_of (chk_star h2) [] X.env)) (star_of (chk_star h2) [] X.env)) ?_
    rintro σ H R ⟨G0, H0, ρ, G, ds, r, e, q⟩
    replace e : rng1S (evA gv cal a ρ).b = some ds := e
    cases ea : (evA gv cal a ρ).b with
    | none => rw [ea] at e; cases e
    | some d =>
      rw [ea] at e
      cases d with
      | int n =>
        simp only [rng1S] at e
        split at e
        · rename_i hn
          cases e
          refine ⟨G0, H0, ρ, G, _, r, ea, fun v G1 H1 st1 b1 => ⟨n, by rw [br_int b1], hn.1, hn.2, q _ G1 H1 st1 (wk_rng fun G2 H2 hk => (ok _ _ _ _ hk).2)⟩⟩
        · cases e
      | _ => cases e
  · obtain ⟨p, pos, y, rfl, _⟩ := inv h
    exact ⟨_, _, _, rfl⟩
theorem Pe.rng2 {a b : E} (ha : Pe fn gn gv cal k N a) (hb : Pe fn gn gv cal k N b) : Pe fn gn gv cal k N (.rng2 a b) := by
  have inv : ∀ {sc x}, chk fn gn N (.rng2 a b) sc (.e x) = true → ∃ p pos y z, x = .Call (.Name "range" p) [y, z] [] pos ∧ glB sc "range" = true ∧ chk fn gn N a sc (.e y) = true ∧ chk fn gn N b sc (.e z) = true := by
    intro sc x h
    replace h : (match isCall2 sc "range" x with | some (y, z) => chk fn gn N a sc (.e y) && chk fn gn N b sc (.e z) | none => false) = true := h
    split at h
    · rename_i y z hy
      obtain ⟨p, pos, rfl, h2⟩ := isCall2_some hy
      rw [Bool.and_eq_true] at h
      exact ⟨p, pos, y, z, rfl, h2, h.1, h.2⟩
    · cases h
  refine Pe.ofIt (F := fun ρ => rng2S (evA gv cal a ρ).b (evA gv cal b ρ).b) (fun _ => rfl) (fun sc xs => rfl) (fun kp ok sc x h X g tg _ => ?_) (fun sc x h => ?_)
  · obtain ⟨p, pos, y, z, rfl, h1, h2, h3⟩ := inv h
    have e1 : starEach [z] X.env = [(false, eval z X.env)] := star_of (chk_star h3) [] X.env
    refine PI.imp (pi_range2 (g.gl h1) (g.bl (by decide +kernel)) (pa2 (ha.b sc y h2 X g) (hb.b sc z h3 X g) (chk_star h2) (chk_star h3)) (by rw [star_of (chk_star h2), e1]) e1) ?_
    rintro σ H R ⟨G0, H0, ρ, G, ds, r, e, q⟩
    replace e : rng2S (evA gv cal a ρ).b (evA gv cal b ρ).b = some ds := e
    cases ea : (evA gv cal a ρ).b with
    | none => rw [ea] at e; cases e
    | some d =>
      cases eb : (evA gv cal b ρ).b with
      | none => rw [ea, eb] at e; cases d <;> cases e
      | some d' =>
        rw [ea, eb] at e
        cases d with
        | int m => cases d' with
          | int n =>
            simp only [rng2S] at e
            split at e
            · rename_i hn
              cases e
              refine ⟨G0, H0, ρ, G, _, r, ea, fun va G1 H1 st1 b1 => ⟨G0, H0, ρ, G1, _, r.step st1, eb, fun vb G2 H2 st2 b2 => ⟨m, n, by rw [br_int b1, br_int b2], hn, q _ G2 H2 (st1.trans st2) (wk_rng fun G3 H3 hk => (ok _ _ _ _ hk).2)⟩⟩⟩
            · cases e
          | _ => cases e
        | _ => cases d' <;> cases e
  · obtain ⟨p, pos, y, z, rfl, _⟩ := inv h
    exact ⟨_, _, _, rfl⟩
theorem isTupX_some {tg : Expr} (h : isTupX tg = true) : ∃ es kk p, tg = .Tuple es kk p := by
  cases tg <;> first | exact absurd h Bool.false_ne_true | exact ⟨_, _, _, rfl⟩
theorem Pe.zip {a b : E} (ha : Pe fn gn gv cal k N a) (hb : Pe fn gn gv cal k N b) : Pe fn gn gv cal k N (.zip a b) := by
  have inv : ∀ {sc x}, chk fn gn N (.zip a b) sc (.e x) = true → ∃ p pos y z, x = .Call (.Name "zip" p) [y, z] [] pos ∧ glB sc "zip" = true ∧ chk fn gn N a sc (.e y) = true ∧ chk fn gn N b sc (.e z) = true := by
    intro sc x h
    replace h : (match isCall2 sc "zip" x with | some (y, z) => chk fn gn N a sc (.e y) && chk fn gn N b sc (.e z) | none => false) = true := h
    split at h
    · rename_i y z hy
      obtain ⟨p, pos, rfl, h2⟩ := isCall2_some hy
      rw [Bool.and_eq_true] at h
      exact ⟨p, pos, y, z, rfl, h2, h.1, h.2⟩
    · cases h
  refine Pe.ofIt (F := fun ρ => two (dOf (evA gv cal a ρ).s) (dOf (evA gv cal b ρ).s) zipS) (fun _ => rfl) (fun sc xs => rfl) (fun kp ok sc x h X g tg nt => ?_) (fun sc x h => ?_)
  · obtain ⟨p, pos, y, z, rfl, h1, h2, h3⟩ := inv h
    obtain ⟨es, kk, tp, rfl⟩ := isTupX_some (nt rfl)
    have hpa : PA X [y, z] (tCons (tD X.K fun ρ => dOf (evA gv cal a ρ).s) (tCons (tD X.K fun ρ => dOf (evA gv cal b ρ).s) tNil)) :=
      pa_cons (toD (ha.s sc y h2 X g)) (pa_cons (toD (hb.s sc z h3 X g)) pa_nil (star_of (chk_star h3) [] X.env)) (star_of (chk_star h2) [z] X.env)
    refine PI.imp (RZ.pi_zipA (g.gl h1) (g.bl (by decide +kernel)) hpa (star_of (chk_star h2) _ _) (by rw [star_of (chk_star h3)]; rfl)) ?_
    rintro σ H R ⟨G0, H0, ρ, G, ds, r, e, q⟩
    obtain ⟨da, db, ea, eb, ef⟩ := two_some e
    refine ⟨G0, H0, ρ, G, da, r, ea, fun va G1 H1 st1 b1 => ⟨G0, H0, ρ, G1, db, r.step st1, eb, fun vb G2 H2 st2 b2 => ?_⟩⟩
    have st := st1.trans st2
    cases da with
    | lst xs => cases db with
      | lst ys =>
        cases ef
        simp only [Rp] at b1 b2
        obtain ⟨c1, vs, rfl, p1, p2⟩ := b1
        obtain ⟨c2, ws, rfl, p3, p4⟩ := b2
        have g1 := st2.g _ _ p1
        refine ⟨c1, c2, vs, ws, rfl, .inl ⟨.inl (.inl (st2.gh _ _ g1)), .inl (.inl (st2.gh _ _ p3)), q _ G2 H2 st (wk_zipL (vs := vs) (ws := ws) fun G3 H3 hk => ?_)⟩⟩
        obtain ⟨k1, k2⟩ := ok _ _ _ _ hk
        exact ⟨k2, ⟨k2 _ _ (k1 _ _ g1), RpL.mono k1 _ (RpL.mono st2.g _ p2)⟩, k2 _ _ (k1 _ _ p3), RpL.mono k1 _ p4⟩
      | _ => cases ef
    | tup xs => cases db with
      | tup ys =>
        cases ef
        simp only [Rp] at b1 b2
        obtain ⟨c1, vs, rfl, p1, p2⟩ := b1
        obtain ⟨c2, ws, rfl, p3, p4⟩ := b2
        have g1 := st2.g _ _ p1
        refine ⟨c1, c2, vs, ws, rfl, .inr ⟨.inl (.inl (st2.gh _ _ g1)), .inl (.inl (st2.gh _ _ p3)), q _ G2 H2 st (wk_zipT (vs := vs) (ws := ws) fun G3 H3 hk => ?_)⟩⟩
        obtain ⟨k1, k2⟩ := ok _ _ _ _ hk
        exact ⟨k2, ⟨k2 _ _ (k1 _ _ g1), RpL.mono k1 _ (RpL.mono st2.g _ p2)⟩, k2 _ _ (k1 _ _ p3), RpL.mono k1 _ p4⟩
      | _ => cases ef
    | _ => cases db <;> cases ef
  · obtain ⟨p, pos, y, z, rfl, _⟩ := inv h
    exact ⟨_, _, _, rfl⟩
theorem Pe.enum {a : E} (ha : Pe fn gn gv cal k N a) : Pe fn gn gv cal k N (.enum a) := by
  have inv : ∀ {sc x}, chk fn gn N (.enum a) sc (.e x) = true → ∃ p pos y, x = .Call (.Name "enumerate" p) [y] [] pos ∧ glB sc "enumerate" = true ∧ chk fn gn N a sc (.e y) = true := by
    intro sc x h
    replace h : (match isCall1 sc "enumerate" x with | some y => chk fn gn N a sc (.e y) | none => false) = true := h
    split at h
    · rename_i y hy
      obtain ⟨p, pos, rfl, h2⟩ := isCall1_some hy
      exact ⟨p, pos, y, rfl, h2, h⟩
    · cases h
  refine Pe.ofIt (F := fun ρ => (dOf (evA gv cal a ρ).s).bind enumS) (fun _ => rfl) (fun sc xs => rfl) (fun kp ok sc x h X g tg nt => ?_) (fun sc x h => ?_)
  · obtain ⟨p, pos, y, rfl, h1, h2⟩ := inv h
    obtain ⟨es, kk, tp, rfl⟩ := isTupX_some (nt rfl)
    refine PI.imp (pi_enT (g.gl h1) (g.bl (by decide +kernel)) (pa_cons (toD (ha.s sc y h2 X g)) pa_nil (star_of (chk_star h2) [] X.env)) (star_of (chk_star h2) [] X.env)) ?_
    rintro σ H R ⟨G0, H0, ρ, G, ds, r, e, q⟩
    obtain ⟨d, ed, ef⟩ := Option.bind_eq_some_iff.mp e
    refine ⟨G0, H0, ρ, G, d, r, ed, fun v G1 H1 st1 b1 => ?_⟩
    cases d with
    | lst xs =>
      cases ef
      simp only [Rp] at b1
      obtain ⟨c1, vs, rfl, p1, p2⟩ := b1
      refine .inl ⟨c1, vs, rfl, .inl (.inl (st1.gh _ _ p1)), q _ G1 H1 st1 (wk_enum (vs := vs) fun G3 H3 hk => ?_)⟩
      obtain ⟨k1, k2⟩ := ok _ _ _ _ hk
      exact ⟨k2, k2 _ _ (k1 _ _ p1), RpL.mono k1 _ p2⟩
    | tup xs =>
      cases ef
      simp only [Rp] at b1
      obtain ⟨c1, vs, rfl, p1, p2⟩ := b1
      refine .inr ⟨c1, vs, rfl, .inl (.inl (st1.gh _ _ p1)), q _ G1 H1 st1 (wk_enT (vs := vs) fun G3 H3 hk => ?_)⟩
      obtain ⟨k1, k2⟩ := ok _ _ _ _ hk
      exact ⟨k2, k2 _ _ (k1 _ _ p1), RpL.mono k1 _ p2⟩
    | _ => cases ef
  · obtain ⟨p, pos, y, rfl, _⟩ := inv h
    exact ⟨_, _, _, rfl⟩
end
end LJ
/-! LJm: targets, comprehensions. -/
namespace LJ
open PySem PySem.Spec PyProof.Rows L2
/-! ### slots forgotten -/
theorem wipe_get (vs : List Nat) (σ : L2.St) (i : Nat) : (wipe σ vs)[i]? = if i ∈ vs then (σ[i]?).map fun _ => none else σ[i]? := by
  induction vs with
  | nil => rfl
  | cons v vs ih =>
    show ((wipe σ vs).set v none)[i]? = _
    by_cases hv : v = i
    · subst hv
      rw [if_pos List.mem_cons_self]
      by_cases hl : v < σ.length
      · rw [List.getElem?_set_self (by rw [wipe_length]; exact hl), List.getElem?_eq_getElem hl]; rfl
      · rw [List.getElem?_eq_none (by rw [List.length_set, wipe_length]; omega), List.getElem?_eq_none (by omega)]; rfl
    · rw [List.getElem?_set_ne hv, ih]
      by_cases hm : i ∈ vs
      · rw [if_pos hm, if_pos (List.mem_cons_of_mem _ hm)]
      · rw [if_neg hm, if_neg]
        intro hc
        rcases List.mem_cons.mp hc with e | e
        · exact hv e.symm
        · exact hm e
theorem wipe_congr {vs : List Nat} {σ σ' : L2.St} (hl : σ.length = σ'.length) (h : ∀ i, i ∉ vs → σ[i]? = σ'[i]?) : wipe σ vs = wipe σ' vs := by
  refine List.ext_getElem? fun i => ?_
  rw [wipe_get, wipe_get]
  by_cases hm : i ∈ vs
  · rw [if_pos hm, if_pos hm]
    by_cases hi : i < σ.length
    · rw [List.getElem?_eq_getElem hi, List.getElem?_eq_getElem (by omega)]; rfl
    · rw [List.getElem?_eq_none (by omega), List.getElem?_eq_none (by omega)]
  · rw [if_neg hm, if_neg hm, h i hm]
theorem wipe_wipe (vs : List Nat) (σ : L2.St) : wipe (wipe σ vs) vs = wipe σ vs := by
  refine wipe_congr (wipe_length σ vs) fun i hi => ?_
  rw [wipe_get, if_neg hi]
theorem wipeE_len (ρ : En) : ∀ vs : List Nat, (wipeE ρ vs).length = ρ.length
  | [] => rfl
  | v :: vs => by show ((wipeE ρ vs).set v none).length = _; rw [List.length_set, wipeE_len ρ vs]
theorem wipeE_get (vs : List Nat) (ρ : En) (i : Nat) : (wipeE ρ vs)[i]? = if i ∈ vs then (ρ[i]?).map fun _ => none else ρ[i]? := by
  induction vs with
  | nil => rfl
  | cons v vs ih =>
    show ((wipeE ρ vs).set v none)[i]? = _
    by_cases hv : v = i
    · subst hv
      rw [if_pos List.mem_cons_self]
      by_cases hl : v < ρ.length
      · rw [List.getElem?_set_self (by rw [wipeE_len]; exact hl), List.getElem?_eq_getElem hl]; rfl
      · rw [List.getElem?_eq_none (by rw [List.length_set, wipeE_len]; omega), List.getElem?_eq_none (by omega)]; rfl
    · rw [List.getElem?_set_ne hv, ih]
      by_cases hm : i ∈ vs
      · rw [if_pos hm, if_pos (List.mem_cons_of_mem _ hm)]
      · rw [if_neg hm, if_neg]
        intro hc
        rcases List.mem_cons.mp hc with e | e
        · exact hv e.symm
        · exact hm e
section
variable {K : PySem.W.Frag} {G0 H0 G H : Hp} {ρ : En} {σ : L2.St}
theorem SR.wipe (r : SR K G0 H0 ρ σ G H) (vs : List Nat) : SR K G0 H0 (wipeE ρ vs) (L2.wipe σ vs) G H := by
  have key : ∀ i sl, (wipeE ρ vs)[i]? = some (some sl) → ρ[i]? = some (some sl) ∧ (L2.wipe σ vs)[i]? = σ[i]? := fun i sl e => by
    rw [wipeE_get] at e
    by_cases hm : i ∈ vs
    · rw [if_pos hm] at e
      obtain ⟨_, _, z⟩ := Option.map_eq_some_iff.mp e
      cases z
    · rw [if_neg hm] at e
      exact ⟨e, by rw [wipe_get, if_neg hm]⟩
  refine ⟨by rw [wipeE_len, wipe_length]; exact r.len, r.gh, r.g0, r.h0, r.new, fun i sl e => ?_, fun i j s t v e1 e2 o1 o2 q1 q2 => ?_⟩
  · obtain ⟨k1, k2⟩ := key i sl e
    rw [k2]
    exact r.slot i sl k1
  · obtain ⟨k1, k2⟩ := key i s e1
    obtain ⟨k3, k4⟩ := key j t e2
    rw [k2] at q1
    rw [k4] at q2
    exact r.sep i j s t v k1 k3 o1 o2 q1 q2
/-! ### targets -/
def gMany : List Nat → TGs
  | [] => gNil
  | i :: is => gCons (gName i) (gMany is)
def gT (K : PySem.W.Frag) : Tg → TG
  | .one i => gName i
  | .many is => gTup K is.length (gMany is)
def tgIs : Tg → List Nat
  | .one i => [i]
  | .many is => is
/-- what a target leaves of the slots -/
def Kept (is : List Nat) (σ σ' : L2.St) : Prop := σ.length = σ'.length ∧ ∀ i, i ∉ is → σ[i]? = σ'[i]?
theorem gMany_ok {G0 H0 G H : Hp} : ∀ (is : List Nat) {ρ ρ' : En} {σ : L2.St} {ds : List D} {vs : List V} {Q : L2.St → Hp → Prop}, SR K G0 H0 ρ σ G H → setMany ρ is ds = some ρ' → RpL K G ds vs →
    (∀ σ', SR K G0 H0 ρ' σ' G H → Kept is σ σ' → Q σ' H) → gMany is vs σ H Q
  | [], ρ, ρ', σ, ds, vs, Q, r, e, h, k => by
    cases ds with
    | nil =>
      cases e
      simp only [RpL] at h
      exact ⟨h, k σ r ⟨rfl, fun _ _ => rfl⟩⟩
    | cons _ _ => cases e
  | i :: is, ρ, ρ', σ, ds, vs, Q, r, e, h, k => by
    cases ds with
    | nil => cases e
    | cons d ds =>
      simp only [RpL] at h
      obtain ⟨x, rr, rfl, h1, h2⟩ := h
      refine ⟨x, rr, rfl, ?_⟩
      refine gMany_ok is (r.set_sh h1) e h2 fun σ' r' kp => k σ' r' ⟨by rw [← kp.1, List.length_set], fun j hj => ?_⟩
      have h3 : j ∉ is := fun z => hj (List.mem_cons_of_mem _ z)
      have h4 : i ≠ j := fun z => hj (by rw [z]; exact List.mem_cons_self)
      rw [← kp.2 j h3, List.getElem?_set_ne h4]
theorem gT_ok {tg : Tg} {d : D} {v : V} {ρ ρ' : En} {σ : L2.St} {Q : L2.St → Hp → Prop} (r : SR K G0 H0 ρ σ G H) (e : bindT tg d ρ = some ρ') (h : Rp K G d v) (k : ∀ σ', SR K G0 H0 ρ' σ' G H → Kept (tgIs tg) σ σ' → Q σ' H) : gT K tg v σ H Q := by
  cases tg with
  | one i =>
    cases e
    exact k _ (r.set_sh h) ⟨by rw [List.length_set], fun j hj => by rw [List.getElem?_set_ne (fun z => hj (by rw [z]; exact List.mem_cons_self))]⟩
  | many is =>
    cases d with
    | tup ds =>
      simp only [bindT] at e
      split at e
      · rename_i hl
        simp only [Rp] at h
        obtain ⟨a, vs, rfl, h1, h2⟩ := h
        exact ⟨a, vs, rfl, .inl (.inl (r.gh _ _ h1)), by rw [h2.length]; exact hl, gMany_ok is r e h2 k⟩
      · cases e
    | _ => cases e
end
section
variable {fn gn : Nat → Str} {gv : Nat → Option D} {cal : Nat → List D → Option Slot} {k : Nat} {N : List Str}
/-- a name may be stored -/
def StOk (X : Cx) (n : Str) : Prop := Loc X.env.scope n ∧ (X.fn n = true ∨ X.env.scope.names.lookup n = some .local)
theorem pg_of {X : Cx} {tg : Tg} {t : Expr} (hnd : X.N.Nodup) (sc : Scope) (hsc : X.env.scope = sc) (calm : X.calm = true) (st : ∀ n, locB sc n = true → (∃ p, t = .Name n p) ∨ (∃ es kk p p2, t = .Tuple es kk p ∧ Expr.Name n p2 ∈ es) → StOk X n) (h : tgB X.N sc tg t = true) : PG X t (gT X.K tg) := by
  cases tg with
  | one i =>
    cases t with
    | Name n p =>
      have h : (decide (X.N[i]? = some n) && locB sc n) = true := h
      rw [Bool.and_eq_true, decide_eq_true_eq] at h
      obtain ⟨s1, s2⟩ := st n h.2 (.inl ⟨p, rfl⟩)
      exact pg_name hnd h.1 s1 s2
    | _ => exact absurd h Bool.false_ne_true
  | many is =>
    cases t with
    | Tuple es kk p =>
      have h : (decide (es.length = is.length) && (is.zip es).all fun p => match p.2 with
        | .Name x _ => decide (X.N[p.1]? = some x) && locB sc x
        | _ => false) = true := h
      rw [Bool.and_eq_true, decide_eq_true_eq] at h
      have key : ∀ (is : List Nat) (es' : List Expr), (∀ e ∈ es', e ∈ es) → es'.length = is.length → ((is.zip es').all fun p => match p.2 with
          | .Name x _ => decide (X.N[p.1]? = some x) && locB sc x
          | _ => false) = true → PGs X es' (gMany is) ∧ (assignEach es' X.env).length = es'.length ∧ (assignEach es' X.env).findIdx? (·.1) = none := by
        intro is
        induction is with
        | nil =>
          intro es' _ hl _
          have : es' = [] := List.eq_nil_of_length_eq_zero hl
          subst this
          exact ⟨pgs_nil, rfl, rfl⟩
        | cons i is ih =>
          intro es' hs hl h
          cases es' with
          | nil => cases hl
          | cons e es' =>
            rw [List.zip_cons_cons, List.all_cons, Bool.and_eq_true] at h
            obtain ⟨h1, h2⟩ := h
            cases e with
            | Name n p' =>
              have h1 : (decide (X.N[i]? = some n) && locB sc n) = true := h1
              rw [Bool.and_eq_true, decide_eq_true_eq] at h1
              obtain ⟨q1, q2⟩ := h1
              obtain ⟨r1, r2, r3⟩ := ih es' (fun e he => hs e (List.mem_cons_of_mem _ he)) (by simpa using hl) h2
              obtain ⟨s1, s2⟩ := st n q2 (.inr ⟨es, kk, p, p', rfl, hs _ List.mem_cons_self⟩)
              refine ⟨pgs_cons (pg_name hnd q1 s1 s2) r1, ?_, ?_⟩
              · show (assignEach es' X.env).length + 1 = es'.length + 1
                rw [r2]
              · show ((false, _) :: assignEach es' X.env).findIdx? (·.1) = none
                rw [List.findIdx?_cons, r3]; rfl
            | _ => exact absurd h1 Bool.false_ne_true
      obtain ⟨r1, r2, r3⟩ := key is es (fun _ h => h) h.1 h.2
      exact pg_tup calm r1 (r2.trans h.1) r3
    | _ => exact absurd h Bool.false_ne_true
end
end LJ
/-! LJn: list comprehensions. -/
namespace LJ
open PySem PySem.Spec PyProof.Rows L2
section
variable {K : PySem.W.Frag}
theorem lcL_cons {F : En → Option D} {C : En → Option Bool} {B : D → Option En} {d : D} {ds ys : List D} (h : lcL F C B (d :: ds) = some ys) :
    ∃ ρ', B d = some ρ' ∧ ((C ρ' = some false ∧ lcL F C B ds = some ys) ∨ (C ρ' = some true ∧ ∃ y r, F ρ' = some y ∧ lcL F C B ds = some r ∧ ys = y :: r)) := by
  simp only [lcL] at h
  split at h
  · cases h
  · rename_i ρ' e1
    refine ⟨ρ', e1, ?_⟩
    split at h
    · cases h
    · rename_i e2
      exact .inl ⟨e2, h⟩
    · rename_i e2
      split at h
      · cases h
      · rename_i y e3
        obtain ⟨r, e4, rfl⟩ := Option.map_eq_some_iff.mp h
        exact .inr ⟨e2, y, r, e3, e4, rfl⟩
/-- the reading of a comprehension -/
theorem lc_use {Fi : En → Option (List D)} {F : En → Option D} {C : En → Option Bool} {tg : Tg} {own : List Nat} (hown : ∀ i ∈ tgIs tg, i ∈ own) : ∀ σ H Q,
    tF K (fun ρ => lcS F C (fun d => bindT tg d (wipeE ρ own)) (Fi ρ)) σ H Q → tLc (tI K KpC Fi) (gT K tg) (tT K C) (tD K F) own σ H Q := by
  rintro σ H Q ⟨G0, H0, ρ, G, sl, R, e, q⟩
  obtain ⟨ds, e1, e2⟩ := Option.bind_eq_some_iff.mp (show (Fi ρ).bind (fun ds => if ds.length ≤ sizeLine then (lcL F C (fun d => bindT tg d (wipeE ρ own)) ds).map .ol else none) = some sl from e)
  split at e2
  · rename_i hz
    obtain ⟨ys, e3, rfl⟩ := Option.map_eq_some_iff.mp e2
    refine ⟨G0, H0, ρ, G, ds, R, e1, fun J G1 H1 st1 wk => fun Dd hD => ?_⟩
    have gD : G1 Dd = none := st1.gh.free hD
    refine ⟨fun i m Hc => m = ds.length - i ∧ i ≤ ds.length ∧ ∃ Gc acc done rest, Stp G1 H1 Gc Hc ∧ Gc Dd = none ∧ Hc Dd = some (.lst acc) ∧ RpL K Gc done acc ∧ lcL F C (fun d => bindT tg d (wipeE ρ own)) (ds.drop i) = some rest ∧ done ++ rest = ys ∧ done.length ≤ i,
      ⟨ds.length, by simp, Nat.zero_le _, G1, [], [], ys, Stp.own st1.gh hD, gD, upd_same, RpL.nil, e3, rfl, Nat.le_refl _⟩, ?_⟩
    rintro i m Hc ⟨rfl, hi, Gc, acc, done, rest, st, gd, hd, rp, er, ey, hl⟩
    have w := wk i Gc Hc st
    by_cases hlt : i < ds.length
    · have hdi : ds[i]? = some ds[i] := List.getElem?_eq_getElem hlt
      obtain ⟨go, yl⟩ := w.1 _ hdi
      rw [List.drop_eq_getElem_cons hlt] at er
      obtain ⟨ρ', eb, alt⟩ := lcL_cons er
      refine .inr ⟨go, fun Hn => ∃ Gc acc done rest, Stp G1 H1 Gc Hn ∧ Gc Dd = none ∧ Hn Dd = some (.lst acc) ∧ RpL K Gc done acc ∧ lcL F C (fun d => bindT tg d (wipeE ρ own)) (ds.drop (i + 1)) = some rest ∧ done ++ rest = ys ∧ done.length ≤ i + 1,
        fun H' nx => ⟨ds.length - (i + 1), by omega, rfl, hlt, nx⟩, fun x H' hy => ?_⟩
      obtain ⟨G', st2, rx⟩ := yl x H' hy
      have R' := ((R.step st1).step st).step st2 |>.wipe own
      have none_of : ∀ {Ga Ha Gb Hb : Hp}, Stp Ga Ha Gb Hb → Ga Dd = none → (∃ o, Ha Dd = some o) → Gb Dd = none := fun {Ga Ha Gb Hb} s g1 ⟨o, h1⟩ => by
        cases z : Gb Dd with
        | none => rfl
        | some u =>
          rcases s.new Dd u z with z | z
          · rw [g1] at z; cases z
          · rw [h1] at z; cases z
      have gd2 : G' Dd = none := none_of st2 gd ⟨_, hd⟩
      have hd2 : H' Dd = some (.lst acc) := st2.h _ _ hd
      refine gT_ok R' eb rx fun σ2 R2 kp => ⟨?_, ?_⟩
      · rw [← wipe_wipe own σ]
        exact (wipe_congr (by rw [← kp.1]) fun j hj => (kp.2 j fun z => hj (hown j z)).symm)
      · rcases alt with ⟨ec, er'⟩ | ⟨ec, y, r, ef, er', ey'⟩
        · refine ⟨G0, H0, ρ', G', false, R2, ec, fun G2 H2 st3 => ?_⟩
          refine iteF ?_
          exact ⟨G2, acc, done, rest, st.trans (st2.trans st3), none_of st3 gd2 ⟨_, hd2⟩, st3.h _ _ hd2, RpL.mono (st2.g.trans st3.g) _ rp, er', ey, by omega⟩
        · refine ⟨G0, H0, ρ', G', true, R2, ec, fun G2 H2 st3 => ?_⟩
          refine iteT ?_
          refine ⟨G0, H0, ρ', G2, y, R2.step st3, ef, fun v G3 H3 st4 rv => ?_⟩
          have gd3 : G2 Dd = none := none_of st3 gd2 ⟨_, hd2⟩
          have hd3 : H2 Dd = some (.lst acc) := st3.h _ _ hd2
          have gd4 : G3 Dd = none := none_of st4 gd3 ⟨_, hd3⟩
          have hd4 : H3 Dd = some (.lst acc) := st4.h _ _ hd3
          have stt := st.trans (st2.trans (st3.trans st4))
          have hal : acc.length = done.length := rp.length
          refine ⟨acc, hd4, by omega, G3, acc ++ [v], done ++ [y], r, ⟨stt.g, fun b o z => ?_, fun b o z => ?_, stt.new⟩, gd4, upd_same, (RpL.mono (st2.g.trans (st3.g.trans st4.g)) _ rp).append (RpL.cons rv RpL.nil), er', ?_, ?_⟩
          · rw [upd_ne (ne_of_none z hD)]; exact stt.h _ _ z
          · rw [upd_ne (ne_of_none z gd4)]; exact stt.gh _ _ z
          · rw [List.append_assoc, ← ey, ey']; rfl
          · rw [List.length_append, List.length_singleton]; omega
    · have ei : i = ds.length := by omega
      subst ei
      refine .inl ⟨w.2 (Nat.le_refl _), ?_⟩
      rw [List.drop_length] at er
      cases er
      rw [List.append_nil] at ey
      subst ey
      exact q _ Gc Hc (st1.trans st) ⟨Dd, acc, rfl, hd, gd, st1.h.free hD, rp⟩
  · cases e2
end
section
variable {fn gn : Nat → Str} {gv : Nat → Option D} {cal : Nat → List D → Option Slot} {k : Nat} {N : List Str}
theorem notSet_fold {x : Expr} (h : notSet x = true) (env : PySem.Env) (v : Value) : foldedSetIterable x env v = pure v := by
  cases x <;> first | exact absurd h Bool.false_ne_true | rfl
/-- the look at a comprehension -/
structure LcOk (fn gn : Nat → Str) (N : List Str) (sc scope : Scope) (own : List Nat) (elt : E) (tg : Tg) (it cond : E) (el t x : Expr) (ifs : List Expr) : Prop where
  ns : notSet x = true
  it' : chk fn gn N it sc (.e x) = true
  tg' : tgB N (relS scope sc) tg t = true
  nt : needTup it = true → isTupX t = true
  blk : blkC N sc scope (own.map fun i => (N.getD i Str.empty, i)) = true
  elt : chk fn gn N elt (relS scope sc) (.e el) = true
  own : ∀ i ∈ tgIs tg, i ∈ own
  st : ∀ n, (∃ p, t = .Name n p) ∨ (∃ es kk p p2, t = .Tuple es kk p ∧ Expr.Name n p2 ∈ es) → scope.names.lookup n = some .local ∨ scope.names.lookup n = some .cell
  cond : (ifs = [] ∧ cond = .nil) ∨ ∃ c, ifs = [c] ∧ chk fn gn N cond (relS scope sc) (.e c) = true
theorem stB_ok {scope : Scope} {n : Str} (h : stB scope n = true) : scope.names.lookup n = some .local ∨ scope.names.lookup n = some .cell := by
  unfold stB at h
  split at h
  · exact .inl (by assumption)
  · exact .inr (by assumption)
  · cases h
theorem lc_inv {own : List Nat} {elt : E} {tg : Tg} {it cond : E} {sc : Scope} {x : Expr} (h : chk fn gn N (.lc own elt tg it cond) sc (.e x) = true) : ∃ el t x' ifs scope p, x = .ListComp el [⟨t, x', ifs, 0⟩] scope p ∧ LcOk fn gn N sc scope own elt tg it cond el t x' ifs := by
  cases x with
  | ListComp el gs scope p =>
    match gs, h with
    | [], h => exact absurd h Bool.false_ne_true
    | ⟨_, _, _, _⟩ :: _ :: _, h => exact absurd h Bool.false_ne_true
    | [⟨t, x', ifs, a⟩], h =>
      have h : (decide (a = 0) && notSet x' && chk fn gn N it sc (.e x') && tgB N (relS scope sc) tg t && (!needTup it || isTupX t) && blkC N sc scope (own.map fun i => (N.getD i Str.empty, i)) && chk fn gn N elt (relS scope sc) (.e el) && ownB tg own && stT scope t &&
        condB ifs (isNil cond) (fun c => chk fn gn N cond (relS scope sc) (.e c))) = true := h
      simp only [Bool.and_eq_true, decide_eq_true_eq] at h
      obtain ⟨⟨⟨⟨⟨⟨⟨⟨⟨rfl, h1⟩, h2⟩, h3⟩, h4⟩, h5⟩, h6⟩, h7⟩, h8⟩, h9⟩ := h
      refine ⟨el, t, x', ifs, scope, p, rfl, h1, h2, h3, fun n => ?_, h5, h6, ?_, ?_, ?_⟩
      · rw [n] at h4; simpa using h4
      · intro i hi
        cases tg with
        | one j =>
          have : i = j := by simpa [tgIs] using hi
          rw [this]
          exact of_decide_eq_true (show decide (j ∈ own) = true from h7)
        | many is =>
          have h7 : (is.all fun i => decide (i ∈ own)) = true := h7
          rw [List.all_eq_true] at h7
          exact of_decide_eq_true (h7 i hi)
      · rintro n (⟨p, rfl⟩ | ⟨es, kk, p, p2, rfl, hm⟩)
        · exact stB_ok h8
        · have h8 : (es.all (stN scope)) = true := h8
          rw [List.all_eq_true] at h8
          exact stB_ok (h8 _ hm)
      · match ifs, h9 with
        | [], h9 =>
          cases cond <;> first | exact absurd h9 Bool.false_ne_true | exact .inl ⟨rfl, rfl⟩
        | [c], h9 => exact .inr ⟨c, rfl, h9⟩
        | _ :: _ :: _, h9 => exact absurd h9 Bool.false_ne_true
  | _ => exact absurd h Bool.false_ne_true
theorem Good.blk {sc scope : Scope} {X : Cx} (g : Good fn gn gv cal k N sc X) (s : Shared) (H : Hp) (C : Addr) (cl : List (Str × Addr)) (fp : List Addr) :
    Good fn gn gv cal k N (relS scope sc) (X.blk s H scope (compEnvC scope cl C X.env) fp) :=
  ⟨g.wd, g.room, g.nN, g.nd, by rw [← g.hsc]; rfl, g.calm⟩
/-- the parts of a comprehension -/
theorem lc_parts {own : List Nat} {elt : E} {tg : Tg} {it cond : E} {sc scope : Scope} {el t x : Expr} {ifs : List Expr} (L : LcOk fn gn N sc scope own elt tg it cond el t x ifs) (he : Pe fn gn gv cal k N elt) (hi : Pe fn gn gv cal k N it) (hc : Pe fn gn gv cal k N cond)
    {X : Cx} (g : Good fn gn gv cal k N sc X) :
    PI X t x (tI X.K KpC fun ρ => (evA gv cal it ρ).i) ∧ BlkOk X.N X.env.scope scope (own.map fun i => (N.getD i Str.empty, i)) ∧
    (∀ (s : Shared) (H : Hp) (C : Addr) (cl : List (Str × Addr)) (fp : List Addr), PG (X.blk s H scope (compEnvC scope cl C X.env) fp) t (gT X.K tg)) ∧
    (∀ (s : Shared) (H : Hp) (C : Addr) (cl : List (Str × Addr)) (fp : List Addr), PTs (X.blk s H scope (compEnvC scope cl C X.env) fp) ifs (tT X.K fun ρ => (evA gv cal cond ρ).c)) ∧
    (∀ (s : Shared) (H : Hp) (C : Addr) (cl : List (Str × Addr)) (fp : List Addr), PE (X.blk s H scope (compEnvC scope cl C X.env) fp) el (tD X.K fun ρ => dOf (evA gv cal elt ρ).s)) := by
  refine ⟨hi.iC sc x L.it' X g t L.nt, ?_, fun s H C cl fp => ?_, fun s H C cl fp => ?_, fun s H C cl fp => ?_⟩
  · rw [g.nN, g.hsc]; exact blkOk_by L.blk
  · have gb := g.blk (scope := scope) s H C cl fp
    refine pg_of (X := X.blk s H scope (compEnvC scope cl C X.env) fp) (by rw [gb.nN]; exact gb.nd) (relS scope sc) gb.hsc gb.calm (fun n hl hn => ⟨?_, ?_⟩) (by rw [gb.nN]; exact L.tg')
    · rw [gb.hsc]; exact locB_ok hl
    · rcases L.st n hn with z | z
      · refine .inr ?_
        rw [gb.hsc]
        exact lookup_relS_keep (by decide) z
      · refine .inl ?_
        show (scope.names.lookup n == some NameKind.cell) = true
        rw [z]; rfl
  · have gb := g.blk (scope := scope) s H C cl fp
    rcases L.cond with ⟨rfl, rfl⟩ | ⟨c, rfl, h⟩
    · refine ⟨fun pins s' σ H' Q I q => pts_nil.run pins s' σ H' Q I ?_⟩
      obtain ⟨G0, H0, ρ, G, b, R, e, q⟩ := q
      cases e
      exact q G H' (Stp.refl R.gh)
    · have := pts_one (hc.t _ c h _ gb)
      refine ⟨fun pins s' σ H' Q I q => this.run pins s' σ H' Q I ?_⟩
      obtain ⟨G0, H0, ρ, G, b, R, e, q⟩ := q
      exact ⟨G0, H0, ρ, G, b, R, (hc.c _ c h ρ).symm.trans e, q⟩
  · exact toD (he.s _ el L.elt _ (g.blk (scope := scope) s H C cl fp))
theorem own_snd (N : List Str) (own : List Nat) : (own.map fun i => (N.getD i Str.empty, i)).map (·.2) = own := by
  rw [List.map_map]
  exact List.map_id _
theorem Pe.lc {own : List Nat} {elt : E} {tg : Tg} {it cond : E} (he : Pe fn gn gv cal k N elt) (hi : Pe fn gn gv cal k N it) (hc : Pe fn gn gv cal k N cond) : Pe fn gn gv cal k N (.lc own elt tg it cond) := by
  refine Pe.of (F := fun ρ => lcS (fun ρ' => dOf (evA gv cal elt ρ').s) (fun ρ' => (evA gv cal cond ρ').c) (fun d => bindT tg d (wipeE ρ own)) (evA gv cal it ρ).i) (fun _ => rfl) rfl (fun sc xs => rfl) (fun sc x h X g => ?_) (.inl fun sc x h env whole => ?_)
  · obtain ⟨el, t, x', ifs, scope, p, rfl, L⟩ := lc_inv h
    obtain ⟨q1, q2, q3, q4, q5⟩ := lc_parts L he hi hc g
    have z := pe_lc (pos := p) g.calm (by rw [g.nN]; exact g.nd) q1 q2 q3 q4 q5 (notSet_fold L.ns _)
    rw [own_snd] at z
    exact PE.imp z (lc_use L.own)
  · obtain ⟨el, t, x', ifs, scope, p, rfl, L⟩ := lc_inv h
    rfl
end
end LJ
/-! LJdic: dict displays. -/
namespace LJ
open PySem PySem.Spec PyProof.Rows L2
section
variable {fn gn : Nat → Str} {gv : Nat → Option D} {cal : Nat → List D → Option Slot} {k : Nat} {N : List Str}
theorem key_good {K : PySem.W.Frag} {G H : Hp} {d : D} {kk : Key} {v : V} (h : Rp K G d v) (e : keyD d = some kk) : KeyG kk := by
  cases d with
  | int i => cases e; trivial
  | str x => cases e; simp only [Rp] at h; exact h.2
  | _ => cases e
theorem Pe.dicK {es : E} : Pe fn gn gv cal k N (.dicK es) := by
  have inv : ∀ {sc x}, chk fn gn N (.dicK es) sc (.e x) = true → es = .nil ∧ ∃ p, x = .Dict [] [] p := by
    intro sc x h
    cases x with
    | Dict ks vs p =>
      cases ks with
      | nil => cases vs with
        | nil =>
          replace h : isNil es = true := h
          cases es with
          | nil => exact ⟨rfl, p, rfl⟩
          | _ => exact absurd h Bool.false_ne_true
        | cons _ _ => exact absurd h Bool.false_ne_true
      | cons _ _ => exact absurd h Bool.false_ne_true
    | _ => exact absurd h Bool.false_ne_true
  refine Pe.of (F := fun ρ => dicKS (evA gv cal es ρ).l) (fun _ => rfl) rfl (fun sc xs => rfl) (fun sc x h X g => ?_) (.inl fun sc x h env whole => ?_)
  · obtain ⟨rfl, p, rfl⟩ := inv h
    refine PE.imp pe_dnewK ?_
    rintro σ H Q ⟨G0, H0, ρ, G, sl, R, e, q⟩
    cases e
    intro a ha
    exact q _ G _ (Stp.own R.gh ha) ⟨a, [], rfl, upd_same, R.gh.free ha, ha, by simp only [RpK]⟩
  · obtain ⟨rfl, p, rfl⟩ := inv h
    rfl
theorem Pe.dicT {es : E} : Pe fn gn gv cal k N (.dicT es) := by
  have inv : ∀ {sc x}, chk fn gn N (.dicT es) sc (.e x) = true → es = .nil ∧ ∃ p, x = .Dict [] [] p := by
    intro sc x h
    cases x with
    | Dict ks vs p =>
      cases ks with
      | nil => cases vs with
        | nil =>
          replace h : isNil es = true := h
          cases es with
          | nil => exact ⟨rfl, p, rfl⟩
          | _ => exact absurd h Bool.false_ne_true
        | cons _ _ => exact absurd h Bool.false_ne_true
      | cons _ _ => exact absurd h Bool.false_ne_true
    | _ => exact absurd h Bool.false_ne_true
  refine Pe.of (F := fun ρ => dicTS (evA gv cal es ρ).l) (fun _ => rfl) rfl (fun sc xs => rfl) (fun sc x h X g => ?_) (.inl fun sc x h env whole => ?_)
  · obtain ⟨rfl, p, rfl⟩ := inv h
    refine PE.imp pe_dnewT ?_
    rintro σ H Q ⟨G0, H0, ρ, G, sl, R, e, q⟩
    cases e
    intro a ha
    exact q _ G _ (Stp.own R.gh ha) ⟨a, [], rfl, upd_same, R.gh.free ha, ha, by simp only [RpT]⟩
  · obtain ⟨rfl, p, rfl⟩ := inv h
    rfl
/-- what stood empty meanwhile is filled -/
theorem stp_fill {G H G2 H2 : Hp} {p : Addr} {o o' : HO} (e : Same G H) (hp : H p = none) (st : Stp G (upd H p o) G2 H2) : G2 p = none ∧ Stp G H G2 (upd H2 p o') := by
  have gp : G2 p = none := by
    cases q : G2 p with
    | none => rfl
    | some u =>
      rcases st.new p u q with z | z
      · rw [e _ _ z] at hp; cases hp
      · rw [upd_same] at z; cases z
  refine ⟨gp, st.g, fun b u z => ?_, fun b u z => ?_, fun b u z => ?_⟩
  · have hb : b ≠ p := ne_of_none z hp
    rw [upd_ne hb]
    exact st.h _ _ (by rw [upd_ne hb]; exact z)
  · rw [upd_ne (ne_of_none z gp)]
    exact st.gh _ _ z
  · have hb : b ≠ p := ne_of_none z gp
    rcases st.new b u z with q | q
    · exact .inl q
    · rw [upd_ne hb] at q; exact .inr q
theorem Pe.dic1 {a b : E} (ha : Pe fn gn gv cal k N a) (hb : Pe fn gn gv cal k N b) : Pe fn gn gv cal k N (.dic1 a b) := by
  have inv : ∀ {sc x}, chk fn gn N (.dic1 a b) sc (.e x) = true → ∃ y z p, x = .Dict [some y] [z] p ∧ chk fn gn N a sc (.e y) = true ∧ chk fn gn N b sc (.e z) = true := by
    intro sc x h
    cases x with
    | Dict ks vs p =>
      cases ks with
      | nil => exact absurd h Bool.false_ne_true
      | cons y ks => cases y with
        | none => exact absurd h Bool.false_ne_true
        | some y => cases ks with
          | cons _ _ => exact absurd h Bool.false_ne_true
          | nil => cases vs with
            | nil => exact absurd h Bool.false_ne_true
            | cons z vs => cases vs with
              | cons _ _ => exact absurd h Bool.false_ne_true
              | nil =>
                replace h : (chk fn gn N a sc (.e y) && chk fn gn N b sc (.e z)) = true := h
                rw [Bool.and_eq_true] at h
                exact ⟨y, z, p, rfl, h.1, h.2⟩
    | _ => exact absurd h Bool.false_ne_true
  refine Pe.of (F := fun ρ => dic1S (dOf (evA gv cal a ρ).s) (dOf (evA gv cal b ρ).s)) (fun _ => rfl) rfl (fun sc xs => rfl) (fun sc x h X g => ?_) (.inl fun sc x h env whole => ?_)
  · obtain ⟨y, z, p, rfl, h1, h2⟩ := inv h
    refine PE.imp (pe_disp (pps_cons (toD (ha.s sc y h1 X g)) (toD (hb.s sc z h2 X g)) pps_nil) rfl rfl (by simp) (by simp)) ?_
    rintro σ H Q ⟨G0, H0, ρ, G, sl, R, e, q⟩
    intro c hc
    replace e : dic1S (dOf (evA gv cal a ρ).s) (dOf (evA gv cal b ρ).s) = some sl := e
    cases e1 : dOf (evA gv cal a ρ).s with
    | none => rw [e1] at e; cases e
    | some dk => cases e2 : dOf (evA gv cal b ρ).s with
      | none => rw [e1, e2] at e; cases e
      | some dv =>
        rw [e1, e2] at e
        obtain ⟨kk, ek, rfl⟩ := Option.map_eq_some_iff.mp (show (keyD dk).map (fun k => Slot.ok [(k, dv)]) = some sl from e)
        have st0 : Stp G H G (upd H c (.dK [])) := Stp.own R.gh hc
        refine ⟨G0, H0, ρ, G, dk, R.step st0, e1, fun vk G1 H1 st1 rk => ⟨G0, H0, ρ, G1, dv, (R.step st0).step st1, e2, fun vv G2 H2 st2 rv => ?_⟩⟩
        have evk : vk = kV kk := key_rp (rk.br st1.gh) ek
        obtain ⟨gp, st⟩ := stp_fill (o' := .dK [(kk, vv)]) R.gh hc (st1.trans st2)
        refine ⟨st2.h _ _ (st1.h _ _ upd_same), [(kk, vv)], by rw [evk]; rfl, by simp, ?_⟩
        refine q _ G2 _ st ⟨c, [(kk, vv)], rfl, upd_same, gp, hc, ?_⟩
        simp only [RpK]
        exact ⟨vv, [], rfl, ⟨key_good (H := H1) rk ek, rv⟩, rfl⟩
  · obtain ⟨y, z, p, rfl, _⟩ := inv h
    rfl
theorem isMeth2_some {m : Str} {x o a b : Expr} (h : isMeth2 m x = some (o, a, b)) : ∃ apos pos, x = .Call (.Attribute o m apos) [a, b] [] pos ∧ (apos.endLine == pos.line) = true := by
  unfold isMeth2 at h
  split at h
  · split at h
    · rename_i hc
      cases h
      obtain ⟨rfl, h2⟩ := hc
      exact ⟨_, _, rfl, h2⟩
    · cases h
  · cases h
theorem get_ok {K : PySem.W.Frag} {G H : Hp} {o i b d : D} {x y z : V} (sm : Same G H) (h : getD o i b = some d) (hx : BRp K G H o x) (hy : BRp K G H i y) (hz : Rp K G b z) : ∃ p r, x = .ref p ∧ DGet H p y r ∧ Rp K G d (r.getD z) := by
  cases o with
  | dK kvs =>
    obtain ⟨kk, ek, e2⟩ := Option.map_eq_some_iff.mp (show (keyD i).map (fun k => (dGet kvs k).getD b) = some d from h)
    obtain ⟨p, vs, rfl, h1, h2⟩ := hx
    have ey := key_rp hy ek
    subst ey
    refine ⟨p, valV vs kk, rfl, .inl ⟨vs, kk, h1, rfl, rfl⟩, ?_⟩
    rcases rpK_get kk h2 with ⟨d', v', q1, q2, q3⟩ | ⟨q1, q2⟩
    · rw [q1] at e2; rw [q2]; cases e2; exact q3
    · rw [q1] at e2; rw [q2]; cases e2; exact hz
  | dT kvs =>
    obtain ⟨kk, ek, e2⟩ := Option.map_eq_some_iff.mp (show (keyT i).map (fun k => (dGet kvs k).getD b) = some d from h)
    obtain ⟨p, vs, rfl, h1, h2⟩ := hx
    obtain ⟨q, rfl, hq⟩ := keyT_rp hy sm ek
    refine ⟨p, valV vs kk, rfl, .inr ⟨vs, kk, q, h1, rfl, hq, rfl⟩, ?_⟩
    rcases rpT_get kk h2 with ⟨d', v', q1, q2, q3⟩ | ⟨q1, q2⟩
    · rw [q1] at e2; rw [q2]; cases e2; exact q3
    · rw [q1] at e2; rw [q2]; cases e2; exact hz
  | _ => cases h
theorem dic_isD {K : PySem.W.Frag} {G H : Hp} {o i b d : D} {x : V} (h : getD o i b = some d) (hx : BRp K G H o x) : ∃ p, x = .ref p ∧ IsD H p := by
  cases o with
  | dK kvs => obtain ⟨p, vs, rfl, h1, h2⟩ := hx; exact ⟨p, rfl, .inl ⟨vs, h1⟩⟩
  | dT kvs => obtain ⟨p, vs, rfl, h1, h2⟩ := hx; exact ⟨p, rfl, .inr ⟨vs, h1⟩⟩
  | _ => cases h
theorem Pe.get {o a b : E} (ho : Pe fn gn gv cal k N o) (ha : Pe fn gn gv cal k N a) (hb : Pe fn gn gv cal k N b) : Pe fn gn gv cal k N (.get o a b) := by
  have inv : ∀ {sc x}, chk fn gn N (.get o a b) sc (.e x) = true → ∃ apos pos y z t, x = .Call (.Attribute y "get" apos) [z, t] [] pos ∧ (apos.endLine == pos.line) = true ∧ noCall0 y = true ∧ chk fn gn N o sc (.e y) = true ∧ chk fn gn N a sc (.e z) = true ∧ chk fn gn N b sc (.e t) = true := by
    intro sc x h
    replace h : (match isMeth2 "get" x with | some (y, z, t) => noCall0 y && chk fn gn N o sc (.e y) && chk fn gn N a sc (.e z) && chk fn gn N b sc (.e t) | none => false) = true := h
    split at h
    · rename_i y z t hy
      obtain ⟨apos, pos, rfl, h2⟩ := isMeth2_some hy
      simp only [Bool.and_eq_true] at h
      exact ⟨apos, pos, y, z, t, rfl, h2, h.1.1.1, h.1.1.2, h.1.2, h.2⟩
    · cases h
  refine Pe.of (F := fun ρ => getS (evA gv cal o ρ).b (evA gv cal a ρ).b (dOf (evA gv cal b ρ).s)) (fun _ => rfl) rfl (fun sc xs => rfl) (fun sc x h X g => ?_) (.inl fun sc x h env whole => ?_)
  · obtain ⟨apos, pos, y, z, t, rfl, h1, h2, h3, h4, h5⟩ := inv h
    have hs : starEach [z, t] X.env = [(false, eval z X.env), (false, eval t X.env)] := by
      rw [star_of (chk_star h4) [t] X.env, star_of (chk_star h5) [] X.env]
      rfl
    refine PE.imp (pe_dget2 g.hu1 (ho.b sc y h3 X g) (ha.b sc z h4 X g) (toD (hb.s sc t h5 X g)) ⟨noCall0_base h2 _ _, by rw [hs]; rfl, h1, by rw [hs]; rfl⟩) ?_
    rintro σ H Q ⟨G0, H0, ρ, G, sl, R, e, q⟩
    replace e : getS (evA gv cal o ρ).b (evA gv cal a ρ).b (dOf (evA gv cal b ρ).s) = some sl := e
    cases e1 : (evA gv cal o ρ).b with
    | none => rw [e1] at e; cases e
    | some d1 => cases e2 : (evA gv cal a ρ).b with
      | none => rw [e1, e2] at e; cases e
      | some d2 => cases e3 : dOf (evA gv cal b ρ).s with
        | none => rw [e1, e2, e3] at e; cases e
        | some d3 =>
          rw [e1, e2, e3] at e
          obtain ⟨d, ed, rfl⟩ := Option.map_eq_some_iff.mp (show (getD d1 d2 d3).map Slot.sh = some sl from e)
          refine ⟨G0, H0, ρ, G, d1, R, e1, fun vo G1 H1 st1 b1 => ?_⟩
          obtain ⟨p, rfl, hp⟩ := dic_isD ed b1
          refine ⟨p, rfl, hp, G0, H0, ρ, G1, d2, R.step st1, e2, fun va G2 H2 st2 b2 => ⟨G0, H0, ρ, G2, d3, (R.step st1).step st2, e3, fun vb G3 H3 st3 b3 => ?_⟩⟩
          obtain ⟨p', r, ep, hg, hr⟩ := get_ok st3.gh ed ((b1.step st2).step st3) (b2.step st3) b3
          cases ep
          refine ⟨r, hg, q _ G3 H3 ((st1.trans st2).trans st3) ?_⟩
          simp only [SlRp]
          exact hr
  · obtain ⟨apos, pos, y, z, t, rfl, _⟩ := inv h
    rfl
end
end LJ
/-! LJdicT: {t: v}, t a tuple. -/
namespace LJ
open PySem PySem.Spec PyProof.Rows L2
def tDisT (tk tv : TE) : TE := fun σ H Q => ∀ p, H p = none → tk σ (upd H p (.dT [])) fun x H1 => tv σ H1 fun y H2 => H2 p = some (.dT []) ∧ ∃ (kk : List Key) (b : Addr), x = .ref b ∧ H2 b = some (.tup (kk.map kV)) ∧ Q (.ref p) (upd H2 p (.dT [(kk, y)]))
theorem pe_dispT {X : Cx} {pos : Pos} {k v : Expr} {tk tv : TE} (hu : X.A.units + 1 < cLine) (hk : PE X k tk) (hv : PE X v tv) : PE X (.Dict [some k] [v] pos) (tDisT tk tv) := by
  refine ⟨fun pins s σ H Q I q => ?_⟩
  have hn := I.hok.fresh (Nat.le_refl s.heap.objs.size)
  have I1 := I.laid (a := s.heap.objs.size) (o := .dT []) (h' := s.heap.push { cls := .type "dict", data := .dict #[] }) (t' := s.toks) (fun _ _ q => Heap.get?_push_of_some _ q) (Nat.le_refl _) (dt_empty s.heap I.big)
  rw [arm_eval_Dict, zip_pairTrees [some k] [v] X.env pos rfl rfl, dictDisplay_pairs _ (by simp [pairTrees]) (by simp [pairTrees])]
  refine wpAny_bind (wpAny_standAt (wpAny_bind ?_))
  unfold subDict
  refine wpAny_bind (wpAny_alloc (wpAny_bind (wpAny_holding ?_)))
  rw [if_pos (by simp [pairTrees])]
  refine wpAny_bind (pairTrees_cons_walk (thn (hk.run pins _ σ _ _ I1 (q _ hn)) fun u s1 ⟨x, H1, I2, rx, q1⟩ => thn (hv.run pins s1 σ H1 _ I2 q1) fun w2 s2 ⟨y, H2, I3, ry, e, kk, b, ex, eb, q2⟩ => pairTrees_nil_walk ?_))
  subst ex
  cases (show u = Value.ref b from rx)
  obtain ⟨z, hd, xs, rel, dd⟩ := dt_of I3.hok e
  have hl : (putK ([] : List (List Key × V)) kk y).length ≤ sizeLine := by have := length_putK ([] : List (List Key × V)) kk y; rw [List.length_nil] at this; rw [sizeLine_eq]; omega
  have hxs : xs.length ≤ sizeLine := by rw [← Paired.length rel]; exact z
  refine wpAny_holding ?_
  rw [List.forIn_cons]
  refine wpAny_bind (wpAny_bind (wpAny_bind (wpAny_dictSet_heap (hsz := hxs) (show (tupleKind (mixKind X.prog X.w)).room X.A from Nat.lt_of_succ_lt hu) (key_of I3.hok eb) dd fun h' dd' hs => wpAny_pure ?_)))
  dsimp only
  rw [List.forIn_nil]
  refine wpAny_pure (wpAny_pure (wpAny_pure (wpAny_pure ?_)))
  obtain ⟨o, es, ep, hq, h2, h3, h4, _, h5⟩ := dd'
  refine ⟨.ref s.heap.objs.size, upd H2 s.heap.objs.size (.dT [(kk, y)]), d_write I3 (by rw [e]; exact True.intro) hs ⟨o, hq⟩ ⟨hl, hd, _, (rel.put kk eb ry).keeps fun c ys ec => ?_, o, es, ep, hq, h2, h3, h4, h5⟩, rfl, q2⟩
  rw [upd_ne (ne_of ec e (fun z => nomatch z))]
  exact ec
theorem keysD_good0 {K : PySem.W.Frag} {G : Hp} : ∀ {ds : List D} {ks : List Key} {vs : List V}, RpL K G ds vs → keysD ds = some ks → ∀ j ∈ ks, KeyG j
  | [], _, _, _, e => by cases e; intro j hj; cases hj
  | d :: ds, ks, vs, h, e => by
    simp only [RpL] at h
    obtain ⟨x, r, rfl, h1, h2⟩ := h
    unfold keysD at e
    split at e
    · rename_i k0 ks0 e1 e2
      cases e
      intro j hj
      rcases List.mem_cons.mp hj with rfl | hj
      · exact key_good (H := G) h1 e1
      · exact keysD_good0 h2 e2 j hj
    · cases e
theorem keyT_good0 {K : PySem.W.Frag} {G : Hp} {d : D} {kk : List Key} {v : V} (h : Rp K G d v) (e : keyT d = some kk) : ∀ j ∈ kk, KeyG j := by
  cases d with
  | tup ds =>
    simp only [Rp] at h
    obtain ⟨a, vs, rfl, _, h2⟩ := h
    exact keysD_good0 h2 e
  | _ => cases e
section
variable {fn gn : Nat → Str} {gv : Nat → Option D} {cal : Nat → List D → Option Slot} {k : Nat} {N : List Str}
theorem Pe.dic1T {a b : E} (ha : Pe fn gn gv cal k N a) (hb : Pe fn gn gv cal k N b) : Pe fn gn gv cal k N (.dic1T a b) := by
  have inv : ∀ {sc x}, chk fn gn N (.dic1T a b) sc (.e x) = true → ∃ y z p, x = .Dict [some y] [z] p ∧ chk fn gn N a sc (.e y) = true ∧ chk fn gn N b sc (.e z) = true := by
    intro sc x h
    cases x with
    | Dict ks vs p =>
      cases ks with
      | nil => exact absurd h Bool.false_ne_true
      | cons y ks => cases y with
        | none => exact absurd h Bool.false_ne_true
        | some y => cases ks with
          | cons _ _ => exact absurd h Bool.false_ne_true
          | nil => cases vs with
            | nil => exact absurd h Bool.false_ne_true
            | cons z vs => cases vs with
              | cons _ _ => exact absurd h Bool.false_ne_true
              | nil =>
                replace h : (chk fn gn N a sc (.e y) && chk fn gn N b sc (.e z)) = true := h
                rw [Bool.and_eq_true] at h
                exact ⟨y, z, p, rfl, h.1, h.2⟩
    | _ => exact absurd h Bool.false_ne_true
  refine Pe.of (F := fun ρ => dic1TS (dOf (evA gv cal a ρ).s) (dOf (evA gv cal b ρ).s)) (fun _ => rfl) rfl (fun sc xs => rfl) (fun sc x h X g => ?_) (.inl fun sc x h env whole => ?_)
  · obtain ⟨y, z, p, rfl, h1, h2⟩ := inv h
    refine PE.imp (pe_dispT g.hu1 (toD (ha.s sc y h1 X g)) (toD (hb.s sc z h2 X g))) ?_
    rintro σ H Q ⟨G0, H0, ρ, G, sl, R, e, q⟩
    intro c hc
    replace e : dic1TS (dOf (evA gv cal a ρ).s) (dOf (evA gv cal b ρ).s) = some sl := e
    cases e1 : dOf (evA gv cal a ρ).s with
    | none => rw [e1] at e; cases e
    | some dk => cases e2 : dOf (evA gv cal b ρ).s with
      | none => rw [e1, e2] at e; cases e
      | some dv =>
        rw [e1, e2] at e
        obtain ⟨kk, ek, rfl⟩ := Option.map_eq_some_iff.mp (show (keyT dk).map (fun k => Slot.ot [(k, dv)]) = some sl from e)
        have st0 : Stp G H G (upd H c (.dT [])) := Stp.own R.gh hc
        refine ⟨G0, H0, ρ, G, dk, R.step st0, e1, fun vk G1 H1 st1 rk => ⟨G0, H0, ρ, G1, dv, (R.step st0).step st1, e2, fun vv G2 H2 st2 rv => ?_⟩⟩
        obtain ⟨b0, rfl, hb0⟩ := keyT_rp (rk.br st1.gh) st1.gh ek
        obtain ⟨gp, st⟩ := stp_fill (o' := .dT [(kk, vv)]) R.gh hc (st1.trans st2)
        refine ⟨st2.h _ _ (st1.h _ _ upd_same), kk, b0, rfl, st2.h _ _ hb0, ?_⟩
        refine q _ G2 _ st ⟨c, [(kk, vv)], rfl, upd_same, gp, hc, ?_⟩
        simp only [RpT]
        exact ⟨vv, [], rfl, ⟨keyT_good0 rk ek, rv⟩, rfl⟩
  · obtain ⟨y, z, p, rfl, _⟩ := inv h
    rfl
end
end LJ
/-! LJidx: xs.index(i). -/
namespace LJ
open PySem PySem.Spec PyProof.Rows L2
section
variable {fn gn : Nat → Str} {gv : Nat → Option D} {cal : Nat → List D → Option Slot} {k : Nat} {N : List Str}
theorem findIx_some {α : Type} {p : α → Bool} : ∀ {xs : List α} {j : Nat}, findIx p xs = some j → (∃ z, xs[j]? = some z ∧ p z = true) ∧ ∀ (m : Nat) (z : α), m < j → xs[m]? = some z → p z = false
  | [], _, h => by cases h
  | x :: xs, j, h => by
    unfold findIx at h
    split at h
    · rename_i hp
      cases h
      exact ⟨⟨x, rfl, hp⟩, fun m z hm => absurd hm (Nat.not_lt_zero m)⟩
    · rename_i hp
      obtain ⟨i, e, rfl⟩ := Option.map_eq_some_iff.mp h
      obtain ⟨h1, h2⟩ := findIx_some e
      refine ⟨by rw [List.getElem?_cons_succ]; exact h1, fun m z hm e2 => ?_⟩
      cases m with
      | zero =>
        cases e2
        cases q : p x with
        | false => rfl
        | true => exact absurd q hp
      | succ m => exact h2 m z (by omega) (by rw [List.getElem?_cons_succ] at e2; exact e2)
theorem flat_ints (ns : List Int) : (ns.map V.int).all flatV = true := by
  rw [List.all_map, List.all_eq_true]
  intro _ _
  rfl
theorem Pe.index {o a : E} (ho : Pe fn gn gv cal k N o) (ha : Pe fn gn gv cal k N a) : Pe fn gn gv cal k N (.index o a) := by
  have inv : ∀ {sc x}, chk fn gn N (.index o a) sc (.e x) = true → ∃ apos pos y z, x = .Call (.Attribute y "index" apos) [z] [] pos ∧ (apos.endLine == pos.line) = true ∧ noCall0 y = true ∧ chk fn gn N o sc (.e y) = true ∧ chk fn gn N a sc (.e z) = true := by
    intro sc x h
    replace h : (match isMeth1 "index" x with | some (y, z) => noCall0 y && chk fn gn N o sc (.e y) && chk fn gn N a sc (.e z) | none => false) = true := h
    split at h
    · rename_i y z hy
      obtain ⟨apos, pos, rfl, h2⟩ := isMeth1_some hy
      simp only [Bool.and_eq_true] at h
      exact ⟨apos, pos, y, z, rfl, h2, h.1.1, h.1.2, h.2⟩
    · cases h
  refine Pe.of (F := fun ρ => two (evA gv cal o ρ).b (evA gv cal a ρ).b indexD) (fun _ => rfl) rfl (fun sc xs => rfl) (fun sc x h X g => ?_) (.inl fun sc x h env whole => ?_)
  · obtain ⟨apos, pos, y, z, rfl, h1, h2, h3, h4⟩ := inv h
    have hs := star_of (chk_star h4) [] X.env
    refine PE.imp (pe_bm PySem.F.plainAttrs_list PySem.F.slot_list_index PySem.F.type_list_index mt_index (ho.b sc y h3 X g) (pa_cons (ha.b sc z h4 X g) pa_nil hs) (noCall0_base h2 _ _) (by rw [hs]; rfl) h1 hs (by rfl)) ?_
    rintro σ H Q ⟨G0, H0, ρ, G, sl, R, e, q⟩
    obtain ⟨dz, da, eo, ea, ef⟩ := two_some e
    cases dz with
    | lst ds =>
      cases da with
      | int i =>
        obtain ⟨ns, e1, e2⟩ := Option.bind_eq_some_iff.mp (show (intsD ds).bind (fun ns => (findIx (fun z => decide (z = i)) ns).map fun (j : Nat) => Slot.sh (.int (j : Int))) = some sl from ef)
        obtain ⟨j, e3, rfl⟩ := Option.map_eq_some_iff.mp e2
        obtain ⟨⟨w, e4, e5⟩, e6⟩ := findIx_some e3
        have e5 := of_decide_eq_true e5
        subst e5
        refine ⟨G0, H0, ρ, G, _, R, eo, fun vo G1 H1 st1 b1 => ?_⟩
        obtain ⟨b, vs, rfl, h5, h6⟩ := b1
        rw [intsD_eq e1] at h6
        rw [h6.ints] at h5
        refine ⟨.inl ⟨rfl, _, .inl (.inl h5)⟩, G0, H0, ρ, G1, _, R.step st1, ea, fun va G2 H2 st2 b2 => ?_⟩
        rw [br_int b2]
        refine ⟨b, ns.map V.int, .int w, j, .int w, rfl, rfl, .inl (.inl (st2.h _ _ h5)), rfl, flat_ints ns, by rw [List.getElem?_map, e4]; rfl, ?_, fun m z' hm hz => ?_, q _ G2 H2 (st1.trans st2) slInt⟩
        · show (decide _) = true
          exact decide_eq_true rfl
        · rw [List.getElem?_map] at hz
          obtain ⟨u, hu, rfl⟩ := Option.map_eq_some_iff.mp hz
          have := e6 m u hm hu
          have := of_decide_eq_false this
          exact decide_eq_false this
      | _ => cases ef
    | _ => cases da <;> cases ef
  · obtain ⟨apos, pos, y, z, rfl, _⟩ := inv h
    rfl
end
end LJ
/-! LJo: every expression that the look lets pass is what it says. -/
namespace LJ
open PySem PySem.Spec PyProof.Rows L2
section
variable {fn gn : Nat → Str} {gv : Nat → Option D} {cal : Nat → List D → Option Slot} {k : Nat} {N : List Str}
theorem isMeth0_some {m : Str} {x o : Expr} (h : isMeth0 m x = some o) : ∃ apos pos, x = .Call (.Attribute o m apos) [] [] pos ∧ (apos.endLine == pos.line) = true := by
  unfold isMeth0 at h
  split at h
  · split at h
    · rename_i hc
      cases h
      obtain ⟨rfl, h2⟩ := hc
      exact ⟨_, _, rfl, h2⟩
    · cases h
  · cases h
theorem Pe.items {a : E} (ha : Pe fn gn gv cal k N a) : Pe fn gn gv cal k N (.items a) := by
  have inv : ∀ {sc x}, chk fn gn N (.items a) sc (.e x) = true → ∃ apos pos y, x = .Call (.Attribute y "items" apos) [] [] pos ∧ (apos.endLine == pos.line) = true ∧ noCall0 y = true ∧ chk fn gn N a sc (.e y) = true := by
    intro sc x h
    replace h : (match isMeth0 "items" x with | some y => noCall0 y && chk fn gn N a sc (.e y) | none => false) = true := h
    split at h
    · rename_i y hy
      obtain ⟨apos, pos, rfl, h2⟩ := isMeth0_some hy
      rw [Bool.and_eq_true] at h
      exact ⟨apos, pos, y, rfl, h2, h.1, h.2⟩
    · cases h
  refine Pe.ofIt (F := fun ρ => itemsS (dOf (evA gv cal a ρ).s)) (fun _ => rfl) (fun sc xs => rfl) (fun kp ok sc x h X g tg nt => ?_) (fun sc x h => ?_)
  · obtain ⟨apos, pos, y, rfl, h1, h2, h3⟩ := inv h
    obtain ⟨es, kk, tp, rfl⟩ := isTupX_some (nt rfl)
    refine PI.imp (pi_items (toD (ha.s sc y h3 X g)) (noCall0_base h2 _ _) h1) ?_
    rintro σ H R ⟨G0, H0, ρ, G, ds, r, e, q⟩
    replace e : itemsS (dOf (evA gv cal a ρ).s) = some ds := e
    cases ed : dOf (evA gv cal a ρ).s with
    | none => rw [ed] at e; cases e
    | some d =>
      rw [ed] at e
      cases d with
      | dK kvs =>
        cases e
        refine ⟨G0, H0, ρ, G, _, r, ed, fun v G1 H1 st1 b1 => ?_⟩
        simp only [Rp] at b1
        obtain ⟨c, o, vs, rfl, p1, p2⟩ := b1
        refine ⟨c, o, vs, rfl, st1.gh _ _ p1, q _ G1 H1 st1 (wk_items (vs := vs) fun G3 H3 hk => ?_)⟩
        obtain ⟨k1, k2⟩ := ok _ _ _ _ hk
        exact ⟨k2, k2 _ _ (k1 _ _ p1), RpK.mono k1 _ p2⟩
      | _ => cases e
  · obtain ⟨apos, pos, y, rfl, _⟩ := inv h
    exact ⟨_, _, _, rfl⟩
theorem Pe.no {e : E} {F : En → Option Slot} (hF : ∀ ρ, evA gv cal e ρ = W.of (F ρ)) (h : ∀ sc p, chk fn gn N e sc p = false) : Pe fn gn gv cal k N e where
  s := fun sc x hh => by rw [h] at hh; cases hh
  b := fun sc x hh => by rw [h] at hh; cases hh
  t := fun sc x hh => by rw [h] at hh; cases hh
  iC := fun sc x hh => by rw [h] at hh; cases hh
  iS := fun sc x hh => by rw [h] at hh; cases hh
  w := fun sc op vs p hh => by rw [h] at hh; cases hh
  l := fun sc xs hh => by rw [h] at hh; cases hh
  p := fun sc x hh => by rw [h] at hh; cases hh
  c := fun sc x hh => by rw [h] at hh; cases hh
  sb := fun ρ sl hh => by
    rw [hF] at hh ⊢
    exact sb_of hh
theorem Pe.all : ∀ e : E, Pe fn gn gv cal k N e := by
  intro e
  induction e with
  | var i => exact Pe.var
  | cI i => exact Pe.cI
  | cS x => exact Pe.cS
  | cB b => exact Pe.cB
  | cN => exact Pe.cN
  | neg i => exact Pe.neg
  | glb g => exact Pe.glb
  | bin op a b ha hb => exact Pe.bin ha hb
  | cmp op a b ha hb => exact Pe.cmp ha hb
  | chain op op' a b c ha hb hc => exact Pe.chain ha hb hc
  | and_ a b ha hb => exact Pe.and_ ha hb
  | or_ a b ha hb => exact Pe.or_ ha hb
  | not_ a ha => exact Pe.not_ ha
  | ite c a b hc ha hb => exact Pe.ite hc ha hb
  | idx a i ha hi => exact Pe.idx ha hi
  | slc a lo hi ha hl hh => exact Pe.slc ha hl hh
  | rev a ha => exact Pe.rev ha
  | call f args ha => exact Pe.call ha
  | glist f args ha => exact Pe.glist ha
  | bi1 f a ha => exact Pe.bi1 ha
  | biR f b hb => exact Pe.biR hb
  | max2 a b ha hb => exact Pe.max2 ha hb
  | isi a t ha => exact Pe.isi ha
  | isi2 a t t' ha => exact Pe.isi2 ha
  | sset a ha => exact Pe.sset ha
  | lset a ha => exact Pe.no (fun _ => rfl) fun sc p => by cases p <;> rfl
  | join o a ho ha => exact Pe.join ho ha
  | index o a ho ha => exact Pe.index ho ha
  | get o a b ho ha hb => exact Pe.get ho ha hb
  | split o a ho ha => exact Pe.no (fun _ => rfl) fun sc p => by cases p <;> rfl
  | tupE es he => exact Pe.tupE he
  | lstE es he => exact Pe.lstE he
  | dicK es he => exact Pe.dicK
  | dicT es he => exact Pe.dicT
  | dic1 a b ha hb => exact Pe.dic1 ha hb
  | dic1T a b ha hb => exact Pe.dic1T ha hb
  | lc own elt tg it cond he hi hc => exact Pe.lc he hi hc
  | rng1 a ha => exact Pe.rng1 ha
  | rng2 a b ha hb => exact Pe.rng2 ha hb
  | enum a ha => exact Pe.enum ha
  | zip a b ha hb => exact Pe.zip ha hb
  | items a ha => exact Pe.items ha
  | nil => exact Pe.nil
  | cons a r ha hr => exact Pe.cons ha hr
end
def swT (targets : List Expr) (value : Expr) : Option (List Expr × List Expr) := match targets, value with
    | [.Tuple ts _ _], .Tuple vs _ _ | [.List ts _], .Tuple vs _ _ => some (ts, vs)
    | _, _ => none
def swStar (vs : List Expr) : Bool := vs.any fun | .Starred .. => true | _ => false
def swNames (kindOf : Str → Option NameKind) (ts : List Expr) : List Str := ts.filterMap fun
    | .Name id pos => if kindOf id == some .local && pos.line == (ts.head?.map (·.pos.line)).getD 0 then some id else none
    | _ => none
/-- the stores that are exchanged (none: not known) -/
def swP (kindOf : Str → Option NameKind) (targets : List Expr) (value : Expr) : Option (Option (List Str)) :=
  match swT targets value with
  | none => some none
  | some (ts, vs) =>
    if !(ts.length == 2 || ts.length == 3) || vs.length != ts.length then some none else
    if swStar vs then some none else
    if (swNames kindOf ts).length != ts.length || (swNames kindOf ts).eraseDups.length != (swNames kindOf ts).length then some none else
    if vs.all (foldedForSure 8) then some none else
    if vs.all (constantsAlone 8) then none else some (some (swNames kindOf ts))
theorem swP_ok {targets : List Expr} {value : Expr} {env : PySem.Env} {r : Option (List Str)} (hb : env.blockKind = .function) (h : swP env.kindOf targets value = some r) : swappedStores targets value env = pure r := by
  unfold swP at h
  unfold swappedStores
  show (match swT targets value with
    | some (ts, vs) => _
    | _ => pure none) = pure r
  cases e : swT targets value with
  | none => rw [e] at h; cases h; rfl
  | some p =>
    obtain ⟨ts, vs⟩ := p
    rw [e] at h
    simp only [hb, bne_self_eq_false, Bool.or_false] at h ⊢
    split at h
    · rename_i c; cases h; rw [if_pos c]
    · rename_i c
      rw [if_neg c]
      split at h
      · rename_i c2; cases h; exact if_pos c2
      · rename_i c2
        refine (if_neg c2).trans ?_
        split at h
        · rename_i c3; cases h; exact if_pos c3
        · rename_i c3
          refine (if_neg c3).trans ?_
          split at h
          · rename_i c4; cases h; exact if_pos c4
          · rename_i c4
            refine (if_neg c4).trans ?_
            split at h
            · cases h
            · rename_i c5
              cases h
              exact if_neg c5
end LJ
/-! LJp: statements. -/
namespace LJ
open PySem PySem.Spec PyProof.Rows L2

inductive Sx where
  | s (st : Stmt) | l (sts : List Stmt)
def isPub : S → Bool
  | .pub _ => true
  | _ => false
def consB (sts : List Stmt) (f : Stmt → List Stmt → Bool) : Bool := match sts with
  | st :: r => f st r
  | [] => false
def isComp : Expr → Bool
  | .ListComp _ _ _ _ => true
  | .SetComp _ _ _ _ => true
  | .DictComp _ _ _ _ _ => true
  | _ => false
def isDisp : Expr → Bool
  | .Tuple _ _ _ => true
  | .List _ _ => true
  | _ => false
def isAdd : Operator → Bool
  | .Add => true
  | _ => false
def isBAdd : BOp → Bool
  | .add => true
  | _ => false
def lclB (sc : Scope) (x : Str) : Bool := match sc.names.lookup x with
  | some .local => true
  | _ => false
theorem lclB_ok {sc : Scope} {x : Str} (h : lclB sc x = true) : sc.names.lookup x = some .local := by
  unfold lclB at h
  split at h
  · assumption
  · cases h
def nmX : Expr → Str
  | .Name n _ => n
  | _ => Str.empty
/-- how a tuple display is stored: exchanged (two or three locals), or as a tuple of shared things -/
def parB (is : List Nat) (own : List Bool) (ts : List Expr) : Option (Option (List Str)) → Bool
  | some none => own.all (!·) && decide (own.length = is.length) && decide (is.length ≤ 1000)
  | some (some ns) => decide (is.Nodup) && decide (ns = ts.map nmX) && (decide (is.length = 2) || decide (is.length = 3)) && decide (own.length = is.length)
  | none => false
section
variable (fn gn : Nat → Str) (N : List Str) (sc : Scope)
def chkS : S → Sx → Bool
  | .skip, .l [] => true
  | .pass, .s (.Pass _) => true
  | .seq a b, .l sts => if isPub a then chkS b (.l sts) else consB sts fun st r => chkS a (.s st) && chkS b (.l r)
  | .asg i _ e, .s (.Assign [.Name n _] x _) => decide (N[i]? = some n) && locB sc n && chk fn gn N e sc (.e x)
  | .asgT is e, .s (.Assign [t] x _) => tgB N sc (.many is) t && !isDisp x && !isComp x && chk fn gn N e sc (.e x)
  | .par is own es, .s (.Assign [.Tuple ts kt pt] (.Tuple xs k2 pt2) _) => tgB N sc (.many is) (.Tuple ts kt pt) && chk fn gn N es sc (.l xs) && parB is own ts (swP (fun id => sc.names.lookup id) [.Tuple ts kt pt] (.Tuple xs k2 pt2))
  | .aug i op e, .s (.AugAssign (.Name n _) o x _) => decide (N[i]? = some n) && locB sc n && isBAdd op && isAdd o && chk fn gn N e sc (.e x)
  | .put i kk e, .s (.Assign [.Subscript (.Name n p) kx _] x _) => chk fn gn N (.var i) sc (.e (.Name n p)) && plainIx kx && chk fn gn N kk sc (.e kx) && chk fn gn N e sc (.e x)
  | .app i e, .s (.Expr (.Call (.Attribute (.Name n p) m apos) [x] [] cpos) _) => decide (m = "append") && (apos.endLine == cpos.line) && chk fn gn N (.var i) sc (.e (.Name n p)) && chk fn gn N e sc (.e x)
  | .expr e, .s (.Expr x _) => !isComp x && chk fn gn N e sc (.e x)
  | .ite c a b, .s (.If x y z _) => chk fn gn N c sc (.e x) && chkS a (.l y) && chkS b (.l z)
  | .for_ tg it body, .s (.For t x b [] _) => notSet x && chk fn gn N it sc (.e x) && tgB N sc tg t && (!needTup it || isTupX t) && chkS body (.l b)
  | .while_ _ c body, .s (.While x b [] _) => chk fn gn N c sc (.e x) && chkS body (.l b)
  | .ret e, .s (.Return (some x) _) => chk fn gn N e sc (.e x)
  | .retV i, .s (.Return (some x) _) => chk fn gn N (.var i) sc (.e x)
  | .retN, .s (.Return none _) => true
  | .brk, .s (.Break _) => true
  | _, _ => false
end

section
variable (K : PySem.W.Frag)
def OutOk (G0 H0 G : Hp) (D : Ends) : Out → Prop
  | .next ρ' => ∀ σ' G' H', Same G G' → SR K G0 H0 ρ' σ' G' H' → D.nx σ' H'
  | .brk ρ' => ∀ σ' G' H', Same G G' → SR K G0 H0 ρ' σ' G' H' → D.bk σ' H'
  | .ret sl => ∀ v G' H', Stp G0 H0 G' H' → SlRp K G' H' H0 sl v → D.rt v H'
def tS (F : En → Option Out) : TS := fun D σ H => ∃ G0 H0 ρ G out, SR K G0 H0 ρ σ G H ∧ F ρ = some out ∧ OutOk K G0 H0 G D out
end
section
variable {K : PySem.W.Frag} {G0 H0 G H : Hp} {ρ : En} {σ : L2.St}
theorem SR.stp (r : SR K G0 H0 ρ σ G H) : Stp G0 H0 G H := ⟨r.g0, r.h0, r.gh, r.new⟩
theorem OutOk.le {D : Ends} {o : Out} {G' : Hp} (h : OutOk K G0 H0 G D o) (e : Same G G') : OutOk K G0 H0 G' D o := by
  cases o with
  | next ρ' => exact fun σ' G1 H1 s r => h σ' G1 H1 (e.trans s) r
  | brk ρ' => exact fun σ' G1 H1 s r => h σ' G1 H1 (e.trans s) r
  | ret sl => exact h
/-- a slot stored: a fresh own thing, or shared -/
theorem SR.set_sl {i : Nat} {sl : Slot} {v : V} {G1 H1 : Hp} (r : SR K G0 H0 ρ σ G H) (st : Stp G H G1 H1) (h : SlRp K G1 H1 H sl v) : SR K G0 H0 (ρ.set i (some sl)) (σ.set i (some v)) G1 H1 := by
  have r1 := r.step st
  cases sl with
  | sh d => exact r1.set_sh h
  | ol xs =>
    refine r1.set_own (h.old r.h0) fun j t _ e o q => ?_
    obtain ⟨a, vs, rfl, h1, h2, h3, h4⟩ := h
    exact r.own_ne e o h3 q
  | ok xs =>
    refine r1.set_own (h.old r.h0) fun j t _ e o q => ?_
    obtain ⟨a, vs, rfl, h1, h2, h3, h4⟩ := h
    exact r.own_ne e o h3 q
  | ot xs =>
    refine r1.set_own (h.old r.h0) fun j t _ e o q => ?_
    obtain ⟨a, vs, rfl, h1, h2, h3, h4⟩ := h
    exact r.own_ne e o h3 q
/-- an own thing is changed -/
theorem SR.mut {i : Nat} {sl sl' : Slot} {a : Addr} {o : HO} (r : SR K G0 H0 ρ σ G H) (e : ρ[i]? = some (some sl)) (ow : sl.isOwn = true) (ea : σ[i]? = some (some (.ref a))) (ga : G a = none) (ha : H0 a = none)
    (h : SlRp K G (upd H a o) H0 sl' (.ref a)) (ow' : sl'.isOwn = true) : SR K G0 H0 (ρ.set i (some sl')) σ G (upd H a o) := by
  have hi : i < ρ.length := (List.getElem?_eq_some_iff.mp e).1
  refine ⟨by rw [List.length_set]; exact r.len, fun b u z => ?_, r.g0, fun b u z => ?_, r.new, fun j s z => ?_, fun j l s t v e1 e2 o1 o2 q1 q2 => ?_⟩
  · rw [upd_ne (ne_of_none z ga)]; exact r.gh _ _ z
  · rw [upd_ne (ne_of_none z ha)]; exact r.h0 _ _ z
  · by_cases hj : i = j
    · subst hj
      rw [List.getElem?_set_self hi] at z
      cases z
      exact ⟨.ref a, ea, h⟩
    · rw [List.getElem?_set_ne hj] at z
      obtain ⟨v, e1, e2⟩ := r.slot j s z
      refine ⟨v, e1, ?_⟩
      have ne : ∀ b, v = .ref b → s.isOwn = true → b ≠ a := fun b eb os z' => by
        subst eb z'
        exact hj (r.sep i j sl s _ e z ow os ea e1)
      cases s with
      | sh d => exact e2
      | ol xs => obtain ⟨b, vs, rfl, h1, h2⟩ := e2; exact ⟨b, vs, rfl, by rw [upd_ne (ne b rfl rfl)]; exact h1, h2⟩
      | ok xs => obtain ⟨b, vs, rfl, h1, h2⟩ := e2; exact ⟨b, vs, rfl, by rw [upd_ne (ne b rfl rfl)]; exact h1, h2⟩
      | ot xs => obtain ⟨b, vs, rfl, h1, h2⟩ := e2; exact ⟨b, vs, rfl, by rw [upd_ne (ne b rfl rfl)]; exact h1, h2⟩
  · have back : ∀ (m : Nat) (u : Slot), (ρ.set i (some sl'))[m]? = some (some u) → u.isOwn = true → ∃ u', ρ[m]? = some (some u') ∧ u'.isOwn = true := fun m u z ou => by
      by_cases hm : i = m
      · subst hm; exact ⟨sl, e, ow⟩
      · rw [List.getElem?_set_ne hm] at z; exact ⟨u, z, ou⟩
    obtain ⟨s', k1, k2⟩ := back j s e1 o1
    obtain ⟨t', k3, k4⟩ := back l t e2 o2
    exact r.sep j l s' t' v k1 k3 k2 k4 q1 q2
end

section
variable {fn gn : Nat → Str} {gv : Nat → Option D} {cal : Nat → List D → Option Slot} {k : Nat} {N : List Str} {sc : Scope}
structure GoodS (fn gn : Nat → Str) (gv : Nat → Option D) (cal : Nat → List D → Option Slot) (k : Nat) (N : List Str) (sc : Scope) (X : Cx) : Prop where
  g : Good fn gn gv cal k N sc X
  fna : ∀ x, X.fn x = true
  pas : PassesOwn (model X.prog X.w) X.A X.env X.xe
  kind : sc.kind = .function
structure Ps (fn gn : Nat → Str) (gv : Nat → Option D) (cal : Nat → List D → Option Slot) (k : Nat) (N : List Str) (sc : Scope) (z : S) : Prop where
  s : ∀ st, chkS fn gn N sc z (.s st) = true → ∀ X, GoodS fn gn gv cal k N sc X → PS X st (tS X.K (ex gv cal z))
  l : ∀ sts, chkS fn gn N sc z (.l sts) = true → ∀ X, GoodS fn gn gv cal k N sc X → PSs X sts (tS X.K (ex gv cal z))
/-- a statement that is no list of them -/
theorem Ps.one {s : S} (h : ∀ st, chkS fn gn N sc s (.s st) = true → ∀ X, GoodS fn gn gv cal k N sc X → PS X st (tS X.K (ex gv cal s))) (hl : ∀ sts, chkS fn gn N sc s (.l sts) = false) : Ps fn gn gv cal k N sc s :=
  ⟨h, fun sts q => by rw [hl] at q; cases q⟩
theorem Ps.skip : Ps fn gn gv cal k N sc .skip where
  s := fun st h => by cases st <;> exact absurd h Bool.false_ne_true
  l := fun sts h X g => by
    cases sts with
    | nil =>
      refine PSs.imp pss_nil ?_
      rintro D σ H ⟨G0, H0, ρ, G, out, R, e, q⟩
      cases e
      exact q σ G H (Same.refl _) R
    | cons _ _ => exact absurd h Bool.false_ne_true
theorem Ps.pass : Ps fn gn gv cal k N sc .pass := by
  refine Ps.one (fun st h X g => ?_) (fun sts => by cases sts <;> rfl)
  cases st with
  | Pass p =>
    refine PS.imp ps_pass ?_
    rintro D σ H ⟨G0, H0, ρ, G, out, R, e, q⟩
    cases e
    exact q σ G H (Same.refl _) R
  | _ => exact absurd h Bool.false_ne_true
theorem Ps.brk : Ps fn gn gv cal k N sc .brk := by
  refine Ps.one (fun st h X g => ?_) (fun sts => by cases sts <;> rfl)
  cases st with
  | Break p =>
    refine PS.imp ps_break ?_
    rintro D σ H ⟨G0, H0, ρ, G, out, R, e, q⟩
    cases e
    exact q σ G H (Same.refl _) R
  | _ => exact absurd h Bool.false_ne_true
theorem seqS_some {x : Option Out} {f : En → Option Out} {o : Out} (h : seqS x f = some o) : (∃ ρ, x = some (.next ρ) ∧ f ρ = some o) ∨ (x = some o ∧ ∀ ρ, o ≠ .next ρ) := by
  cases x with
  | none => cases h
  | some y => cases y with
    | next ρ => exact .inl ⟨ρ, rfl, h⟩
    | ret s => cases h; exact .inr ⟨rfl, fun _ z => nomatch z⟩
    | brk ρ => cases h; exact .inr ⟨rfl, fun _ z => nomatch z⟩
theorem freeze_pss {X : Cx} {sts : List Stmt} {t : TS} (h : PSs X sts t) : PSs X sts (fun D σ H => t D σ H ∨ ∃ d u, H d = some u ∧ Mut (some u) ∧ ∀ od, t D σ (upd H d (.frz od u))) := by
  refine ⟨fun pins s σ H D I q => ?_⟩
  rcases q with q | ⟨d, u, hd, mu, q⟩
  · exact h.run pins s σ H D I q
  · obtain ⟨od, I1⟩ := I.lock hd mu
    exact h.run pins s σ _ D I1 (q od)
theorem SR.share {K : PySem.W.Frag} {G0 H0 G H : Hp} {ρ : En} {σ : L2.St} {i : Nat} {sl : Slot} {a : Addr} {o o' : HO} {d : D} (r : SR K G0 H0 ρ σ G H) (e : ρ[i]? = some (some sl)) (ow : sl.isOwn = true) (ea : σ[i]? = some (some (.ref a))) (hH : H a = some o) (ga : G a = none) (ha : H0 a = none)
    (hr : Rp K (upd G a o') d (.ref a)) : SR K G0 H0 (ρ.set i (some (.sh d))) σ (upd G a o') (upd H a o') := by
  have hi : i < ρ.length := (List.getElem?_eq_some_iff.mp e).1
  have smG : Same G (upd G a o') := fun b u z => by rw [upd_ne (ne_of_none z ga)]; exact z
  refine ⟨by rw [List.length_set]; exact r.len, fun b u z => ?_, r.g0.trans smG, fun b u z => ?_, fun p u z => ?_, fun j s z => ?_, fun j l s t v e1 e2 o1 o2 q1 q2 => ?_⟩
  · by_cases hb : b = a
    · subst hb; rw [upd_same] at z ⊢; exact z
    · rw [upd_ne hb] at z ⊢; exact r.gh _ _ z
  · rw [upd_ne (ne_of_none z ha)]; exact r.h0 _ _ z
  · by_cases hp : p = a
    · subst hp; exact .inr ha
    · rw [upd_ne hp] at z; exact r.new p u z
  · by_cases hj : i = j
    · subst hj
      rw [List.getElem?_set_self hi] at z
      cases z
      exact ⟨.ref a, ea, hr⟩
    · rw [List.getElem?_set_ne hj] at z
      obtain ⟨v, e1, e2⟩ := r.slot j s z
      refine ⟨v, e1, ?_⟩
      have ne : ∀ b, v = .ref b → s.isOwn = true → b ≠ a := fun b eb os z' => by
        subst eb z'
        exact hj (r.sep i j sl s _ e z ow os ea e1)
      cases s with
      | sh d => exact Rp.mono smG d e2
      | ol xs => obtain ⟨b, vs, rfl, h1, h2, h3, h4⟩ := e2; have nb := ne b rfl rfl; exact ⟨b, vs, rfl, by rw [upd_ne nb]; exact h1, by rw [upd_ne nb]; exact h2, h3, RpL.mono smG _ h4⟩
      | ok xs => obtain ⟨b, vs, rfl, h1, h2, h3, h4⟩ := e2; have nb := ne b rfl rfl; exact ⟨b, vs, rfl, by rw [upd_ne nb]; exact h1, by rw [upd_ne nb]; exact h2, h3, RpK.mono smG _ h4⟩
      | ot xs => obtain ⟨b, vs, rfl, h1, h2, h3, h4⟩ := e2; have nb := ne b rfl rfl; exact ⟨b, vs, rfl, by rw [upd_ne nb]; exact h1, by rw [upd_ne nb]; exact h2, h3, RpT.mono smG _ h4⟩
  · have back : ∀ (m : Nat) (u : Slot), (ρ.set i (some (.sh d)))[m]? = some (some u) → u.isOwn = true → ρ[m]? = some (some u) := fun m u z ou => by
      by_cases hm : i = m
      · subst hm; rw [List.getElem?_set_self hi] at z; cases z; cases ou
      · rw [List.getElem?_set_ne hm] at z; exact z
    exact r.sep j l s t v (back j s e1 o1) (back l t e2 o2) o1 o2 q1 q2
theorem Ps.seq {a b : S} (ha : Ps fn gn gv cal k N sc a) (hb : Ps fn gn gv cal k N sc b) : Ps fn gn gv cal k N sc (.seq a b) where
  s := fun st h => by cases st <;> exact absurd h Bool.false_ne_true
  l := fun sts h X g => by
    have h : (if isPub a then chkS fn gn N sc b (.l sts) else consB sts fun st r => chkS fn gn N sc a (.s st) && chkS fn gn N sc b (.l r)) = true := h
    cases hp : isPub a with
    | true =>
      rw [hp, if_pos rfl] at h
      cases a <;> first | (cases hp; done) | skip
      rename_i i
      refine PSs.imp (freeze_pss (hb.l sts h X g)) ?_
      rintro D σ H ⟨G0, H0, ρ, G, out, R, e, q⟩
      replace e : seqS (nx (pubS ρ i)) (fun ρ => ex gv cal b ρ) = some out := e
      rcases seqS_some e with ⟨ρ1, e1, e2⟩ | ⟨e1, e2⟩
      · obtain ⟨ρ1', e3, e4⟩ := Option.map_eq_some_iff.mp e1
        cases e4
        obtain ⟨sl, e5, rfl⟩ := Option.map_eq_some_iff.mp e3
        have e6 := rd_some e5
        obtain ⟨v, ev, sv⟩ := R.slot i sl e6
        cases sl with
        | sh d =>
          refine .inl ⟨G0, H0, ρ.set i (some (.sh d)), G, out, ?_, e2, q⟩
          have := R.set_sh (i := i) (d := d) sv
          have es : σ.set i (some v) = σ := by
            refine List.ext_getElem? fun j => ?_
            by_cases hj : i = j
            · subst hj; rw [List.getElem?_set_self (List.getElem?_eq_some_iff.mp ev).1, ev]
            · rw [List.getElem?_set_ne hj]
          rw [es] at this
          exact this
        | ol xs =>
          obtain ⟨c, vs, rfl, h1, h2, h3, h4⟩ := sv
          have smG : Same G (upd G c (.lst vs)) := fun b u z => by rw [upd_ne (ne_of_none z h2)]; exact z
          have r2 := R.share (o' := .lst vs) (d := .lst xs) e6 rfl ev h1 h2 h3 (by simp only [Rp]; exact ⟨c, vs, rfl, upd_same, RpL.mono smG _ h4⟩)
          have eH : upd H c (.lst vs) = H := by
            funext b
            by_cases hb : b = c
            · subst hb; rw [upd_same, h1]
            · rw [upd_ne hb]
          rw [eH] at r2
          exact .inl ⟨G0, H0, _, _, out, r2, e2, q.le smG⟩
        | ok xs =>
          obtain ⟨c, vs, rfl, h1, h2, h3, h4⟩ := sv
          refine .inr ⟨c, _, h1, trivial, fun od => ?_⟩
          have smG : Same G (upd G c (.frz od (.dK vs))) := fun b u z => by rw [upd_ne (ne_of_none z h2)]; exact z
          exact ⟨G0, H0, _, _, out, R.share (o' := .frz od (.dK vs)) (d := .dK xs) e6 rfl ev h1 h2 h3 (by simp only [Rp]; exact ⟨c, od, vs, rfl, upd_same, RpK.mono smG _ h4⟩), e2, q.le smG⟩
        | ot xs =>
          obtain ⟨c, vs, rfl, h1, h2, h3, h4⟩ := sv
          refine .inr ⟨c, _, h1, trivial, fun od => ?_⟩
          have smG : Same G (upd G c (.frz od (.dT vs))) := fun b u z => by rw [upd_ne (ne_of_none z h2)]; exact z
          exact ⟨G0, H0, _, _, out, R.share (o' := .frz od (.dT vs)) (d := .dT xs) e6 rfl ev h1 h2 h3 (by simp only [Rp]; exact ⟨c, od, vs, rfl, upd_same, RpT.mono smG _ h4⟩), e2, q.le smG⟩
      · obtain ⟨_, _, e4⟩ := Option.map_eq_some_iff.mp e1
        exact absurd e4.symm (e2 _)
    | false =>
      rw [hp, if_neg Bool.false_ne_true] at h
      cases sts with
      | nil => cases h
      | cons st r =>
        have h : (chkS fn gn N sc a (.s st) && chkS fn gn N sc b (.l r)) = true := h
        rw [Bool.and_eq_true] at h
        refine PSs.imp (pss_cons (ha.s st h.1 X g) (hb.l r h.2 X g)) ?_
        rintro D σ H ⟨G0, H0, ρ, G, out, R, e, q⟩
        rcases seqS_some e with ⟨ρ1, e1, e2⟩ | ⟨e1, e2⟩
        · exact ⟨G0, H0, ρ, G, _, R, e1, fun σ' G' H' sm R' => ⟨G0, H0, ρ1, G', out, R', e2, q.le sm⟩⟩
        · refine ⟨G0, H0, ρ, G, out, R, e1, ?_⟩
          cases out with
          | next ρ' => exact absurd rfl (e2 ρ')
          | ret s => exact q
          | brk ρ' => exact q
theorem Ps.ite {c : E} {a b : S} (ha : Ps fn gn gv cal k N sc a) (hb : Ps fn gn gv cal k N sc b) : Ps fn gn gv cal k N sc (.ite c a b) := by
  refine Ps.one (fun st h X g => ?_) (fun sts => by cases sts <;> rfl)
  cases st with
  | If x y z p =>
    have h : (chk fn gn N c sc (.e x) && chkS fn gn N sc a (.l y) && chkS fn gn N sc b (.l z)) = true := h
    simp only [Bool.and_eq_true] at h
    refine PS.imp (ps_if ((Pe.all c).t sc x h.1.1 X g.g) (ha.l y h.1.2 X g) (hb.l z h.2 X g)) ?_
    rintro D σ H ⟨G0, H0, ρ, G, out, R, e, q⟩
    replace e : (match asB (evA gv cal c ρ).b with | some true => ex gv cal a ρ | some false => ex gv cal b ρ | none => none) = some out := e
    split at e
    · rename_i ec
      exact ⟨G0, H0, ρ, G, true, R, ec, fun G' H' st => iteT ⟨G0, H0, ρ, G', out, R.step st, e, q.le st.g⟩⟩
    · rename_i ec
      exact ⟨G0, H0, ρ, G, false, R, ec, fun G' H' st => iteF ⟨G0, H0, ρ, G', out, R.step st, e, q.le st.g⟩⟩
    · cases e
  | _ => exact absurd h Bool.false_ne_true
theorem Ps.ret {e : E} : Ps fn gn gv cal k N sc (.ret e) := by
  refine Ps.one (fun st h X g => ?_) (fun sts => by cases sts <;> rfl)
  cases st with
  | Return o p =>
    cases o with
    | some x =>
      refine PS.imp (ps_ret ((Pe.all e).s sc x h X g.g)) ?_
      rintro D σ H ⟨G0, H0, ρ, G, out, R, eo, q⟩
      obtain ⟨sl, e1, rfl⟩ := Option.map_eq_some_iff.mp (show (evA gv cal e ρ).s.map Out.ret = some out from eo)
      exact ⟨G0, H0, ρ, G, sl, R, e1, fun v G' H' st sv => q v G' H' (R.stp.trans st) (sv.old R.h0)⟩
    | none => exact absurd h Bool.false_ne_true
  | _ => exact absurd h Bool.false_ne_true
theorem Ps.retV {i : Nat} : Ps fn gn gv cal k N sc (.retV i) := by
  refine Ps.one (fun st h X g => ?_) (fun sts => by cases sts <;> rfl)
  cases st with
  | Return o p =>
    cases o with
    | some x =>
      refine PS.imp (ps_ret (pe_v h g.g)) ?_
      rintro D σ H ⟨G0, H0, ρ, G, out, R, eo, q⟩
      obtain ⟨sl, e1, rfl⟩ := Option.map_eq_some_iff.mp (show (rd ρ i).map Out.ret = some out from eo)
      obtain ⟨v, ev, sv⟩ := R.slot i sl (rd_some e1)
      exact ⟨v, ev, q v G H R.stp sv⟩
    | none => exact absurd h Bool.false_ne_true
  | _ => exact absurd h Bool.false_ne_true
theorem Ps.retN : Ps fn gn gv cal k N sc .retN := by
  refine Ps.one (fun st h X g => ?_) (fun sts => by cases sts <;> rfl)
  cases st with
  | Return o p =>
    cases o with
    | none =>
      refine PS.imp ps_retN ?_
      rintro D σ H ⟨G0, H0, ρ, G, out, R, eo, q⟩
      cases eo
      exact q _ G H R.stp slNon
    | some _ => exact absurd h Bool.false_ne_true
  | _ => exact absurd h Bool.false_ne_true
theorem noComp_swaps {x : Expr} (h : isComp x = false) (t : Option Expr) (l : Nat) (env : PySem.Env) : swapsWith x t l env = pure false := by
  cases x <;> first | (cases h; done) | rfl
theorem Ps.expr {e : E} : Ps fn gn gv cal k N sc (.expr e) := by
  refine Ps.one (fun st h X g => ?_) (fun sts => by cases sts <;> rfl)
  cases st with
  | Expr x p =>
    have h : (!isComp x && chk fn gn N e sc (.e x)) = true := by
      cases x <;> exact h
    rw [Bool.and_eq_true, Bool.not_eq_true'] at h
    refine PS.imp (ps_expr ((Pe.all e).s sc x h.2 X g.g) (noComp_swaps h.1 _ _ _)) ?_
    rintro D σ H ⟨G0, H0, ρ, G, out, R, eo, q⟩
    obtain ⟨sl, e1, rfl⟩ := Option.map_eq_some_iff.mp (show (evA gv cal e ρ).s.map (fun _ => Out.next ρ) = some out from eo)
    exact ⟨G0, H0, ρ, G, sl, R, e1, fun v G' H' st sv => q σ G' H' st.g (R.step st)⟩
  | _ => exact absurd h Bool.false_ne_true
end
end LJ
/-! LJq: stores, loops. -/
namespace LJ
open PySem PySem.Spec PyProof.Rows L2
section
variable {fn gn : Nat → Str} {gv : Nat → Option D} {cal : Nat → List D → Option Slot} {k : Nat} {N : List Str} {sc : Scope}
theorem GoodS.loc {X : Cx} (g : GoodS fn gn gv cal k N sc X) {n : Str} (h : locB sc n = true) : Loc X.env.scope n := by rw [g.g.hsc]; exact locB_ok h
theorem GoodS.nd {X : Cx} (g : GoodS fn gn gv cal k N sc X) : X.N.Nodup := by rw [g.g.nN]; exact g.g.nd
theorem GoodS.ix {X : Cx} (g : GoodS fn gn gv cal k N sc X) {i : Nat} {n : Str} (h : N[i]? = some n) : X.N[i]? = some n := by rw [g.g.nN]; exact h
/-- shared where a list alone is made -/
theorem tD_ol {K : PySem.W.Frag} {F : En → Option Slot} (hF : ∀ ρ sl, F ρ = some sl → ∃ xs, sl = .ol xs) : ∀ σ H Q, tD K (fun ρ => dOf (F ρ)) σ H Q → tF K F σ H Q := by
  rintro σ H Q ⟨G0, H0, ρ, G, d, R, e, q⟩
  obtain ⟨sl, e1, rfl⟩ := Option.map_eq_some_iff.mp (show (F ρ).map Slot.d = some d from e)
  refine ⟨G0, H0, ρ, G, sl, R, e1, fun v G' H' st sv => ?_⟩
  obtain ⟨xs, rfl⟩ := hF ρ sl e1
  obtain ⟨a, vs, rfl, h1, h2, h3, h4⟩ := sv
  have smG : Same G' (upd G' a (.lst vs)) := fun b u z => by rw [upd_ne (ne_of_none z h2)]; exact z
  refine q _ (upd G' a (.lst vs)) H' (st.share h1 h2 h3) ?_
  simp only [Slot.d, Rp]
  exact ⟨a, vs, rfl, upd_same, RpL.mono smG _ h4⟩
/-- name = value -/
theorem asg_ps {e : E} {i : Nat} {n : Str} {p pos : Pos} {x : Expr} (hi : N[i]? = some n) (hl : locB sc n = true) (hx : chk fn gn N e sc (.e x) = true) {X : Cx} (g : GoodS fn gn gv cal k N sc X) :
    PS X (.Assign [.Name n p] x pos) (tAsg (tF X.K fun ρ => (evA gv cal e ρ).s) (gName i)) ∧ PS X (.Assign [.Name n p] x pos) (tAsg (tD X.K fun ρ => dOf (evA gv cal e ρ).s) (gName i)) := by
  have hs := (Pe.all e).s sc x hx X g.g
  cases hc : isComp x with
  | false =>
    exact ⟨ps_set g.nd (g.ix hi) (g.loc hl) hs (noComp_swaps hc _ _ _) (.inl (g.fna n)), ps_set g.nd (g.ix hi) (g.loc hl) (toD hs) (noComp_swaps hc _ _ _) (.inl (g.fna n))⟩
  | true =>
    cases x with
    | ListComp el gs scope p2 =>
      have hex : ∃ own elt tg it cond, e = .lc own elt tg it cond := by
        cases e <;> first | exact ⟨_, _, _, _, _, rfl⟩ | exact absurd hx Bool.false_ne_true
      obtain ⟨own, elt, tg, it, cond, rfl⟩ := hex
      obtain ⟨el', t, x', ifs, scope', p', ex', L⟩ := lc_inv hx
      cases ex'
      have hk : X.env.scope.kind = .function := by rw [g.g.hsc]; exact g.kind
      have hsw : swapsWith (.ListComp el [⟨t, x', ifs, 0⟩] scope p2) (some (.Name n p)) pos.line X.env =
          pure (X.env.blockKind == .function && X.env.kindOf n == some .local && p.line == p2.line && !(scope.names.any fun (m, kk) => m == n && (kk == .local || kk == .cell))) := rfl
      cases hb : (X.env.blockKind == .function && X.env.kindOf n == some .local && p.line == p2.line && !(scope.names.any fun (m, kk) => m == n && (kk == .local || kk == .cell))) with
      | false =>
        rw [hb] at hsw
        exact ⟨ps_set g.nd (g.ix hi) (g.loc hl) hs hsw (.inl (g.fna n)), ps_set g.nd (g.ix hi) (g.loc hl) (toD hs) hsw (.inl (g.fna n))⟩
      | true =>
        rw [hb] at hsw
        simp only [Bool.and_eq_true, beq_iff_eq] at hb
        obtain ⟨q1, q2, q3, q4, q5⟩ := lc_parts L (Pe.all elt) (Pe.all it) (Pe.all cond) g.g
        have z := ps_setLc (spos := pos) g.g.calm g.nd (g.ix hi) hb.1.1.2 hsw q1 q2 q3 q4 q5 (notSet_fold L.ns _)
        rw [own_snd] at z
        have hF : ∀ (ρ : En) (sl : Slot), (evA gv cal (.lc own elt tg it cond) ρ).s = some sl → ∃ xs, sl = .ol xs := fun ρ sl e => by
          obtain ⟨ds, e1, e2⟩ := Option.bind_eq_some_iff.mp (show ((evA gv cal it ρ).i).bind (fun ds => if ds.length ≤ sizeLine then (lcL (fun ρ' => dOf (evA gv cal elt ρ').s) (fun ρ' => (evA gv cal cond ρ').c) (fun d => bindT tg d (wipeE ρ own)) ds).map Slot.ol else none) = some sl from e)
          split at e2
          · obtain ⟨ys, _, rfl⟩ := Option.map_eq_some_iff.mp e2
            exact ⟨ys, rfl⟩
          · cases e2
        refine ⟨PS.imp z fun D σ H q => lc_use L.own σ H _ q, PS.imp z fun D σ H q => lc_use L.own σ H _ (tD_ol hF σ H _ q)⟩
    | SetComp _ _ _ _ => cases e <;> exact absurd hx Bool.false_ne_true
    | DictComp _ _ _ _ _ => cases e <;> exact absurd hx Bool.false_ne_true
    | _ => cases hc
theorem nx_some {ρ : Option En} {o : Out} (h : nx ρ = some o) : ∃ ρ', ρ = some ρ' ∧ o = .next ρ' := by
  obtain ⟨ρ', e1, e2⟩ := Option.map_eq_some_iff.mp h
  exact ⟨ρ', e1, e2.symm⟩
theorem Ps.asg {i : Nat} {own : Bool} {e : E} : Ps fn gn gv cal k N sc (.asg i own e) := by
  refine Ps.one (fun st h X g => ?_) (fun sts => by cases sts <;> rfl)
  have inv : ∃ n p x pos, st = .Assign [.Name n p] x pos ∧ N[i]? = some n ∧ locB sc n = true ∧ chk fn gn N e sc (.e x) = true := by
    cases st with
    | Assign ts x pos =>
      match ts, h with
      | [], h => exact absurd h Bool.false_ne_true
      | [t], h => cases t with
        | Name n p =>
          have h : (decide (N[i]? = some n) && locB sc n && chk fn gn N e sc (.e x)) = true := h
          simp only [Bool.and_eq_true, decide_eq_true_eq] at h
          exact ⟨n, p, x, pos, rfl, h.1.1, h.1.2, h.2⟩
        | _ => exact absurd h Bool.false_ne_true
      | t :: _ :: _, h => cases t <;> exact absurd h Bool.false_ne_true
    | _ => exact absurd h Bool.false_ne_true
  obtain ⟨n, p, x, pos, rfl, h1, h2, h3⟩ := inv
  obtain ⟨ps1, ps2⟩ := asg_ps (p := p) (pos := pos) (gv := gv) (cal := cal) (k := k) h1 h2 h3 g
  cases own with
  | true =>
    refine PS.imp ps1 ?_
    rintro D σ H ⟨G0, H0, ρ, G, out, R, eo, q⟩
    obtain ⟨ρ', e1, rfl⟩ := nx_some eo
    obtain ⟨sl, e2, rfl⟩ := Option.map_eq_some_iff.mp (show (evA gv cal e ρ).s.map (fun s => ρ.set i (some s)) = some ρ' from e1)
    exact ⟨G0, H0, ρ, G, sl, R, e2, fun v G' H' st sv => q _ G' H' st.g (R.set_sl st sv)⟩
  | false =>
    refine PS.imp ps2 ?_
    rintro D σ H ⟨G0, H0, ρ, G, out, R, eo, q⟩
    obtain ⟨ρ', e1, rfl⟩ := nx_some eo
    obtain ⟨d, e2, rfl⟩ := Option.map_eq_some_iff.mp (show (dOf (evA gv cal e ρ).s).map (fun d => ρ.set i (some (.sh d))) = some ρ' from e1)
    exact ⟨G0, H0, ρ, G, d, R, e2, fun v G' H' st rv => q _ G' H' st.g ((R.step st).set_sh rv)⟩
theorem GoodS.pg {X : Cx} (g : GoodS fn gn gv cal k N sc X) {tg : Tg} {t : Expr} (h : tgB N sc tg t = true) : PG X t (gT X.K tg) :=
  pg_of g.nd sc g.g.hsc g.g.calm (fun n hl _ => ⟨g.loc hl, .inl (g.fna n)⟩) (by rw [g.g.nN]; exact h)
theorem Ps.asgT {is : List Nat} {e : E} : Ps fn gn gv cal k N sc (.asgT is e) := by
  refine Ps.one (fun st h X g => ?_) (fun sts => by cases sts <;> rfl)
  have inv : ∃ t x pos, st = .Assign [t] x pos ∧ tgB N sc (.many is) t = true ∧ isDisp x = false ∧ isComp x = false ∧ chk fn gn N e sc (.e x) = true := by
    cases st with
    | Assign ts x pos =>
      match ts, h with
      | [], h => exact absurd h Bool.false_ne_true
      | [t], h =>
        have h : (tgB N sc (.many is) t && !isDisp x && !isComp x && chk fn gn N e sc (.e x)) = true := h
        simp only [Bool.and_eq_true, Bool.not_eq_true'] at h
        exact ⟨t, x, pos, rfl, h.1.1.1, h.1.1.2, h.1.2, h.2⟩
      | _ :: _ :: _, h => exact absurd h Bool.false_ne_true
    | _ => exact absurd h Bool.false_ne_true
  obtain ⟨t, x, pos, rfl, h1, h2, h3, h4⟩ := inv
  have hw : swappedStores [t] x X.env = pure none := by
    cases x <;> first | (cases h2; done) | (cases t <;> rfl)
  have hm : (assignEach [t] X.env).map (·.2) = [assign t X.env] := by
    cases t <;> first | rfl | exact absurd h1 Bool.false_ne_true
  refine PS.imp (ps_asg ((Pe.all e).b sc x h4 X g.g) (g.pg h1) (noComp_swaps h3 _ _ _) hw hm) ?_
  rintro D σ H ⟨G0, H0, ρ, G, out, R, eo, q⟩
  obtain ⟨ρ', e1, rfl⟩ := nx_some eo
  obtain ⟨d, e2, e3⟩ := Option.bind_eq_some_iff.mp (show ((evA gv cal e ρ).b).bind (fun d => bindT (.many is) d ρ) = some ρ' from e1)
  refine ⟨G0, H0, ρ, G, d, R, e2, fun v G' H' st bv => ?_⟩
  have rv : Rp X.K G' d v := by
    cases d with
    | tup ds => exact bv
    | _ => cases e3
  exact gT_ok (R.step st) e3 rv fun σ' R' _ => q σ' G' H' st.g R'
theorem Ps.aug {i : Nat} {op : BOp} {e : E} : Ps fn gn gv cal k N sc (.aug i op e) := by
  refine Ps.one (fun st h X g => ?_) (fun sts => by cases sts <;> rfl)
  cases st with
  | AugAssign t o x pos =>
    cases t with
    | Name n p =>
      have h : (decide (N[i]? = some n) && locB sc n && isBAdd op && isAdd o && chk fn gn N e sc (.e x)) = true := h
      simp only [Bool.and_eq_true, decide_eq_true_eq] at h
      obtain ⟨⟨⟨⟨h1, h2⟩, h3⟩, h4⟩, h5⟩ := h
      cases op <;> first | exact absurd h3 Bool.false_ne_true | skip
      cases o <;> first | exact absurd h4 Bool.false_ne_true | skip
      refine PS.imp (ps_aug g.nd (g.ix h1) (g.loc h2) ((Pe.all e).b sc x h5 X g.g) (iop_add.or iop_add_str) (.inl (g.fna n))) ?_
      rintro D σ H ⟨G0, H0, ρ, G, out, R, eo, q⟩
      obtain ⟨ρ', e1, rfl⟩ := nx_some eo
      replace e1 : augS ρ i .add (evA gv cal e ρ).b = some ρ' := e1
      unfold augS at e1
      split at e1
      · rename_i d y er ey
        obtain ⟨v, ev, sv⟩ := R.slot i _ (rd_some er)
        split at e1
        · rename_i a b _
          cases e1
          have evv : v = .int a := by simpa only [SlRp, Rp] using sv
          subst evv
          refine ⟨_, ev, G0, H0, ρ, G, _, R, ey, fun w G' H' st bw => .inl ⟨a, b, rfl, br_int bw, ?_⟩⟩
          exact q _ G' H' st.g ((R.step st).set_sh (by simp only [Rp]))
        · rename_i a b _
          split at e1
          · rename_i hz
            cases e1
            have evv : v = .str a ∧ StrG a := by simpa only [SlRp, Rp] using sv
            obtain ⟨evv, ga⟩ := evv
            subst evv
            refine ⟨_, ev, G0, H0, ρ, G, _, R, ey, fun w G' H' st bw => .inr ⟨a, b, rfl, (br_str bw).1, hz, ?_⟩⟩
            exact q _ G' H' st.g ((R.step st).set_sh (by simp only [Rp]; exact ⟨trivial, ga.append (br_str bw).2 hz⟩))
          · cases e1
        · cases e1
      · cases e1
    | _ => exact absurd h Bool.false_ne_true
  | _ => exact absurd h Bool.false_ne_true
/-! ### x.append(e) -/
theorem set_self {σ : L2.St} {i : Nat} {v : V} (h : σ[i]? = some (some v)) : σ.set i (some v) = σ := by
  refine List.ext_getElem? fun j => ?_
  by_cases hj : i = j
  · subst hj; rw [List.getElem?_set_self (List.getElem?_eq_some_iff.mp h).1, h]
  · rw [List.getElem?_set_ne hj]
theorem Ps.app {i : Nat} {e : E} : Ps fn gn gv cal k N sc (.app i e) := by
  refine Ps.one (fun st h X g => ?_) (fun sts => by cases sts <;> rfl)
  have inv : ∃ n p apos x cpos pos, st = .Expr (.Call (.Attribute (.Name n p) "append" apos) [x] [] cpos) pos ∧ (apos.endLine == cpos.line) = true ∧ chk fn gn N (.var i) sc (.e (.Name n p)) = true ∧ chk fn gn N e sc (.e x) = true := by
    cases st with
    | Expr y pos => cases y with
      | Call f as ks cpos => cases f with
        | Attribute o m apos => cases o with
          | Name n p =>
            match as, ks, h with
            | [x], [], h =>
              have h : (decide (m = "append") && (apos.endLine == cpos.line) && chk fn gn N (.var i) sc (.e (.Name n p)) && chk fn gn N e sc (.e x)) = true := h
              simp only [Bool.and_eq_true, decide_eq_true_eq] at h
              obtain ⟨⟨⟨rfl, h1⟩, h2⟩, h3⟩ := h
              exact ⟨n, p, apos, x, cpos, pos, rfl, h1, h2, h3⟩
            | [], _, h => exact absurd h Bool.false_ne_true
            | [_], _ :: _, h => exact absurd h Bool.false_ne_true
            | _ :: _ :: _, _, h => exact absurd h Bool.false_ne_true
          | _ => exact absurd h Bool.false_ne_true
        | _ => exact absurd h Bool.false_ne_true
      | _ => exact absurd h Bool.false_ne_true
    | _ => exact absurd h Bool.false_ne_true
  obtain ⟨n, p, apos, x, cpos, pos, rfl, h1, h2, h3⟩ := inv
  have hs := star_of (chk_star h3) [] X.env
  refine PS.imp (ps_expr (pe_bm PySem.F.plainAttrs_list PySem.F.slot_list_append PySem.F.type_list_append mt_append (pe_v h2 g.g) (pa_cons (toD ((Pe.all e).s sc x h3 X g.g)) pa_nil hs) rfl (by rw [hs]; rfl) h1 hs rfl) rfl) ?_
  rintro D σ H ⟨G0, H0, ρ, G, out, R, eo, q⟩
  obtain ⟨ρ', e1, rfl⟩ := nx_some eo
  replace e1 : appS ρ i (dOf (evA gv cal e ρ).s) = some ρ' := e1
  unfold appS at e1
  split at e1
  · rename_i ds d er ed
    split at e1
    · rename_i hz
      cases e1
      have e6 := rd_some er
      obtain ⟨v, ev, sv⟩ := R.slot i _ e6
      obtain ⟨a, vs, rfl, p1, p2, p3, p4⟩ := sv
      refine ⟨.ref a, ev, .inl ⟨rfl, vs, .inl (.inl p1)⟩, G0, H0, ρ, G, d, R, ed, fun w G' H' st rw' => ?_⟩
      have p1' := st.h _ _ p1
      have R' := R.step st
      obtain ⟨v', ev', sv'⟩ := R'.slot i _ e6
      rw [ev] at ev'
      cases ev'
      obtain ⟨a', vs', ea, k1, k2, k3, k4⟩ := sv'
      cases ea
      rw [p1'] at k1
      cases k1
      refine ⟨a, vs, w, rfl, rfl, p1', by rw [k4.length]; exact hz, ?_⟩
      have R2 := R'.mut (sl' := .ol (ds ++ [d])) (o := .lst (vs ++ [w])) e6 rfl ev k2 k3 ⟨a, _, rfl, upd_same, k2, k3, k4.append (RpL.cons rw' RpL.nil)⟩ rfl
      exact q σ G' _ st.g R2
    · cases e1
  · cases e1
/-! ### x[k] = e -/
theorem sub_swaps (x : Expr) (o i : Expr) (p : Pos) (l : Nat) (env : PySem.Env) : swapsWith x (some (.Subscript o i p)) l env = pure false := by
  cases x <;> rfl
theorem RpK.put {K : PySem.W.Frag} {G : Hp} {k : Key} {d : D} {v : V} (hk : KeyG k) (hv : Rp K G d v) : ∀ {kvs : List (Key × D)} {vs : List (Key × V)}, RpK K G kvs vs → RpK K G (kvs.map fun p => if p.1 = k then (p.1, d) else p) (vs.map fun kv => if kv.1 = k then (kv.1, v) else kv)
  | [], vs, h => by simp only [RpK] at h; subst h; simp only [List.map_nil, RpK]
  | (k', d') :: kvs, vs, h => by
    simp only [RpK] at h
    obtain ⟨x, r, rfl, e2, e3⟩ := h
    simp only [List.map_cons]
    by_cases hkk : k' = k
    · rw [if_pos hkk, if_pos hkk]; simp only [RpK]; exact ⟨v, _, rfl, ⟨e2.1, hv⟩, RpK.put hk hv e3⟩
    · rw [if_neg hkk, if_neg hkk]; simp only [RpK]; exact ⟨x, _, rfl, e2, RpK.put hk hv e3⟩
theorem RpK.snoc {K : PySem.W.Frag} {G : Hp} {k : Key} {d : D} {v : V} (hk : KeyG k) (hv : Rp K G d v) : ∀ {kvs : List (Key × D)} {vs : List (Key × V)}, RpK K G kvs vs → RpK K G (kvs ++ [(k, d)]) (vs ++ [(k, v)])
  | [], vs, h => by simp only [RpK] at h; subst h; simp only [List.nil_append, RpK]; exact ⟨v, [], rfl, ⟨hk, hv⟩, rfl⟩
  | (k', d') :: kvs, vs, h => by
    simp only [RpK] at h
    obtain ⟨x, r, rfl, e2, e3⟩ := h
    simp only [List.cons_append, RpK]
    exact ⟨x, _, rfl, e2, RpK.snoc hk hv e3⟩
theorem RpK.anyK {K : PySem.W.Frag} {G : Hp} {k : Key} {kvs : List (Key × D)} {vs : List (Key × V)} (h : RpK K G kvs vs) : (vs.any fun kv => decide (kv.1 = k)) = (kvs.any fun p => decide (p.1 = k)) := by
  have := h.keys
  have e1 : (vs.any fun kv => decide (kv.1 = k)) = (vs.map (·.1)).any fun x => decide (x = k) := by rw [List.any_map]; rfl
  have e2 : (kvs.any fun p => decide (p.1 = k)) = (kvs.map (·.1)).any fun x => decide (x = k) := by rw [List.any_map]; rfl
  rw [e1, e2, this]
theorem RpK.dPut {K : PySem.W.Frag} {G : Hp} {k : Key} {d : D} {v : V} (hk : KeyG k) (hv : Rp K G d v) {kvs : List (Key × D)} {vs : List (Key × V)} (h : RpK K G kvs vs) : RpK K G (LJ.dPut kvs k d) (putK vs k v) := by
  unfold LJ.dPut putK
  rw [h.anyK]
  split
  · exact RpK.put hk hv h
  · exact RpK.snoc hk hv h
theorem RpT.keys {K : PySem.W.Frag} {G : Hp} : ∀ {kvs : List (List Key × D)} {vs : List (List Key × V)}, RpT K G kvs vs → vs.map (·.1) = kvs.map (·.1)
  | [], vs, h => by simp only [RpT] at h; rw [h]; rfl
  | (k, d) :: ds, vs, h => by
    simp only [RpT] at h
    obtain ⟨x, r, e1, e2, e3⟩ := h
    rw [e1, List.map_cons, List.map_cons, RpT.keys e3]
theorem RpT.put {K : PySem.W.Frag} {G : Hp} {k : List Key} {d : D} {v : V} (hv : Rp K G d v) : ∀ {kvs : List (List Key × D)} {vs : List (List Key × V)}, RpT K G kvs vs → RpT K G (kvs.map fun p => if p.1 = k then (p.1, d) else p) (vs.map fun kv => if kv.1 = k then (kv.1, v) else kv)
  | [], vs, h => by simp only [RpT] at h; subst h; simp only [List.map_nil, RpT]
  | (k', d') :: kvs, vs, h => by
    simp only [RpT] at h
    obtain ⟨x, r, rfl, e2, e3⟩ := h
    simp only [List.map_cons]
    by_cases hkk : k' = k
    · rw [if_pos hkk, if_pos hkk]; simp only [RpT]; exact ⟨v, _, rfl, ⟨e2.1, hv⟩, RpT.put hv e3⟩
    · rw [if_neg hkk, if_neg hkk]; simp only [RpT]; exact ⟨x, _, rfl, e2, RpT.put hv e3⟩
theorem RpT.snoc {K : PySem.W.Frag} {G : Hp} {k : List Key} {d : D} {v : V} (hk : ∀ j ∈ k, KeyG j) (hv : Rp K G d v) : ∀ {kvs : List (List Key × D)} {vs : List (List Key × V)}, RpT K G kvs vs → RpT K G (kvs ++ [(k, d)]) (vs ++ [(k, v)])
  | [], vs, h => by simp only [RpT] at h; subst h; simp only [List.nil_append, RpT]; exact ⟨v, [], rfl, ⟨hk, hv⟩, rfl⟩
  | (k', d') :: kvs, vs, h => by
    simp only [RpT] at h
    obtain ⟨x, r, rfl, e2, e3⟩ := h
    simp only [List.cons_append, RpT]
    exact ⟨x, _, rfl, e2, RpT.snoc hk hv e3⟩
theorem RpT.dPut {K : PySem.W.Frag} {G : Hp} {k : List Key} {d : D} {v : V} (hk : ∀ j ∈ k, KeyG j) (hv : Rp K G d v) {kvs : List (List Key × D)} {vs : List (List Key × V)} (h : RpT K G kvs vs) : RpT K G (LJ.dPut kvs k d) (putK vs k v) := by
  have e : (vs.any fun kv => decide (kv.1 = k)) = (kvs.any fun p => decide (p.1 = k)) := by
    have e1 : (vs.any fun kv => decide (kv.1 = k)) = (vs.map (·.1)).any fun x => decide (x = k) := by rw [List.any_map]; rfl
    have e2 : (kvs.any fun p => decide (p.1 = k)) = (kvs.map (·.1)).any fun x => decide (x = k) := by rw [List.any_map]; rfl
    rw [e1, e2, h.keys]
  unfold LJ.dPut putK
  rw [e]
  split
  · exact RpT.put hv h
  · exact RpT.snoc hk hv h
theorem keyD_good {K : PySem.W.Frag} {G H : Hp} {d : D} {kk : Key} {v : V} (h : BRp K G H d v) (e : keyD d = some kk) : KeyG kk := by
  cases d with
  | int i => cases e; trivial
  | str x => cases e; exact (br_str h).2
  | _ => cases e
theorem keysD_good {K : PySem.W.Frag} {G : Hp} : ∀ {ds : List D} {ks : List Key} {vs : List V}, RpL K G ds vs → keysD ds = some ks → ∀ j ∈ ks, KeyG j
  | [], ks, vs, h, e => by cases e; simp
  | d :: ds, ks, vs, h, e => by
    simp only [RpL] at h
    obtain ⟨x, r, rfl, e2, e3⟩ := h
    simp only [keysD] at e
    cases q1 : keyD d with
    | none => rw [q1] at e; cases e
    | some kk =>
      cases q2 : keysD ds with
      | none => rw [q1, q2] at e; cases e
      | some ks' =>
        rw [q1, q2] at e
        cases e
        intro j hj
        rcases List.mem_cons.mp hj with rfl | hj
        · cases d with
          | int i => cases q1; trivial
          | str y => cases q1; simp only [Rp] at e2; exact e2.2
          | _ => cases q1
        · exact keysD_good e3 q2 j hj
theorem keyT_good {K : PySem.W.Frag} {G H : Hp} {d : D} {ks : List Key} {v : V} (h : BRp K G H d v) (sm : Same G H) (e : keyT d = some ks) : ∀ j ∈ ks, KeyG j := by
  cases d with
  | tup ds =>
    obtain ⟨a, vs, rfl, h1, h2⟩ := br_tup h sm
    exact keysD_good h2 e
  | _ => cases e
theorem PS.by {X : Cx} {st : Stmt} {t' : TS} (h : ∀ D σ H, t' D σ H → ∃ t, PS X st t ∧ t D σ H) : PS X st t' := ⟨fun pins s σ H D I q => let ⟨t, h1, h2⟩ := h D σ H q; h1.run pins s σ H D I h2⟩
theorem Ps.put {i : Nat} {kk e : E} : Ps fn gn gv cal k N sc (.put i kk e) := by
  refine Ps.one (fun st h X g => ?_) (fun sts => by cases sts <;> rfl)
  have inv : ∃ n p kx pp x pos, st = .Assign [.Subscript (.Name n p) kx pp] x pos ∧ chk fn gn N (.var i) sc (.e (.Name n p)) = true ∧ plainIx kx = true ∧ chk fn gn N kk sc (.e kx) = true ∧ chk fn gn N e sc (.e x) = true := by
    cases st with
    | Assign ts x pos =>
      match ts, h with
      | [], h => exact absurd h Bool.false_ne_true
      | [t], h => cases t with
        | Subscript o kx pp => cases o with
          | Name n p =>
            have h : (chk fn gn N (.var i) sc (.e (.Name n p)) && plainIx kx && chk fn gn N kk sc (.e kx) && chk fn gn N e sc (.e x)) = true := h
            simp only [Bool.and_eq_true] at h
            exact ⟨n, p, kx, pp, x, pos, rfl, h.1.1.1, h.1.1.2, h.1.2, h.2⟩
          | _ => exact absurd h Bool.false_ne_true
        | _ => exact absurd h Bool.false_ne_true
      | t :: _ :: _, h => cases t <;> first | exact absurd h Bool.false_ne_true | (rename_i o _ _; cases o <;> exact absurd h Bool.false_ne_true)
    | _ => exact absurd h Bool.false_ne_true
  obtain ⟨n, p, kx, pp, x, pos, rfl, h1, h2, h3, h4⟩ := inv
  have hv := toD ((Pe.all e).s sc x h4 X g.g)
  have hk := (Pe.all kk).b sc kx h3 X g.g
  have hd := ps_dput (pos := pos) (pos' := pp) g.g.hu1 (pe_v h1 g.g) hk hv (sub_swaps x (.Name n p) kx pp pos.line X.env)
  refine PS.by ?_
  rintro D σ H ⟨G0, H0, ρ, G, out, R, eo, q⟩
  obtain ⟨ρ', e1, rfl⟩ := nx_some eo
  replace e1 : putS ρ i (evA gv cal kk ρ).b (dOf (evA gv cal e ρ).s) = some ρ' := e1
  unfold putS at e1
  split at e1
  · rename_i kvs kd d er ek ed
    obtain ⟨key, e2, e3⟩ := Option.bind_eq_some_iff.mp e1
    split at e3
    · rename_i hz
      cases e3
      have e6 := rd_some er
      refine ⟨_, hd, G0, H0, ρ, G, d, R, ed, fun w G' H' st rw' => ?_⟩
      have R' := R.step st
      obtain ⟨v, ev, sv⟩ := R'.slot i _ e6
      obtain ⟨a, vs, rfl, p1, p2, p3, p4⟩ := sv
      refine ⟨.ref a, ev, G0, H0, ρ, G', kd, R', ek, fun y G2 H2 st2 by2 => ?_⟩
      have R2 := R'.step st2
      have p1' := st2.h _ _ p1
      obtain ⟨v', ev', sv'⟩ := R2.slot i _ e6
      rw [ev] at ev'; cases ev'
      obtain ⟨a', vs', ea, k1, k2, k3, k4⟩ := sv'
      cases ea
      rw [p1'] at k1; cases k1
      have ey := key_rp by2 e2
      subst ey
      refine ⟨a, _, rfl, DPut.k p1' (by rw [k4.length]; exact hz), ?_⟩
      exact q σ G2 _ (st.g.trans st2.g) (R2.mut (sl' := .ok (dPut kvs key d)) e6 rfl ev k2 k3 ⟨a, _, rfl, upd_same, k2, k3, RpK.dPut (keyD_good by2 e2) (Rp.mono st2.g d rw') k4⟩ rfl)
    · cases e3
  · rename_i kvs kd d er ek ed
    obtain ⟨key, e2, e3⟩ := Option.bind_eq_some_iff.mp e1
    split at e3
    · rename_i hz
      cases e3
      have e6 := rd_some er
      refine ⟨_, hd, G0, H0, ρ, G, d, R, ed, fun w G' H' st rw' => ?_⟩
      have R' := R.step st
      obtain ⟨v, ev, sv⟩ := R'.slot i _ e6
      obtain ⟨a, vs, rfl, p1, p2, p3, p4⟩ := sv
      refine ⟨.ref a, ev, G0, H0, ρ, G', kd, R', ek, fun y G2 H2 st2 by2 => ?_⟩
      have R2 := R'.step st2
      have p1' := st2.h _ _ p1
      obtain ⟨v', ev', sv'⟩ := R2.slot i _ e6
      rw [ev] at ev'; cases ev'
      obtain ⟨a', vs', ea, k1, k2, k3, k4⟩ := sv'
      cases ea
      rw [p1'] at k1; cases k1
      obtain ⟨b, rfl, hb⟩ := keyT_rp by2 st2.gh e2
      refine ⟨a, _, rfl, DPut.t p1' hb (by rw [k4.length]; exact hz), ?_⟩
      exact q σ G2 _ (st.g.trans st2.g) (R2.mut (sl' := .ot (dPut kvs key d)) e6 rfl ev k2 k3 ⟨a, _, rfl, upd_same, k2, k3, RpT.dPut (keyT_good by2 st2.gh e2) (Rp.mono st2.g d rw') k4⟩ rfl)
    · cases e3
  · rename_i ds j d er ek ed
    obtain ⟨jj, e2, rfl⟩ := Option.map_eq_some_iff.mp e1
    have e6 := rd_some er
    have hl : PS X (.Assign [.Subscript (.Name n p) kx pp] x pos) (tAsg (tD X.K fun ρ => dOf (evA gv cal e ρ).s) (gSub (tVar i) (tB X.K fun ρ => (evA gv cal kk ρ).b) rSetL)) :=
      ps_asg hv (pg_sub (pe_v h1 g.g) hk set_list (fun v => by cases kx <;> first | rfl | exact absurd h2 Bool.false_ne_true)) (sub_swaps x (.Name n p) kx pp pos.line X.env) (by cases x <;> rfl) rfl
    refine ⟨_, hl, G0, H0, ρ, G, d, R, ed, fun w G' H' st rw' => ?_⟩
    have R' := R.step st
    obtain ⟨v, ev, sv⟩ := R'.slot i _ e6
    obtain ⟨a, vs, rfl, p1, p2, p3, p4⟩ := sv
    refine ⟨.ref a, ev, G0, H0, ρ, G', .int j, R', ek, fun y G2 H2 st2 by2 => ?_⟩
    have R2 := R'.step st2
    have p1' := st2.h _ _ p1
    obtain ⟨v', ev', sv'⟩ := R2.slot i _ e6
    rw [ev] at ev'; cases ev'
    obtain ⟨a', vs', ea, k1, k2, k3, k4⟩ := sv'
    cases ea
    rw [p1'] at k1; cases k1
    refine ⟨a, vs, j, jj, rfl, br_int by2, p1', by rw [k4.length]; exact e2, ?_⟩
    exact q σ G2 _ (st.g.trans st2.g) (R2.mut (sl' := .ol (ds.set jj d)) e6 rfl ev k2 k3 ⟨a, _, rfl, upd_same, k2, k3, k4.set jj (Rp.mono st2.g d rw')⟩ rfl)
  · cases e1
end
end LJ
/-! LJr: pairs of stores, loops, whole defs. -/
namespace LJ
open PySem PySem.Spec PyProof.Rows L2
section
variable {fn gn : Nat → Str} {gv : Nat → Option D} {cal : Nat → List D → Option Slot} {k : Nat} {N : List Str} {sc : Scope}
/-- the value of a slot that is to be stored -/
theorem own_or {F : En → Option Slot} {o : Bool} {X : Cx} {x : Expr} (h : PE X x (tF X.K F)) : PE X x (tF X.K fun ρ => (F ρ).map fun s => if o then s else .sh s.d) := by
  cases o with
  | true =>
    refine PE.imp h ?_
    rintro σ H Q ⟨G0, H0, ρ, G, sl, R, e, q⟩
    obtain ⟨s, e1, rfl⟩ := Option.map_eq_some_iff.mp e
    exact ⟨G0, H0, ρ, G, s, R, e1, q⟩
  | false =>
    refine PE.imp (toD h) ?_
    rintro σ H Q ⟨G0, H0, ρ, G, sl, R, e, q⟩
    obtain ⟨s, e1, rfl⟩ := Option.map_eq_some_iff.mp e
    exact ⟨G0, H0, ρ, G, s.d, R, by show (F ρ).map Slot.d = _; rw [e1]; rfl, q⟩
theorem swP_some {kf : Str → Option NameKind} {ts xs : List Expr} {kt k2 : Nat} {pt pt2 : Pos} {ns : List Str} (h : swP kf [.Tuple ts kt pt] (.Tuple xs k2 pt2) = some (some ns)) : xs.length = ts.length ∧ ∀ n ∈ ns, kf n = some .local := by
  unfold swP at h
  have e : swT [.Tuple ts kt pt] (.Tuple xs k2 pt2) = some (ts, xs) := rfl
  rw [e] at h
  simp only at h
  split at h
  · cases h
  · rename_i c
    split at h
    · cases h
    · split at h
      · cases h
      · split at h
        · cases h
        · split at h
          · cases h
          · cases h
            refine ⟨?_, fun n hn => ?_⟩
            · simp only [Bool.or_eq_true, not_or] at c
              simpa using c.2
            · unfold swNames at hn
              obtain ⟨t, _, h2⟩ := List.mem_filterMap.mp hn
              cases t with
              | Name id pos =>
                simp only at h2
                split at h2
                · rename_i hc
                  cases h2
                  rw [Bool.and_eq_true] at hc
                  exact eq_of_beq hc.1
                · cases h2
              | _ => cases h2
theorem evM_cons {a r : E} {os : List Bool} {ρ : En} {ss : List Slot} (h : evM gv cal (.cons a r) os ρ = some ss) : ∃ o os' s ss', os = o :: os' ∧ (evA gv cal a ρ).s = some s ∧ evM gv cal r os' ρ = some ss' ∧ ss = (if o then s else .sh s.d) :: ss' := by
  cases os with
  | nil => cases h
  | cons o os =>
    simp only [evM] at h
    split at h
    · rename_i s ss' e1 e2
      cases h
      exact ⟨o, os, s, ss', rfl, e1, e2, rfl⟩
    · cases h
theorem evM_nil {os : List Bool} {ρ : En} {ss : List Slot} (h : evM gv cal .nil os ρ = some ss) : os = [] ∧ ss = [] := by
  cases os with
  | nil => cases h; exact ⟨rfl, rfl⟩
  | cons o os => cases h
/-- all shared -/
theorem evM_sh : ∀ {es : E} {os : List Bool} {ρ : En} {ss : List Slot}, evM gv cal es os ρ = some ss → os.all (!·) = true → ∃ ds, (evA gv cal es ρ).l = some ds ∧ ss = ds.map Slot.sh ∧ ds.length = os.length := by
  intro es
  induction es with
  | nil => intro os ρ ss h _; obtain ⟨rfl, rfl⟩ := evM_nil h; exact ⟨[], rfl, rfl, rfl⟩
  | cons a r _ ih =>
    intro os ρ ss h ha
    obtain ⟨o, os', s, ss', rfl, e1, e2, rfl⟩ := evM_cons h
    rw [List.all_cons, Bool.and_eq_true, Bool.not_eq_true'] at ha
    obtain ⟨ds, d1, rfl, d2⟩ := ih e2 ha.2
    refine ⟨s.d :: ds, ?_, by rw [ha.1]; rfl, by rw [List.length_cons, List.length_cons, d2]⟩
    show consS (dOf (evA gv cal a ρ).s) (evA gv cal r ρ).l = _
    rw [e1, d1]; rfl
  | _ => intro os ρ ss h; cases os <;> cases h
theorem setSl_sh : ∀ {is : List Nat} {ρ ρ' : En} {ds : List D}, setSl ρ is (ds.map Slot.sh) = some ρ' → setMany ρ is ds = some ρ'
  | [], ρ, ρ', [], h => h
  | [], ρ, ρ', _ :: _, h => by cases h
  | i :: is, ρ, ρ', [], h => by cases h
  | i :: is, ρ, ρ', d :: ds, h => setSl_sh (is := is) (ds := ds) h
theorem chkL_cons {es : E} {x : Expr} {xs : List Expr} (h : chk fn gn N es sc (.l (x :: xs)) = true) : ∃ a r, es = .cons a r ∧ chk fn gn N a sc (.e x) = true ∧ chk fn gn N r sc (.l xs) = true := by
  cases es <;> first | exact absurd h Bool.false_ne_true | skip
  rename_i a r
  have h : (chk fn gn N a sc (.e x) && chk fn gn N r sc (.l xs)) = true := h
  rw [Bool.and_eq_true] at h
  exact ⟨a, r, rfl, h.1, h.2⟩
theorem chkL_nil {es : E} (h : chk fn gn N es sc (.l []) = true) : es = .nil := by
  cases es <;> first | exact absurd h Bool.false_ne_true | rfl
theorem tgN_some {i : Nat} {t : Expr} (h : (match t with | .Name x _ => decide (N[i]? = some x) && locB sc x | _ => false) = true) : ∃ n p, t = .Name n p ∧ N[i]? = some n := by
  cases t with
  | Name n p =>
    have h : (decide (N[i]? = some n) && locB sc n) = true := h
    rw [Bool.and_eq_true, decide_eq_true_eq] at h
    exact ⟨n, p, rfl, h.1⟩
  | _ => exact absurd h Bool.false_ne_true
theorem Ps.par {is : List Nat} {own : List Bool} {es : E} : Ps fn gn gv cal k N sc (.par is own es) := by
  refine Ps.one (fun st h X g => ?_) (fun sts => by cases sts <;> rfl)
  have inv : ∃ ts kt pt xs k2 pt2 pos, st = .Assign [.Tuple ts kt pt] (.Tuple xs k2 pt2) pos ∧ tgB N sc (.many is) (.Tuple ts kt pt) = true ∧ chk fn gn N es sc (.l xs) = true ∧ parB is own ts (swP (fun id => sc.names.lookup id) [.Tuple ts kt pt] (.Tuple xs k2 pt2)) = true := by
    cases st with
    | Assign ts x pos =>
      match ts, h with
      | [], h => cases x <;> exact absurd h Bool.false_ne_true
      | [t], h => cases t with
        | Tuple ts kt pt => cases x with
          | Tuple xs k2 pt2 =>
            have h : (tgB N sc (.many is) (.Tuple ts kt pt) && chk fn gn N es sc (.l xs) && parB is own ts (swP (fun id => sc.names.lookup id) [.Tuple ts kt pt] (.Tuple xs k2 pt2))) = true := h
            simp only [Bool.and_eq_true] at h
            exact ⟨ts, kt, pt, xs, k2, pt2, pos, rfl, h.1.1, h.1.2, h.2⟩
          | _ => exact absurd h Bool.false_ne_true
        | _ => exact absurd h Bool.false_ne_true
      | t :: _ :: _, h => cases t <;> cases x <;> exact absurd h Bool.false_ne_true
    | _ => exact absurd h Bool.false_ne_true
  obtain ⟨ts, kt, pt, xs, k2, pt2, pos, rfl, h1, h2, h3⟩ := inv
  have hb : X.env.blockKind = .function := by unfold PySem.Env.blockKind; rw [g.g.hsc, g.kind]; rfl
  have hkf : X.env.kindOf = fun id => sc.names.lookup id := by funext id; unfold PySem.Env.kindOf; rw [g.g.hsc]
  cases hsw : swP (fun id => sc.names.lookup id) [.Tuple ts kt pt] (.Tuple xs k2 pt2) with
  | none => rw [hsw] at h3; cases h3
  | some r =>
    have hst : swappedStores [.Tuple ts kt pt] (.Tuple xs k2 pt2) X.env = pure r := swP_ok hb (by rw [hkf]; exact hsw)
    rw [hsw] at h3
    cases r with
    | none =>
      have h3 : (own.all (!·) && decide (own.length = is.length) && decide (is.length ≤ 1000)) = true := h3
      simp only [Bool.and_eq_true, decide_eq_true_eq] at h3
      refine PS.imp (ps_asg (pe_tup ((Pe.all es).l sc xs h2 X g.g)) (g.pg h1) rfl hst rfl) ?_
      rintro D σ H ⟨G0, H0, ρ, G, out, R, eo, q⟩
      obtain ⟨ρ', e1, rfl⟩ := nx_some eo
      obtain ⟨ss, e2, e3⟩ := Option.bind_eq_some_iff.mp e1
      obtain ⟨ds, d1, rfl, d2⟩ := evM_sh e2 h3.1.1
      have e4 := setSl_sh e3
      refine ⟨G0, H0, ρ, G, ds, R, d1, fun vs G' H' st rv => ⟨?_, fun p hp => ?_⟩⟩
      · rw [rv.length, d2, h3.1.2]
        exact Nat.le_of_lt (small1000 h3.2)
      · obtain ⟨st2, sv⟩ := newT st.gh hp rv
        have stt := st.trans st2
        refine gT_ok (tg := .many is) (R.step stt) (d := .tup ds) (ρ' := ρ') (by simp only [bindT]; rw [if_pos (d2.trans h3.1.2)]; exact e4) sv fun σ' R' _ => q σ' _ _ stt.g R'
    | some ns =>
      have h3 : (decide (is.Nodup) && decide (ns = ts.map nmX) && (decide (is.length = 2) || decide (is.length = 3)) && decide (own.length = is.length)) = true := h3
      simp only [Bool.and_eq_true, Bool.or_eq_true, decide_eq_true_eq] at h3
      obtain ⟨⟨⟨hnd, hns⟩, hl⟩, hol⟩ := h3
      obtain ⟨hxl, hloc⟩ := swP_some hsw
      have h1 : (decide (ts.length = is.length) && (is.zip ts).all fun p => match p.2 with
        | .Name x _ => decide (N[p.1]? = some x) && locB sc x
        | _ => false) = true := h1
      rw [Bool.and_eq_true, decide_eq_true_eq] at h1
      obtain ⟨h1l, h1a⟩ := h1
      subst hns
      rcases hl with hl | hl
      · match is, ts, xs, hl, h1l, hxl with
        | [i, j], [t1, t2], [x, y], _, _, _ =>
          simp only [List.zip_cons_cons, List.zip_nil_left, List.all_cons, List.all_nil, Bool.and_true, Bool.and_eq_true] at h1a
          obtain ⟨n, p, rfl, hi⟩ := tgN_some h1a.1
          obtain ⟨m, p', rfl, hj⟩ := tgN_some h1a.2
          obtain ⟨a, r, rfl, ha, z1⟩ := chkL_cons h2
          obtain ⟨b, r', rfl, hb', z2⟩ := chkL_cons z1
          have := chkL_nil z2
          subst this
          have hij : i ≠ j := by simpa using hnd
          have ln : sc.names.lookup n = some .local := hloc n (by simp [nmX])
          have lm : sc.names.lookup m = some .local := hloc m (by simp [nmX])
          match own, hol with
          | [o1, o2], _ =>
            have pa : PA X [x, y] (tCons (tF X.K fun ρ => (evA gv cal a ρ).s.map fun s => if o1 then s else .sh s.d) (tCons (tF X.K fun ρ => (evA gv cal b ρ).s.map fun s => if o2 then s else .sh s.d) tNil)) :=
              pa_cons (own_or ((Pe.all a).s sc x ha X g.g)) (pa_cons (own_or ((Pe.all b).s sc y hb' X g.g)) pa_nil (star_of (chk_star hb') [] X.env)) (star_of (chk_star ha) [y] X.env)
            refine PS.imp (ps_par g.g.calm g.nd (g.ix hi) (g.ix hj) hij (by rw [g.g.hsc]; exact ln) (by rw [g.g.hsc]; exact lm) pa hst rfl) ?_
            rintro D σ H ⟨G0, H0, ρ, G, out, R, eo, q⟩
            obtain ⟨ρ', e1, rfl⟩ := nx_some eo
            obtain ⟨ss, e2, e3⟩ := Option.bind_eq_some_iff.mp e1
            obtain ⟨_, _, s1, ss1, eq1, f1, y1, rfl⟩ := evM_cons e2
            cases eq1
            obtain ⟨_, _, s2, ss2, eq2, f2, y2, rfl⟩ := evM_cons y1
            cases eq2
            obtain ⟨_, rfl⟩ := evM_nil y2
            cases e3
            refine ⟨G0, H0, ρ, G, _, R, by simp only [f1]; rfl, fun v1 G1 H1 st1 sv1 => ⟨G0, H0, ρ, G1, _, R.step st1, by simp only [f2]; rfl, fun v2 G2 H2 st2 sv2 => ⟨v1, v2, rfl, ?_⟩⟩⟩
            exact q _ G2 H2 (st1.trans st2).g ((R.set_sl st1 sv1).set_sl st2 sv2)
      · match is, ts, xs, hl, h1l, hxl with
        | [i, j, l], [t1, t2, t3], [x, y, z], _, _, _ =>
          simp only [List.zip_cons_cons, List.zip_nil_left, List.all_cons, List.all_nil, Bool.and_true, Bool.and_eq_true] at h1a
          obtain ⟨n, p, rfl, hi⟩ := tgN_some h1a.1
          obtain ⟨m, p', rfl, hj⟩ := tgN_some h1a.2.1
          obtain ⟨o, p2, rfl, hll⟩ := tgN_some h1a.2.2
          obtain ⟨a, r, rfl, ha, z1⟩ := chkL_cons h2
          obtain ⟨b, r', rfl, hb', z2⟩ := chkL_cons z1
          obtain ⟨c, r2, rfl, hc', z3⟩ := chkL_cons z2
          have := chkL_nil z3
          subst this
          have hij : i ≠ j ∧ i ≠ l ∧ j ≠ l := by
            simp only [List.nodup_cons, List.mem_cons, List.not_mem_nil, not_or] at hnd
            exact ⟨hnd.1.1, hnd.1.2.1, hnd.2.1.1⟩
          have ln : sc.names.lookup n = some .local := hloc n (by simp [nmX])
          have lm : sc.names.lookup m = some .local := hloc m (by simp [nmX])
          have lo : sc.names.lookup o = some .local := hloc o (by simp [nmX])
          match own, hol with
          | [o1, o2, o3], _ =>
            have pa : PA X [x, y, z] (tCons (tF X.K fun ρ => (evA gv cal a ρ).s.map fun s => if o1 then s else .sh s.d) (tCons (tF X.K fun ρ => (evA gv cal b ρ).s.map fun s => if o2 then s else .sh s.d) (tCons (tF X.K fun ρ => (evA gv cal c ρ).s.map fun s => if o3 then s else .sh s.d) tNil))) :=
              pa_cons (own_or ((Pe.all a).s sc x ha X g.g)) (pa_cons (own_or ((Pe.all b).s sc y hb' X g.g)) (pa_cons (own_or ((Pe.all c).s sc z hc' X g.g)) pa_nil (star_of (chk_star hc') [] X.env)) (star_of (chk_star hb') [z] X.env)) (star_of (chk_star ha) [y, z] X.env)
            refine PS.imp (ps_par3 g.g.calm g.nd (g.ix hi) (g.ix hj) (g.ix hll) hij.1 hij.2.1 hij.2.2 (by rw [g.g.hsc]; exact ln) (by rw [g.g.hsc]; exact lm) (by rw [g.g.hsc]; exact lo) pa hst rfl) ?_
            rintro D σ H ⟨G0, H0, ρ, G, out, R, eo, q⟩
            obtain ⟨ρ', e1, rfl⟩ := nx_some eo
            obtain ⟨ss, e2, e3⟩ := Option.bind_eq_some_iff.mp e1
            obtain ⟨_, _, s1, ss1, eq1, f1, y1, rfl⟩ := evM_cons e2
            cases eq1
            obtain ⟨_, _, s2, ss2, eq2, f2, y2, rfl⟩ := evM_cons y1
            cases eq2
            obtain ⟨_, _, s3, ss3, eq3, f3, y3, rfl⟩ := evM_cons y2
            cases eq3
            obtain ⟨_, rfl⟩ := evM_nil y3
            cases e3
            refine ⟨G0, H0, ρ, G, _, R, by simp only [f1]; rfl, fun v1 G1 H1 st1 sv1 => ⟨G0, H0, ρ, G1, _, R.step st1, by simp only [f2]; rfl, fun v2 G2 H2 st2 sv2 => ⟨G0, H0, ρ, G2, _, (R.step st1).step st2, by simp only [f3]; rfl, fun v3 G3 H3 st3 sv3 => ⟨v1, v2, v3, rfl, ?_⟩⟩⟩⟩
            exact q _ G3 H3 (st1.trans (st2.trans st3)).g (((R.set_sl st1 sv1).set_sl st2 sv2).set_sl st3 sv3)
end
end LJ
/-! LJs: loops, every statement, defs. -/
namespace LJ
open PySem PySem.Spec PyProof.Rows L2
section
variable {fn gn : Nat → Str} {gv : Nat → Option D} {cal : Nat → List D → Option Slot} {k : Nat} {N : List Str} {sc : Scope}
theorem forL_cons {B : D → En → Option En} {f : En → Option Out} {d : D} {ds : List D} {ρ : En} {o : Out} (h : forL B f (d :: ds) ρ = some o) : ∃ ρ' o', B d ρ = some ρ' ∧ f ρ' = some o' ∧
    ((∃ ρ2, o' = .next ρ2 ∧ forL B f ds ρ2 = some o) ∨ (∃ ρ2, o' = .brk ρ2 ∧ o = .next ρ2) ∨ ∃ s, o' = .ret s ∧ o = .ret s) := by
  simp only [forL] at h
  split at h
  · cases h
  · rename_i ρ' e1
    split at h
    · cases h
    · rename_i ρ2 e2
      exact ⟨ρ', _, e1, e2, .inl ⟨ρ2, rfl, h⟩⟩
    · rename_i ρ2 e2
      cases h
      exact ⟨ρ', _, e1, e2, .inr (.inl ⟨ρ2, rfl, rfl⟩)⟩
    · rename_i s e2
      cases h
      exact ⟨ρ', _, e1, e2, .inr (.inr ⟨s, rfl, rfl⟩)⟩
theorem Ps.for_ {tg : Tg} {it : E} {body : S} (hb : Ps fn gn gv cal k N sc body) : Ps fn gn gv cal k N sc (.for_ tg it body) := by
  refine Ps.one (fun st h X g => ?_) (fun sts => by cases sts <;> rfl)
  have inv : ∃ t x b pos, st = .For t x b [] pos ∧ notSet x = true ∧ chk fn gn N it sc (.e x) = true ∧ tgB N sc tg t = true ∧ (!needTup it || isTupX t) = true ∧ chkS fn gn N sc body (.l b) = true := by
    cases st with
    | For t x b oe pos => cases oe with
      | nil =>
        have h : (notSet x && chk fn gn N it sc (.e x) && tgB N sc tg t && (!needTup it || isTupX t) && chkS fn gn N sc body (.l b)) = true := h
        simp only [Bool.and_eq_true] at h
        exact ⟨t, x, b, pos, rfl, h.1.1.1.1, h.1.1.1.2, h.1.1.2, h.1.2, h.2⟩
      | cons _ _ => exact absurd h Bool.false_ne_true
    | _ => exact absurd h Bool.false_ne_true
  obtain ⟨t, x, b, pos, rfl, h1, h2, h3, h4, h5⟩ := inv
  have nt : needTup it = true → isTupX t = true := fun n => by rw [n] at h4; simpa using h4
  refine PS.imp (ps_for g.pas g.g.calm ((Pe.all it).iS sc x h2 X g.g t nt) (g.pg h3) (hb.l b h5 X g) (notSet_fold h1 _)) ?_
  rintro D σ H ⟨G0, H0, ρ, G, out, R, eo, q⟩
  obtain ⟨ds, e1, e2⟩ := Option.bind_eq_some_iff.mp (show ((evA gv cal it (hidI it ρ)).i).bind (fun ds => forL (bindT tg) (fun ρ => ex gv cal body ρ) ds ρ) = some out from eo)
  refine ⟨G0, H0, ρ, G, ds, R, e1, fun J G1 H1 st1 wk => ?_⟩
  refine ⟨fun i m σi Hi => m = ds.length - i ∧ i ≤ ds.length ∧ ∃ Gi ρi, SR X.K G0 H0 ρi σi Gi Hi ∧ Same G1 Gi ∧ forL (bindT tg) (fun ρ => ex gv cal body ρ) (ds.drop i) ρi = some out,
    ⟨ds.length, by simp, Nat.zero_le _, G1, ρ, R.step st1, Same.refl _, e2⟩, ?_⟩
  rintro i m σi Hi ⟨rfl, hi, Gi, ρi, Ri, smi, ei⟩
  have w := wk i Gi Hi ⟨smi, Ri.gh⟩
  by_cases hlt : i < ds.length
  · rw [List.drop_eq_getElem_cons hlt] at ei
    obtain ⟨ρ', o', b1, b2, alt⟩ := forL_cons ei
    obtain ⟨go, yl⟩ := w.1 _ (List.getElem?_eq_getElem hlt)
    refine .inr ⟨go, fun σn Hn => ∃ Gn ρn, SR X.K G0 H0 ρn σn Gn Hn ∧ Same G1 Gn ∧ forL (bindT tg) (fun ρ => ex gv cal body ρ) (ds.drop (i + 1)) ρn = some out, fun σ' H' nxx => ⟨ds.length - (i + 1), by omega, rfl, hlt, nxx⟩, fun y H' hy => ?_⟩
    obtain ⟨G', st2, ry⟩ := yl y H' hy
    refine gT_ok (Ri.step st2) b1 ry fun σ2 R2 _ => ⟨G0, H0, ρ', G', o', R2, b2, ?_⟩
    rcases alt with ⟨ρ2, rfl, e3⟩ | ⟨ρ2, rfl, rfl⟩ | ⟨s, rfl, rfl⟩
    · exact fun σ3 G3 H3 sm3 R3 => ⟨G3, ρ2, R3, smi.trans (st2.g.trans sm3), e3⟩
    · exact fun σ3 G3 H3 sm3 R3 => q σ3 G3 H3 (st1.g.trans (smi.trans (st2.g.trans sm3))) R3
    · exact q
  · have ei' : i = ds.length := by omega
    subst ei'
    rw [List.drop_length] at ei
    cases ei
    exact .inl ⟨w.2 (Nat.le_refl _), q σi Gi Hi (st1.g.trans smi) Ri⟩
theorem Ps.while_ {n : Nat} {c : E} {body : S} (hb : Ps fn gn gv cal k N sc body) : Ps fn gn gv cal k N sc (.while_ n c body) := by
  refine Ps.one (fun st h X g => ?_) (fun sts => by cases sts <;> rfl)
  have inv : ∃ x b pos, st = .While x b [] pos ∧ chk fn gn N c sc (.e x) = true ∧ chkS fn gn N sc body (.l b) = true := by
    cases st with
    | While x b oe pos => cases oe with
      | nil =>
        have h : (chk fn gn N c sc (.e x) && chkS fn gn N sc body (.l b)) = true := h
        simp only [Bool.and_eq_true] at h
        exact ⟨x, b, pos, rfl, h.1, h.2⟩
      | cons _ _ => exact absurd h Bool.false_ne_true
    | _ => exact absurd h Bool.false_ne_true
  obtain ⟨x, b, pos, rfl, h1, h2⟩ := inv
  refine PS.imp (ps_while g.pas ((Pe.all c).t sc x h1 X g.g) (hb.l b h2 X g)) ?_
  rintro D σ H ⟨G0, H0, ρ, G, out, R, eo, q⟩
  replace eo : whileN (fun ρ => asB (evA gv cal c ρ).b) (fun ρ => ex gv cal body ρ) n ρ = some out := eo
  refine ⟨fun m σi Hi => ∃ Gi ρi, SR X.K G0 H0 ρi σi Gi Hi ∧ Same G Gi ∧ whileN (fun ρ => asB (evA gv cal c ρ).b) (fun ρ => ex gv cal body ρ) m ρi = some out, ⟨n, G, ρ, R, Same.refl _, eo⟩, ?_⟩
  rintro m σi Hi ⟨Gi, ρi, Ri, smi, ei⟩
  cases m with
  | zero => cases ei
  | succ m =>
    simp only [whileN] at ei
    split at ei
    · cases ei
    · rename_i ec
      cases ei
      exact ⟨G0, H0, ρi, Gi, false, Ri, ec, fun G' H' st => iteF (q σi G' H' (smi.trans st.g) (Ri.step st))⟩
    · rename_i ec
      refine ⟨G0, H0, ρi, Gi, true, Ri, ec, fun G' H' st => iteT ⟨fun σn Hn => ∃ Gn ρn, SR X.K G0 H0 ρn σn Gn Hn ∧ Same G Gn ∧ whileN (fun ρ => asB (evA gv cal c ρ).b) (fun ρ => ex gv cal body ρ) m ρn = some out, fun σ' H' nxx => ⟨m, Nat.lt_succ_self m, nxx⟩, ?_⟩⟩
      split at ei
      · cases ei
      · rename_i ρ2 eb
        exact ⟨G0, H0, ρi, G', _, Ri.step st, eb, fun σ3 G3 H3 sm3 R3 => ⟨G3, ρ2, R3, smi.trans (st.g.trans sm3), ei⟩⟩
      · rename_i ρ2 eb
        cases ei
        exact ⟨G0, H0, ρi, G', _, Ri.step st, eb, fun σ3 G3 H3 sm3 R3 => q σ3 G3 H3 (smi.trans (st.g.trans sm3)) R3⟩
      · rename_i s eb
        cases ei
        exact ⟨G0, H0, ρi, G', _, Ri.step st, eb, q⟩
theorem Ps.pub {i : Nat} : Ps fn gn gv cal k N sc (.pub i) where
  s := fun st h => by cases st <;> exact absurd h Bool.false_ne_true
  l := fun sts h => by cases sts <;> exact absurd h Bool.false_ne_true
theorem Ps.gen_ {tg : Tg} {it e : E} {b : S} : Ps fn gn gv cal k N sc (.gen_ tg it b e) where
  s := fun st h => by cases st <;> exact absurd h Bool.false_ne_true
  l := fun sts h => by cases sts <;> exact absurd h Bool.false_ne_true
theorem Ps.all : ∀ s : S, Ps fn gn gv cal k N sc s := by
  intro s
  induction s with
  | skip => exact Ps.skip
  | pass => exact Ps.pass
  | seq a b ha hb => exact Ps.seq ha hb
  | asg i own e => exact Ps.asg
  | asgT is e => exact Ps.asgT
  | par is own es => exact Ps.par
  | aug i op e => exact Ps.aug
  | put i kk e => exact Ps.put
  | app i e => exact Ps.app
  | expr e => exact Ps.expr
  | ite c a b ha hb => exact Ps.ite ha hb
  | for_ tg it body hb => exact Ps.for_ hb
  | while_ n c body hb => exact Ps.while_ hb
  | ret e => exact Ps.ret
  | retV i => exact Ps.retV
  | retN => exact Ps.retN
  | brk => exact Ps.brk
  | pub i => exact Ps.pub
  | gen_ tg it b e _ => exact Ps.gen_

/-! ### a generator's body -/
/-- the look at a generator def's body -/
def chkG (fn gn : Nat → Str) (N : List Str) (sc : Scope) : S → List Stmt → Bool
  | .gen_ tg it b e, [.For t x bs [] _] => notSet x && chk fn gn N it sc (.e x) && tgB N sc tg t && (!needTup it || isTupX t) && (match bs.getLast? with
    | some (.Expr (.Yield (some y) _) _) => chkS fn gn N sc b (.l bs.dropLast) && chk fn gn N e sc (.e y)
    | _ => false)
  | _, _ => false
theorem genL_cons {B : D → En → Option En} {f : En → Option Out} {v : En → Option D} {ys : List D} {d : D} {ds : List D} {ρ : En} {o : List D} (h : genL B f v ys (d :: ds) ρ = some o) :
    ∃ ρ' ρ2 x, B d ρ = some ρ' ∧ f ρ' = some (.next ρ2) ∧ v ρ2 = some x ∧ ys.length < sizeLine ∧ genL B f v (ys ++ [x]) ds ρ2 = some o := by
  simp only [genL] at h
  split at h
  · cases h
  · rename_i ρ' e1
    split at h
    · rename_i ρ2 e2
      split at h
      · rename_i x e3
        split at h
        · rename_i hl
          exact ⟨ρ', ρ2, x, e1, e2, e3, hl, h⟩
        · cases h
      · cases h
    · cases h
theorem gen_ok {X : Cx} {tg : Tg} {it e : E} {b : S} {sts : List Stmt} (h : chkG fn gn N sc (.gen_ tg it b e) sts = true) (g : GoodS fn gn gv cal k N sc X) (hco : X.env.scope.isCoroutine = false) (hi : interactive X.env = false)
    {G0 H0 G H : Hp} {ρ : En} {σ : L2.St} {out : List D} {D : GEnds} (R : SR X.K G0 H0 ρ σ G H) (ho : ex gv cal (.gen_ tg it b e) ρ = some (.ret (.ol out)))
    (q : ∀ σ' G' H' ws, Stp G0 H0 G' H' → RpL X.K G' out ws → D.nx ws σ' H') : ∃ t, GSs X sts t ∧ t D [] σ H := by
  have inv : ∃ t x bs y p1 p2 pos, sts = [.For t x (bs ++ [.Expr (.Yield (some y) p1) p2]) [] pos] ∧ notSet x = true ∧ chk fn gn N it sc (.e x) = true ∧ tgB N sc tg t = true ∧ (!needTup it || isTupX t) = true ∧ chkS fn gn N sc b (.l bs) = true ∧ chk fn gn N e sc (.e y) = true := by
    match sts, h with
    | [.For t x bs [] pos], h =>
      have h : (notSet x && chk fn gn N it sc (.e x) && tgB N sc tg t && (!needTup it || isTupX t) && (match bs.getLast? with
        | some (.Expr (.Yield (some y) _) _) => chkS fn gn N sc b (.l bs.dropLast) && chk fn gn N e sc (.e y)
        | _ => false)) = true := h
      simp only [Bool.and_eq_true] at h
      obtain ⟨⟨⟨⟨h1, h2⟩, h3⟩, h4⟩, h5⟩ := h
      split at h5
      · rename_i y p1 p2 hy
        rw [Bool.and_eq_true] at h5
        have hne : bs ≠ [] := fun z => by rw [z] at hy; cases hy
        have hb := List.dropLast_concat_getLast hne
        rw [List.getLast?_eq_some_getLast hne] at hy
        rw [Option.some.inj hy] at hb
        exact ⟨t, x, bs.dropLast, y, p1, p2, pos, by rw [hb], h1, h2, h3, h4, h5.1, h5.2⟩
      · cases h5
    | [], h => exact absurd h Bool.false_ne_true
    | _ :: _ :: _, h => exact absurd h (by unfold chkG; simp)
    | [.For _ _ _ (_ :: _) _], h => exact absurd h Bool.false_ne_true
  obtain ⟨t, x, bs, y, p1, p2, pos, rfl, h1, h2, h3, h4, h5, h6⟩ := inv
  have nt : needTup it = true → isTupX t = true := fun n => by rw [n] at h4; simpa using h4
  refine ⟨_, gss_cons (gs_for g.pas g.g.calm ((Pe.all it).iS sc x h2 X g.g t nt) (g.pg h3) (gss_app (gss_pss ((Ps.all b).l bs h5 X g)) (gss_cons (gs_yield (toD ((Pe.all e).s sc y h6 X g.g)) hco hi) gss_nil)) (notSet_fold h1 _)) gss_nil, ?_⟩
  obtain ⟨ds, e1, e2⟩ := Option.bind_eq_some_iff.mp (show ((evA gv cal it (hidI it ρ)).i).bind (fun ds => (genL (bindT tg) (fun ρ => ex gv cal b ρ) (fun ρ => dOf (evA gv cal e ρ).s) [] ds ρ).map fun ys => Out.ret (.ol ys)) = some (.ret (.ol out)) from ho)
  obtain ⟨ys0, e3, e4⟩ := Option.map_eq_some_iff.mp e2
  cases e4
  refine ⟨G0, H0, ρ, G, ds, R, e1, fun J G1 H1 st1 wk => ?_⟩
  refine ⟨fun i m ws σi Hi => m = ds.length - i ∧ i ≤ ds.length ∧ ∃ Gi ρi ys, SR X.K G0 H0 ρi σi Gi Hi ∧ Same G1 Gi ∧ RpL X.K Gi ys ws ∧ genL (bindT tg) (fun ρ => ex gv cal b ρ) (fun ρ => dOf (evA gv cal e ρ).s) ys (ds.drop i) ρi = some out,
    ⟨ds.length, by simp, Nat.zero_le _, G1, ρ, [], R.step st1, Same.refl _, RpL.nil, e3⟩, ?_⟩
  rintro i m ws σi Hi ⟨rfl, hi, Gi, ρi, ys, Ri, smi, rys, ei⟩
  have w := wk i Gi Hi ⟨smi, Ri.gh⟩
  by_cases hlt : i < ds.length
  · rw [List.drop_eq_getElem_cons hlt] at ei
    obtain ⟨ρ', ρ2, xd, b1, b2, b3, b4, b5⟩ := genL_cons ei
    obtain ⟨go, yl⟩ := w.1 _ (List.getElem?_eq_getElem hlt)
    refine .inr ⟨go, fun wn σn Hn => ∃ Gn ρn yn, SR X.K G0 H0 ρn σn Gn Hn ∧ Same G1 Gn ∧ RpL X.K Gn yn wn ∧ genL (bindT tg) (fun ρ => ex gv cal b ρ) (fun ρ => dOf (evA gv cal e ρ).s) yn (ds.drop (i + 1)) ρn = some out, fun wn σ' H' nxx => ⟨ds.length - (i + 1), by omega, rfl, hlt, nxx⟩, fun y H' hy => ?_⟩
    obtain ⟨G', st2, ry⟩ := yl y H' hy
    refine gT_ok (Ri.step st2) b1 ry fun σ2 R2 _ => ⟨G0, H0, ρ', G', _, R2, b2, ?_⟩
    intro σ3 G3 H3 sm3 R3
    refine ⟨by rw [rys.length]; exact b4, G0, H0, ρ2, G3, xd, R3, b3, fun v G4 H4 st4 rv => ?_⟩
    exact ⟨G4, ρ2, ys ++ [xd], R3.step st4, smi.trans (st2.g.trans (sm3.trans st4.g)), (RpL.mono (st2.g.trans (sm3.trans st4.g)) _ rys).append (RpL.cons rv RpL.nil), b5⟩
  · have ei' : i = ds.length := by omega
    subst ei'
    rw [List.drop_length] at ei
    cases ei
    exact .inl ⟨w.2 (Nat.le_refl _), q σi Gi Hi ws Ri.stp rys⟩
end

/-! ### a whole def -/
/-- the look at a def's scope -/
def scB (N ps : List Str) (sc : Scope) : Bool :=
  (match sc.kind with | .function => true | _ => false) && !sc.isCoroutine && !sc.isGenerator && decide N.Nodup && decide (N.take ps.length = ps) && (ps.all fun x => locB sc x) && (sc.names.all fun y => match y.2 with | .free => false | _ => true)
theorem scB_ok {N ps : List Str} {sc : Scope} (h : scB N ps sc = true) : FnScope N ps sc := by
  unfold scB at h
  simp only [Bool.and_eq_true, Bool.not_eq_true', decide_eq_true_eq, List.all_eq_true] at h
  obtain ⟨⟨⟨⟨⟨⟨h1, h2⟩, h3⟩, h4⟩, h5⟩, h6⟩, h7⟩ := h
  refine ⟨?_, h2, h3, h4, h5, fun x hx => locB_ok (h6 x hx), fun y hy e => ?_⟩
  · split at h1
    · assumption
    · cases h1
  · have := h7 y hy
    rw [e] at this
    cases this
/-- the look at a generator def's scope -/
def scG (N ps : List Str) (sc : Scope) : Bool :=
  (match sc.kind with | .function => true | _ => false) && !sc.isCoroutine && sc.isGenerator && decide N.Nodup && decide (N.take ps.length = ps) && (ps.all fun x => locB sc x) && (sc.names.all fun y => match y.2 with | .free => false | _ => true)
theorem scG_ok {N ps : List Str} {sc : Scope} (h : scG N ps sc = true) : GScope N ps sc := by
  unfold scG at h
  simp only [Bool.and_eq_true, Bool.not_eq_true', decide_eq_true_eq, List.all_eq_true] at h
  obtain ⟨⟨⟨⟨⟨⟨h1, h2⟩, h3⟩, h4⟩, h5⟩, h6⟩, h7⟩ := h
  refine ⟨?_, h2, h3, h4, h5, fun x hx => locB_ok (h6 x hx), fun y hy e => ?_⟩
  · split at h1
    · assumption
    · cases h1
  · have := h7 y hy
    rw [e] at this
    cases this
section
variable {P : Program} {w : World} {K : PySem.W.Frag} {mg : Str → Option Value} {base : Heap}
theorem start_SR {G H : Hp} {n : Nat} {N : List Str} : ∀ {ds : List D} {vs : List V}, Same G H → RpL K G ds vs → N.length = n → SR K G H (ds.map (fun d => some (Slot.sh d)) ++ List.replicate (n - ds.length) none) (L2.start N vs) G H := by
  intro ds vs sm rp hn
  have hl := rp.length
  unfold L2.start
  rw [hn, hl]
  have key : ∀ (i : Nat) (sl : Slot), (ds.map (fun d => some (Slot.sh d)) ++ List.replicate (n - ds.length) none)[i]? = some (some sl) → ∃ d, sl = .sh d ∧ ds[i]? = some d := by
    intro i sl e
    by_cases hi : i < ds.length
    · rw [List.getElem?_append_left (by rw [List.length_map]; exact hi), List.getElem?_map] at e
      obtain ⟨d, e1, e2⟩ := Option.map_eq_some_iff.mp e
      cases e2
      exact ⟨d, rfl, e1⟩
    · rw [List.getElem?_append_right (by rw [List.length_map]; omega), List.getElem?_replicate] at e
      split at e
      · cases e
      · cases e
  refine ⟨by simp [hl], sm, Same.refl _, Same.refl _, fun p o e => .inl e, fun i sl e => ?_, fun i j s t v e1 e2 o1 => ?_⟩
  · obtain ⟨d, rfl, e1⟩ := key i sl e
    obtain ⟨v, e2, e3⟩ := rp.get e1
    refine ⟨v, ?_, e3⟩
    rw [List.getElem?_append_left (by rw [List.length_map]; exact (List.getElem?_eq_some_iff.mp e2).1), List.getElem?_map, e2]
    rfl
  · obtain ⟨d, rfl, _⟩ := key i s e1
    cases o1
/-- a def that passes the look is what it says -/
theorem def_ok {fn gn : Nat → Str} {gv : Nat → Option D} {cal : Nat → List D → Option Slot} {k : Nat} {N ps : List Str} {x qual : Str} {st : Stmt} {f : Addr} {fd : FuncData} {d : Def} (F : Fun K x qual st f fd) (wd : Wd fn gn gv cal k P w K mg base)
    (hs : scB N ps (defScope st) = true) (hc : chkS fn gn N (defScope st) d.body (.l (defBody st)) = true) (hp : d.np = ps.length) (hn : N.length = d.ns) : FnOk P w K mg base CX0 (k + 1) f fd ps (spC K ps.length (evDef gv cal d)) := by
  have S := scB_ok hs
  refine F.ok S (fun vs H Q E h => h.1) (fun cdv A outer s H vs Q E hr h => ?_)
  obtain ⟨hl, G, ds, sl, sm, rp, e, q⟩ := h
  have g : GoodS fn gn gv cal k N (defScope st) ((cxOf CX0 P w K mg base N qual (defScope st) f cdv A outer s H E).nox) := ⟨⟨wd, hr, rfl, S.nd, rfl, rfl⟩, fun _ => rfl, PassesOwn.never, S.kind⟩
  refine ⟨_, (Ps.all d.body).l _ hc _ g, ?_⟩
  unfold evDef at e
  split at e
  · rename_i hd
    have R := start_SR (K := K) (n := d.ns) sm rp hn
    split at e
    · rename_i s' eo
      cases e
      exact ⟨G, H, _, G, _, R, eo, fun v G' H' st sv => q v G' H' st sv⟩
    · rename_i ρ' eo
      cases e
      exact ⟨G, H, _, G, _, R, eo, fun σ' G' H' _ R' => q .non G' H' R'.stp slNon⟩
    · cases e
  · cases e
/-- a generator def that passes the look hands out what it says -/
theorem gdef_ok {fn gn : Nat → Str} {gv : Nat → Option D} {cal : Nat → List D → Option Slot} {k : Nat} {N ps : List Str} {x qual : Str} {st : Stmt} {f : Addr} {fd : FuncData} {d : Def} (F : Fun K x qual st f fd) (wd : Wd fn gn gv cal k P w K mg base)
    (hs : scG N ps (defScope st) = true) {tg : Tg} {it e : E} {b : S} (hd : d.body = .gen_ tg it b e) (hc : chkG fn gn N (defScope st) d.body (defBody st) = true) (hp : d.np = ps.length) (hn : N.length = d.ns) : GFn P w K mg base (k + 1) f fd ps (spG K ps.length (evDef gv cal d)) := by
  have S := scG_ok hs
  obtain ⟨oc, od, kV, doc, pm, an, cdv, ct, osl, rfl, lk, hcd⟩ := F.ex
  refine gfn_of lk hcd S (fun vs H Q E h => h.1) (fun A outer s H vs Q E pn hr h => ?_)
  obtain ⟨hl, G, ds, ys, sm, rp, ev, q⟩ := h
  have g : GoodS fn gn gv cal k N (defScope st) (gcxOf P w K mg base N qual (defScope st) f cdv A outer s H E pn) := ⟨⟨wd, hr, rfl, S.nd, rfl, rfl⟩, fun _ => rfl, owns_gcx, S.kind⟩
  unfold evDef at ev
  split at ev
  · have R := start_SR (K := K) (n := d.ns) sm rp hn
    rw [hd] at hc ev
    split at ev
    · rename_i s' eo
      cases ev
      exact gen_ok hc g S.co (by show ((defScope st).kind == .module && _) = false; rw [S.kind]; rfl) R eo fun σ' G' H' ws st rw => q ws G' H' st rw
    · cases ev
    · cases ev
  · cases ev
end
end LJ
/-! LJt: all defs of a program at once; a law's end. -/
namespace LJ
open PySem PySem.Spec PyProof.Rows L2

def lk {α : Type} : List (Nat × α) → Nat → Option α
  | [], _ => none
  | (i, x) :: r, j => if j == i then some x else lk r j
theorem lk_mem {α : Type} {i : Nat} {x : α} : ∀ {xs : List (Nat × α)}, lk xs i = some x → (i, x) ∈ xs
  | [], h => by cases h
  | (j, y) :: r, h => by
    unfold lk at h
    split at h
    · rename_i e
      cases h
      rw [eq_of_beq e]
      exact List.mem_cons_self
    · exact List.mem_cons_of_mem _ (lk_mem h)
/-- a call with fuel n -/
def calN (gs : List (Nat × D)) (T : List (Nat × Def)) : Nat → Nat → List D → Option Slot
  | 0, _, _ => none
  | n + 1, f, ds => match lk T f with
    | some d => evDef (lk gs) (calN gs T n) d ds
    | none => none
theorem calN_eq {gs : List (Nat × D)} {T : List (Nat × Def)} {n f : Nat} {d : Def} (h : lk T f = some d) (ds : List D) : calN gs T (n + 1) f ds = evDef (lk gs) (calN gs T n) d ds := by
  show (match lk T f with | some d => evDef (lk gs) (calN gs T n) d ds | none => none) = _
  rw [h]
section
variable {P : Program} {w : World} {K : PySem.W.Frag} {mg : Str → Option Value} {base : Heap}
/-- a def as it stands in the module -/
structure Ok1 (fn gn : Nat → Str) (K : PySem.W.Frag) (st : Stmt) (N ps : List Str) (f : Nat) (d : Def) : Prop where
  fun_ : ∃ (fa : Addr) (fd : FuncData), PySem.W.nsIn K mainGlobals (fn f) = some (some (.ref fa)) ∧ Fun K (fn f) (fn f) st fa fd ∧ Binds K fd ps []
  sc : scB N ps (defScope st) = true
  look : chkS fn gn N (defScope st) d.body (.l (defBody st)) = true
  np : d.np = ps.length
  ns : N.length = d.ns
theorem ok1_mk {fn gn : Nat → Str} {st : Stmt} {N ps : List Str} {f : Nat} {d : Def} {fa : Addr} {oc : Value} {od an : Option Addr} {osl : Array (Option Value)} {kV doc pm cdv ct : Value}
    (a : PySem.W.nsIn K mainGlobals (fn f) = some (some (.ref fa)))
    (l : K.lookup fa = some ⟨oc, od, .func (PySem.W.fnOf (fn f) (fn f) (defArgs st) (defBody st) (defScope st) .none kV doc pm an cdv ct), osl⟩)
    (c : PySem.W.codeIn K cdv (fn f) = true) (k : PySem.W.keepIn K (.ref fa) = true)
    (b : ∀ (kV doc pm : Value) (an : Option Addr) (cdv ct : Value) (us : List Value), us.length = ps.length → bindArgs (PySem.W.fnOf (fn f) (fn f) (defArgs st) (defBody st) (defScope st) .none kV doc pm an cdv ct) ⟨us, []⟩ = pure (ps.zip us))
    (sc : scB N ps (defScope st) = true) (look : chkS fn gn N (defScope st) d.body (.l (defBody st)) = true) (np : d.np = ps.length) (ns : N.length = d.ns) : Ok1 fn gn K st N ps f d :=
  ⟨⟨fa, _, a, fun_mk l c k, (fun_mk l c k).binds b⟩, sc, look, np, ns⟩
/-- a generator def as it stands in the module -/
structure OkG (fn gn : Nat → Str) (K : PySem.W.Frag) (st : Stmt) (N ps : List Str) (f : Nat) (d : Def) : Prop where
  fun_ : ∃ (fa : Addr) (fd : FuncData), PySem.W.nsIn K mainGlobals (fn f) = some (some (.ref fa)) ∧ Fun K (fn f) (fn f) st fa fd ∧ Binds K fd ps []
  sc : scG N ps (defScope st) = true
  body : ∃ tg it b e, d.body = .gen_ tg it b e
  look : chkG fn gn N (defScope st) d.body (defBody st) = true
  np : d.np = ps.length
  ns : N.length = d.ns
theorem okg_mk {fn gn : Nat → Str} {st : Stmt} {N ps : List Str} {f : Nat} {d : Def} {fa : Addr} {oc : Value} {od an : Option Addr} {osl : Array (Option Value)} {kV doc pm cdv ct : Value}
    (a : PySem.W.nsIn K mainGlobals (fn f) = some (some (.ref fa)))
    (l : K.lookup fa = some ⟨oc, od, .func (PySem.W.fnOf (fn f) (fn f) (defArgs st) (defBody st) (defScope st) .none kV doc pm an cdv ct), osl⟩)
    (c : PySem.W.codeIn K cdv (fn f) = true) (k : PySem.W.keepIn K (.ref fa) = true)
    (b : ∀ (kV doc pm : Value) (an : Option Addr) (cdv ct : Value) (us : List Value), us.length = ps.length → bindArgs (PySem.W.fnOf (fn f) (fn f) (defArgs st) (defBody st) (defScope st) .none kV doc pm an cdv ct) ⟨us, []⟩ = pure (ps.zip us))
    (sc : scG N ps (defScope st) = true) (bd : ∃ tg it b e, d.body = .gen_ tg it b e) (look : chkG fn gn N (defScope st) d.body (defBody st) = true) (np : d.np = ps.length) (ns : N.length = d.ns) : OkG fn gn K st N ps f d :=
  ⟨⟨fa, _, a, fun_mk l c k, (fun_mk l c k).binds b⟩, sc, bd, look, np, ns⟩
def Okf (fn gn : Nat → Str) (K : PySem.W.Frag) (f : Nat) (d : Def) : Prop := (f < 1000 ∧ ∃ st N ps, Ok1 fn gn K st N ps f d) ∨ (1000 ≤ f ∧ ∃ st N ps, OkG fn gn K st N ps f d)
def AllOk (fn gn : Nat → Str) (K : PySem.W.Frag) : List (Nat × Def) → Prop
  | [] => True
  | (f, d) :: r => Okf fn gn K f d ∧ AllOk fn gn K r
theorem AllOk.get {fn gn : Nat → Str} {f : Nat} {d : Def} : ∀ {xs : List (Nat × Def)}, AllOk fn gn K xs → (f, d) ∈ xs → Okf fn gn K f d
  | [], _, h => by cases h
  | (j, y) :: r, ⟨h1, h2⟩, h => by
    rcases List.mem_cons.mp h with e | e
    · cases e; exact h1
    · exact AllOk.get h2 e
/-- a constant of the module -/
def Glob (gn : Nat → Str) (K : PySem.W.Frag) (g : Nat) (d : D) : Prop := ∃ u v, PySem.W.nsIn K mainGlobals (gn g) = some (some u) ∧ RelV v u ∧ ∀ G, Rp K G d v
def AllGl (gn : Nat → Str) (K : PySem.W.Frag) : List (Nat × D) → Prop
  | [] => True
  | (g, d) :: r => Glob gn K g d ∧ AllGl gn K r
theorem AllGl.get {gn : Nat → Str} {g : Nat} {d : D} : ∀ {xs : List (Nat × D)}, AllGl gn K xs → (g, d) ∈ xs → Glob gn K g d
  | [], _, h => by cases h
  | (j, y) :: r, ⟨h1, h2⟩, h => by
    rcases List.mem_cons.mp h with e | e
    · cases e; exact h1
    · exact AllGl.get h2 e
theorem glob_str {gn : Nat → Str} {g : Nat} {x : Str} {t : Tok} (a : PySem.W.nsIn K mainGlobals (gn g) = some (some (.str x t))) (h : StrG x) : Glob gn K g (.str x) := ⟨_, .str x, a, ⟨t, rfl⟩, fun G => by simp only [Rp]; exact ⟨trivial, h⟩⟩
theorem glob_int {gn : Nat → Str} {g : Nat} {x : Int} {t : Tok} (a : PySem.W.nsIn K mainGlobals (gn g) = some (some (.int x t))) : Glob gn K g (.int x) := ⟨_, .int x, a, ⟨t, rfl⟩, fun G => by simp only [Rp]⟩
/-- every call keeps its promise -/
theorem wd_all {fn gn : Nat → Str} {gs : List (Nat × D)} {T : List (Nat × Def)} {h : Heap} (KX : K.In h) (G : h.Ns mainGlobals mg)
    (nb : ∀ x ∈ bnames, PySem.W.nsIn K mainGlobals x = some none) (hg : AllGl gn K gs) (hT : AllOk fn gn K T) : ∀ n, Wd fn gn (lk gs) (calN gs T n) (4 * n) P w K mg base := by
  have B : ∀ x ∈ bnames, mg x = none := fun x hx => PySem.W.mg_none_of KX G (nb x hx)
  have GL : ∀ g d, lk gs g = some d → ∃ u v, mg (gn g) = some u ∧ RelV v u ∧ ∀ G, Rp K G d v := fun g d e => by
    obtain ⟨u, v, a, b, c⟩ := hg.get (lk_mem e)
    exact ⟨u, v, PySem.W.mg_of KX G a, b, c⟩
  intro n
  induction n with
  | zero => exact ⟨B, GL, fun f ds sl _ e => (by cases e), fun f ds sl _ e => (by cases e)⟩
  | succ n ih =>
    refine ⟨B, GL, fun f ds sl hf1 e => ?gg, fun f ds sl hf1 e => ?cc⟩
    case cc =>
      cases hf : lk T f with
      | none => rw [show calN gs T (n + 1) f ds = (match lk T f with | some d => evDef (lk gs) (calN gs T n) d ds | none => none) from rfl, hf] at e; cases e
      | some d =>
        rcases hT.get (lk_mem hf) with ⟨_, st, N, ps, ok⟩ | ⟨hf2, _⟩
        · obtain ⟨fa, fd, a, F, bi⟩ := ok.fun_
          have FO : FnOk P w K mg base CX0 (4 * n + 1) fa fd ps (spC K ps.length (evDef (lk gs) (calN gs T n) d)) := def_ok F ih ok.sc ok.look ok.np ok.ns
          have ec : calN gs T (n + 1) f = evDef (lk gs) (calN gs T n) d := funext fun ds => calN_eq hf ds
          rw [ec] at e ⊢
          have hl : ds.length = ps.length := by
            unfold evDef at e
            split at e
            · rename_i h1; rw [h1, ok.np]
            · cases e
          exact ⟨fa, fd, ps, 4 * n + 1, by omega, hl, PySem.W.mg_of KX G a, F.kp, bi, FO⟩
        · omega
    case gg =>
      cases hf : lk T f with
      | none => rw [show calN gs T (n + 1) f ds = (match lk T f with | some d => evDef (lk gs) (calN gs T n) d ds | none => none) from rfl, hf] at e; cases e
      | some d =>
        rcases hT.get (lk_mem hf) with ⟨hf2, _⟩ | ⟨_, st, N, ps, ok⟩
        · omega
        · obtain ⟨fa, fd, a, F, bi⟩ := ok.fun_
          obtain ⟨tg, it, b, x, hb⟩ := ok.body
          have FO : GFn P w K mg base (4 * n + 1) fa fd ps (spG K ps.length (evDef (lk gs) (calN gs T n) d)) := gdef_ok F ih ok.sc hb ok.look ok.np ok.ns
          have ec : calN gs T (n + 1) f = evDef (lk gs) (calN gs T n) d := funext fun ds => calN_eq hf ds
          rw [ec] at e ⊢
          have hl : ds.length = ps.length := by
            unfold evDef at e
            split at e
            · rename_i h1; rw [h1, ok.np]
            · cases e
          have hy : ∃ ys, sl = .ol ys := by
            unfold evDef at e
            split at e
            · rw [hb] at e
              split at e
              · rename_i s' eo
                cases e
                obtain ⟨_, _, e2⟩ := Option.bind_eq_some_iff.mp (show _ = some (Out.ret sl) from eo)
                obtain ⟨ys, _, e4⟩ := Option.map_eq_some_iff.mp e2
                cases e4
                exact ⟨ys, rfl⟩
              · rename_i ρ' eo
                obtain ⟨_, _, e2⟩ := Option.bind_eq_some_iff.mp (show _ = some (Out.next ρ') from eo)
                obtain ⟨ys, _, e4⟩ := Option.map_eq_some_iff.mp e2
                cases e4
              · cases e
            · cases e
          obtain ⟨ys, rfl⟩ := hy
          exact ⟨ys, rfl, fa, fd, ps, 4 * n + 1, by omega, hl, PySem.W.mg_of KX G a, F.kp, bi, FO⟩
def spLaw (K : PySem.W.Frag) : Sp := fun vs H Q _ => ∃ (a : Addr) (ns : List Int), vs = [.ref a] ∧ SqL K H a (ns.map V.int) ∧ ns.length ≤ 63 ∧ ∀ H', Q (.bl true) H'
/-- a law's promise -/
theorem law_end {l : PySem.W.OpenLaw} {fn gn : Nat → Str} {gs : List (Nat × D)} {T : List (Nat × Def)} {h : Heap} {fa : Addr} {f : Nat} {d : Def} {st : Stmt} {N : List Str} {n : Nat} (KX : K.In h) (G : h.Ns mainGlobals mg) (hfa : mg "law" = some (.ref fa)) (hf : fn f = "law")
    (nb : ∀ x ∈ bnames, PySem.W.nsIn K mainGlobals x = some none) (hg : AllGl gn K gs) (hT : AllOk fn gn K T) (hl : Ok1 fn gn K st N ["script"] f d)
    (hb : ∀ (oc : Value) (kV doc pm : Value) (an : Option Addr) (cdv ct : Value) (u : Value), bindArgs (PySem.W.fnOf "law" "law" (defArgs st) (defBody st) (defScope st) .none kV doc pm an cdv ct) ⟨[u], []⟩ = pure [(("script" : Str), u)])
    (hlaw : ∀ ns : List Int, ns.length ≤ 63 → evDef (lk gs) (calN gs T n) d [.scr ns] = some (.sh (.bl true))) :
    ∃ fd : FuncData, (∀ (s : Shared) (v : Value), BindsTo s fd ⟨[v], []⟩ [("script", v)]) ∧ ∀ base : Heap, K.In base → base.Ns mainGlobals mg → FnOk l.prog w K mg base CX0 (4 * n + 1) fa fd ["script"] (spLaw K) := by
  obtain ⟨fa', fd, a, F, bi⟩ := hl.fun_
  rw [hf] at a F
  have e := hfa.symm.trans (PySem.W.mg_of KX G a)
  cases e
  refine ⟨fd, fun s v => ?_, fun base hB hN => ?_⟩
  · obtain ⟨oc, od, kV, doc, pm, an, cdv, ct, osl, rfl, lk, hcd⟩ := F.ex
    exact .of_eq (hb oc kV doc pm an cdv ct v)
  · have W := wd_all (P := l.prog) (w := w) (base := base) KX G nb hg hT n
    have FO : FnOk l.prog w K mg base CX0 (4 * n + 1) fa fd ["script"] (spC K 1 (evDef (lk gs) (calN gs T n) d)) := def_ok F W hl.sc hl.look hl.np hl.ns
    refine FO.imp fun vs H Q E q => ?_
    obtain ⟨a, ns, rfl, sq, hlen, q⟩ := q
    refine ⟨rfl, H, [.scr ns], .sh (.bl true), Same.refl _, ?_, hlaw ns hlen, fun v G' H' st r => ?_⟩
    · simp only [RpL, Rp]
      exact ⟨_, _, rfl, ⟨a, rfl, sq⟩, rfl⟩
    · simp only [SlRp, Rp] at r
      rw [r]
      exact q H'
end
end LJ
namespace LJ
open PySem PySem.Spec PyProof.Rows L2
theorem strG_of {x : Str} (h : strB x = true) : StrG x := by
  unfold strB at h
  simp only [Bool.and_eq_true, decide_eq_true_eq] at h
  exact h
theorem nb_mk {K : PySem.W.Frag} (h1 : PySem.W.nsIn K mainGlobals "len" = some none) (h2 : PySem.W.nsIn K mainGlobals "range" = some none) (h3 : PySem.W.nsIn K mainGlobals "tuple" = some none) (h4 : PySem.W.nsIn K mainGlobals "list" = some none)
    (h5 : PySem.W.nsIn K mainGlobals "max" = some none) (h6 : PySem.W.nsIn K mainGlobals "min" = some none) (h7 : PySem.W.nsIn K mainGlobals "sum" = some none) (h8 : PySem.W.nsIn K mainGlobals "abs" = some none)
    (h9 : PySem.W.nsIn K mainGlobals "int" = some none) (h10 : PySem.W.nsIn K mainGlobals "bool" = some none) (h11 : PySem.W.nsIn K mainGlobals "str" = some none) (h12 : PySem.W.nsIn K mainGlobals "sorted" = some none)
    (h13 : PySem.W.nsIn K mainGlobals "set" = some none) (h14 : PySem.W.nsIn K mainGlobals "isinstance" = some none) (h15 : PySem.W.nsIn K mainGlobals "enumerate" = some none) (h16 : PySem.W.nsIn K mainGlobals "zip" = some none) (h17 : PySem.W.nsIn K mainGlobals "all" = some none) :
    ∀ x ∈ bnames, PySem.W.nsIn K mainGlobals x = some none := by
  intro x hx
  simp only [bnames, List.mem_cons, List.not_mem_nil, or_false] at hx
  rcases hx with rfl | rfl | rfl | rfl | rfl | rfl | rfl | rfl | rfl | rfl | rfl | rfl | rfl | rfl | rfl | rfl | rfl <;> assumption
end LJ
/-! LJu: tools for plain proofs about the small language. -/
namespace LJ
open PySem PySem.Spec PyProof.Rows L2

/-! ### what a statement ends in -/
def Wp0 (o : Option Out) (N : En → Prop) (R : Slot → Prop) (B : En → Prop) : Prop := match o with
  | some (.next ρ) => N ρ
  | some (.ret s) => R s
  | some (.brk ρ) => B ρ
  | none => False
/-- a structure, so that nothing unfolds it by itself -/
structure Wp (o : Option Out) (N : En → Prop) (R : Slot → Prop) (B : En → Prop) : Prop where
  out : Wp0 o N R B
section
variable {gv : Nat → Option D} {cal : Nat → List D → Option Slot} {ρ : En} {N : En → Prop} {R : Slot → Prop} {B : En → Prop}
theorem wp_imp {o : Option Out} {N' : En → Prop} {R' : Slot → Prop} {B' : En → Prop} (h : Wp o N R B) (hn : ∀ ρ, N ρ → N' ρ) (hr : ∀ s, R s → R' s) (hb : ∀ ρ, B ρ → B' ρ) : Wp o N' R' B' := by
  cases o with
  | none => exact h.out.elim
  | some u => cases u with
    | next ρ => exact ⟨hn _ h.out⟩
    | ret s => exact ⟨hr _ h.out⟩
    | brk ρ => exact ⟨hb _ h.out⟩
theorem wp_seq {a b : S} (h : Wp (ex gv cal a ρ) (fun ρ' => Wp (ex gv cal b ρ') N R B) R B) : Wp (ex gv cal (.seq a b) ρ) N R B := by
  show Wp (seqS (ex gv cal a ρ) fun ρ => ex gv cal b ρ) N R B
  cases e : ex gv cal a ρ with
  | none => rw [e] at h; exact h.out.elim
  | some u => rw [e] at h; cases u with
    | next ρ => exact h.out
    | ret s => exact ⟨h.out⟩
    | brk ρ => exact ⟨h.out⟩
theorem wp_cut {a b : S} (M : En → Prop) (h : Wp (ex gv cal a ρ) M R B) (h2 : ∀ ρ', M ρ' → Wp (ex gv cal b ρ') N R B) : Wp (ex gv cal (.seq a b) ρ) N R B :=
  wp_seq (wp_imp h h2 (fun _ h => h) fun _ h => h)
theorem wp_skip (h : N ρ) : Wp (ex gv cal .skip ρ) N R B := ⟨h⟩
theorem wp_pass (h : N ρ) : Wp (ex gv cal .pass ρ) N R B := ⟨h⟩
/-- x = e, shared -/
theorem wp_set {i : Nat} {e : E} {s : Slot} (he : (evA gv cal e ρ).s = some s) (h : N (ρ.set i (some (.sh s.d)))) : Wp (ex gv cal (.asg i false e) ρ) N R B := by
  show Wp (nx (sto ρ i false (evA gv cal e ρ).s)) N R B
  rw [he]
  exact ⟨h⟩
/-- x = e, kept as it is -/
theorem wp_own {i : Nat} {e : E} {s : Slot} (he : (evA gv cal e ρ).s = some s) (h : N (ρ.set i (some s))) : Wp (ex gv cal (.asg i true e) ρ) N R B := by
  show Wp (nx (sto ρ i true (evA gv cal e ρ).s)) N R B
  rw [he]
  exact ⟨h⟩
theorem wp_pub {i : Nat} {s : Slot} (he : rd ρ i = some s) (h : N (ρ.set i (some (.sh s.d)))) : Wp (ex gv cal (.pub i) ρ) N R B := by
  show Wp (nx (pubS ρ i)) N R B
  unfold pubS
  rw [he]
  exact ⟨h⟩
theorem wp_asgT {is : List Nat} {e : E} {ds : List D} {ρ' : En} (he : (evA gv cal e ρ).b = some (.tup ds)) (hb : bindT (.many is) (.tup ds) ρ = some ρ') (h : N ρ') : Wp (ex gv cal (.asgT is e) ρ) N R B := by
  show Wp (nx (asgTS ρ is (evA gv cal e ρ).b)) N R B
  rw [he]
  show Wp (nx (bindT (.many is) (.tup ds) ρ)) N R B
  rw [hb]
  exact ⟨h⟩
theorem wp_par {is : List Nat} {own : List Bool} {es : E} {ss : List Slot} {ρ' : En} (he : evM gv cal es own ρ = some ss) (hb : setSl ρ is ss = some ρ') (h : N ρ') : Wp (ex gv cal (.par is own es) ρ) N R B := by
  show Wp (nx ((evM gv cal es own ρ).bind (setSl ρ is))) N R B
  rw [he]
  show Wp (nx (setSl ρ is ss)) N R B
  rw [hb]
  exact ⟨h⟩
theorem wp_aug {i : Nat} {op : BOp} {e : E} {ρ' : En} (he : augS ρ i op (evA gv cal e ρ).b = some ρ') (h : N ρ') : Wp (ex gv cal (.aug i op e) ρ) N R B := by
  show Wp (nx (augS ρ i op (evA gv cal e ρ).b)) N R B
  rw [he]
  exact ⟨h⟩
theorem wp_put {i : Nat} {k e : E} {ρ' : En} (he : putS ρ i (evA gv cal k ρ).b (dOf (evA gv cal e ρ).s) = some ρ') (h : N ρ') : Wp (ex gv cal (.put i k e) ρ) N R B := by
  show Wp (nx (putS ρ i (evA gv cal k ρ).b (dOf (evA gv cal e ρ).s))) N R B
  rw [he]
  exact ⟨h⟩
theorem wp_app {i : Nat} {e : E} {ds : List D} {s : Slot} (hi : rd ρ i = some (.ol ds)) (he : (evA gv cal e ρ).s = some s) (hl : ds.length < sizeLine) (h : N (ρ.set i (some (.ol (ds ++ [s.d]))))) : Wp (ex gv cal (.app i e) ρ) N R B := by
  show Wp (nx (appS ρ i (dOf (evA gv cal e ρ).s))) N R B
  rw [he]
  show Wp (nx (appS ρ i (some s.d))) N R B
  unfold appS
  rw [hi]
  show Wp (nx (if ds.length < sizeLine then _ else none)) N R B
  rw [if_pos hl]
  exact ⟨h⟩
theorem wp_expr {e : E} {s : Slot} (he : (evA gv cal e ρ).s = some s) (h : N ρ) : Wp (ex gv cal (.expr e) ρ) N R B := by
  show Wp ((evA gv cal e ρ).s.map fun _ => .next ρ) N R B
  rw [he]
  exact ⟨h⟩
theorem wp_ite {c : E} {a b : S} {t : Bool} (he : (evA gv cal c ρ).b = some (.bl t)) (h1 : t = true → Wp (ex gv cal a ρ) N R B) (h2 : t = false → Wp (ex gv cal b ρ) N R B) : Wp (ex gv cal (.ite c a b) ρ) N R B := by
  show Wp (match asB (evA gv cal c ρ).b with | some true => ex gv cal a ρ | some false => ex gv cal b ρ | none => none) N R B
  rw [he]
  cases t with
  | true => exact h1 rfl
  | false => exact h2 rfl
theorem wp_ret {e : E} {s : Slot} (he : (evA gv cal e ρ).s = some s) (h : R s) : Wp (ex gv cal (.ret e) ρ) N R B := by
  show Wp ((evA gv cal e ρ).s.map .ret) N R B
  rw [he]
  exact ⟨h⟩
theorem wp_retV {i : Nat} {s : Slot} (he : rd ρ i = some s) (h : R s) : Wp (ex gv cal (.retV i) ρ) N R B := by
  show Wp ((rd ρ i).map .ret) N R B
  rw [he]
  exact ⟨h⟩
theorem wp_retN (h : R (.sh .non)) : Wp (ex gv cal .retN ρ) N R B := ⟨h⟩
theorem wp_brk (h : B ρ) : Wp (ex gv cal .brk ρ) N R B := ⟨h⟩
theorem wp_for {tg : Tg} {it : E} {body : S} {ds : List D} (I : List D → En → Prop) (he : (evA gv cal it (hidI it ρ)).i = some ds) (h0 : I ds ρ)
    (hs : ∀ d ds ρ, I (d :: ds) ρ → ∃ ρ', bindT tg d ρ = some ρ' ∧ Wp (ex gv cal body ρ') (I ds) R N) (hn : ∀ ρ, I [] ρ → N ρ) : Wp (ex gv cal (.for_ tg it body) ρ) N R B := by
  show Wp ((evA gv cal it (hidI it ρ)).i.bind fun ds => forL (bindT tg) (fun ρ => ex gv cal body ρ) ds ρ) N R B
  rw [he]
  show Wp (forL (bindT tg) (fun ρ => ex gv cal body ρ) ds ρ) N R B
  clear he
  induction ds generalizing ρ with
  | nil => exact ⟨hn _ h0⟩
  | cons d ds ih =>
    obtain ⟨ρ', e, w⟩ := hs d ds ρ h0
    unfold forL
    rw [e]
    show Wp (match ex gv cal body ρ' with | none => none | some (.next ρ2) => forL (bindT tg) (fun ρ => ex gv cal body ρ) ds ρ2 | some (.brk ρ2) => some (.next ρ2) | some (.ret s) => some (.ret s)) N R B
    cases eb : ex gv cal body ρ' with
    | none => rw [eb] at w; exact w.out.elim
    | some u => rw [eb] at w; cases u with
      | next ρ2 => exact ih w.out
      | ret s => exact ⟨w.out⟩
      | brk ρ2 => exact ⟨w.out⟩
theorem wp_while {n : Nat} {c : E} {body : S} (I : Nat → En → Prop) {m : Nat} (hm : m < n) (h0 : I m ρ)
    (hs : ∀ m ρ, I m ρ → ∃ t, (evA gv cal c ρ).b = some (.bl t) ∧ (t = false → N ρ) ∧ (t = true → Wp (ex gv cal body ρ) (fun ρ' => ∃ m' < m, I m' ρ') R N)) : Wp (ex gv cal (.while_ n c body) ρ) N R B := by
  show Wp (whileN (fun ρ => asB (evA gv cal c ρ).b) (fun ρ => ex gv cal body ρ) n ρ) N R B
  induction n generalizing ρ m with
  | zero => omega
  | succ n ih =>
    obtain ⟨t, e, hf, ht⟩ := hs m ρ h0
    unfold whileN
    simp only [e, asB]
    cases t with
    | false => exact ⟨hf rfl⟩
    | true =>
      have w := ht rfl
      show Wp (match ex gv cal body ρ with | none => none | some (.next ρ2) => whileN (fun ρ => asB (evA gv cal c ρ).b) (fun ρ => ex gv cal body ρ) n ρ2 | some (.brk ρ2) => some (.next ρ2) | some (.ret s) => some (.ret s)) N R B
      cases eb : ex gv cal body ρ with
      | none => rw [eb] at w; exact w.out.elim
      | some u => rw [eb] at w; cases u with
        | next ρ2 => obtain ⟨m', h1, h2⟩ := w.out; exact ih (by omega) h2
        | ret s => exact ⟨w.out⟩
        | brk ρ2 => exact ⟨w.out⟩
/-- a def's worth by its body -/
theorem def_of {d : Def} {ds : List D} {v : Slot} (hl : ds.length = d.np) (h : Wp (ex gv cal d.body (startE d ds)) (fun _ => v = .sh .non) (fun s => s = v) (fun _ => False)) : evDef gv cal d ds = some v := by
  unfold evDef
  rw [if_pos hl]
  cases e : ex gv cal d.body (startE d ds) with
  | none => rw [e] at h; exact h.out.elim
  | some u => rw [e] at h; cases u with
    | next ρ => exact congrArg some (show v = .sh .non from h.out).symm
    | ret s => exact congrArg some h.out
    | brk ρ => exact h.out.elim
/-- a def's worth: something of this kind -/
theorem def_ex {d : Def} {ds : List D} {R : Slot → Prop} (hl : ds.length = d.np) (h : Wp (ex gv cal d.body (startE d ds)) (fun _ => R (.sh .non)) R (fun _ => False)) : ∃ v, evDef gv cal d ds = some v ∧ R v := by
  unfold evDef
  rw [if_pos hl]
  cases e : ex gv cal d.body (startE d ds) with
  | none => rw [e] at h; exact h.out.elim
  | some u => rw [e] at h; cases u with
    | next ρ => exact ⟨_, rfl, h.out⟩
    | ret s => exact ⟨_, rfl, h.out⟩
    | brk ρ => exact h.out.elim
end
/-! ### comprehensions -/
theorem lcL_map {F : En → Option D} {B : D → Option En} {ds : List D} (g : D → D) (h : ∀ d ∈ ds, ∃ ρ, B d = some ρ ∧ F ρ = some (g d)) : lcL F (fun _ => some true) B ds = some (ds.map g) := by
  induction ds with
  | nil => rfl
  | cons d ds ih =>
    obtain ⟨ρ, e1, e2⟩ := h d List.mem_cons_self
    unfold lcL
    simp only [e1, e2, ih fun d hd => h d (List.mem_cons_of_mem _ hd), Option.map_some, List.map_cons]
theorem lcL_fm {F : En → Option D} {C : En → Option Bool} {B : D → Option En} {ds : List D} (g : D → D) (p : D → Bool) (h : ∀ d ∈ ds, ∃ ρ, B d = some ρ ∧ C ρ = some (p d) ∧ (p d = true → F ρ = some (g d))) : lcL F C B ds = some ((ds.filter p).map g) := by
  induction ds with
  | nil => rfl
  | cons d ds ih =>
    obtain ⟨ρ, e1, e2, e3⟩ := h d List.mem_cons_self
    have ih := ih fun d hd => h d (List.mem_cons_of_mem _ hd)
    unfold lcL
    cases hp : p d with
    | true => simp only [e1, e2, hp, e3 hp, ih, Option.map_some, List.filter_cons_of_pos hp, List.map_cons]
    | false => simp only [e1, e2, hp, ih, List.filter_cons, Bool.false_eq_true, if_false]
/-! ### texts by their signs -/
def ofL (l : List Nat) : Str := ⟨l.toArray⟩
@[simp] theorem ofL_cps (l : List Nat) : (ofL l).cps.toList = l := rfl
theorem ofL_len (l : List Nat) : (ofL l).length = l.length := by
  show (ofL l).cps.size = _
  show l.toArray.size = _
  simp
theorem ofL_app (l m : List Nat) : ofL l ++ ofL m = ofL (l ++ m) := by
  show (⟨l.toArray ++ m.toArray⟩ : Str) = ⟨(l ++ m).toArray⟩
  simp
theorem str_ofL (x : Str) : x = ofL x.cps.toList := rfl
theorem ofL_inj {l m : List Nat} (h : ofL l = ofL m) : l = m := by
  have := congrArg (fun x : Str => x.cps.toList) h
  exact this
theorem sgn_ofL (c : Nat) : sgn c = .str (ofL [c]) := rfl
/-! ### evaluation, step by step -/
section
variable {gv : Nat → Option D} {cal : Nat → List D → Option Slot} {ρ : En}
theorem e_var {i} : evA gv cal (.var i) ρ = ⟨shOnly (rd ρ i), dOf (rd ρ i), none, asI (dOf (rd ρ i)), asB (dOf (rd ρ i)), (dOf (noDic (rd ρ i))).bind walkD⟩ := rfl
theorem e_cI {i} : evA gv cal (.cI i) ρ = .of (some (.sh (.int i))) := rfl
theorem e_cS {i} : evA gv cal (.cS i) ρ = .of (some (.sh (.str i))) := rfl
theorem e_cB {i} : evA gv cal (.cB i) ρ = .of (some (.sh (.bl i))) := rfl
theorem e_cN : evA gv cal .cN ρ = .of (some (.sh .non)) := rfl
theorem e_neg {i} : evA gv cal (.neg i) ρ = .of (some (.sh (.int (-i)))) := rfl
theorem e_glb {i} : evA gv cal (.glb i) ρ = .of (dsl (gv i)) := rfl
theorem e_bin {op a b} : evA gv cal (.bin op a b) ρ = .of (two (evA gv cal a ρ).b (evA gv cal b ρ).b (opBin op)) := rfl
theorem e_cmp {op a b} : evA gv cal (.cmp op a b) ρ = .of (bl (two (evA gv cal a ρ).b (evA gv cal b ρ).b (opCmp op))) := rfl
theorem e_chain {op op' a b c} : evA gv cal (.chain op op' a b c) ρ = .of (chn op op' (evA gv cal a ρ).b (evA gv cal b ρ).b (evA gv cal c ρ).b) := rfl
theorem e_and {a b} : evA gv cal (.and_ a b) ρ = .of (andS (asB (evA gv cal a ρ).b) (asB (evA gv cal b ρ).b)) := rfl
theorem e_or {a b} : evA gv cal (.or_ a b) ρ = .of (orS (asB (evA gv cal a ρ).b) (asB (evA gv cal b ρ).b)) := rfl
theorem e_not {a} : evA gv cal (.not_ a) ρ = .of (bl ((asB (evA gv cal a ρ).b).map (!·))) := rfl
theorem e_ite {c a b} : evA gv cal (.ite c a b) ρ = .of (iteS (asB (evA gv cal c ρ).b) (evA gv cal a ρ).s (evA gv cal b ρ).s) := rfl
theorem e_idx {a b} : evA gv cal (.idx a b) ρ = .of (dsl (two (evA gv cal a ρ).b (evA gv cal b ρ).b idxD)) := rfl
theorem e_slc {a b c} : evA gv cal (.slc a b c) ρ = .of (slcS (evA gv cal a ρ).b (evA gv cal b ρ).p (evA gv cal c ρ).p) := rfl
theorem e_rev {a} : evA gv cal (.rev a) ρ = .of ((evA gv cal a ρ).b.bind revD) := rfl
theorem e_glist {f a} : evA gv cal (.glist f a) ρ = .of ((evA gv cal a ρ).l.bind (cal f)) := rfl
theorem e_call {f a} : evA gv cal (.call f a) ρ = .of ((evA gv cal a ρ).l.bind (cal f)) := rfl
theorem e_bi1 {f a} : evA gv cal (.bi1 f a) ρ = .of ((evA gv cal a ρ).b.bind (biD f)) := rfl
theorem e_biR {f a} : evA gv cal (.biR f a) ρ = .of (biRS f (evA gv cal a ρ).b) := rfl
theorem e_max2 {a b} : evA gv cal (.max2 a b) ρ = .of (maxS (evA gv cal a ρ).b (evA gv cal b ρ).b) := rfl
theorem e_isi {a t} : evA gv cal (.isi a t) ρ = .of (bl ((evA gv cal a ρ).b.bind (isTy t))) := rfl
theorem e_isi2 {a t t'} : evA gv cal (.isi2 a t t') ρ = .of (isi2S t t' (evA gv cal a ρ).b) := rfl
theorem e_sset {a} : evA gv cal (.sset a) ρ = .of ((evA gv cal a ρ).b.bind ssetD) := rfl
theorem e_lset {a} : evA gv cal (.lset a) ρ = .of ((evA gv cal a ρ).b.bind lsetD) := rfl
theorem e_join {o a} : evA gv cal (.join o a) ρ = .of (two (evA gv cal o ρ).b (evA gv cal a ρ).b joinD) := rfl
theorem e_index {o a} : evA gv cal (.index o a) ρ = .of (two (evA gv cal o ρ).b (evA gv cal a ρ).b indexD) := rfl
theorem e_get {o a b} : evA gv cal (.get o a b) ρ = .of (getS (evA gv cal o ρ).b (evA gv cal a ρ).b (dOf (evA gv cal b ρ).s)) := rfl
theorem e_split {o a} : evA gv cal (.split o a) ρ = .of (two (evA gv cal o ρ).b (evA gv cal a ρ).b splitD) := rfl
theorem e_tupE {a} : evA gv cal (.tupE a) ρ = .of (tupS (evA gv cal a ρ).l) := rfl
theorem e_lstE {a} : evA gv cal (.lstE a) ρ = .of (lstS (evA gv cal a ρ).l) := rfl
theorem e_dicK {a} : evA gv cal (.dicK a) ρ = .of (dicKS (evA gv cal a ρ).l) := rfl
theorem e_dicT {a} : evA gv cal (.dicT a) ρ = .of (dicTS (evA gv cal a ρ).l) := rfl
theorem e_dic1 {a b} : evA gv cal (.dic1 a b) ρ = .of (dic1S (dOf (evA gv cal a ρ).s) (dOf (evA gv cal b ρ).s)) := rfl
theorem e_dic1T {a b} : evA gv cal (.dic1T a b) ρ = .of (dic1TS (dOf (evA gv cal a ρ).s) (dOf (evA gv cal b ρ).s)) := rfl
theorem e_rng1 {a} : evA gv cal (.rng1 a) ρ = .it (rng1S (evA gv cal a ρ).b) := rfl
theorem e_rng2 {a b} : evA gv cal (.rng2 a b) ρ = .it (rng2S (evA gv cal a ρ).b (evA gv cal b ρ).b) := rfl
theorem e_enum {a} : evA gv cal (.enum a) ρ = .it ((dOf (evA gv cal a ρ).s).bind enumS) := rfl
theorem e_zip {a b} : evA gv cal (.zip a b) ρ = .it (two (dOf (evA gv cal a ρ).s) (dOf (evA gv cal b ρ).s) zipS) := rfl
theorem e_items {a} : evA gv cal (.items a) ρ = .it (itemsS (dOf (evA gv cal a ρ).s)) := rfl
theorem e_nil : evA gv cal .nil ρ = ⟨none, none, some [], some none, some true, none⟩ := rfl
theorem e_cons {a r} : evA gv cal (.cons a r) ρ = ⟨none, none, consS (dOf (evA gv cal a ρ).s) (evA gv cal r ρ).l, none, none, none⟩ := rfl
theorem e_lc {own elt tg it cond} {ds : List D} (g : D → D) (p : D → Bool) (hi : (evA gv cal it ρ).i = some ds) (hl : ds.length ≤ sizeLine)
    (h : ∀ d ∈ ds, ∃ ρ', bindT tg d (wipeE ρ own) = some ρ' ∧ (evA gv cal cond ρ').c = some (p d) ∧ (p d = true → dOf (evA gv cal elt ρ').s = some (g d))) :
    evA gv cal (.lc own elt tg it cond) ρ = .of (some (.ol ((ds.filter p).map g))) := by
  show W.of (lcS (fun ρ' => dOf (evA gv cal elt ρ').s) (fun ρ' => (evA gv cal cond ρ').c) (fun d => bindT tg d (wipeE ρ own)) (evA gv cal it ρ).i) = _
  rw [hi]
  show W.of (if ds.length ≤ sizeLine then (lcL _ _ _ ds).map .ol else none) = _
  rw [if_pos hl, lcL_fm g p h]
  rfl
/-- without a test -/
theorem e_lcA {own elt tg it} {ds : List D} (g : D → D) (hi : (evA gv cal it ρ).i = some ds) (hl : ds.length ≤ sizeLine)
    (h : ∀ d ∈ ds, ∃ ρ', bindT tg d (wipeE ρ own) = some ρ' ∧ dOf (evA gv cal elt ρ').s = some (g d)) :
    evA gv cal (.lc own elt tg it .nil) ρ = .of (some (.ol (ds.map g))) := by
  have := e_lc (cond := .nil) g (fun _ => true) hi hl fun d hd => by
    obtain ⟨ρ', e1, e2⟩ := h d hd
    exact ⟨ρ', e1, rfl, fun _ => e2⟩
  rw [this, List.filter_eq_self.mpr fun _ _ => rfl]
theorem W_s {s} : (W.of s).s = s := rfl
theorem W_b {s} : (W.of s).b = dOf s := rfl
theorem W_l {s} : (W.of s).l = none := rfl
theorem W_p {s} : (W.of s).p = asI (dOf s) := rfl
theorem W_c {s} : (W.of s).c = asB (dOf s) := rfl
theorem W_i {s} : (W.of s).i = (dOf s).bind walkD := rfl
theorem W_it {s} : (W.it s).i = s := rfl
theorem two_ss {α : Type} {a b : D} {f : D → D → Option α} : two (some a) (some b) f = f a b := rfl
theorem dOf_s {s : Slot} : dOf (some s) = some s.d := rfl
theorem d_sh {d : D} : (Slot.sh d).d = d := rfl
theorem d_ol {d : List D} : (Slot.ol d).d = .lst d := rfl
theorem d_ok {d} : (Slot.ok d).d = .dK d := rfl
theorem d_ot {d} : (Slot.ot d).d = .dT d := rfl
theorem asB_bl {b : Bool} : asB (some (.bl b)) = some b := rfl
theorem asI_i {b : Int} : asI (some (.int b)) = some (some b) := rfl
theorem cons_ss {d : D} {ds : List D} : consS (some d) (some ds) = some (d :: ds) := rfl
theorem rd_0 {s : Slot} {r : En} : rd (some s :: r) 0 = some s := rfl
theorem rd_s {a : Option Slot} {r : En} {i : Nat} : rd (a :: r) (i + 1) = rd r i := by
  unfold rd; rw [List.getElem?_cons_succ]
theorem sh_sh {d : D} : shOnly (some (.sh d)) = some (.sh d) := rfl
theorem nd_sh {d : D} : noDic (some (.sh d)) = some (.sh d) := rfl
theorem nd_ol {d} : noDic (some (.ol d)) = some (.ol d) := rfl
theorem and_t {y} : andS (some true) y = bl y := rfl
theorem and_f {y} : andS (some false) y = some (.sh (.bl false)) := rfl
theorem or_t {y} : orS (some true) y = some (.sh (.bl true)) := rfl
theorem or_f {y} : orS (some false) y = bl y := rfl
theorem bl_s {b : Bool} : bl (some b) = some (.sh (.bl b)) := rfl
theorem dsl_s {d : D} : dsl (some d) = some (.sh d) := rfl
theorem ite_t {x y} : iteS (some true) x y = x := rfl
theorem ite_f {x y} : iteS (some false) x y = y := rfl
theorem slc_s {x l h} : slcS (some x) (some l) (some h) = slcD x l h := rfl
theorem max_i {i j : Int} : maxS (some (.int i)) (some (.int j)) = some (.sh (.int (if j > i then j else i))) := rfl
theorem o_addI {i j : Int} : opBin .add (.int i) (.int j) = some (.sh (.int (i + j))) := rfl
theorem o_subI {i j : Int} : opBin .sub (.int i) (.int j) = some (.sh (.int (i - j))) := rfl
theorem o_addS {x y : Str} (h : x.length + y.length ≤ sizeLine) : opBin .add (.str x) (.str y) = some (.sh (.str (x ++ y))) := if_pos h
theorem o_addT {x y : List D} (h : x.length + y.length ≤ sizeLine) : opBin .add (.tup x) (.tup y) = some (.sh (.tup (x ++ y))) := if_pos h
theorem o_addL {x y : List D} (h : x.length + y.length ≤ sizeLine) : opBin .add (.lst x) (.lst y) = some (.ol (x ++ y)) := if_pos h
theorem o_mod {i j : Int} (h : 0 < j) : opBin .mod (.int i) (.int j) = some (.sh (.int (i % j))) := if_pos h
theorem o_fdiv {i j : Int} (h : 0 < j ∧ j < 2 ^ 64) : opBin .fdiv (.int i) (.int j) = some (.sh (.int (i / j))) := if_pos h
theorem o_mul {i j : Int} (h : (-(2 ^ 64) < i ∧ i < 2 ^ 64) ∨ (-(2 ^ 64) < j ∧ j < 2 ^ 64)) : opBin .mul (.int i) (.int j) = some (.sh (.int (i * j))) := if_pos h
theorem o_pow {i j : Int} (h : 0 ≤ j ∧ j ≤ 1000000 ∧ i.natAbs < 2 ^ 64) : opBin .pow (.int i) (.int j) = some (.sh (.int (i ^ j.toNat))) := if_pos h
theorem c_eq {a b : D} : opCmp .eq a b = eqD a b := by cases a <;> cases b <;> rfl
theorem c_ne {a b : D} : opCmp .ne a b = (eqD a b).map (!·) := by cases a <;> cases b <;> rfl
theorem c_lt {i j : Int} : opCmp .lt (.int i) (.int j) = some (decide (i < j)) := rfl
theorem c_le {i j : Int} : opCmp .le (.int i) (.int j) = some (decide (i ≤ j)) := rfl
theorem c_gt {i j : Int} : opCmp .gt (.int i) (.int j) = some (decide (j < i)) := rfl
theorem c_ge {i j : Int} : opCmp .ge (.int i) (.int j) = some (decide (j ≤ i)) := rfl
theorem eq_ii {i j : Int} : eqD (.int i) (.int j) = some (decide (i = j)) := by
  simp [eqD, toPy, PyData.depth, PyData.eqv]
  by_cases h : i = j <;> simp [h]
theorem eq_ss {i j : Str} : eqD (.str i) (.str j) = some (decide (i = j)) := by
  simp [eqD, toPy, PyData.depth, PyData.eqv]
  by_cases h : i = j <;> simp [h]
theorem c_in {a b : D} : opCmp .in_ a b = memD a b := by cases a <;> cases b <;> rfl
theorem c_nin {a b : D} : opCmp .nin a b = (memD a b).map (!·) := by cases a <;> cases b <;> rfl
theorem in_str {c : Nat} {z : Str} : memD (.str (ofL [c])) (.str z) = some (decide (c ∈ z.cps.toList)) := rfl
theorem is_nn : opCmp .is_ .non .non = some true := rfl
theorem ix_tup {ds : List D} {i : Int} : idxD (.tup ds) (.int i) = atI ds i := rfl
theorem ix_lst {ds : List D} {i : Int} : idxD (.lst ds) (.int i) = atI ds i := rfl
theorem ix_scr {ds : List Int} {i : Int} : idxD (.scr ds) (.int i) = (atI ds i).map .int := rfl
theorem ix_str {z : Str} {i : Int} : idxD (.str z) (.int i) = (atI z.cps.toList i).map sgn := rfl
theorem len_str {x : Str} : biD .len (.str x) = some (.sh (.int x.length)) := rfl
theorem len_lst {x : List D} : biD .len (.lst x) = some (.sh (.int x.length)) := rfl
theorem len_tup {x : List D} : biD .len (.tup x) = some (.sh (.int x.length)) := rfl
theorem len_scr {x : List Int} : biD .len (.scr x) = some (.sh (.int x.length)) := rfl
theorem wd_lst {x : List D} : walkD (.lst x) = some x := rfl
theorem wd_tup {x : List D} : walkD (.tup x) = some x := rfl
theorem wd_str {x : Str} : walkD (.str x) = some (x.cps.toList.map sgn) := rfl
theorem r1 {n : Nat} (h : n < 2 ^ 62) : rng1S (some (.int n)) = some (rngD 0 n) := by
  have h2 : -(2 ^ 62) ≤ (n : Int) ∧ (n : Int) < 2 ^ 62 := by omega
  simp only [rng1S, if_pos h2, Int.toNat_natCast]
theorem r2 {m n : Nat} (h : n < 2 ^ 62) (hm : m < 2 ^ 62) : rng2S (some (.int m)) (some (.int n)) = some (rngD m (n - m)) := by
  have h2 : -(2 ^ 62) ≤ (m : Int) ∧ (m : Int) < 2 ^ 62 ∧ -(2 ^ 62) ≤ (n : Int) ∧ (n : Int) < 2 ^ 62 := by omega
  have h3 : ((n : Int) - (m : Int)).toNat = n - m := by omega
  simp only [rng2S, if_pos h2, h3]
theorem tup_s {ds : List D} (h : ds.length ≤ sizeLine) : tupS (some ds) = some (.sh (.tup ds)) := if_pos h
theorem lst_s {ds : List D} (h : ds.length ≤ sizeLine) : lstS (some ds) = some (.ol ds) := if_pos h
/-! ### indices -/
theorem atI_nat' {α : Type} {xs : List α} {j : Nat} : atI xs (j : Int) = xs[j]? := by
  cases h : xs[j]? with
  | some x => exact L2.atI_nat h
  | none =>
    have h2 : xs.length ≤ j := List.getElem?_eq_none_iff.mp h
    have e : ixN xs.length (j : Int) = none := by
      unfold ixN
      rw [if_pos (by omega), if_neg (by omega)]
    unfold atI
    rw [e]
    rfl
theorem atI_of {α : Type} {xs : List α} {i : Int} {j : Nat} (h : i = j) : atI xs i = xs[j]? := by
  rw [h, atI_nat']
end
/-! ### comparing data without truth values -/
def Sm : Nat → D → Prop
  | _, .non => True
  | _, .int _ => True
  | _, .str _ => True
  | n + 1, .lst ds => ∀ d ∈ ds, Sm n d
  | n + 1, .tup ds => ∀ d ∈ ds, Sm n d
  | _, _ => False
theorem toPyL_some {ds : List D} {P : D → PyData → Prop} (h : ∀ d ∈ ds, ∃ x, toPy d = some x ∧ P d x) : ∃ xs, toPyL ds = some xs ∧ Paired P ds xs := by
  induction ds with
  | nil => exact ⟨[], rfl, .nil⟩
  | cons d ds ih =>
    obtain ⟨x, e, p⟩ := h d List.mem_cons_self
    obtain ⟨xs, e2, p2⟩ := ih fun d hd => h d (List.mem_cons_of_mem _ hd)
    exact ⟨x :: xs, by simp only [toPyL, e, e2], .cons p p2⟩
theorem depthAll_le {n : Nat} {P : D → PyData → Prop} (hP : ∀ d x, P d x → x.depth ≤ n) : ∀ {ds : List D} {xs : List PyData}, Paired P ds xs → PyData.depthAll xs ≤ n
  | _, _, .nil => Nat.zero_le _
  | _, _, .cons p r => Nat.max_le.mpr ⟨hP _ _ p, depthAll_le hP r⟩
theorem eqvAll_iff {n : Nat} {P : D → PyData → Prop} (hP : ∀ d x e y, P d x → P e y → (PyData.eqv x y = true ↔ d = e)) : ∀ {ds es : List D} {xs ys : List PyData}, Paired P ds xs → Paired P es ys → (PyData.eqvAll xs ys = true ↔ ds = es)
  | _, _, _, _, .nil, .nil => by simp [PyData.eqvAll]
  | _, _, _, _, .nil, .cons _ _ => by simp [PyData.eqvAll]
  | _, _, _, _, .cons _ _, .nil => by simp [PyData.eqvAll]
  | _, _, _, _, .cons p r, .cons p' r' => by
    simp only [PyData.eqvAll, Bool.and_eq_true, List.cons.injEq, hP _ _ _ _ p p', eqvAll_iff (n := n) hP r r']
theorem sm_py : ∀ (n : Nat) (d : D), Sm n d → ∃ x, toPy d = some x ∧ x.depth ≤ n
  | n, .non, _ => ⟨_, rfl, Nat.zero_le _⟩
  | n, .int i, _ => ⟨_, rfl, Nat.zero_le _⟩
  | n, .str i, _ => ⟨_, rfl, Nat.zero_le _⟩
  | n + 1, .lst ds, h => by
    obtain ⟨xs, e, p⟩ := toPyL_some (P := fun _ x => x.depth ≤ n) fun d hd => sm_py n d (h d hd)
    refine ⟨.list xs, by simp only [toPy, e, Option.map_some], ?_⟩
    have := depthAll_le (fun _ _ h => h) p
    simp only [PyData.depth]
    omega
  | n + 1, .tup ds, h => by
    obtain ⟨xs, e, p⟩ := toPyL_some (P := fun _ x => x.depth ≤ n) fun d hd => sm_py n d (h d hd)
    refine ⟨.tuple xs, by simp only [toPy, e, Option.map_some], ?_⟩
    have := depthAll_le (fun _ _ h => h) p
    simp only [PyData.depth]
    omega
  | _, .bl _, h => by cases ‹Nat› <;> exact h.elim
  | _, .scr _, h => by cases ‹Nat› <;> exact h.elim
  | _, .dK _, h => by cases ‹Nat› <;> exact h.elim
  | _, .dT _, h => by cases ‹Nat› <;> exact h.elim
  | 0, .lst _, h => h.elim
  | 0, .tup _, h => h.elim
theorem sm_eqv : ∀ (n : Nat) (d e : D) (x y : PyData), Sm n d → Sm n e → toPy d = some x → toPy e = some y → (PyData.eqv x y = true ↔ d = e) := by
  intro n
  induction n with
  | zero =>
    intro d e x y hd he hx hy
    cases d <;> cases e <;> first | exact hd.elim | exact he.elim | (simp only [toPy, Option.some.injEq] at hx hy; subst hx; subst hy; simp [PyData.eqv])
  | succ n ih =>
    intro d e x y hd he hx hy
    have hl : ∀ (ds es : List D) (xs ys : List PyData), (∀ d ∈ ds, Sm n d) → (∀ d ∈ es, Sm n d) → toPyL ds = some xs → toPyL es = some ys → (PyData.eqvAll xs ys = true ↔ ds = es) := by
      intro ds es xs ys h1 h2 e1 e2
      obtain ⟨xs', e1', p1⟩ := toPyL_some (P := fun d x => Sm n d ∧ toPy d = some x) fun d hd => by
        obtain ⟨x, q, _⟩ := sm_py n d (h1 d hd)
        exact ⟨x, q, h1 d hd, q⟩
      obtain ⟨ys', e2', p2⟩ := toPyL_some (P := fun d x => Sm n d ∧ toPy d = some x) fun d hd => by
        obtain ⟨x, q, _⟩ := sm_py n d (h2 d hd)
        exact ⟨x, q, h2 d hd, q⟩
      rw [e1] at e1'; rw [e2] at e2'
      cases e1'; cases e2'
      exact eqvAll_iff (n := n) (fun d x e y p q => ih d e x y p.1 q.1 p.2 q.2) p1 p2
    cases d <;> cases e <;> first
      | exact hd.elim
      | exact he.elim
      | (simp only [toPy, Option.some.injEq] at hx hy; subst hx; subst hy; simp [PyData.eqv])
      | (simp only [toPy, Option.map_eq_some_iff, Option.some.injEq] at hx hy
         first
           | (obtain ⟨xs, ex, rfl⟩ := hx
              obtain ⟨ys, ey, rfl⟩ := hy
              first
                | (simp only [PyData.eqv, D.lst.injEq]; exact hl _ _ _ _ hd he ex ey)
                | (simp only [PyData.eqv, D.tup.injEq]; exact hl _ _ _ _ hd he ex ey)
                | simp [PyData.eqv])
           | (obtain ⟨xs, ex, rfl⟩ := hx; subst hy; simp [PyData.eqv])
           | (obtain ⟨ys, ey, rfl⟩ := hy; subst hx; simp [PyData.eqv]))
/-- equality of such data -/
theorem eq_sm {d e : D} (n : Nat) (hn : n ≤ 64) (hd : Sm n d) (he : Sm n e) : ∃ b, eqD d e = some b ∧ (b = true ↔ d = e) := by
  obtain ⟨x, ex, dx⟩ := sm_py n d hd
  obtain ⟨y, ey, dy⟩ := sm_py n e he
  refine ⟨PyData.eqv x y, ?_, sm_eqv n d e x y hd he ex ey⟩
  unfold eqD
  rw [ex, ey]
  show (if x.depth ≤ 64 ∧ y.depth ≤ 64 then some (PyData.eqv x y) else none) = _
  rw [if_pos ⟨by omega, by omega⟩]
theorem eq_same {d : D} (n : Nat) (hn : n ≤ 64) (hd : Sm n d) : eqD d d = some true := by
  obtain ⟨b, e, h⟩ := eq_sm n hn hd hd
  rw [e, h.mpr rfl]
theorem eq_diff {d e : D} (n : Nat) (hn : n ≤ 64) (hd : Sm n d) (he : Sm n e) (h : d ≠ e) : eqD d e = some false := by
  obtain ⟨b, e1, h1⟩ := eq_sm n hn hd he
  rw [e1]
  cases b with
  | false => rfl
  | true => exact (h (h1.mp rfl)).elim
/-! ### environments by their slots -/
section
variable {ρ : En}
theorem rd_ne {i j : Nat} {x : Option Slot} (h : i ≠ j) : rd (ρ.set i x) j = rd ρ j := by
  unfold rd
  rw [List.getElem?_set_ne h]
theorem rd_eq {i : Nat} {x : Option Slot} (h : i < ρ.length) : rd (ρ.set i x) i = x := by
  unfold rd
  rw [List.getElem?_set_self h]
  cases x <;> rfl
theorem rd_hid {i : Nat} : rd (ρ.map hidS) i = hidS (rd ρ i) := by
  unfold rd
  rw [List.getElem?_map]
  cases ρ[i]? with
  | none => rfl
  | some o => cases o with
    | none => rfl
    | some s => cases s <;> rfl
theorem hi_var {i} : hidI (.var i) ρ = hidE ρ := rfl
theorem hi_cS {x} : hidI (.cS x) ρ = ρ := rfl
theorem hi_glb {g} : hidI (.glb g) ρ = ρ := rfl
theorem hi_bin {op a b} : hidI (.bin op a b) ρ = ρ := rfl
theorem hi_ite {c a b} : hidI (.ite c a b) ρ = ρ := rfl
theorem hi_idx {a b} : hidI (.idx a b) ρ = ρ := rfl
theorem hi_slc {a b c} : hidI (.slc a b c) ρ = ρ := rfl
theorem hi_rev {a} : hidI (.rev a) ρ = ρ := rfl
theorem hi_glist {f a} : hidI (.glist f a) ρ = ρ := rfl
theorem hi_call {f a} : hidI (.call f a) ρ = ρ := rfl
theorem hi_bi1 {f a} : hidI (.bi1 f a) ρ = ρ := rfl
theorem hi_biR {f a} : hidI (.biR f a) ρ = ρ := rfl
theorem hi_sset {a} : hidI (.sset a) ρ = ρ := rfl
theorem hi_join {a b} : hidI (.join a b) ρ = ρ := rfl
theorem hi_tupE {a} : hidI (.tupE a) ρ = ρ := rfl
theorem hi_lstE {a} : hidI (.lstE a) ρ = ρ := rfl
theorem hi_lc {o e t i c} : hidI (.lc o e t i c) ρ = ρ := rfl
theorem hi_rng1 {a} : hidI (.rng1 a) ρ = ρ := rfl
theorem hi_rng2 {a b} : hidI (.rng2 a b) ρ = ρ := rfl
theorem hi_enum {a} : hidI (.enum a) ρ = ρ := rfl
theorem hi_zip {a b} : hidI (.zip a b) ρ = ρ := rfl
theorem hi_items {a} : hidI (.items a) ρ = ρ := rfl
theorem hid_sh {d : D} : hidS (some (.sh d)) = some (.sh d) := rfl
theorem len_wipe {vs : List Nat} : (wipeE ρ vs).length = ρ.length := by
  induction vs with
  | nil => rfl
  | cons v vs ih => show ((wipeE ρ vs).set v none).length = _; rw [List.length_set, ih]
theorem wipe_nil : wipeE ρ [] = ρ := rfl
theorem wipe_cons {v : Nat} {vs : List Nat} : wipeE ρ (v :: vs) = (wipeE ρ vs).set v none := rfl
/-- a def's worth, its environment by its slots -/
theorem def_rd {gv : Nat → Option D} {cal : Nat → List D → Option Slot} {d : Def} {ds : List D} {v : Slot} (hl : ds.length = d.np) (hn : d.np ≤ d.ns)
    (h : ∀ ρ : En, ρ.length = d.ns → (∀ (i : Nat) (x : D), ds[i]? = some x → rd ρ i = some (.sh x)) → Wp (ex gv cal d.body ρ) (fun _ => v = .sh .non) (fun s => s = v) (fun _ => False)) : evDef gv cal d ds = some v := by
  refine def_of hl (h _ ?_ ?_)
  · show (ds.map _ ++ List.replicate _ _).length = _
    rw [List.length_append, List.length_map, List.length_replicate]
    omega
  · intro i x hx
    show rd (ds.map (fun d => some (Slot.sh d)) ++ List.replicate _ _) i = _
    unfold rd
    have hi : i < ds.length := (List.getElem?_eq_some_iff.mp hx).1
    rw [List.getElem?_append_left (by rw [List.length_map]; exact hi), List.getElem?_map, hx]
    rfl
theorem def_rdx {gv : Nat → Option D} {cal : Nat → List D → Option Slot} {d : Def} {ds : List D} {R : Slot → Prop} (hl : ds.length = d.np) (hn : d.np ≤ d.ns)
    (h : ∀ ρ : En, ρ.length = d.ns → (∀ (i : Nat) (x : D), ds[i]? = some x → rd ρ i = some (.sh x)) → Wp (ex gv cal d.body ρ) (fun _ => R (.sh .non)) R (fun _ => False)) : ∃ v, evDef gv cal d ds = some v ∧ R v := by
  refine def_ex hl (h _ ?_ ?_)
  · show (ds.map _ ++ List.replicate _ _).length = _
    rw [List.length_append, List.length_map, List.length_replicate]
    omega
  · intro i x hx
    show rd (ds.map (fun d => some (Slot.sh d)) ++ List.replicate _ _) i = _
    unfold rd
    have hi : i < ds.length := (List.getElem?_eq_some_iff.mp hx).1
    rw [List.getElem?_append_left (by rw [List.length_map]; exact hi), List.getElem?_map, hx]
    rfl
/-- range(n), its turns -/
theorem rng_mem {m n : Nat} {d : D} (h : d ∈ rngD (m : Int) n) : ∃ i : Nat, m ≤ i ∧ i < m + n ∧ d = .int (i : Nat) := by
  unfold rngD at h
  obtain ⟨i, hi, rfl⟩ := List.mem_map.mp h
  rw [List.mem_range] at hi
  exact ⟨m + i, by omega, by omega, by rw [Int.natCast_add]⟩
end
/-- a loop that keeps a promise whatever the turn -/
theorem wp_each {gv : Nat → Option D} {cal : Nat → List D → Option Slot} {ρ : En} {N : En → Prop} {R : Slot → Prop} {B : En → Prop} {tg : Tg} {it : E} {body : S} {ds : List D} (I : En → Prop) (he : (evA gv cal it (hidI it ρ)).i = some ds) (h0 : I ρ)
    (hs : ∀ d ∈ ds, ∀ ρ, I ρ → ∃ ρ', bindT tg d ρ = some ρ' ∧ Wp (ex gv cal body ρ') I R N) (hn : ∀ ρ, I ρ → N ρ) : Wp (ex gv cal (.for_ tg it body) ρ) N R B :=
  wp_for (fun ds' ρ => (∀ d ∈ ds', d ∈ ds) ∧ I ρ) he ⟨fun _ h => h, h0⟩ (fun d ds' ρ ⟨hm, hi⟩ => by
    obtain ⟨ρ', e, w⟩ := hs d (hm d List.mem_cons_self) ρ hi
    exact ⟨ρ', e, wp_imp w (fun ρ h => ⟨fun d hd => hm d (List.mem_cons_of_mem _ hd), h⟩) (fun _ h => h) fun _ h => h⟩) fun ρ h => hn ρ h.2
/-- a loop over what a list maps to, by the part that is done and the part that is left -/
theorem wp_fold {gv : Nat → Option D} {cal : Nat → List D → Option Slot} {ρ : En} {N : En → Prop} {R : Slot → Prop} {B : En → Prop} {tg : Tg} {it : E} {body : S} {α : Type} {xs : List α} (f : α → D) (I : List α → En → Prop) (he : (evA gv cal it (hidI it ρ)).i = some (xs.map f)) (h0 : I [] ρ)
    (hs : ∀ ys x zs, xs = ys ++ x :: zs → ∀ ρ, I ys ρ → ∃ ρ', bindT tg (f x) ρ = some ρ' ∧ Wp (ex gv cal body ρ') (I (ys ++ [x])) R N) (hn : ∀ ρ, I xs ρ → N ρ) : Wp (ex gv cal (.for_ tg it body) ρ) N R B :=
  wp_for (fun ds ρ => ∃ ys zs, xs = ys ++ zs ∧ ds = zs.map f ∧ I ys ρ) he ⟨[], xs, rfl, rfl, h0⟩ (fun d ds ρ ⟨ys, zs, e, ed, hi⟩ => by
    cases zs with
    | nil => cases ed
    | cons z zs =>
      cases ed
      obtain ⟨ρ', e2, w⟩ := hs ys z zs e ρ hi
      exact ⟨ρ', e2, wp_imp w (fun ρ h => ⟨ys ++ [z], zs, by rw [e, List.append_assoc]; rfl, rfl, h⟩) (fun _ h => h) fun _ h => h⟩) (fun ρ ⟨ys, zs, e, ed, hi⟩ => by
    cases zs with
    | nil => rw [List.append_nil] at e; subst e; exact hn ρ hi
    | cons z zs => cases ed)
end LJ
namespace LJ
open PySem PySem.Spec PyProof.Rows L2
/-! the defs of law_k01_name_list_and_key_values in the small language (printed by gen.py) -/
def d_is_word : Def := ⟨3, 4,
  (.seq (.ret (.and_ (.isi (.var 0) .str) (.and_ (.chain .le .le (.var 1) (.bi1 .len (.var 0)) (.var 2)) (.bi1 .allO (.lc [3] (.cmp .in_ (.var 3) (.glb 0)) (.one 3) (.var 0) .nil)))))
  .skip)⟩
def d_is_name : Def := ⟨1, 1,
  (.seq (.ret (.call 0 (.cons (.var 0) (.cons (.cI 1) (.cons (.cI 8) .nil)))))
  .skip)⟩
def d_is_list : Def := ⟨1, 2,
  (.seq (.ret (.and_ (.isi (.var 0) .tuple) (.and_ (.chain .le .le (.cI 1) (.bi1 .len (.var 0)) (.cI 30)) (.bi1 .allO (.lc [1] (.call 1 (.cons (.var 1) .nil)) (.one 1) (.var 0) .nil)))))
  .skip)⟩
def d_is_keys : Def := ⟨1, 1,
  (.seq (.ret (.call 0 (.cons (.var 0) (.cons (.cI 0) (.cons (.cI 60) .nil)))))
  .skip)⟩
def d_initials : Def := ⟨1, 2,
  (.seq (.ret (.join (.cS "") (.lc [1] (.idx (.var 1) (.cI 0)) (.one 1) (.var 0) .nil)))
  .skip)⟩
def d__law_cell : Def := ⟨2, 2,
  (.seq (.ite (.cmp .lt (.var 1) (.bi1 .len (.var 0)))
    (.seq (.ret (.idx (.var 0) (.var 1)))
    .skip)
    .skip)
  (.seq (.ite (.cmp .eq (.bi1 .len (.var 0)) (.cI 0))
    (.seq (.ret (.bin .add (.bin .mul (.cI 7919) (.var 1)) (.cI 101)))
    .skip)
    .skip)
  (.seq (.ret (.bin .add (.bin .mod (.idx (.var 0) (.bin .mod (.var 1) (.bi1 .len (.var 0)))) (.cI 1000003)) (.bin .mul (.cI 7919) (.var 1))))
  .skip)))⟩
def d__law_digits : Def := ⟨4, 10,
  (.seq (.asg 4 false (.tupE (.cons (.cI 2147483647) (.cons (.cI 2147483629) (.cons (.cI 2147483587) (.cons (.cI 2147483579) (.cons (.cI 2147483563) (.cons (.cI 2147483549) (.cons (.cI 2147483543) (.cons (.cI 2147483497) .nil))))))))))
  (.seq (.asg 5 false (.call 5 (.cons (.var 0) (.cons (.var 1) .nil))))
  (.seq (.asg 6 false (.ite (.cmp .ge (.var 5) (.bin .pow (.cI 10) (.cI 18))) (.var 5) (.cI 0)))
  (.seq (.asg 7 true (.lstE .nil))
  (.seq (.for_ (.one 8) (.rng1 (.var 2))
    (.seq (.asg 9 false (.bin .mul (.bin .mod (.var 5) (.idx (.var 4) (.bin .mod (.var 8) (.cI 8)))) (.bin .add (.cI 48271) (.bin .mul (.bin .mul (.cI 2) (.var 8)) (.var 8)))))
    (.seq (.asg 9 false (.bin .add (.bin .add (.var 9) (.bin .mul (.bin .mul (.cI 7919) (.bin .add (.var 8) (.cI 1))) (.bin .add (.var 8) (.cI 1)))) (.bin .mul (.cI 104729) (.var 1))))
    (.seq (.asg 9 false (.bin .mod (.var 9) (.idx (.var 4) (.bin .mod (.bin .add (.bin .mul (.cI 3) (.var 8)) (.var 1)) (.cI 8)))))
    (.seq (.asg 9 false (.bin .mod (.bin .mul (.bin .mul (.var 9) (.var 9)) (.var 9)) (.idx (.var 4) (.bin .mod (.bin .add (.var 8) (.cI 5)) (.cI 8)))))
    (.seq (.ite (.cmp .gt (.var 6) (.cI 0))
      (.seq (.asg 9 false (.var 6))
      .skip)
      .skip)
    (.seq (.app 7 (.bin .mod (.var 9) (.var 3)))
    (.seq (.asg 6 false (.bin .fdiv (.var 6) (.var 3)))
    .skip))))))))
  (.seq (.retV 7)
  .skip))))))⟩
def d__law_same_bool : Def := ⟨2, 2,
  (.seq (.ret (.and_ (.isi (.var 0) .bool) (.cmp .eq (.var 0) (.var 1))))
  .skip)⟩
def d__law_paths : Def := ⟨1, 5,
  (.seq (.asg 1 false (.lstE (.cons (.tupE .nil) .nil)))
  (.seq (.ite (.isi2 (.var 0) .list .tuple)
    (.seq (.for_ (.many [2, 3]) (.enum (.var 0))
      (.seq (.asg 1 false (.bin .add (.var 1) (.lc [4] (.bin .add (.tupE (.cons (.var 2) .nil)) (.var 4)) (.one 4) (.call 8 (.cons (.var 3) .nil)) .nil)))
      .skip))
    .skip)
    .skip)
  (.seq (.ret (.var 1))
  .skip)))⟩
def d__law_other_value : Def := ⟨2, 3,
  (.seq (.asg 2 false (.lstE (.cons .cN (.cons (.cB true) (.cons (.cB false) (.cons (.cI 7) (.cons (.bin .sub (.cI 0) (.cI 1)) (.cons (.bin .pow (.cI 10) (.cI 39)) (.cons (.cS "0") (.cons (.cS "") (.cons (.tupE .nil) (.cons (.lstE .nil) (.cons (.tupE (.cons (.var 0) .nil)) (.cons (.lstE (.cons (.var 0) .nil)) (.cons (.tupE (.cons (.cI 0) .nil)) (.cons (.tupE (.cons (.cI 1) (.cons (.cI 0) .nil))) (.cons (.cI 1) (.cons (.cI 0) .nil))))))))))))))))))
  (.seq (.ite (.and_ (.isi (.var 0) .int) (.not_ (.isi (.var 0) .bool)))
    (.seq (.asg 2 false (.bin .add (.lstE (.cons (.bin .add (.var 0) (.cI 1)) (.cons (.bin .sub (.var 0) (.cI 1)) (.cons (.bi1 .boolO (.var 0)) (.cons (.bin .add (.var 0) (.cI 1)) (.cons (.bin .sub (.var 0) (.cI 1)) (.cons (.bi1 .boolO (.var 0)) .nil))))))) (.var 2)))
    .skip)
    .skip)
  (.seq (.ite (.isi2 (.var 0) .list .tuple)
    (.seq (.asg 2 false (.bin .add (.lstE (.cons (.bi1 .listO (.var 0)) (.cons (.bi1 .tupleO (.var 0)) (.cons (.bi1 .tupleO (.rev (.var 0))) (.cons (.bi1 .listO (.var 0)) .nil))))) (.var 2)))
    .skip)
    .skip)
  (.seq (.ret (.idx (.var 2) (.bin .mod (.idx (.var 1) (.cI 1)) (.bi1 .len (.var 2)))))
  .skip))))⟩
def d__law_moved_item : Def := ⟨3, 5,
  (.seq (.asg 3 false (.bin .mod (.idx (.var 2) (.cI 2)) (.bi1 .len (.var 0))))
  (.seq (.ite (.cmp .eq (.bin .mod (.idx (.var 2) (.cI 0)) (.cI 3)) (.cI 0))
    (.seq (.ret (.bin .add (.slc (.var 0) .nil (.var 1)) (.slc (.var 0) (.bin .add (.var 1) (.cI 1)) .nil)))
    .skip)
    .skip)
  (.seq (.ite (.cmp .eq (.bin .mod (.idx (.var 2) (.cI 0)) (.cI 3)) (.cI 1))
    (.seq (.ret (.bin .add (.bin .add (.slc (.var 0) .nil (.var 3)) (.lstE (.cons (.idx (.var 0) (.var 1)) .nil))) (.slc (.var 0) (.var 3) .nil)))
    .skip)
    .skip)
  (.seq (.asg 4 false (.bin .add (.slc (.var 0) .nil (.var 1)) (.slc (.var 0) (.bin .add (.var 1) (.cI 1)) .nil)))
  (.seq (.ret (.bin .add (.bin .add (.slc (.var 4) .nil (.var 3)) (.lstE (.cons (.idx (.var 0) (.var 1)) .nil))) (.slc (.var 4) (.var 3) .nil)))
  .skip)))))⟩
def d__law_change_at : Def := ⟨3, 4,
  (.seq (.ite (.cmp .eq (.var 1) (.tupE .nil))
    (.seq (.ret (.call 9 (.cons (.var 0) (.cons (.var 2) .nil))))
    .skip)
    .skip)
  (.seq (.asg 3 true (.bi1 .listO (.var 0)))
  (.seq (.ite (.and_ (.cmp .eq (.bi1 .len (.var 1)) (.cI 1)) (.cmp .eq (.bin .mod (.idx (.var 2) (.cI 3)) (.cI 2)) (.cI 0)))
    (.seq (.pub 3)
    (.seq (.asg 3 true (.call 10 (.cons (.var 3) (.cons (.idx (.var 1) (.cI 0)) (.cons (.var 2) .nil)))))
    .skip))
    (.seq (.put 3 (.idx (.var 1) (.cI 0)) (.call 11 (.cons (.idx (.var 3) (.idx (.var 1) (.cI 0))) (.cons (.slc (.var 1) (.cI 1) .nil) (.cons (.var 2) .nil)))))
    .skip))
  (.seq (.pub 3)
  (.seq (.ret (.ite (.isi (.var 0) .list) (.var 3) (.bi1 .tupleO (.var 3))))
  .skip)))))⟩
def d__law_mutated : Def := ⟨2, 3,
  (.seq (.asg 2 false (.call 8 (.cons (.var 0) .nil)))
  (.seq (.ret (.call 11 (.cons (.var 0) (.cons (.idx (.var 2) (.bin .mod (.idx (.var 1) (.cI 4)) (.bi1 .len (.var 2)))) (.cons (.var 1) .nil)))))
  .skip))⟩
def d__law_any_value : Def := ⟨2, 6,
  (.seq (.asg 2 false (.bin .mod (.idx (.var 0) (.var 1)) (.cI 12)))
  (.seq (.asg 3 false (.idx (.lstE (.cons (.bin .sub (.bin .mod (.idx (.var 0) (.bin .add (.var 1) (.cI 1))) (.cI 12)) (.cI 2)) (.cons (.bin .sub (.cI 0) (.bin .pow (.cI 10) (.cI 39))) (.cons (.bin .pow (.cI 10) (.cI 39)) .nil)))) (.bin .mod (.idx (.var 0) (.bin .add (.var 1) (.cI 2))) (.cI 3))))
  (.seq (.ite (.or_ (.cmp .lt (.var 2) (.cI 4)) (.cmp .gt (.var 1) (.cI 3)))
    (.seq (.ret (.var 3))
    .skip)
    .skip)
  (.seq (.ite (.cmp .lt (.var 2) (.cI 7))
    (.seq (.ret (.idx (.lstE (.cons (.cB true) (.cons (.cB false) (.cons .cN .nil)))) (.bin .sub (.var 2) (.cI 4))))
    .skip)
    .skip)
  (.seq (.ite (.cmp .lt (.var 2) (.cI 9))
    (.seq (.ret (.idx (.lstE (.cons (.cS "") (.cons (.cS "0") (.cons (.cS "a") (.cons (.cS "ax") (.cons (.cS "3") (.cons (.cS "none") (.cons (.cS "A") (.cons (.cS "~") .nil))))))))) (.bin .mod (.idx (.var 0) (.bin .add (.var 1) (.cI 3))) (.cI 8))))
    .skip)
    .skip)
  (.seq (.asg 4 false (.lc [5] (.call 13 (.cons (.bin .add (.slc (.var 0) (.var 5) .nil) (.slc (.var 0) .nil (.var 5))) (.cons (.bin .add (.var 1) (.cI 1)) .nil))) (.one 5) (.rng1 (.bin .mod (.idx (.var 0) (.bin .add (.var 1) (.cI 4))) (.cI 4))) .nil))
  (.seq (.ret (.ite (.cmp .eq (.var 2) (.cI 9)) (.var 4) (.bi1 .tupleO (.var 4))))
  .skip)))))))⟩
def d__law_names : Def := ⟨2, 8,
  (.seq (.par [4, 5] [false, false] (.cons (.bin .add (.cI 1) (.bin .mod (.idx (.var 0) (.cI 0)) (.var 1))) (.cons (.idx (.lstE (.cons (.cI 2) (.cons (.cI 3) (.cons (.cI 5) (.cons (.cI 26) .nil))))) (.bin .mod (.idx (.var 0) (.cI 1)) (.cI 4))) .nil)))
  (.seq (.asg 2 false (.tupE .nil))
  (.seq (.for_ (.one 3) (.slc (.var 0) (.cI 2) (.bin .add (.cI 2) (.var 4)))
    (.seq (.asg 6 false (.idx (.cS "abcdefghijklmnopqrstuvwxyz") (.bin .mod (.var 3) (.var 5))))
    (.seq (.asg 2 false (.bin .add (.var 2) (.tupE (.cons (.bin .add (.var 6) (.idx (.lstE (.cons (.cS "") (.cons (.cS "a") (.cons (.cS "bee") (.cons (.cS "zzzzzzz") .nil))))) (.bin .mod (.bin .fdiv (.var 3) (.cI 26)) (.cI 4)))) .nil))))
    .skip)))
  (.seq (.ite (.cmp .eq (.bin .mod (.bin .fdiv (.idx (.var 0) (.cI 1)) (.cI 4)) (.cI 3)) (.cI 0))
    (.seq (.asg 7 false (.slc (.var 2) .nil (.bin .add (.cI 1) (.bin .mod (.bin .fdiv (.idx (.var 0) (.cI 1)) (.cI 12)) (.cI 4)))))
    (.seq (.asg 2 false (.bin .mul (.var 7) (.max2 (.cI 1) (.bin .fdiv (.var 4) (.bi1 .len (.var 7))))))
    .skip))
    .skip)
  (.seq (.ret (.var 2))
  .skip)))))⟩
def d__law_keys : Def := ⟨2, 4,
  (.seq (.asg 2 false (.cS ""))
  (.seq (.for_ (.one 3) (.slc (.var 0) (.cI 1) (.bin .add (.cI 1) (.bin .mod (.idx (.var 0) (.cI 0)) (.bin .add (.var 1) (.cI 1)))))
    (.seq (.asg 2 false (.bin .add (.var 2) (.idx (.cS "abcdefghijklmnopqrstuvwxyz") (.bin .mod (.var 3) (.idx (.lstE (.cons (.cI 2) (.cons (.cI 3) (.cons (.cI 5) (.cons (.cI 26) .nil))))) (.bin .mod (.bin .fdiv (.idx (.var 0) (.cI 0)) (.cI 61)) (.cI 4)))))))
    .skip))
  (.seq (.ret (.var 2))
  .skip)))⟩
def d__law_is_word : Def := ⟨3, 4,
  (.seq (.ite (.or_ (.not_ (.isi (.var 0) .str)) (.not_ (.chain .le .le (.var 1) (.bi1 .len (.var 0)) (.var 2))))
    (.seq (.ret (.cB false))
    .skip)
    .skip)
  (.seq (.ret (.cmp .eq (.lc [3] (.var 3) (.one 3) (.var 0) (.cmp .nin (.var 3) (.cS "abcdefghijklmnopqrstuvwxyz"))) (.lstE .nil)))
  .skip))⟩
def d_law : Def := ⟨1, 14,
  (.seq (.asg 1 false (.lstE (.cons (.cS "a") (.cons (.cS "") (.cons (.cS "abcdefgh") (.cons (.cS "abcdefghi") (.cons (.cS "A") (.cons (.cS "a1") (.cons (.cS "a b") (.cons (.cS "a\n") (.cons (.bin .mul (.cS "z") (.cI 60)) (.cons (.bin .mul (.cS "z") (.cI 61)) (.cons .cN (.cons (.cI 5) (.cons (.cB true) .nil)))))))))))))))
  (.seq (.asg 1 false (.bin .add (.var 1) (.lstE (.cons (.tupE (.cons (.cS "a") .nil)) (.cons (.lstE (.cons (.cS "a") .nil)) .nil)))))
  (.seq (.asg 1 false (.bin .add (.var 1) (.lstE (.cons (.tupE .nil) (.cons (.bin .mul (.tupE (.cons (.cS "a") .nil)) (.cI 30)) (.cons (.bin .mul (.tupE (.cons (.cS "a") .nil)) (.cI 31)) (.cons (.tupE (.cons (.cS "a") (.cons (.cS "") .nil))) (.cons (.tupE (.cons (.cS "a") (.cons (.cS "B") .nil))) (.cons (.tupE (.cons (.cS "a") (.cons .cN .nil))) (.cons (.tupE (.cons (.cS "abcdefghi") .nil)) (.cons (.tupE (.cons (.tupE (.cons (.cS "a") .nil)) .nil)) .nil)))))))))))
  (.seq (.for_ (.one 2) (.tupE (.cons (.cI 0) (.cons (.cI 1) (.cons (.cI 2) (.cons (.cI 3) .nil)))))
    (.seq (.asg 3 false (.call 6 (.cons (.var 0) (.cons (.var 2) (.cons (.cI 90) (.cons (.cI 27720) .nil))))))
    (.seq (.par [8, 9] [false, false] (.cons (.call 14 (.cons (.var 3) (.cons (.cI 30) .nil))) (.cons (.call 15 (.cons (.slc (.var 3) (.cI 30) .nil) (.cons (.cI 60) .nil))) .nil)))
    (.seq (.asg 4 false (.bin .mod (.idx (.var 3) (.cI 80)) (.bin .add (.bi1 .len (.var 9)) (.cI 1))))
    (.seq (.asg 5 false (.lstE (.cons (.var 8) (.cons (.bi1 .listO (.var 8)) (.cons (.idx (.var 8) (.cI 0)) (.cons (.var 9) (.cons (.bin .add (.bin .add (.slc (.var 9) .nil (.var 4)) (.idx (.cS "Z- 5\n") (.bin .mod (.idx (.var 3) (.cI 81)) (.cI 5)))) (.slc (.var 9) (.var 4) .nil)) (.cons (.bin .add (.var 9) (.cS "a")) .nil))))))))
    (.seq (.for_ (.one 6) (.rng1 (.cI 10))
      (.seq (.asg 10 false (.slc (.var 3) (.bin .mul (.cI 5) (.var 6)) (.bin .add (.bin .mul (.cI 5) (.var 6)) (.cI 5))))
      (.seq (.asg 11 false (.call 12 (.cons (.var 8) (.cons (.var 10) .nil))))
      (.seq (.asg 5 false (.bin .add (.var 5) (.lstE (.cons (.var 11) (.cons (.call 12 (.cons (.var 11) (.cons (.rev (.var 10)) .nil))) (.cons (.call 13 (.cons (.bin .add (.slc (.var 3) (.var 6) .nil) (.slc (.var 3) .nil (.var 6))) (.cons (.cI 0) .nil))) .nil))))))
      .skip))))
    (.seq (.for_ (.one 7) (.bin .add (.var 1) (.var 5))
      (.seq (.ite (.not_ (.call 7 (.cons (.call 1 (.cons (.var 7) .nil)) (.cons (.call 16 (.cons (.var 7) (.cons (.cI 1) (.cons (.cI 8) .nil)))) .nil))))
        (.seq (.ret (.cB false))
        .skip)
        .skip)
      (.seq (.ite (.not_ (.call 7 (.cons (.call 3 (.cons (.var 7) .nil)) (.cons (.call 16 (.cons (.var 7) (.cons (.cI 0) (.cons (.cI 60) .nil)))) .nil))))
        (.seq (.ret (.cB false))
        .skip)
        .skip)
      (.seq (.asg 12 false (.and_ (.isi (.var 7) .tuple) (.chain .le .le (.cI 1) (.bi1 .len (.var 7)) (.cI 30))))
      (.seq (.asg 12 false (.and_ (.var 12) (.cmp .eq (.lc [13] (.var 13) (.one 13) (.var 7) (.not_ (.call 16 (.cons (.var 13) (.cons (.cI 1) (.cons (.cI 8) .nil)))))) (.lstE .nil))))
      (.seq (.ite (.not_ (.call 7 (.cons (.call 2 (.cons (.var 7) .nil)) (.cons (.var 12) .nil))))
        (.seq (.ret (.cB false))
        .skip)
        .skip)
      .skip))))))
    (.seq (.ite (.cmp .ne (.call 4 (.cons (.var 8) .nil)) (.join (.cS "") (.lc [13] (.idx (.var 13) (.cI 0)) (.one 13) (.var 8) .nil)))
      (.seq (.ret (.cB false))
      .skip)
      .skip)
    .skip))))))))
  (.seq (.ret (.cmp .eq (.call 4 (.cons (.tupE (.cons (.cS "apple") (.cons (.cS "bear") (.cons (.cS "ant") .nil)))) .nil)) (.cS "aba")))
  .skip)))))⟩
abbrev T : List (Nat × Def) := [(0, d_is_word), (1, d_is_name), (2, d_is_list), (3, d_is_keys), (4, d_initials), (5, d__law_cell), (6, d__law_digits), (7, d__law_same_bool), (8, d__law_paths), (9, d__law_other_value), (10, d__law_moved_item), (11, d__law_change_at), (12, d__law_mutated), (13, d__law_any_value), (14, d__law_names), (15, d__law_keys), (16, d__law_is_word)]
abbrev GS : List (Nat × D) := [(0, .str "abcdefghijklmnopqrstuvwxyz")]
/-! ### short displays -/
theorem tup_0 : tupS (some []) = some (.sh (.tup [])) := rfl
theorem lst_0 : lstS (some []) = some (.ol []) := rfl
theorem tup_1 {a : D} : tupS (some [a]) = some (.sh (.tup [a])) := rfl
theorem lst_1 {a : D} : lstS (some [a]) = some (.ol [a]) := rfl
theorem tup_2 {a b : D} : tupS (some [a, b]) = some (.sh (.tup [a, b])) := rfl
theorem lst_2 {a b : D} : lstS (some [a, b]) = some (.ol [a, b]) := rfl
theorem tup_3 {a b c : D} : tupS (some [a, b, c]) = some (.sh (.tup [a, b, c])) := rfl
theorem lst_3 {a b c : D} : lstS (some [a, b, c]) = some (.ol [a, b, c]) := rfl
theorem tup_4 {a b c d : D} : tupS (some [a, b, c, d]) = some (.sh (.tup [a, b, c, d])) := rfl
theorem lst_4 {a b c d : D} : lstS (some [a, b, c, d]) = some (.ol [a, b, c, d]) := rfl
theorem tup_5 {a b c d e : D} : tupS (some [a, b, c, d, e]) = some (.sh (.tup [a, b, c, d, e])) := rfl
theorem lst_5 {a b c d e : D} : lstS (some [a, b, c, d, e]) = some (.ol [a, b, c, d, e]) := rfl
theorem tup_6 {a b c d e f : D} : tupS (some [a, b, c, d, e, f]) = some (.sh (.tup [a, b, c, d, e, f])) := rfl
theorem lst_6 {a b c d e f : D} : lstS (some [a, b, c, d, e, f]) = some (.ol [a, b, c, d, e, f]) := rfl
theorem tup_7 {a b c d e f g : D} : tupS (some [a, b, c, d, e, f, g]) = some (.sh (.tup [a, b, c, d, e, f, g])) := rfl
theorem lst_7 {a b c d e f g : D} : lstS (some [a, b, c, d, e, f, g]) = some (.ol [a, b, c, d, e, f, g]) := rfl
theorem tup_8 {a b c d e f g h : D} : tupS (some [a, b, c, d, e, f, g, h]) = some (.sh (.tup [a, b, c, d, e, f, g, h])) := rfl
theorem lst_8 {a b c d e f g h : D} : lstS (some [a, b, c, d, e, f, g, h]) = some (.ol [a, b, c, d, e, f, g, h]) := rfl
theorem tup_9 {a b c d e f g h i : D} : tupS (some [a, b, c, d, e, f, g, h, i]) = some (.sh (.tup [a, b, c, d, e, f, g, h, i])) := rfl
theorem lst_9 {a b c d e f g h i : D} : lstS (some [a, b, c, d, e, f, g, h, i]) = some (.ol [a, b, c, d, e, f, g, h, i]) := rfl
theorem tup_10 {a b c d e f g h i j : D} : tupS (some [a, b, c, d, e, f, g, h, i, j]) = some (.sh (.tup [a, b, c, d, e, f, g, h, i, j])) := rfl
theorem lst_10 {a b c d e f g h i j : D} : lstS (some [a, b, c, d, e, f, g, h, i, j]) = some (.ol [a, b, c, d, e, f, g, h, i, j]) := rfl
theorem tup_11 {a b c d e f g h i j k : D} : tupS (some [a, b, c, d, e, f, g, h, i, j, k]) = some (.sh (.tup [a, b, c, d, e, f, g, h, i, j, k])) := rfl
theorem lst_11 {a b c d e f g h i j k : D} : lstS (some [a, b, c, d, e, f, g, h, i, j, k]) = some (.ol [a, b, c, d, e, f, g, h, i, j, k]) := rfl
theorem tup_12 {a b c d e f g h i j k l : D} : tupS (some [a, b, c, d, e, f, g, h, i, j, k, l]) = some (.sh (.tup [a, b, c, d, e, f, g, h, i, j, k, l])) := rfl
theorem lst_12 {a b c d e f g h i j k l : D} : lstS (some [a, b, c, d, e, f, g, h, i, j, k, l]) = some (.ol [a, b, c, d, e, f, g, h, i, j, k, l]) := rfl
/-! ### the common defs -/
theorem sz : sizeLine = 16777216 := by decide
def ini (x : Str) : Nat := x.cps.toList.headD 0
abbrev tN (ns : List Str) : D := .tup (ns.map .str)
/-- names as the laws make them -/
structure NsOk (ns : List Str) : Prop where
  pos : 1 ≤ ns.length
  le : ns.length ≤ 1000
  ne : ∀ x ∈ ns, x.cps.toList ≠ []
theorem atI_zero {α : Type} {xs : List α} {x : α} (h : xs.head? = some x) : atI xs 0 = some x := by
  have := atI_nat' (xs := xs) (j := 0)
  rw [show ((0 : Nat) : Int) = 0 from rfl] at this
  rw [this, ← List.head?_eq_getElem?, h]
theorem ini_at {x : Str} (h : x.cps.toList ≠ []) : atI x.cps.toList 0 = some (ini x) := by
  refine atI_zero ?_
  unfold ini
  cases e : x.cps.toList with
  | nil => exact absurd e h
  | cons c r => rfl
theorem join_e : ∀ (xs : List (List Nat)), Str.join (Str.ofString "") (xs.map ofL) = ofL xs.flatten
  | [] => by decide +kernel
  | [x] => by
    show ofL x = _
    simp
  | x :: y :: r => by
    show ofL x ++ Str.ofString "" ++ Str.join (Str.ofString "") ((y :: r).map ofL) = _
    rw [join_e (y :: r), show Str.ofString "" = ofL [] from by decide +kernel, ofL_app, ofL_app]
    simp
theorem flat_sgl : ∀ cs : List Nat, (cs.map fun c => [c]).flatten = cs
  | [] => rfl
  | c :: cs => by
    show [c] ++ (cs.map fun c => [c]).flatten = _
    rw [flat_sgl cs]
    rfl
theorem strsD_sgn (cs : List Nat) : strsD (cs.map sgn) = some (cs.map fun c => ofL [c]) := by
  have := strsD_map (cs.map fun c => ofL [c])
  rw [List.map_map] at this
  exact this
theorem sum_one {α : Type} (f : α → Nat) : ∀ (xs : List α), (∀ x ∈ xs, f x = 1) → (xs.map f).sum = xs.length
  | [], _ => rfl
  | x :: xs, h => by
    rw [List.map_cons, List.sum_cons, sum_one f xs fun y hy => h y (List.mem_cons_of_mem _ hy), h x List.mem_cons_self, List.length_cons]
    omega
/-- ''.join of signs -/
theorem join_signs {cs : List Nat} (h : cs.length ≤ 16777216) : joinD (.str (Str.ofString "")) (.lst (cs.map sgn)) = some (.sh (.str (ofL cs))) := by
  have e0 : (Str.ofString "").length = 0 := by decide +kernel
  have e1 : ((cs.map fun c => ofL [c]).map Str.length).sum = cs.length := by
    rw [sum_one _ _ (fun x hx => ?_), List.length_map]
    obtain ⟨c, _, rfl⟩ := List.mem_map.mp hx
    rw [ofL_len]; rfl
  show (strsD (cs.map sgn)).bind _ = _
  rw [strsD_sgn, Option.bind_some]
  simp only [e0, e1, Nat.mul_zero, Nat.add_zero, if_pos h]
  have := join_e (cs.map fun c => [c])
  rw [List.map_map] at this
  rw [show (cs.map fun c => ofL [c]) = cs.map (ofL ∘ fun c => [c]) from rfl, this]
  rw [flat_sgl]
theorem initials_ok {ns : List Str} (h : NsOk ns) (n : Nat) : calN GS T (n + 1) 4 [tN ns] = some (.sh (.str (ofL (ns.map ini)))) := by
  rw [calN_eq (d := d_initials) rfl]
  refine def_of rfl (wp_seq (wp_ret (s := .sh (.str (ofL (ns.map ini)))) ?_ rfl))
  show (evA (lk GS) (calN GS T n) _ [some (.sh (tN ns)), none]).s = _
  have hl := h.le
  simp (config := {implicitDefEqProofs := false, decide := true}) only [e_var, e_cI, e_cS, e_cB, e_cN, e_neg, e_glb, e_bin, e_cmp, e_chain, e_and, e_or, e_not, e_ite, e_idx, e_slc, e_rev, e_call, e_glist, e_bi1, e_biR, e_max2, e_isi, e_isi2, e_sset, e_lset, e_join, e_index, e_get, e_split, e_tupE, e_lstE, e_dicK, e_dicT, e_dic1, e_dic1T, e_rng1, e_rng2, e_enum, e_zip, e_items, e_nil, e_cons, W_s, W_b, W_l, W_p, W_c, W_i, W_it, two_ss, dOf_s, d_sh, d_ol, d_ok, d_ot, asB_bl, asI_i, cons_ss, rd_0, rd_s, sh_sh, nd_sh, nd_ol, and_t, and_f, or_t, or_f, bl_s, dsl_s, ite_t, ite_f, slc_s, max_i, o_addI, o_subI, c_lt, c_le, c_gt, c_ge, c_eq, c_ne, c_in, c_nin, eq_ii, eq_ss, is_nn, ix_tup, ix_lst, ix_scr, ix_str, len_str, len_lst, len_tup, len_scr, wd_lst, wd_tup, wd_str, Option.map_some, Option.bind_some, List.map_cons, List.map_nil, rd_ne, rd_eq, rd_hid, hid_sh, hi_var, hi_cS, hi_glb, hi_bin, hi_ite, hi_idx, hi_slc, hi_rev, hi_call, hi_glist, hi_bi1, hi_biR, hi_sset, hi_join, hi_tupE, hi_lstE, hi_lc, hi_rng1, hi_rng2, hi_enum, hi_zip, hi_items, wipe_cons, wipe_nil, List.length_set, List.set_cons_zero, List.set_cons_succ, bindT, setMany, setSl, if_true, if_false, decide_true, decide_false, Bool.not_true, Bool.not_false, isTy, tup_0, lst_0, tup_1, lst_1, tup_2, lst_2, tup_3, lst_3, tup_4, lst_4, tup_5, lst_5, tup_6, lst_6, tup_7, lst_7, tup_8, lst_8, tup_9, lst_9, tup_10, lst_10, tup_11, lst_11, tup_12, lst_12]
  rw [e_lcA (ds := ns.map .str) (fun d => match d with | .str x => sgn (ini x) | d => d) rfl (by rw [List.length_map, sz]; omega) (fun d hd => ?_)]
  · simp (config := {implicitDefEqProofs := false, decide := true}) only [e_var, e_cI, e_cS, e_cB, e_cN, e_neg, e_glb, e_bin, e_cmp, e_chain, e_and, e_or, e_not, e_ite, e_idx, e_slc, e_rev, e_call, e_glist, e_bi1, e_biR, e_max2, e_isi, e_isi2, e_sset, e_lset, e_join, e_index, e_get, e_split, e_tupE, e_lstE, e_dicK, e_dicT, e_dic1, e_dic1T, e_rng1, e_rng2, e_enum, e_zip, e_items, e_nil, e_cons, W_s, W_b, W_l, W_p, W_c, W_i, W_it, two_ss, dOf_s, d_sh, d_ol, d_ok, d_ot, asB_bl, asI_i, cons_ss, rd_0, rd_s, sh_sh, nd_sh, nd_ol, and_t, and_f, or_t, or_f, bl_s, dsl_s, ite_t, ite_f, slc_s, max_i, o_addI, o_subI, c_lt, c_le, c_gt, c_ge, c_eq, c_ne, c_in, c_nin, eq_ii, eq_ss, is_nn, ix_tup, ix_lst, ix_scr, ix_str, len_str, len_lst, len_tup, len_scr, wd_lst, wd_tup, wd_str, Option.map_some, Option.bind_some, List.map_cons, List.map_nil, rd_ne, rd_eq, rd_hid, hid_sh, hi_var, hi_cS, hi_glb, hi_bin, hi_ite, hi_idx, hi_slc, hi_rev, hi_call, hi_glist, hi_bi1, hi_biR, hi_sset, hi_join, hi_tupE, hi_lstE, hi_lc, hi_rng1, hi_rng2, hi_enum, hi_zip, hi_items, wipe_cons, wipe_nil, List.length_set, List.set_cons_zero, List.set_cons_succ, bindT, setMany, setSl, if_true, if_false, decide_true, decide_false, Bool.not_true, Bool.not_false, isTy, tup_0, lst_0, tup_1, lst_1, tup_2, lst_2, tup_3, lst_3, tup_4, lst_4, tup_5, lst_5, tup_6, lst_6, tup_7, lst_7, tup_8, lst_8, tup_9, lst_9, tup_10, lst_10, tup_11, lst_11, tup_12, lst_12]
    rw [List.map_map]
    have := join_signs (cs := ns.map ini) (by rw [List.length_map]; omega)
    rw [List.map_map] at this
    exact this
  · obtain ⟨x, hx, rfl⟩ := List.mem_map.mp hd
    refine ⟨_, rfl, ?_⟩
    simp (config := {implicitDefEqProofs := false, decide := true}) only [e_var, e_cI, e_cS, e_cB, e_cN, e_neg, e_glb, e_bin, e_cmp, e_chain, e_and, e_or, e_not, e_ite, e_idx, e_slc, e_rev, e_call, e_glist, e_bi1, e_biR, e_max2, e_isi, e_isi2, e_sset, e_lset, e_join, e_index, e_get, e_split, e_tupE, e_lstE, e_dicK, e_dicT, e_dic1, e_dic1T, e_rng1, e_rng2, e_enum, e_zip, e_items, e_nil, e_cons, W_s, W_b, W_l, W_p, W_c, W_i, W_it, two_ss, dOf_s, d_sh, d_ol, d_ok, d_ot, asB_bl, asI_i, cons_ss, rd_0, rd_s, sh_sh, nd_sh, nd_ol, and_t, and_f, or_t, or_f, bl_s, dsl_s, ite_t, ite_f, slc_s, max_i, o_addI, o_subI, c_lt, c_le, c_gt, c_ge, c_eq, c_ne, c_in, c_nin, eq_ii, eq_ss, is_nn, ix_tup, ix_lst, ix_scr, ix_str, len_str, len_lst, len_tup, len_scr, wd_lst, wd_tup, wd_str, Option.map_some, Option.bind_some, List.map_cons, List.map_nil, rd_ne, rd_eq, rd_hid, hid_sh, hi_var, hi_cS, hi_glb, hi_bin, hi_ite, hi_idx, hi_slc, hi_rev, hi_call, hi_glist, hi_bi1, hi_biR, hi_sset, hi_join, hi_tupE, hi_lstE, hi_lc, hi_rng1, hi_rng2, hi_enum, hi_zip, hi_items, wipe_cons, wipe_nil, List.length_set, List.set_cons_zero, List.set_cons_succ, bindT, setMany, setSl, if_true, if_false, decide_true, decide_false, Bool.not_true, Bool.not_false, isTy, tup_0, lst_0, tup_1, lst_1, tup_2, lst_2, tup_3, lst_3, tup_4, lst_4, tup_5, lst_5, tup_6, lst_6, tup_7, lst_7, tup_8, lst_8, tup_9, lst_9, tup_10, lst_10, tup_11, lst_11, tup_12, lst_12, ini_at (h.ne x hx)]

/-! #### step -/
theorem dec_ofL {a c : Nat} : decide (ofL [a] = ofL [c]) = decide (a = c) := by
  by_cases h : a = c
  · simp [h]
  · have : ofL [a] ≠ ofL [c] := fun e => h (by have := ofL_inj e; simpa using this)
    simp [h, this]
def stpF (L : List Nat) (i c : Nat) : List Nat → Nat
  | [] => 0
  | w :: ws => if L.getD ((i + w) % L.length) 0 = c then w else stpF L i c ws
def stp (L : List Nat) (i c : Nat) : Nat := stpF L i c (List.range' 1 L.length)
theorem rngD_eq (m n : Nat) : rngD (m : Int) n = (List.range' m n).map fun w => .int (w : Nat) := by
  unfold rngD
  rw [List.range'_eq_map_range, List.map_map]
  refine List.map_congr_left fun i _ => ?_
  simp
theorem atI_mod {L : List Nat} {i : Nat} (h : L ≠ []) : (atI L ((i : Int) % (L.length : Int))) = some (L.getD (i % L.length) 0) := by
  have hp : 0 < L.length := List.length_pos_iff.mpr h
  have hm : i % L.length < L.length := Nat.mod_lt _ hp
  rw [atI_of (j := i % L.length) (by omega), List.getD_eq_getElem?_getD, List.getElem?_eq_getElem hm]
  rfl
/-! #### keys pressed one after another -/
def far (L : List Nat) : Nat → List Nat → Nat
  | p, [] => p
  | p, k :: ks => far L (p + stp L (p % L.length) k) ks
def lrun (L : List Nat) : Nat → List Nat → Nat
  | p, [] => p
  | p, k :: ks => lrun L ((p + stp L p k) % L.length) ks
theorem far_cons {L : List Nat} {p k : Nat} {ks : List Nat} : far L p (k :: ks) = far L (p + stp L (p % L.length) k) ks := rfl
theorem lrun_cons {L : List Nat} {p k : Nat} {ks : List Nat} : lrun L p (k :: ks) = lrun L ((p + stp L p k) % L.length) ks := rfl
theorem far_le (L : List Nat) : ∀ (ks : List Nat) (p : Nat), p ≤ far L p ks
  | [], p => Nat.le_refl _
  | k :: ks, p => Nat.le_trans (Nat.le_add_right _ _) (far_le L ks _)
theorem far_run {L : List Nat} : ∀ (ks : List Nat) (p : Nat), far L p ks % L.length = lrun L (p % L.length) ks
  | [], p => rfl
  | k :: ks, p => by
    show far L _ ks % _ = lrun L _ ks
    rw [far_run ks]
    congr 1
    rw [Nat.add_mod, Nat.add_mod (p % L.length) (stp L (p % L.length) k), Nat.mod_mod]
theorem ini_ne {ns : List Str} (h : NsOk ns) : ns.map ini ≠ [] := by
  intro e
  rw [List.map_eq_nil_iff] at e
  have hp := h.pos
  rw [e] at hp
  simp at hp
/-! #### the laws' own -/
/-! #### the script's digits -/
theorem law_cell_ok (ns : List Int) (i : Nat) (hi : i < 1000) (n : Nat) : ∃ v : Int, calN GS T (n + 1) 5 [.scr ns, .int (i : Nat)] = some (.sh (.int v)) := by
  rw [calN_eq (d := d__law_cell) rfl]
  have key : ∃ v, evDef (lk GS) (calN GS T n) d__law_cell [.scr ns, .int (i : Nat)] = some v ∧ ∃ j : Int, v = .sh (.int j) := by
    refine def_ex rfl ?_
    refine wp_seq (wp_ite (t := decide ((i : Int) < (ns.length : Int))) ?_ (fun ht => ?_) (fun ht => ?_))
    · show (evA _ _ _ [some (.sh (.scr ns)), some (.sh (.int i))]).b = _
      simp (config := {implicitDefEqProofs := false, decide := true}) only [e_var, e_cI, e_cS, e_cB, e_cN, e_neg, e_glb, e_bin, e_cmp, e_chain, e_and, e_or, e_not, e_ite, e_idx, e_slc, e_rev, e_call, e_glist, e_bi1, e_biR, e_max2, e_isi, e_isi2, e_sset, e_lset, e_join, e_index, e_get, e_split, e_tupE, e_lstE, e_dicK, e_dicT, e_dic1, e_dic1T, e_rng1, e_rng2, e_enum, e_zip, e_items, e_nil, e_cons, W_s, W_b, W_l, W_p, W_c, W_i, W_it, two_ss, dOf_s, d_sh, d_ol, d_ok, d_ot, asB_bl, asI_i, cons_ss, rd_0, rd_s, sh_sh, nd_sh, nd_ol, and_t, and_f, or_t, or_f, bl_s, dsl_s, ite_t, ite_f, slc_s, max_i, o_addI, o_subI, c_lt, c_le, c_gt, c_ge, c_eq, c_ne, c_in, c_nin, eq_ii, eq_ss, is_nn, ix_tup, ix_lst, ix_scr, ix_str, len_str, len_lst, len_tup, len_scr, wd_lst, wd_tup, wd_str, Option.map_some, Option.bind_some, List.map_cons, List.map_nil, rd_ne, rd_eq, rd_hid, hid_sh, hi_var, hi_cS, hi_glb, hi_bin, hi_ite, hi_idx, hi_slc, hi_rev, hi_call, hi_glist, hi_bi1, hi_biR, hi_sset, hi_join, hi_tupE, hi_lstE, hi_lc, hi_rng1, hi_rng2, hi_enum, hi_zip, hi_items, wipe_cons, wipe_nil, List.length_set, List.set_cons_zero, List.set_cons_succ, bindT, setMany, setSl, if_true, if_false, decide_true, decide_false, Bool.not_true, Bool.not_false, isTy, tup_0, lst_0, tup_1, lst_1, tup_2, lst_2, tup_3, lst_3, tup_4, lst_4, tup_5, lst_5, tup_6, lst_6, tup_7, lst_7, tup_8, lst_8, tup_9, lst_9, tup_10, lst_10, tup_11, lst_11, tup_12, lst_12]
    · have ht := of_decide_eq_true ht
      have hl : i < ns.length := by omega
      refine wp_seq (wp_ret (s := .sh (.int ns[i])) ?_ ⟨_, rfl⟩)
      show (evA _ _ _ [some (.sh (.scr ns)), some (.sh (.int i))]).s = _
      simp (config := {implicitDefEqProofs := false, decide := true}) only [e_var, e_cI, e_cS, e_cB, e_cN, e_neg, e_glb, e_bin, e_cmp, e_chain, e_and, e_or, e_not, e_ite, e_idx, e_slc, e_rev, e_call, e_glist, e_bi1, e_biR, e_max2, e_isi, e_isi2, e_sset, e_lset, e_join, e_index, e_get, e_split, e_tupE, e_lstE, e_dicK, e_dicT, e_dic1, e_dic1T, e_rng1, e_rng2, e_enum, e_zip, e_items, e_nil, e_cons, W_s, W_b, W_l, W_p, W_c, W_i, W_it, two_ss, dOf_s, d_sh, d_ol, d_ok, d_ot, asB_bl, asI_i, cons_ss, rd_0, rd_s, sh_sh, nd_sh, nd_ol, and_t, and_f, or_t, or_f, bl_s, dsl_s, ite_t, ite_f, slc_s, max_i, o_addI, o_subI, c_lt, c_le, c_gt, c_ge, c_eq, c_ne, c_in, c_nin, eq_ii, eq_ss, is_nn, ix_tup, ix_lst, ix_scr, ix_str, len_str, len_lst, len_tup, len_scr, wd_lst, wd_tup, wd_str, Option.map_some, Option.bind_some, List.map_cons, List.map_nil, rd_ne, rd_eq, rd_hid, hid_sh, hi_var, hi_cS, hi_glb, hi_bin, hi_ite, hi_idx, hi_slc, hi_rev, hi_call, hi_glist, hi_bi1, hi_biR, hi_sset, hi_join, hi_tupE, hi_lstE, hi_lc, hi_rng1, hi_rng2, hi_enum, hi_zip, hi_items, wipe_cons, wipe_nil, List.length_set, List.set_cons_zero, List.set_cons_succ, bindT, setMany, setSl, if_true, if_false, decide_true, decide_false, Bool.not_true, Bool.not_false, isTy, tup_0, lst_0, tup_1, lst_1, tup_2, lst_2, tup_3, lst_3, tup_4, lst_4, tup_5, lst_5, tup_6, lst_6, tup_7, lst_7, tup_8, lst_8, tup_9, lst_9, tup_10, lst_10, tup_11, lst_11, tup_12, lst_12]
      rw [atI_nat', List.getElem?_eq_getElem hl]
      simp (config := {implicitDefEqProofs := false, decide := true}) only [e_var, e_cI, e_cS, e_cB, e_cN, e_neg, e_glb, e_bin, e_cmp, e_chain, e_and, e_or, e_not, e_ite, e_idx, e_slc, e_rev, e_call, e_glist, e_bi1, e_biR, e_max2, e_isi, e_isi2, e_sset, e_lset, e_join, e_index, e_get, e_split, e_tupE, e_lstE, e_dicK, e_dicT, e_dic1, e_dic1T, e_rng1, e_rng2, e_enum, e_zip, e_items, e_nil, e_cons, W_s, W_b, W_l, W_p, W_c, W_i, W_it, two_ss, dOf_s, d_sh, d_ol, d_ok, d_ot, asB_bl, asI_i, cons_ss, rd_0, rd_s, sh_sh, nd_sh, nd_ol, and_t, and_f, or_t, or_f, bl_s, dsl_s, ite_t, ite_f, slc_s, max_i, o_addI, o_subI, c_lt, c_le, c_gt, c_ge, c_eq, c_ne, c_in, c_nin, eq_ii, eq_ss, is_nn, ix_tup, ix_lst, ix_scr, ix_str, len_str, len_lst, len_tup, len_scr, wd_lst, wd_tup, wd_str, Option.map_some, Option.bind_some, List.map_cons, List.map_nil, rd_ne, rd_eq, rd_hid, hid_sh, hi_var, hi_cS, hi_glb, hi_bin, hi_ite, hi_idx, hi_slc, hi_rev, hi_call, hi_glist, hi_bi1, hi_biR, hi_sset, hi_join, hi_tupE, hi_lstE, hi_lc, hi_rng1, hi_rng2, hi_enum, hi_zip, hi_items, wipe_cons, wipe_nil, List.length_set, List.set_cons_zero, List.set_cons_succ, bindT, setMany, setSl, if_true, if_false, decide_true, decide_false, Bool.not_true, Bool.not_false, isTy, tup_0, lst_0, tup_1, lst_1, tup_2, lst_2, tup_3, lst_3, tup_4, lst_4, tup_5, lst_5, tup_6, lst_6, tup_7, lst_7, tup_8, lst_8, tup_9, lst_9, tup_10, lst_10, tup_11, lst_11, tup_12, lst_12]
    · have ht := of_decide_eq_false ht
      refine wp_skip (wp_seq (wp_ite (t := decide ((ns.length : Int) = 0)) ?_ (fun h0 => ?_) (fun h0 => ?_)))
      · show (evA _ _ _ [some (.sh (.scr ns)), some (.sh (.int i))]).b = _
        simp (config := {implicitDefEqProofs := false, decide := true}) only [e_var, e_cI, e_cS, e_cB, e_cN, e_neg, e_glb, e_bin, e_cmp, e_chain, e_and, e_or, e_not, e_ite, e_idx, e_slc, e_rev, e_call, e_glist, e_bi1, e_biR, e_max2, e_isi, e_isi2, e_sset, e_lset, e_join, e_index, e_get, e_split, e_tupE, e_lstE, e_dicK, e_dicT, e_dic1, e_dic1T, e_rng1, e_rng2, e_enum, e_zip, e_items, e_nil, e_cons, W_s, W_b, W_l, W_p, W_c, W_i, W_it, two_ss, dOf_s, d_sh, d_ol, d_ok, d_ot, asB_bl, asI_i, cons_ss, rd_0, rd_s, sh_sh, nd_sh, nd_ol, and_t, and_f, or_t, or_f, bl_s, dsl_s, ite_t, ite_f, slc_s, max_i, o_addI, o_subI, c_lt, c_le, c_gt, c_ge, c_eq, c_ne, c_in, c_nin, eq_ii, eq_ss, is_nn, ix_tup, ix_lst, ix_scr, ix_str, len_str, len_lst, len_tup, len_scr, wd_lst, wd_tup, wd_str, Option.map_some, Option.bind_some, List.map_cons, List.map_nil, rd_ne, rd_eq, rd_hid, hid_sh, hi_var, hi_cS, hi_glb, hi_bin, hi_ite, hi_idx, hi_slc, hi_rev, hi_call, hi_glist, hi_bi1, hi_biR, hi_sset, hi_join, hi_tupE, hi_lstE, hi_lc, hi_rng1, hi_rng2, hi_enum, hi_zip, hi_items, wipe_cons, wipe_nil, List.length_set, List.set_cons_zero, List.set_cons_succ, bindT, setMany, setSl, if_true, if_false, decide_true, decide_false, Bool.not_true, Bool.not_false, isTy, tup_0, lst_0, tup_1, lst_1, tup_2, lst_2, tup_3, lst_3, tup_4, lst_4, tup_5, lst_5, tup_6, lst_6, tup_7, lst_7, tup_8, lst_8, tup_9, lst_9, tup_10, lst_10, tup_11, lst_11, tup_12, lst_12]
      · refine wp_seq (wp_ret (s := .sh (.int (7919 * i + 101))) ?_ ⟨_, rfl⟩)
        show (evA _ _ _ [some (.sh (.scr ns)), some (.sh (.int i))]).s = _
        simp (config := {implicitDefEqProofs := false, decide := true}) only [e_var, e_cI, e_cS, e_cB, e_cN, e_neg, e_glb, e_bin, e_cmp, e_chain, e_and, e_or, e_not, e_ite, e_idx, e_slc, e_rev, e_call, e_glist, e_bi1, e_biR, e_max2, e_isi, e_isi2, e_sset, e_lset, e_join, e_index, e_get, e_split, e_tupE, e_lstE, e_dicK, e_dicT, e_dic1, e_dic1T, e_rng1, e_rng2, e_enum, e_zip, e_items, e_nil, e_cons, W_s, W_b, W_l, W_p, W_c, W_i, W_it, two_ss, dOf_s, d_sh, d_ol, d_ok, d_ot, asB_bl, asI_i, cons_ss, rd_0, rd_s, sh_sh, nd_sh, nd_ol, and_t, and_f, or_t, or_f, bl_s, dsl_s, ite_t, ite_f, slc_s, max_i, o_addI, o_subI, c_lt, c_le, c_gt, c_ge, c_eq, c_ne, c_in, c_nin, eq_ii, eq_ss, is_nn, ix_tup, ix_lst, ix_scr, ix_str, len_str, len_lst, len_tup, len_scr, wd_lst, wd_tup, wd_str, Option.map_some, Option.bind_some, List.map_cons, List.map_nil, rd_ne, rd_eq, rd_hid, hid_sh, hi_var, hi_cS, hi_glb, hi_bin, hi_ite, hi_idx, hi_slc, hi_rev, hi_call, hi_glist, hi_bi1, hi_biR, hi_sset, hi_join, hi_tupE, hi_lstE, hi_lc, hi_rng1, hi_rng2, hi_enum, hi_zip, hi_items, wipe_cons, wipe_nil, List.length_set, List.set_cons_zero, List.set_cons_succ, bindT, setMany, setSl, if_true, if_false, decide_true, decide_false, Bool.not_true, Bool.not_false, isTy, tup_0, lst_0, tup_1, lst_1, tup_2, lst_2, tup_3, lst_3, tup_4, lst_4, tup_5, lst_5, tup_6, lst_6, tup_7, lst_7, tup_8, lst_8, tup_9, lst_9, tup_10, lst_10, tup_11, lst_11, tup_12, lst_12, o_mul (Or.inl (by decide : -(2 ^ 64) < (7919 : Int) ∧ (7919 : Int) < 2 ^ 64))]
      · have h0 := of_decide_eq_false h0
        have hm : i % ns.length < ns.length := Nat.mod_lt _ (by omega)
        refine wp_skip (wp_seq (wp_ret (s := .sh (.int (ns[i % ns.length] % 1000003 + 7919 * i))) ?_ ⟨_, rfl⟩))
        show (evA _ _ _ [some (.sh (.scr ns)), some (.sh (.int i))]).s = _
        simp (config := {implicitDefEqProofs := false, decide := true}) only [e_var, e_cI, e_cS, e_cB, e_cN, e_neg, e_glb, e_bin, e_cmp, e_chain, e_and, e_or, e_not, e_ite, e_idx, e_slc, e_rev, e_call, e_glist, e_bi1, e_biR, e_max2, e_isi, e_isi2, e_sset, e_lset, e_join, e_index, e_get, e_split, e_tupE, e_lstE, e_dicK, e_dicT, e_dic1, e_dic1T, e_rng1, e_rng2, e_enum, e_zip, e_items, e_nil, e_cons, W_s, W_b, W_l, W_p, W_c, W_i, W_it, two_ss, dOf_s, d_sh, d_ol, d_ok, d_ot, asB_bl, asI_i, cons_ss, rd_0, rd_s, sh_sh, nd_sh, nd_ol, and_t, and_f, or_t, or_f, bl_s, dsl_s, ite_t, ite_f, slc_s, max_i, o_addI, o_subI, c_lt, c_le, c_gt, c_ge, c_eq, c_ne, c_in, c_nin, eq_ii, eq_ss, is_nn, ix_tup, ix_lst, ix_scr, ix_str, len_str, len_lst, len_tup, len_scr, wd_lst, wd_tup, wd_str, Option.map_some, Option.bind_some, List.map_cons, List.map_nil, rd_ne, rd_eq, rd_hid, hid_sh, hi_var, hi_cS, hi_glb, hi_bin, hi_ite, hi_idx, hi_slc, hi_rev, hi_call, hi_glist, hi_bi1, hi_biR, hi_sset, hi_join, hi_tupE, hi_lstE, hi_lc, hi_rng1, hi_rng2, hi_enum, hi_zip, hi_items, wipe_cons, wipe_nil, List.length_set, List.set_cons_zero, List.set_cons_succ, bindT, setMany, setSl, if_true, if_false, decide_true, decide_false, Bool.not_true, Bool.not_false, isTy, tup_0, lst_0, tup_1, lst_1, tup_2, lst_2, tup_3, lst_3, tup_4, lst_4, tup_5, lst_5, tup_6, lst_6, tup_7, lst_7, tup_8, lst_8, tup_9, lst_9, tup_10, lst_10, tup_11, lst_11, tup_12, lst_12, o_mul (Or.inl (by decide : -(2 ^ 64) < (7919 : Int) ∧ (7919 : Int) < 2 ^ 64))]
        rw [o_mod (by omega), dOf_s]
        simp (config := {implicitDefEqProofs := false, decide := true}) only [e_var, e_cI, e_cS, e_cB, e_cN, e_neg, e_glb, e_bin, e_cmp, e_chain, e_and, e_or, e_not, e_ite, e_idx, e_slc, e_rev, e_call, e_glist, e_bi1, e_biR, e_max2, e_isi, e_isi2, e_sset, e_lset, e_join, e_index, e_get, e_split, e_tupE, e_lstE, e_dicK, e_dicT, e_dic1, e_dic1T, e_rng1, e_rng2, e_enum, e_zip, e_items, e_nil, e_cons, W_s, W_b, W_l, W_p, W_c, W_i, W_it, two_ss, dOf_s, d_sh, d_ol, d_ok, d_ot, asB_bl, asI_i, cons_ss, rd_0, rd_s, sh_sh, nd_sh, nd_ol, and_t, and_f, or_t, or_f, bl_s, dsl_s, ite_t, ite_f, slc_s, max_i, o_addI, o_subI, c_lt, c_le, c_gt, c_ge, c_eq, c_ne, c_in, c_nin, eq_ii, eq_ss, is_nn, ix_tup, ix_lst, ix_scr, ix_str, len_str, len_lst, len_tup, len_scr, wd_lst, wd_tup, wd_str, Option.map_some, Option.bind_some, List.map_cons, List.map_nil, rd_ne, rd_eq, rd_hid, hid_sh, hi_var, hi_cS, hi_glb, hi_bin, hi_ite, hi_idx, hi_slc, hi_rev, hi_call, hi_glist, hi_bi1, hi_biR, hi_sset, hi_join, hi_tupE, hi_lstE, hi_lc, hi_rng1, hi_rng2, hi_enum, hi_zip, hi_items, wipe_cons, wipe_nil, List.length_set, List.set_cons_zero, List.set_cons_succ, bindT, setMany, setSl, if_true, if_false, decide_true, decide_false, Bool.not_true, Bool.not_false, isTy, tup_0, lst_0, tup_1, lst_1, tup_2, lst_2, tup_3, lst_3, tup_4, lst_4, tup_5, lst_5, tup_6, lst_6, tup_7, lst_7, tup_8, lst_8, tup_9, lst_9, tup_10, lst_10, tup_11, lst_11, tup_12, lst_12]
        rw [atI_of (j := i % ns.length) (by omega), List.getElem?_eq_getElem hm]
        simp (config := {implicitDefEqProofs := false, decide := true}) only [e_var, e_cI, e_cS, e_cB, e_cN, e_neg, e_glb, e_bin, e_cmp, e_chain, e_and, e_or, e_not, e_ite, e_idx, e_slc, e_rev, e_call, e_glist, e_bi1, e_biR, e_max2, e_isi, e_isi2, e_sset, e_lset, e_join, e_index, e_get, e_split, e_tupE, e_lstE, e_dicK, e_dicT, e_dic1, e_dic1T, e_rng1, e_rng2, e_enum, e_zip, e_items, e_nil, e_cons, W_s, W_b, W_l, W_p, W_c, W_i, W_it, two_ss, dOf_s, d_sh, d_ol, d_ok, d_ot, asB_bl, asI_i, cons_ss, rd_0, rd_s, sh_sh, nd_sh, nd_ol, and_t, and_f, or_t, or_f, bl_s, dsl_s, ite_t, ite_f, slc_s, max_i, o_addI, o_subI, c_lt, c_le, c_gt, c_ge, c_eq, c_ne, c_in, c_nin, eq_ii, eq_ss, is_nn, ix_tup, ix_lst, ix_scr, ix_str, len_str, len_lst, len_tup, len_scr, wd_lst, wd_tup, wd_str, Option.map_some, Option.bind_some, List.map_cons, List.map_nil, rd_ne, rd_eq, rd_hid, hid_sh, hi_var, hi_cS, hi_glb, hi_bin, hi_ite, hi_idx, hi_slc, hi_rev, hi_call, hi_glist, hi_bi1, hi_biR, hi_sset, hi_join, hi_tupE, hi_lstE, hi_lc, hi_rng1, hi_rng2, hi_enum, hi_zip, hi_items, wipe_cons, wipe_nil, List.length_set, List.set_cons_zero, List.set_cons_succ, bindT, setMany, setSl, if_true, if_false, decide_true, decide_false, Bool.not_true, Bool.not_false, isTy, tup_0, lst_0, tup_1, lst_1, tup_2, lst_2, tup_3, lst_3, tup_4, lst_4, tup_5, lst_5, tup_6, lst_6, tup_7, lst_7, tup_8, lst_8, tup_9, lst_9, tup_10, lst_10, tup_11, lst_11, tup_12, lst_12, o_mod (by decide : (0 : Int) < 1000003)]
  obtain ⟨v, e, j, rfl⟩ := key
  exact ⟨j, e⟩
def prs : List Int := [2147483647, 2147483629, 2147483587, 2147483579, 2147483563, 2147483549, 2147483543, 2147483497]
theorem prs_at (j : Nat) : ∃ p : Int, atI (prs.map D.int) ((j : Int) % 8) = some (.int p) ∧ 0 < p ∧ p < 2147483648 := by
  have h : j % 8 < 8 := Nat.mod_lt _ (by decide)
  rw [atI_of (j := j % 8) (by omega)]
  generalize j % 8 = m at h
  have : m = 0 ∨ m = 1 ∨ m = 2 ∨ m = 3 ∨ m = 4 ∨ m = 5 ∨ m = 6 ∨ m = 7 := by omega
  rcases this with rfl | rfl | rfl | rfl | rfl | rfl | rfl | rfl <;> exact ⟨_, rfl, by decide, by decide⟩
abbrev nD (xs : List Nat) : List D := xs.map fun x => D.int (x : Nat)
theorem small_l {a b : Int} (h0 : 0 ≤ a) (h : a < 2 ^ 63) : (-(2 ^ 64) < a ∧ a < 2 ^ 64) ∨ (-(2 ^ 64) < b ∧ b < 2 ^ 64) := .inl ⟨by omega, by omega⟩
theorem small_r {a b : Int} (h0 : 0 ≤ b) (h : b < 2 ^ 63) : (-(2 ^ 64) < a ∧ a < 2 ^ 64) ∨ (-(2 ^ 64) < b ∧ b < 2 ^ 64) := .inr ⟨by omega, by omega⟩
theorem law_digits_ok (ns : List Int) (i : Nat) (hi : i < 1000) (c : Nat) (hc : c ≤ 1000) (b : Nat) (h0 : 0 < b) (hb : b < 2 ^ 32) (n : Nat) :
    ∃ xs : List Nat, calN GS T (n + 2) 6 [.scr ns, .int (i : Nat), .int (c : Nat), .int (b : Nat)] = some (.ol (nD xs)) ∧ xs.length = c ∧ ∀ x ∈ xs, x < b := by
  rw [calN_eq (d := d__law_digits) rfl]
  obtain ⟨cell, hcell⟩ := law_cell_ok ns i hi n
  generalize calN GS T (n + 1) = cal at hcell ⊢
  have key : ∃ v, evDef (lk GS) cal d__law_digits [.scr ns, .int (i : Nat), .int (c : Nat), .int (b : Nat)] = some v ∧ ∃ xs : List Nat, v = .ol (nD xs) ∧ xs.length = c ∧ ∀ x ∈ xs, x < b := by
    refine def_ex rfl ?_
    refine wp_seq (wp_set (s := .sh (.tup (prs.map D.int))) rfl ?_)
    show Wp (ex _ _ _ [some (.sh (.scr ns)), some (.sh (.int i)), some (.sh (.int c)), some (.sh (.int b)), some (.sh (.tup (prs.map D.int))), none, none, none, none, none]) _ _ _
    refine wp_seq (wp_set (s := .sh (.int cell)) ?_ ?_)
    · simp (config := {implicitDefEqProofs := false, decide := true}) only [e_var, e_cI, e_cS, e_cB, e_cN, e_neg, e_glb, e_bin, e_cmp, e_chain, e_and, e_or, e_not, e_ite, e_idx, e_slc, e_rev, e_call, e_glist, e_bi1, e_biR, e_max2, e_isi, e_isi2, e_sset, e_lset, e_join, e_index, e_get, e_split, e_tupE, e_lstE, e_dicK, e_dicT, e_dic1, e_dic1T, e_rng1, e_rng2, e_enum, e_zip, e_items, e_nil, e_cons, W_s, W_b, W_l, W_p, W_c, W_i, W_it, two_ss, dOf_s, d_sh, d_ol, d_ok, d_ot, asB_bl, asI_i, cons_ss, rd_0, rd_s, sh_sh, nd_sh, nd_ol, and_t, and_f, or_t, or_f, bl_s, dsl_s, ite_t, ite_f, slc_s, max_i, o_addI, o_subI, c_lt, c_le, c_gt, c_ge, c_eq, c_ne, c_in, c_nin, eq_ii, eq_ss, is_nn, ix_tup, ix_lst, ix_scr, ix_str, len_str, len_lst, len_tup, len_scr, wd_lst, wd_tup, wd_str, Option.map_some, Option.bind_some, List.map_cons, List.map_nil, rd_ne, rd_eq, rd_hid, hid_sh, hi_var, hi_cS, hi_glb, hi_bin, hi_ite, hi_idx, hi_slc, hi_rev, hi_call, hi_glist, hi_bi1, hi_biR, hi_sset, hi_join, hi_tupE, hi_lstE, hi_lc, hi_rng1, hi_rng2, hi_enum, hi_zip, hi_items, wipe_cons, wipe_nil, List.length_set, List.set_cons_zero, List.set_cons_succ, bindT, setMany, setSl, if_true, if_false, decide_true, decide_false, Bool.not_true, Bool.not_false, isTy, tup_0, lst_0, tup_1, lst_1, tup_2, lst_2, tup_3, lst_3, tup_4, lst_4, tup_5, lst_5, tup_6, lst_6, tup_7, lst_7, tup_8, lst_8, tup_9, lst_9, tup_10, lst_10, tup_11, lst_11, tup_12, lst_12, hcell]
    show Wp (ex _ _ _ [some (.sh (.scr ns)), some (.sh (.int i)), some (.sh (.int c)), some (.sh (.int b)), some (.sh (.tup (prs.map D.int))), some (.sh (.int cell)), none, none, none, none]) _ _ _
    have hpw : opBin .pow (.int 10) (.int 18) = some (.sh (.int ((10 : Int) ^ (18 : Int).toNat))) := o_pow (by decide)
    rw [show (10 : Int) ^ (18 : Int).toNat = 1000000000000000000 from by decide] at hpw
    refine wp_seq (wp_set (s := .sh (.int (if cell ≥ 1000000000000000000 then cell else 0))) ?_ ?_)
    · simp (config := {implicitDefEqProofs := false, decide := true}) only [e_var, e_cI, e_cS, e_cB, e_cN, e_neg, e_glb, e_bin, e_cmp, e_chain, e_and, e_or, e_not, e_ite, e_idx, e_slc, e_rev, e_call, e_glist, e_bi1, e_biR, e_max2, e_isi, e_isi2, e_sset, e_lset, e_join, e_index, e_get, e_split, e_tupE, e_lstE, e_dicK, e_dicT, e_dic1, e_dic1T, e_rng1, e_rng2, e_enum, e_zip, e_items, e_nil, e_cons, W_s, W_b, W_l, W_p, W_c, W_i, W_it, two_ss, dOf_s, d_sh, d_ol, d_ok, d_ot, asB_bl, asI_i, cons_ss, rd_0, rd_s, sh_sh, nd_sh, nd_ol, and_t, and_f, or_t, or_f, bl_s, dsl_s, ite_t, ite_f, slc_s, max_i, o_addI, o_subI, c_lt, c_le, c_gt, c_ge, c_eq, c_ne, c_in, c_nin, eq_ii, eq_ss, is_nn, ix_tup, ix_lst, ix_scr, ix_str, len_str, len_lst, len_tup, len_scr, wd_lst, wd_tup, wd_str, Option.map_some, Option.bind_some, List.map_cons, List.map_nil, rd_ne, rd_eq, rd_hid, hid_sh, hi_var, hi_cS, hi_glb, hi_bin, hi_ite, hi_idx, hi_slc, hi_rev, hi_call, hi_glist, hi_bi1, hi_biR, hi_sset, hi_join, hi_tupE, hi_lstE, hi_lc, hi_rng1, hi_rng2, hi_enum, hi_zip, hi_items, wipe_cons, wipe_nil, List.length_set, List.set_cons_zero, List.set_cons_succ, bindT, setMany, setSl, if_true, if_false, decide_true, decide_false, Bool.not_true, Bool.not_false, isTy, tup_0, lst_0, tup_1, lst_1, tup_2, lst_2, tup_3, lst_3, tup_4, lst_4, tup_5, lst_5, tup_6, lst_6, tup_7, lst_7, tup_8, lst_8, tup_9, lst_9, tup_10, lst_10, tup_11, lst_11, tup_12, lst_12, hpw]
      by_cases h : 1000000000000000000 ≤ cell
      · simp (config := {implicitDefEqProofs := false, decide := true}) only [e_var, e_cI, e_cS, e_cB, e_cN, e_neg, e_glb, e_bin, e_cmp, e_chain, e_and, e_or, e_not, e_ite, e_idx, e_slc, e_rev, e_call, e_glist, e_bi1, e_biR, e_max2, e_isi, e_isi2, e_sset, e_lset, e_join, e_index, e_get, e_split, e_tupE, e_lstE, e_dicK, e_dicT, e_dic1, e_dic1T, e_rng1, e_rng2, e_enum, e_zip, e_items, e_nil, e_cons, W_s, W_b, W_l, W_p, W_c, W_i, W_it, two_ss, dOf_s, d_sh, d_ol, d_ok, d_ot, asB_bl, asI_i, cons_ss, rd_0, rd_s, sh_sh, nd_sh, nd_ol, and_t, and_f, or_t, or_f, bl_s, dsl_s, ite_t, ite_f, slc_s, max_i, o_addI, o_subI, c_lt, c_le, c_gt, c_ge, c_eq, c_ne, c_in, c_nin, eq_ii, eq_ss, is_nn, ix_tup, ix_lst, ix_scr, ix_str, len_str, len_lst, len_tup, len_scr, wd_lst, wd_tup, wd_str, Option.map_some, Option.bind_some, List.map_cons, List.map_nil, rd_ne, rd_eq, rd_hid, hid_sh, hi_var, hi_cS, hi_glb, hi_bin, hi_ite, hi_idx, hi_slc, hi_rev, hi_call, hi_glist, hi_bi1, hi_biR, hi_sset, hi_join, hi_tupE, hi_lstE, hi_lc, hi_rng1, hi_rng2, hi_enum, hi_zip, hi_items, wipe_cons, wipe_nil, List.length_set, List.set_cons_zero, List.set_cons_succ, bindT, setMany, setSl, if_true, if_false, decide_true, decide_false, Bool.not_true, Bool.not_false, isTy, tup_0, lst_0, tup_1, lst_1, tup_2, lst_2, tup_3, lst_3, tup_4, lst_4, tup_5, lst_5, tup_6, lst_6, tup_7, lst_7, tup_8, lst_8, tup_9, lst_9, tup_10, lst_10, tup_11, lst_11, tup_12, lst_12, decide_eq_true h, if_pos h]
      · simp (config := {implicitDefEqProofs := false, decide := true}) only [e_var, e_cI, e_cS, e_cB, e_cN, e_neg, e_glb, e_bin, e_cmp, e_chain, e_and, e_or, e_not, e_ite, e_idx, e_slc, e_rev, e_call, e_glist, e_bi1, e_biR, e_max2, e_isi, e_isi2, e_sset, e_lset, e_join, e_index, e_get, e_split, e_tupE, e_lstE, e_dicK, e_dicT, e_dic1, e_dic1T, e_rng1, e_rng2, e_enum, e_zip, e_items, e_nil, e_cons, W_s, W_b, W_l, W_p, W_c, W_i, W_it, two_ss, dOf_s, d_sh, d_ol, d_ok, d_ot, asB_bl, asI_i, cons_ss, rd_0, rd_s, sh_sh, nd_sh, nd_ol, and_t, and_f, or_t, or_f, bl_s, dsl_s, ite_t, ite_f, slc_s, max_i, o_addI, o_subI, c_lt, c_le, c_gt, c_ge, c_eq, c_ne, c_in, c_nin, eq_ii, eq_ss, is_nn, ix_tup, ix_lst, ix_scr, ix_str, len_str, len_lst, len_tup, len_scr, wd_lst, wd_tup, wd_str, Option.map_some, Option.bind_some, List.map_cons, List.map_nil, rd_ne, rd_eq, rd_hid, hid_sh, hi_var, hi_cS, hi_glb, hi_bin, hi_ite, hi_idx, hi_slc, hi_rev, hi_call, hi_glist, hi_bi1, hi_biR, hi_sset, hi_join, hi_tupE, hi_lstE, hi_lc, hi_rng1, hi_rng2, hi_enum, hi_zip, hi_items, wipe_cons, wipe_nil, List.length_set, List.set_cons_zero, List.set_cons_succ, bindT, setMany, setSl, if_true, if_false, decide_true, decide_false, Bool.not_true, Bool.not_false, isTy, tup_0, lst_0, tup_1, lst_1, tup_2, lst_2, tup_3, lst_3, tup_4, lst_4, tup_5, lst_5, tup_6, lst_6, tup_7, lst_7, tup_8, lst_8, tup_9, lst_9, tup_10, lst_10, tup_11, lst_11, tup_12, lst_12, decide_eq_false h, if_neg h]
    generalize (if cell ≥ 1000000000000000000 then cell else 0) = rest
    show Wp (ex _ _ _ [some (.sh (.scr ns)), some (.sh (.int i)), some (.sh (.int c)), some (.sh (.int b)), some (.sh (.tup (prs.map D.int))), some (.sh (.int cell)), some (.sh (.int rest)), none, none, none]) _ _ _
    refine wp_seq (wp_own (s := .ol []) rfl ?_)
    show Wp (ex _ _ _ [some (.sh (.scr ns)), some (.sh (.int i)), some (.sh (.int c)), some (.sh (.int b)), some (.sh (.tup (prs.map D.int))), some (.sh (.int cell)), some (.sh (.int rest)), some (.ol (nD [])), none, none]) _ _ _
    refine wp_seq (wp_for (ds := rngD (0 : Nat) c) (fun ds ρ => ∃ (rest : Int) (xs : List Nat) (k m : Option Slot), ρ = [some (.sh (.scr ns)), some (.sh (.int i)), some (.sh (.int c)), some (.sh (.int b)), some (.sh (.tup (prs.map D.int))), some (.sh (.int cell)), some (.sh (.int rest)), some (.ol (nD xs)), k, m] ∧ (∃ r, ds = (List.range' xs.length r).map (fun w : Nat => D.int w) ∧ xs.length + r = c) ∧ ∀ x ∈ xs, x < b) ?_ ?_ ?_ ?_)
    · simp (config := {implicitDefEqProofs := false, decide := true}) only [e_var, e_cI, e_cS, e_cB, e_cN, e_neg, e_glb, e_bin, e_cmp, e_chain, e_and, e_or, e_not, e_ite, e_idx, e_slc, e_rev, e_call, e_glist, e_bi1, e_biR, e_max2, e_isi, e_isi2, e_sset, e_lset, e_join, e_index, e_get, e_split, e_tupE, e_lstE, e_dicK, e_dicT, e_dic1, e_dic1T, e_rng1, e_rng2, e_enum, e_zip, e_items, e_nil, e_cons, W_s, W_b, W_l, W_p, W_c, W_i, W_it, two_ss, dOf_s, d_sh, d_ol, d_ok, d_ot, asB_bl, asI_i, cons_ss, rd_0, rd_s, sh_sh, nd_sh, nd_ol, and_t, and_f, or_t, or_f, bl_s, dsl_s, ite_t, ite_f, slc_s, max_i, o_addI, o_subI, c_lt, c_le, c_gt, c_ge, c_eq, c_ne, c_in, c_nin, eq_ii, eq_ss, is_nn, ix_tup, ix_lst, ix_scr, ix_str, len_str, len_lst, len_tup, len_scr, wd_lst, wd_tup, wd_str, Option.map_some, Option.bind_some, List.map_cons, List.map_nil, rd_ne, rd_eq, rd_hid, hid_sh, hi_var, hi_cS, hi_glb, hi_bin, hi_ite, hi_idx, hi_slc, hi_rev, hi_call, hi_glist, hi_bi1, hi_biR, hi_sset, hi_join, hi_tupE, hi_lstE, hi_lc, hi_rng1, hi_rng2, hi_enum, hi_zip, hi_items, wipe_cons, wipe_nil, List.length_set, List.set_cons_zero, List.set_cons_succ, bindT, setMany, setSl, if_true, if_false, decide_true, decide_false, Bool.not_true, Bool.not_false, isTy, tup_0, lst_0, tup_1, lst_1, tup_2, lst_2, tup_3, lst_3, tup_4, lst_4, tup_5, lst_5, tup_6, lst_6, tup_7, lst_7, tup_8, lst_8, tup_9, lst_9, tup_10, lst_10, tup_11, lst_11, tup_12, lst_12]
      exact r1 (by omega)
    · exact ⟨rest, [], none, none, rfl, ⟨c, rngD_eq 0 c, by simp⟩, by simp⟩
    · rintro d ds ρ ⟨rest, xs, k, m, rfl, ⟨r, e, hr⟩, hx⟩
      cases r with
      | zero => cases e
      | succ r =>
        rw [List.range'_succ, List.map_cons] at e
        cases e
        generalize hk : xs.length = k at hr
        have hk1 : k < 1000 := by omega
        have hkk : k * k ≤ 1000 * 1000 := Nat.mul_le_mul (by omega) (by omega)
        have hk2 : (k + 1) * (k + 1) ≤ 1000 * 1000 := Nat.mul_le_mul (by omega) (by omega)
        obtain ⟨p1, q1, q1p, q1l⟩ := prs_at k
        obtain ⟨p2, q2, q2p, q2l⟩ := prs_at (3 * k + i)
        obtain ⟨p3, q3, q3p, q3l⟩ := prs_at (k + 5)
        have hm1 := Int.emod_nonneg cell (b := p1) (by omega)
        have hm1' := Int.emod_lt_of_pos cell q1p
        rw [show ((3 * k + i : Nat) : Int) = 3 * (k : Int) + i from by omega] at q2
        rw [show ((k + 5 : Nat) : Int) = (k : Int) + 5 from by omega] at q3
        refine ⟨_, rfl, wp_seq (wp_set (s := .sh (.int (cell % p1 * (48271 + 2 * k * k)))) ?_ ?_)⟩
        · show (evA _ _ _ [some (.sh (.scr ns)), some (.sh (.int i)), some (.sh (.int c)), some (.sh (.int b)), some (.sh (.tup (prs.map D.int))), some (.sh (.int cell)), some (.sh (.int rest)), some (.ol (nD xs)), some (.sh (.int k)), m]).s = _
          simp (config := {implicitDefEqProofs := false, decide := true}) only [e_var, e_cI, e_cS, e_cB, e_cN, e_neg, e_glb, e_bin, e_cmp, e_chain, e_and, e_or, e_not, e_ite, e_idx, e_slc, e_rev, e_call, e_glist, e_bi1, e_biR, e_max2, e_isi, e_isi2, e_sset, e_lset, e_join, e_index, e_get, e_split, e_tupE, e_lstE, e_dicK, e_dicT, e_dic1, e_dic1T, e_rng1, e_rng2, e_enum, e_zip, e_items, e_nil, e_cons, W_s, W_b, W_l, W_p, W_c, W_i, W_it, two_ss, dOf_s, d_sh, d_ol, d_ok, d_ot, asB_bl, asI_i, cons_ss, rd_0, rd_s, sh_sh, nd_sh, nd_ol, and_t, and_f, or_t, or_f, bl_s, dsl_s, ite_t, ite_f, slc_s, max_i, o_addI, o_subI, c_lt, c_le, c_gt, c_ge, c_eq, c_ne, c_in, c_nin, eq_ii, eq_ss, is_nn, ix_tup, ix_lst, ix_scr, ix_str, len_str, len_lst, len_tup, len_scr, wd_lst, wd_tup, wd_str, Option.map_some, Option.bind_some, List.map_cons, List.map_nil, rd_ne, rd_eq, rd_hid, hid_sh, hi_var, hi_cS, hi_glb, hi_bin, hi_ite, hi_idx, hi_slc, hi_rev, hi_call, hi_glist, hi_bi1, hi_biR, hi_sset, hi_join, hi_tupE, hi_lstE, hi_lc, hi_rng1, hi_rng2, hi_enum, hi_zip, hi_items, wipe_cons, wipe_nil, List.length_set, List.set_cons_zero, List.set_cons_succ, bindT, setMany, setSl, if_true, if_false, decide_true, decide_false, Bool.not_true, Bool.not_false, isTy, tup_0, lst_0, tup_1, lst_1, tup_2, lst_2, tup_3, lst_3, tup_4, lst_4, tup_5, lst_5, tup_6, lst_6, tup_7, lst_7, tup_8, lst_8, tup_9, lst_9, tup_10, lst_10, tup_11, lst_11, tup_12, lst_12, o_mod (by decide : (0 : Int) < 8), q1, o_mod q1p, o_mul (small_l (by decide : (0 : Int) ≤ 2) (by decide : (2 : Int) < 2 ^ 63)), o_mul (small_r (by omega : (0 : Int) ≤ (k : Nat)) (by omega : ((k : Nat) : Int) < 2 ^ 63)), o_mul (small_l hm1 (by omega))]
        generalize cell % p1 * (48271 + 2 * k * k) = m1
        refine wp_seq (wp_set (s := .sh (.int (m1 + 7919 * (k + 1) * (k + 1) + 104729 * i))) ?_ ?_)
        · show (evA _ _ _ [some (.sh (.scr ns)), some (.sh (.int i)), some (.sh (.int c)), some (.sh (.int b)), some (.sh (.tup (prs.map D.int))), some (.sh (.int cell)), some (.sh (.int rest)), some (.ol (nD xs)), some (.sh (.int k)), some (.sh (.int m1))]).s = _
          simp (config := {implicitDefEqProofs := false, decide := true}) only [e_var, e_cI, e_cS, e_cB, e_cN, e_neg, e_glb, e_bin, e_cmp, e_chain, e_and, e_or, e_not, e_ite, e_idx, e_slc, e_rev, e_call, e_glist, e_bi1, e_biR, e_max2, e_isi, e_isi2, e_sset, e_lset, e_join, e_index, e_get, e_split, e_tupE, e_lstE, e_dicK, e_dicT, e_dic1, e_dic1T, e_rng1, e_rng2, e_enum, e_zip, e_items, e_nil, e_cons, W_s, W_b, W_l, W_p, W_c, W_i, W_it, two_ss, dOf_s, d_sh, d_ol, d_ok, d_ot, asB_bl, asI_i, cons_ss, rd_0, rd_s, sh_sh, nd_sh, nd_ol, and_t, and_f, or_t, or_f, bl_s, dsl_s, ite_t, ite_f, slc_s, max_i, o_addI, o_subI, c_lt, c_le, c_gt, c_ge, c_eq, c_ne, c_in, c_nin, eq_ii, eq_ss, is_nn, ix_tup, ix_lst, ix_scr, ix_str, len_str, len_lst, len_tup, len_scr, wd_lst, wd_tup, wd_str, Option.map_some, Option.bind_some, List.map_cons, List.map_nil, rd_ne, rd_eq, rd_hid, hid_sh, hi_var, hi_cS, hi_glb, hi_bin, hi_ite, hi_idx, hi_slc, hi_rev, hi_call, hi_glist, hi_bi1, hi_biR, hi_sset, hi_join, hi_tupE, hi_lstE, hi_lc, hi_rng1, hi_rng2, hi_enum, hi_zip, hi_items, wipe_cons, wipe_nil, List.length_set, List.set_cons_zero, List.set_cons_succ, bindT, setMany, setSl, if_true, if_false, decide_true, decide_false, Bool.not_true, Bool.not_false, isTy, tup_0, lst_0, tup_1, lst_1, tup_2, lst_2, tup_3, lst_3, tup_4, lst_4, tup_5, lst_5, tup_6, lst_6, tup_7, lst_7, tup_8, lst_8, tup_9, lst_9, tup_10, lst_10, tup_11, lst_11, tup_12, lst_12, o_mul (small_l (by decide : (0 : Int) ≤ 7919) (by decide : (7919 : Int) < 2 ^ 63)), o_mul (small_r (by omega : (0 : Int) ≤ (k : Nat) + 1) (by omega : ((k : Nat) : Int) + 1 < 2 ^ 63)), o_mul (small_l (by decide : (0 : Int) ≤ 104729) (by decide : (104729 : Int) < 2 ^ 63))]
        generalize m1 + 7919 * (k + 1) * (k + 1) + 104729 * i = m2
        have hm2 := Int.emod_nonneg m2 (b := p2) (by omega)
        have hm2' := Int.emod_lt_of_pos m2 q2p
        refine wp_seq (wp_set (s := .sh (.int (m2 % p2))) ?_ ?_)
        · show (evA _ _ _ [some (.sh (.scr ns)), some (.sh (.int i)), some (.sh (.int c)), some (.sh (.int b)), some (.sh (.tup (prs.map D.int))), some (.sh (.int cell)), some (.sh (.int rest)), some (.ol (nD xs)), some (.sh (.int k)), some (.sh (.int m2))]).s = _
          simp (config := {implicitDefEqProofs := false, decide := true}) only [e_var, e_cI, e_cS, e_cB, e_cN, e_neg, e_glb, e_bin, e_cmp, e_chain, e_and, e_or, e_not, e_ite, e_idx, e_slc, e_rev, e_call, e_glist, e_bi1, e_biR, e_max2, e_isi, e_isi2, e_sset, e_lset, e_join, e_index, e_get, e_split, e_tupE, e_lstE, e_dicK, e_dicT, e_dic1, e_dic1T, e_rng1, e_rng2, e_enum, e_zip, e_items, e_nil, e_cons, W_s, W_b, W_l, W_p, W_c, W_i, W_it, two_ss, dOf_s, d_sh, d_ol, d_ok, d_ot, asB_bl, asI_i, cons_ss, rd_0, rd_s, sh_sh, nd_sh, nd_ol, and_t, and_f, or_t, or_f, bl_s, dsl_s, ite_t, ite_f, slc_s, max_i, o_addI, o_subI, c_lt, c_le, c_gt, c_ge, c_eq, c_ne, c_in, c_nin, eq_ii, eq_ss, is_nn, ix_tup, ix_lst, ix_scr, ix_str, len_str, len_lst, len_tup, len_scr, wd_lst, wd_tup, wd_str, Option.map_some, Option.bind_some, List.map_cons, List.map_nil, rd_ne, rd_eq, rd_hid, hid_sh, hi_var, hi_cS, hi_glb, hi_bin, hi_ite, hi_idx, hi_slc, hi_rev, hi_call, hi_glist, hi_bi1, hi_biR, hi_sset, hi_join, hi_tupE, hi_lstE, hi_lc, hi_rng1, hi_rng2, hi_enum, hi_zip, hi_items, wipe_cons, wipe_nil, List.length_set, List.set_cons_zero, List.set_cons_succ, bindT, setMany, setSl, if_true, if_false, decide_true, decide_false, Bool.not_true, Bool.not_false, isTy, tup_0, lst_0, tup_1, lst_1, tup_2, lst_2, tup_3, lst_3, tup_4, lst_4, tup_5, lst_5, tup_6, lst_6, tup_7, lst_7, tup_8, lst_8, tup_9, lst_9, tup_10, lst_10, tup_11, lst_11, tup_12, lst_12, o_mod (by decide : (0 : Int) < 8), q2, o_mod q2p, o_mul (small_l (by decide : (0 : Int) ≤ 3) (by decide : (3 : Int) < 2 ^ 63))]
        generalize m2 % p2 = m3 at hm2 hm2'
        refine wp_seq (wp_set (s := .sh (.int (m3 * m3 * m3 % p3))) ?_ ?_)
        · show (evA _ _ _ [some (.sh (.scr ns)), some (.sh (.int i)), some (.sh (.int c)), some (.sh (.int b)), some (.sh (.tup (prs.map D.int))), some (.sh (.int cell)), some (.sh (.int rest)), some (.ol (nD xs)), some (.sh (.int k)), some (.sh (.int m3))]).s = _
          simp (config := {implicitDefEqProofs := false, decide := true}) only [e_var, e_cI, e_cS, e_cB, e_cN, e_neg, e_glb, e_bin, e_cmp, e_chain, e_and, e_or, e_not, e_ite, e_idx, e_slc, e_rev, e_call, e_glist, e_bi1, e_biR, e_max2, e_isi, e_isi2, e_sset, e_lset, e_join, e_index, e_get, e_split, e_tupE, e_lstE, e_dicK, e_dicT, e_dic1, e_dic1T, e_rng1, e_rng2, e_enum, e_zip, e_items, e_nil, e_cons, W_s, W_b, W_l, W_p, W_c, W_i, W_it, two_ss, dOf_s, d_sh, d_ol, d_ok, d_ot, asB_bl, asI_i, cons_ss, rd_0, rd_s, sh_sh, nd_sh, nd_ol, and_t, and_f, or_t, or_f, bl_s, dsl_s, ite_t, ite_f, slc_s, max_i, o_addI, o_subI, c_lt, c_le, c_gt, c_ge, c_eq, c_ne, c_in, c_nin, eq_ii, eq_ss, is_nn, ix_tup, ix_lst, ix_scr, ix_str, len_str, len_lst, len_tup, len_scr, wd_lst, wd_tup, wd_str, Option.map_some, Option.bind_some, List.map_cons, List.map_nil, rd_ne, rd_eq, rd_hid, hid_sh, hi_var, hi_cS, hi_glb, hi_bin, hi_ite, hi_idx, hi_slc, hi_rev, hi_call, hi_glist, hi_bi1, hi_biR, hi_sset, hi_join, hi_tupE, hi_lstE, hi_lc, hi_rng1, hi_rng2, hi_enum, hi_zip, hi_items, wipe_cons, wipe_nil, List.length_set, List.set_cons_zero, List.set_cons_succ, bindT, setMany, setSl, if_true, if_false, decide_true, decide_false, Bool.not_true, Bool.not_false, isTy, tup_0, lst_0, tup_1, lst_1, tup_2, lst_2, tup_3, lst_3, tup_4, lst_4, tup_5, lst_5, tup_6, lst_6, tup_7, lst_7, tup_8, lst_8, tup_9, lst_9, tup_10, lst_10, tup_11, lst_11, tup_12, lst_12, o_mod (by decide : (0 : Int) < 8), q3, o_mod q3p, o_mul (small_r hm2 (by omega : m3 < 2 ^ 63))]
        generalize m3 * m3 * m3 % p3 = m4
        show Wp (ex _ _ _ [some (.sh (.scr ns)), some (.sh (.int i)), some (.sh (.int c)), some (.sh (.int b)), some (.sh (.tup (prs.map D.int))), some (.sh (.int cell)), some (.sh (.int rest)), some (.ol (nD xs)), some (.sh (.int k)), some (.sh (.int m4))]) _ _ _
        refine wp_cut (fun ρ => ∃ m5 : Int, ρ = [some (.sh (.scr ns)), some (.sh (.int i)), some (.sh (.int c)), some (.sh (.int b)), some (.sh (.tup (prs.map D.int))), some (.sh (.int cell)), some (.sh (.int rest)), some (.ol (nD xs)), some (.sh (.int k)), some (.sh (.int m5))]) ?_ ?_
        · refine wp_ite (t := decide (0 < rest)) ?_ (fun _ => ?_) (fun _ => ?_)
          · simp (config := {implicitDefEqProofs := false, decide := true}) only [e_var, e_cI, e_cS, e_cB, e_cN, e_neg, e_glb, e_bin, e_cmp, e_chain, e_and, e_or, e_not, e_ite, e_idx, e_slc, e_rev, e_call, e_glist, e_bi1, e_biR, e_max2, e_isi, e_isi2, e_sset, e_lset, e_join, e_index, e_get, e_split, e_tupE, e_lstE, e_dicK, e_dicT, e_dic1, e_dic1T, e_rng1, e_rng2, e_enum, e_zip, e_items, e_nil, e_cons, W_s, W_b, W_l, W_p, W_c, W_i, W_it, two_ss, dOf_s, d_sh, d_ol, d_ok, d_ot, asB_bl, asI_i, cons_ss, rd_0, rd_s, sh_sh, nd_sh, nd_ol, and_t, and_f, or_t, or_f, bl_s, dsl_s, ite_t, ite_f, slc_s, max_i, o_addI, o_subI, c_lt, c_le, c_gt, c_ge, c_eq, c_ne, c_in, c_nin, eq_ii, eq_ss, is_nn, ix_tup, ix_lst, ix_scr, ix_str, len_str, len_lst, len_tup, len_scr, wd_lst, wd_tup, wd_str, Option.map_some, Option.bind_some, List.map_cons, List.map_nil, rd_ne, rd_eq, rd_hid, hid_sh, hi_var, hi_cS, hi_glb, hi_bin, hi_ite, hi_idx, hi_slc, hi_rev, hi_call, hi_glist, hi_bi1, hi_biR, hi_sset, hi_join, hi_tupE, hi_lstE, hi_lc, hi_rng1, hi_rng2, hi_enum, hi_zip, hi_items, wipe_cons, wipe_nil, List.length_set, List.set_cons_zero, List.set_cons_succ, bindT, setMany, setSl, if_true, if_false, decide_true, decide_false, Bool.not_true, Bool.not_false, isTy, tup_0, lst_0, tup_1, lst_1, tup_2, lst_2, tup_3, lst_3, tup_4, lst_4, tup_5, lst_5, tup_6, lst_6, tup_7, lst_7, tup_8, lst_8, tup_9, lst_9, tup_10, lst_10, tup_11, lst_11, tup_12, lst_12]
          · exact wp_seq (wp_set (s := .sh (.int rest)) rfl (wp_skip ⟨rest, rfl⟩))
          · exact wp_skip ⟨m4, rfl⟩
        · rintro ρ ⟨m5, rfl⟩
          have h5 := Int.emod_nonneg m5 (b := (b : Int)) (by omega)
          have h5' := Int.emod_lt_of_pos m5 (b := (b : Int)) (by omega)
          refine wp_seq (wp_app (ds := nD xs) (s := .sh (.int (m5 % b))) rfl ?_ (by rw [List.length_map, sz]; omega) ?_)
          · simp (config := {implicitDefEqProofs := false, decide := true}) only [e_var, e_cI, e_cS, e_cB, e_cN, e_neg, e_glb, e_bin, e_cmp, e_chain, e_and, e_or, e_not, e_ite, e_idx, e_slc, e_rev, e_call, e_glist, e_bi1, e_biR, e_max2, e_isi, e_isi2, e_sset, e_lset, e_join, e_index, e_get, e_split, e_tupE, e_lstE, e_dicK, e_dicT, e_dic1, e_dic1T, e_rng1, e_rng2, e_enum, e_zip, e_items, e_nil, e_cons, W_s, W_b, W_l, W_p, W_c, W_i, W_it, two_ss, dOf_s, d_sh, d_ol, d_ok, d_ot, asB_bl, asI_i, cons_ss, rd_0, rd_s, sh_sh, nd_sh, nd_ol, and_t, and_f, or_t, or_f, bl_s, dsl_s, ite_t, ite_f, slc_s, max_i, o_addI, o_subI, c_lt, c_le, c_gt, c_ge, c_eq, c_ne, c_in, c_nin, eq_ii, eq_ss, is_nn, ix_tup, ix_lst, ix_scr, ix_str, len_str, len_lst, len_tup, len_scr, wd_lst, wd_tup, wd_str, Option.map_some, Option.bind_some, List.map_cons, List.map_nil, rd_ne, rd_eq, rd_hid, hid_sh, hi_var, hi_cS, hi_glb, hi_bin, hi_ite, hi_idx, hi_slc, hi_rev, hi_call, hi_glist, hi_bi1, hi_biR, hi_sset, hi_join, hi_tupE, hi_lstE, hi_lc, hi_rng1, hi_rng2, hi_enum, hi_zip, hi_items, wipe_cons, wipe_nil, List.length_set, List.set_cons_zero, List.set_cons_succ, bindT, setMany, setSl, if_true, if_false, decide_true, decide_false, Bool.not_true, Bool.not_false, isTy, tup_0, lst_0, tup_1, lst_1, tup_2, lst_2, tup_3, lst_3, tup_4, lst_4, tup_5, lst_5, tup_6, lst_6, tup_7, lst_7, tup_8, lst_8, tup_9, lst_9, tup_10, lst_10, tup_11, lst_11, tup_12, lst_12, o_mod (by omega : (0 : Int) < (b : Nat))]
          refine wp_seq (wp_set (s := .sh (.int (rest / b))) ?_ (wp_skip ?_))
          · simp (config := {implicitDefEqProofs := false, decide := true}) only [e_var, e_cI, e_cS, e_cB, e_cN, e_neg, e_glb, e_bin, e_cmp, e_chain, e_and, e_or, e_not, e_ite, e_idx, e_slc, e_rev, e_call, e_glist, e_bi1, e_biR, e_max2, e_isi, e_isi2, e_sset, e_lset, e_join, e_index, e_get, e_split, e_tupE, e_lstE, e_dicK, e_dicT, e_dic1, e_dic1T, e_rng1, e_rng2, e_enum, e_zip, e_items, e_nil, e_cons, W_s, W_b, W_l, W_p, W_c, W_i, W_it, two_ss, dOf_s, d_sh, d_ol, d_ok, d_ot, asB_bl, asI_i, cons_ss, rd_0, rd_s, sh_sh, nd_sh, nd_ol, and_t, and_f, or_t, or_f, bl_s, dsl_s, ite_t, ite_f, slc_s, max_i, o_addI, o_subI, c_lt, c_le, c_gt, c_ge, c_eq, c_ne, c_in, c_nin, eq_ii, eq_ss, is_nn, ix_tup, ix_lst, ix_scr, ix_str, len_str, len_lst, len_tup, len_scr, wd_lst, wd_tup, wd_str, Option.map_some, Option.bind_some, List.map_cons, List.map_nil, rd_ne, rd_eq, rd_hid, hid_sh, hi_var, hi_cS, hi_glb, hi_bin, hi_ite, hi_idx, hi_slc, hi_rev, hi_call, hi_glist, hi_bi1, hi_biR, hi_sset, hi_join, hi_tupE, hi_lstE, hi_lc, hi_rng1, hi_rng2, hi_enum, hi_zip, hi_items, wipe_cons, wipe_nil, List.length_set, List.set_cons_zero, List.set_cons_succ, bindT, setMany, setSl, if_true, if_false, decide_true, decide_false, Bool.not_true, Bool.not_false, isTy, tup_0, lst_0, tup_1, lst_1, tup_2, lst_2, tup_3, lst_3, tup_4, lst_4, tup_5, lst_5, tup_6, lst_6, tup_7, lst_7, tup_8, lst_8, tup_9, lst_9, tup_10, lst_10, tup_11, lst_11, tup_12, lst_12, o_fdiv (by omega : (0 : Int) < (b : Nat) ∧ ((b : Nat) : Int) < 2 ^ 64)]
          refine ⟨rest / b, xs ++ [(m5 % b).toNat], some (.sh (.int k)), some (.sh (.int m5)), ?_, ⟨r, ?_, ?_⟩, ?_⟩
          · show [_, _, _, _, _, _, _, some (Slot.ol (nD xs ++ [D.int (m5 % b)])), _, _] = _
            have e : nD (xs ++ [(m5 % (b : Int)).toNat]) = nD xs ++ [D.int (m5 % (b : Int))] := by
              unfold nD
              rw [List.map_append, List.map_singleton, Int.toNat_of_nonneg h5]
            rw [e]
            rfl
          · rw [List.length_append, List.length_singleton, hk]
          · rw [List.length_append, List.length_singleton]; omega
          · intro x hx'
            rcases List.mem_append.mp hx' with h | h
            · exact hx x h
            · rw [List.mem_singleton] at h
              omega
    · rintro ρ ⟨rest, xs, k, m, rfl, ⟨r, e, hr⟩, hx⟩
      cases r with
      | succ r => cases e
      | zero => exact wp_seq (wp_retV (s := .ol (nD xs)) rfl ⟨xs, rfl, by omega, hx⟩)
  obtain ⟨v, e, xs, rfl, h⟩ := key
  exact ⟨xs, e, h⟩

/-! #### names and keys as the laws make them -/
theorem az_cps : (Str.ofString "abcdefghijklmnopqrstuvwxyz").cps.toList = List.range' 97 26 := by decide +kernel
def Az (c : Nat) : Prop := 97 ≤ c ∧ c < 123
theorem az_at {j : Nat} (h : j < 26) : atI (Str.ofString "abcdefghijklmnopqrstuvwxyz").cps.toList (j : Int) = some (97 + j) := by
  rw [az_cps, atI_nat', List.getElem?_range' h]
  simp
structure NmOk (x : Str) : Prop where
  pos : 1 ≤ x.cps.toList.length
  le : x.cps.toList.length ≤ 8
  az : ∀ c ∈ x.cps.toList, Az c
structure GNs (m : Nat) (ns : List Str) : Prop where
  pos : 1 ≤ ns.length
  le : ns.length ≤ m
  nm : ∀ x ∈ ns, NmOk x
theorem GNs.ok {m : Nat} {ns : List Str} (h : GNs m ns) (hm : m ≤ 1000) : NsOk ns := ⟨h.pos, Nat.le_trans h.le hm, fun x hx e => by
  have := (h.nm x hx).pos
  rw [e] at this
  simp at this⟩
theorem cutL_map {α β : Type} (f : α → β) (xs : List α) (lo hi : Option Int) : cutL (xs.map f) lo hi = (cutL xs lo hi).map f := by
  unfold cutL
  rw [List.length_map, List.map_take, List.map_drop]
theorem cutL_nn {α : Type} (xs : List α) (a b : Nat) : cutL xs (some (a : Int)) (some (b : Int)) = (xs.take b).drop a := by
  unfold cutL
  rw [HT.sIx_nat, HT.sIx_nat]
  by_cases ha : a ≤ xs.length
  · rw [Nat.min_eq_left ha]
    by_cases hb : b ≤ xs.length
    · rw [Nat.min_eq_left hb, List.drop_take]
    · rw [Nat.min_eq_right (show xs.length ≤ b by omega), List.take_of_length_le (show xs.length ≤ b by omega), List.take_of_length_le (by rw [List.length_drop]; exact Nat.le_refl _)]
  · rw [Nat.min_eq_right (show xs.length ≤ a by omega), List.drop_of_length_le (Nat.le_refl xs.length), List.drop_of_length_le (show (xs.take b).length ≤ a by rw [List.length_take]; omega)]
    simp
theorem cutL_n {α : Type} (xs : List α) (a : Nat) : cutL xs (some (a : Int)) none = xs.drop a := by
  unfold cutL
  rw [HT.sIx_nat, HT.sIx_none]
  by_cases ha : a ≤ xs.length
  · rw [Nat.min_eq_left ha, List.take_of_length_le (by rw [List.length_drop]; exact Nat.le_refl _)]
  · rw [Nat.min_eq_right (by omega), List.drop_of_length_le (Nat.le_refl _), List.drop_of_length_le (by omega)]
    simp
theorem cutL_0 {α : Type} (xs : List α) (b : Nat) : cutL xs none (some (b : Int)) = xs.take b := by
  unfold cutL
  rw [HT.sIx_none, HT.sIx_nat, List.drop_zero, Nat.sub_zero]
  by_cases hb : b ≤ xs.length
  · rw [Nat.min_eq_left hb]
  · rw [Nat.min_eq_right (by omega), List.take_of_length_le (Nat.le_refl _), List.take_of_length_le (by omega)]
theorem s_lst {ds : List D} {lo hi : Option Int} : slcD (.lst ds) lo hi = some (.ol (cutL ds lo hi)) := rfl
theorem s_tup {ds : List D} {lo hi : Option Int} : slcD (.tup ds) lo hi = some (.sh (.tup (cutL ds lo hi))) := rfl
theorem s_str {z : Str} {lo hi : Option Int} : slcD (.str z) lo hi = some (.sh (.str (ofL (cutL z.cps.toList lo hi)))) := rfl
theorem nD_at {xs : List Nat} {j : Nat} (h : j < xs.length) : atI (nD xs) (j : Int) = some (.int (xs[j] : Nat)) := by
  rw [atI_nat', List.getElem?_map, List.getElem?_eq_getElem h]
  rfl
theorem four_at {a b c d : D} (j : Nat) : ∃ x, atI [a, b, c, d] ((j : Int) % 4) = some x ∧ (x = a ∨ x = b ∨ x = c ∨ x = d) := by
  have h : j % 4 < 4 := Nat.mod_lt _ (by decide)
  rw [atI_of (j := j % 4) (by omega)]
  generalize j % 4 = m at h
  have : m = 0 ∨ m = 1 ∨ m = 2 ∨ m = 3 := by omega
  rcases this with rfl | rfl | rfl | rfl
  · exact ⟨_, rfl, .inl rfl⟩
  · exact ⟨_, rfl, .inr (.inl rfl)⟩
  · exact ⟨_, rfl, .inr (.inr (.inl rfl))⟩
  · exact ⟨_, rfl, .inr (.inr (.inr rfl))⟩
theorem kinds_at (j : Nat) : ∃ k : Nat, atI [D.int 2, .int 3, .int 5, .int 26] ((j : Int) % 4) = some (.int (k : Nat)) ∧ 0 < k ∧ k ≤ 26 := by
  obtain ⟨x, e, h⟩ := four_at (a := D.int 2) (b := .int 3) (c := .int 5) (d := .int 26) j
  rcases h with rfl | rfl | rfl | rfl
  · exact ⟨2, e, by decide, by decide⟩
  · exact ⟨3, e, by decide, by decide⟩
  · exact ⟨5, e, by decide, by decide⟩
  · exact ⟨26, e, by decide, by decide⟩
theorem law_keys_ok (xs : List Nat) (hx : 1 ≤ xs.length) (m : Nat) (hm : m ≤ 1000) (n : Nat) :
    ∃ ks : List Nat, calN GS T (n + 1) 15 [.lst (nD xs), .int (m : Nat)] = some (.sh (.str (ofL ks))) ∧ ks.length ≤ m ∧ ∀ c ∈ ks, Az c := by
  rw [calN_eq (d := d__law_keys) rfl]
  generalize calN GS T n = cal
  have key : ∃ v, evDef (lk GS) cal d__law_keys [.lst (nD xs), .int (m : Nat)] = some v ∧ ∃ ks : List Nat, v = .sh (.str (ofL ks)) ∧ ks.length ≤ m ∧ ∀ c ∈ ks, Az c := by
    refine def_ex rfl ?_
    refine wp_seq (wp_set (s := .sh (.str (ofL []))) ?_ ?_)
    · simp (config := {implicitDefEqProofs := false, decide := true}) only [e_var, e_cI, e_cS, e_cB, e_cN, e_neg, e_glb, e_bin, e_cmp, e_chain, e_and, e_or, e_not, e_ite, e_idx, e_slc, e_rev, e_call, e_glist, e_bi1, e_biR, e_max2, e_isi, e_isi2, e_sset, e_lset, e_join, e_index, e_get, e_split, e_tupE, e_lstE, e_dicK, e_dicT, e_dic1, e_dic1T, e_rng1, e_rng2, e_enum, e_zip, e_items, e_nil, e_cons, W_s, W_b, W_l, W_p, W_c, W_i, W_it, two_ss, dOf_s, d_sh, d_ol, d_ok, d_ot, asB_bl, asI_i, cons_ss, rd_0, rd_s, sh_sh, nd_sh, nd_ol, and_t, and_f, or_t, or_f, bl_s, dsl_s, ite_t, ite_f, slc_s, max_i, o_addI, o_subI, c_lt, c_le, c_gt, c_ge, c_eq, c_ne, c_in, c_nin, eq_ii, eq_ss, is_nn, ix_tup, ix_lst, ix_scr, ix_str, len_str, len_lst, len_tup, len_scr, wd_lst, wd_tup, wd_str, Option.map_some, Option.bind_some, List.map_cons, List.map_nil, rd_ne, rd_eq, rd_hid, hid_sh, hi_var, hi_cS, hi_glb, hi_bin, hi_ite, hi_idx, hi_slc, hi_rev, hi_call, hi_glist, hi_bi1, hi_biR, hi_sset, hi_join, hi_tupE, hi_lstE, hi_lc, hi_rng1, hi_rng2, hi_enum, hi_zip, hi_items, wipe_cons, wipe_nil, List.length_set, List.set_cons_zero, List.set_cons_succ, bindT, setMany, setSl, if_true, if_false, decide_true, decide_false, Bool.not_true, Bool.not_false, isTy, tup_0, lst_0, tup_1, lst_1, tup_2, lst_2, tup_3, lst_3, tup_4, lst_4, tup_5, lst_5, tup_6, lst_6, tup_7, lst_7, tup_8, lst_8, tup_9, lst_9, tup_10, lst_10, tup_11, lst_11, tup_12, lst_12]; exact congrArg _ (congrArg _ (congrArg _ (by decide +kernel)))
    show Wp (ex _ _ _ [some (.sh (.lst (nD xs))), some (.sh (.int m)), some (.sh (.str (ofL []))), none]) _ _ _
    have h0 : 0 < xs.length := hx
    have at0 : atI (nD xs) 0 = some (.int (xs[0] : Nat)) := nD_at (j := 0) h0
    generalize hd : xs[0] = d0 at at0
    have hmod : d0 % (m + 1) < m + 1 := Nat.mod_lt _ (by omega)
    refine wp_seq (wp_for (ds := nD ((xs.take (1 + d0 % (m + 1))).drop 1)) (fun ds ρ => ∃ (ks : List Nat) (rs : List Nat) (d : Option Slot), ρ = [some (.sh (.lst (nD xs))), some (.sh (.int m)), some (.sh (.str (ofL ks))), d] ∧ ds = nD rs ∧ ks.length + rs.length ≤ m ∧ ∀ c ∈ ks, Az c) ?_ ?_ ?_ ?_)
    · simp (config := {implicitDefEqProofs := false, decide := true}) only [e_var, e_cI, e_cS, e_cB, e_cN, e_neg, e_glb, e_bin, e_cmp, e_chain, e_and, e_or, e_not, e_ite, e_idx, e_slc, e_rev, e_call, e_glist, e_bi1, e_biR, e_max2, e_isi, e_isi2, e_sset, e_lset, e_join, e_index, e_get, e_split, e_tupE, e_lstE, e_dicK, e_dicT, e_dic1, e_dic1T, e_rng1, e_rng2, e_enum, e_zip, e_items, e_nil, e_cons, W_s, W_b, W_l, W_p, W_c, W_i, W_it, two_ss, dOf_s, d_sh, d_ol, d_ok, d_ot, asB_bl, asI_i, cons_ss, rd_0, rd_s, sh_sh, nd_sh, nd_ol, and_t, and_f, or_t, or_f, bl_s, dsl_s, ite_t, ite_f, slc_s, max_i, o_addI, o_subI, c_lt, c_le, c_gt, c_ge, c_eq, c_ne, c_in, c_nin, eq_ii, eq_ss, is_nn, ix_tup, ix_lst, ix_scr, ix_str, len_str, len_lst, len_tup, len_scr, wd_lst, wd_tup, wd_str, Option.map_some, Option.bind_some, List.map_cons, List.map_nil, rd_ne, rd_eq, rd_hid, hid_sh, hi_var, hi_cS, hi_glb, hi_bin, hi_ite, hi_idx, hi_slc, hi_rev, hi_call, hi_glist, hi_bi1, hi_biR, hi_sset, hi_join, hi_tupE, hi_lstE, hi_lc, hi_rng1, hi_rng2, hi_enum, hi_zip, hi_items, wipe_cons, wipe_nil, List.length_set, List.set_cons_zero, List.set_cons_succ, bindT, setMany, setSl, if_true, if_false, decide_true, decide_false, Bool.not_true, Bool.not_false, isTy, tup_0, lst_0, tup_1, lst_1, tup_2, lst_2, tup_3, lst_3, tup_4, lst_4, tup_5, lst_5, tup_6, lst_6, tup_7, lst_7, tup_8, lst_8, tup_9, lst_9, tup_10, lst_10, tup_11, lst_11, tup_12, lst_12, at0, o_mod (by omega : (0 : Int) < (m : Nat) + 1), s_lst]
      rw [show (m : Int) + 1 = ((m + 1 : Nat) : Int) from by omega, show (1 : Int) + (d0 : Int) % ((m + 1 : Nat) : Int) = ((1 + d0 % (m + 1) : Nat) : Int) from by omega, cutL_map]
      exact congrArg some (congrArg _ (cutL_nn xs 1 _))
    · refine ⟨[], _, none, rfl, rfl, ?_, by simp⟩
      rw [List.length_drop, List.length_take, List.length_nil]
      omega
    · rintro d ds ρ ⟨ks, rs, w, rfl, e, hl, ha⟩
      cases rs with
      | nil => cases e
      | cons r rs =>
        cases e
        obtain ⟨k, ek, k0, k1⟩ := kinds_at (d0 / 61)
        rw [show ((d0 / 61 : Nat) : Int) = (d0 : Int) / 61 from by omega] at ek
        have hr : r % k < k := Nat.mod_lt _ k0
        have er := az_at (j := r % k) (by omega)
        rw [show ((r % k : Nat) : Int) = (r : Int) % (k : Int) from by omega] at er
        rw [List.length_cons] at hl
        refine ⟨_, rfl, wp_seq (wp_set (s := .sh (.str (ofL (ks ++ [97 + r % k])))) ?_ (wp_skip ⟨_, rs, _, rfl, rfl, ?_, ?_⟩))⟩
        · show (evA _ _ _ [some (.sh (.lst (nD xs))), some (.sh (.int m)), some (.sh (.str (ofL ks))), some (.sh (.int r))]).s = _
          simp (config := {implicitDefEqProofs := false, decide := true}) only [e_var, e_cI, e_cS, e_cB, e_cN, e_neg, e_glb, e_bin, e_cmp, e_chain, e_and, e_or, e_not, e_ite, e_idx, e_slc, e_rev, e_call, e_glist, e_bi1, e_biR, e_max2, e_isi, e_isi2, e_sset, e_lset, e_join, e_index, e_get, e_split, e_tupE, e_lstE, e_dicK, e_dicT, e_dic1, e_dic1T, e_rng1, e_rng2, e_enum, e_zip, e_items, e_nil, e_cons, W_s, W_b, W_l, W_p, W_c, W_i, W_it, two_ss, dOf_s, d_sh, d_ol, d_ok, d_ot, asB_bl, asI_i, cons_ss, rd_0, rd_s, sh_sh, nd_sh, nd_ol, and_t, and_f, or_t, or_f, bl_s, dsl_s, ite_t, ite_f, slc_s, max_i, o_addI, o_subI, c_lt, c_le, c_gt, c_ge, c_eq, c_ne, c_in, c_nin, eq_ii, eq_ss, is_nn, ix_tup, ix_lst, ix_scr, ix_str, len_str, len_lst, len_tup, len_scr, wd_lst, wd_tup, wd_str, Option.map_some, Option.bind_some, List.map_cons, List.map_nil, rd_ne, rd_eq, rd_hid, hid_sh, hi_var, hi_cS, hi_glb, hi_bin, hi_ite, hi_idx, hi_slc, hi_rev, hi_call, hi_glist, hi_bi1, hi_biR, hi_sset, hi_join, hi_tupE, hi_lstE, hi_lc, hi_rng1, hi_rng2, hi_enum, hi_zip, hi_items, wipe_cons, wipe_nil, List.length_set, List.set_cons_zero, List.set_cons_succ, bindT, setMany, setSl, if_true, if_false, decide_true, decide_false, Bool.not_true, Bool.not_false, isTy, tup_0, lst_0, tup_1, lst_1, tup_2, lst_2, tup_3, lst_3, tup_4, lst_4, tup_5, lst_5, tup_6, lst_6, tup_7, lst_7, tup_8, lst_8, tup_9, lst_9, tup_10, lst_10, tup_11, lst_11, tup_12, lst_12, at0, o_fdiv (by decide : (0 : Int) < 61 ∧ (61 : Int) < 2 ^ 64), o_mod (by decide : (0 : Int) < 4)]
          simp (config := {implicitDefEqProofs := false, decide := true}) only [e_var, e_cI, e_cS, e_cB, e_cN, e_neg, e_glb, e_bin, e_cmp, e_chain, e_and, e_or, e_not, e_ite, e_idx, e_slc, e_rev, e_call, e_glist, e_bi1, e_biR, e_max2, e_isi, e_isi2, e_sset, e_lset, e_join, e_index, e_get, e_split, e_tupE, e_lstE, e_dicK, e_dicT, e_dic1, e_dic1T, e_rng1, e_rng2, e_enum, e_zip, e_items, e_nil, e_cons, W_s, W_b, W_l, W_p, W_c, W_i, W_it, two_ss, dOf_s, d_sh, d_ol, d_ok, d_ot, asB_bl, asI_i, cons_ss, rd_0, rd_s, sh_sh, nd_sh, nd_ol, and_t, and_f, or_t, or_f, bl_s, dsl_s, ite_t, ite_f, slc_s, max_i, o_addI, o_subI, c_lt, c_le, c_gt, c_ge, c_eq, c_ne, c_in, c_nin, eq_ii, eq_ss, is_nn, ix_tup, ix_lst, ix_scr, ix_str, len_str, len_lst, len_tup, len_scr, wd_lst, wd_tup, wd_str, Option.map_some, Option.bind_some, List.map_cons, List.map_nil, rd_ne, rd_eq, rd_hid, hid_sh, hi_var, hi_cS, hi_glb, hi_bin, hi_ite, hi_idx, hi_slc, hi_rev, hi_call, hi_glist, hi_bi1, hi_biR, hi_sset, hi_join, hi_tupE, hi_lstE, hi_lc, hi_rng1, hi_rng2, hi_enum, hi_zip, hi_items, wipe_cons, wipe_nil, List.length_set, List.set_cons_zero, List.set_cons_succ, bindT, setMany, setSl, if_true, if_false, decide_true, decide_false, Bool.not_true, Bool.not_false, isTy, tup_0, lst_0, tup_1, lst_1, tup_2, lst_2, tup_3, lst_3, tup_4, lst_4, tup_5, lst_5, tup_6, lst_6, tup_7, lst_7, tup_8, lst_8, tup_9, lst_9, tup_10, lst_10, tup_11, lst_11, tup_12, lst_12, ek, o_mod (by omega : (0 : Int) < (k : Nat)), er, sgn_ofL]
          rw [o_addS (by rw [ofL_len, ofL_len, sz, List.length_singleton]; omega), ofL_app]
        · rw [List.length_append, List.length_singleton]; omega
        · intro c hc
          rcases List.mem_append.mp hc with h | h
          · exact ha c h
          · rw [List.mem_singleton] at h
            exact ⟨by omega, by omega⟩
    · rintro ρ ⟨ks, rs, w, rfl, e, hl, ha⟩
      exact wp_seq (wp_ret (s := .sh (.str (ofL ks))) rfl ⟨ks, rfl, by omega, ha⟩)
  obtain ⟨v, e, ks, rfl, h⟩ := key
  exact ⟨ks, e, h⟩

theorem evM3 {gv : Nat → Option D} {cal : Nat → List D → Option Slot} {ρ : En} {a b c : E} {s t u : Slot} (h1 : (evA gv cal a ρ).s = some s) (h2 : (evA gv cal b ρ).s = some t) (h3 : (evA gv cal c ρ).s = some u) (o1 o2 o3 : Bool) :
    evM gv cal (.cons a (.cons b (.cons c .nil))) [o1, o2, o3] ρ = some [if o1 then s else .sh s.d, if o2 then t else .sh t.d, if o3 then u else .sh u.d] := by
  unfold evM evM evM evM
  rw [h1, h2, h3]
theorem evM2 {gv : Nat → Option D} {cal : Nat → List D → Option Slot} {ρ : En} {a b : E} {s t : Slot} (h1 : (evA gv cal a ρ).s = some s) (h2 : (evA gv cal b ρ).s = some t) (o1 o2 : Bool) :
    evM gv cal (.cons a (.cons b .nil)) [o1, o2] ρ = some [if o1 then s else .sh s.d, if o2 then t else .sh t.d] := by
  unfold evM evM evM
  rw [h1, h2]
theorem o_mulT {xs : List D} {k : Nat} (h1 : 1 ≤ k) (h2 : k ≤ 1000) (hx : xs ≠ []) (hl : xs.length ≤ 1000) : opBin .mul (.tup xs) (.int (k : Nat)) = some (.sh (.tup (List.replicate k xs).flatten)) := by
  show (if 2 ≤ (k : Int) ∧ (k : Int) ≤ 1000 ∧ xs ≠ [] ∧ xs.length ≤ 1000 then some (Slot.sh (.tup (List.replicate (k : Int).toNat xs).flatten)) else if (k : Int) = 1 then some (Slot.sh (.tup xs)) else none) = _
  by_cases h : 2 ≤ k
  · rw [if_pos ⟨by omega, by omega, hx, hl⟩, Int.toNat_natCast]
  · have e : k = 1 := by omega
    subst e
    rw [if_neg (by omega), if_pos (show ((1 : Nat) : Int) = 1 from rfl)]
    simp
theorem flat_rep {α β : Type} (f : α → β) (xs : List α) (k : Nat) : (List.replicate k (xs.map f)).flatten = (List.replicate k xs).flatten.map f := by
  rw [List.map_flatten, List.map_replicate]
theorem suf_at (j : Nat) : ∃ sx : List Nat, atI [D.str (Str.ofString ""), .str (Str.ofString "a"), .str (Str.ofString "bee"), .str (Str.ofString "zzzzzzz")] ((j : Int) % 4) = some (.str (ofL sx)) ∧ sx.length ≤ 7 ∧ ∀ c ∈ sx, Az c := by
  obtain ⟨x, e, h⟩ := four_at (a := D.str (Str.ofString "")) (b := .str (Str.ofString "a")) (c := .str (Str.ofString "bee")) (d := .str (Str.ofString "zzzzzzz")) j
  rw [e]
  have e0 : Str.ofString "" = ofL [] := by decide +kernel
  have e1 : Str.ofString "a" = ofL [97] := by decide +kernel
  have e2 : Str.ofString "bee" = ofL [98, 101, 101] := by decide +kernel
  have e3 : Str.ofString "zzzzzzz" = ofL [122, 122, 122, 122, 122, 122, 122] := by decide +kernel
  rcases h with rfl | rfl | rfl | rfl
  · exact ⟨_, by rw [e0], by decide, by simp⟩
  · exact ⟨_, by rw [e1], by decide, by simp [Az]⟩
  · exact ⟨_, by rw [e2], by decide, by simp [Az]⟩
  · exact ⟨_, by rw [e3], by decide, by simp [Az]⟩
theorem law_names_ok (xs : List Nat) (hx : 3 ≤ xs.length) (m : Nat) (hm0 : 1 ≤ m) (hm : m ≤ 1000) (n : Nat) :
    ∃ ns : List Str, calN GS T (n + 1) 14 [.lst (nD xs), .int (m : Nat)] = some (.sh (tN ns)) ∧ GNs m ns := by
  rw [calN_eq (d := d__law_names) rfl]
  generalize calN GS T n = cal
  have key : ∃ v, evDef (lk GS) cal d__law_names [.lst (nD xs), .int (m : Nat)] = some v ∧ ∃ ns : List Str, v = .sh (tN ns) ∧ GNs m ns := by
    refine def_ex rfl ?_
    have h0 : 0 < xs.length := by omega
    have h1 : 1 < xs.length := by omega
    have at0 : atI (nD xs) 0 = some (.int (xs[0] : Nat)) := nD_at (j := 0) h0
    have at1 : atI (nD xs) 1 = some (.int (xs[1] : Nat)) := nD_at (j := 1) h1
    generalize xs[0] = d0 at at0
    generalize xs[1] = d1 at at1
    have hmod : d0 % m < m := Nat.mod_lt _ (by omega)
    obtain ⟨kd, ek, k0, k1⟩ := kinds_at d1
    generalize hmany : 1 + d0 % m = many
    refine wp_seq (wp_par (evM2 (s := .sh (.int (many : Nat))) (t := .sh (.int (kd : Nat))) ?_ ?_ false false) rfl ?_)
    · show (evA _ _ _ [some (.sh (.lst (nD xs))), some (.sh (.int m)), _, _, _, _, _, _]).s = _
      simp (config := {implicitDefEqProofs := false, decide := true}) only [e_var, e_cI, e_cS, e_cB, e_cN, e_neg, e_glb, e_bin, e_cmp, e_chain, e_and, e_or, e_not, e_ite, e_idx, e_slc, e_rev, e_call, e_glist, e_bi1, e_biR, e_max2, e_isi, e_isi2, e_sset, e_lset, e_join, e_index, e_get, e_split, e_tupE, e_lstE, e_dicK, e_dicT, e_dic1, e_dic1T, e_rng1, e_rng2, e_enum, e_zip, e_items, e_nil, e_cons, W_s, W_b, W_l, W_p, W_c, W_i, W_it, two_ss, dOf_s, d_sh, d_ol, d_ok, d_ot, asB_bl, asI_i, cons_ss, rd_0, rd_s, sh_sh, nd_sh, nd_ol, and_t, and_f, or_t, or_f, bl_s, dsl_s, ite_t, ite_f, slc_s, max_i, o_addI, o_subI, c_lt, c_le, c_gt, c_ge, c_eq, c_ne, c_in, c_nin, eq_ii, eq_ss, is_nn, ix_tup, ix_lst, ix_scr, ix_str, len_str, len_lst, len_tup, len_scr, wd_lst, wd_tup, wd_str, Option.map_some, Option.bind_some, List.map_cons, List.map_nil, rd_ne, rd_eq, rd_hid, hid_sh, hi_var, hi_cS, hi_glb, hi_bin, hi_ite, hi_idx, hi_slc, hi_rev, hi_call, hi_glist, hi_bi1, hi_biR, hi_sset, hi_join, hi_tupE, hi_lstE, hi_lc, hi_rng1, hi_rng2, hi_enum, hi_zip, hi_items, wipe_cons, wipe_nil, List.length_set, List.set_cons_zero, List.set_cons_succ, bindT, setMany, setSl, if_true, if_false, decide_true, decide_false, Bool.not_true, Bool.not_false, isTy, tup_0, lst_0, tup_1, lst_1, tup_2, lst_2, tup_3, lst_3, tup_4, lst_4, tup_5, lst_5, tup_6, lst_6, tup_7, lst_7, tup_8, lst_8, tup_9, lst_9, tup_10, lst_10, tup_11, lst_11, tup_12, lst_12, at0, o_mod (by omega : (0 : Int) < (m : Nat))]
      congr 3
      omega
    · show (evA _ _ _ [some (.sh (.lst (nD xs))), some (.sh (.int m)), _, _, _, _, _, _]).s = _
      simp (config := {implicitDefEqProofs := false, decide := true}) only [e_var, e_cI, e_cS, e_cB, e_cN, e_neg, e_glb, e_bin, e_cmp, e_chain, e_and, e_or, e_not, e_ite, e_idx, e_slc, e_rev, e_call, e_glist, e_bi1, e_biR, e_max2, e_isi, e_isi2, e_sset, e_lset, e_join, e_index, e_get, e_split, e_tupE, e_lstE, e_dicK, e_dicT, e_dic1, e_dic1T, e_rng1, e_rng2, e_enum, e_zip, e_items, e_nil, e_cons, W_s, W_b, W_l, W_p, W_c, W_i, W_it, two_ss, dOf_s, d_sh, d_ol, d_ok, d_ot, asB_bl, asI_i, cons_ss, rd_0, rd_s, sh_sh, nd_sh, nd_ol, and_t, and_f, or_t, or_f, bl_s, dsl_s, ite_t, ite_f, slc_s, max_i, o_addI, o_subI, c_lt, c_le, c_gt, c_ge, c_eq, c_ne, c_in, c_nin, eq_ii, eq_ss, is_nn, ix_tup, ix_lst, ix_scr, ix_str, len_str, len_lst, len_tup, len_scr, wd_lst, wd_tup, wd_str, Option.map_some, Option.bind_some, List.map_cons, List.map_nil, rd_ne, rd_eq, rd_hid, hid_sh, hi_var, hi_cS, hi_glb, hi_bin, hi_ite, hi_idx, hi_slc, hi_rev, hi_call, hi_glist, hi_bi1, hi_biR, hi_sset, hi_join, hi_tupE, hi_lstE, hi_lc, hi_rng1, hi_rng2, hi_enum, hi_zip, hi_items, wipe_cons, wipe_nil, List.length_set, List.set_cons_zero, List.set_cons_succ, bindT, setMany, setSl, if_true, if_false, decide_true, decide_false, Bool.not_true, Bool.not_false, isTy, tup_0, lst_0, tup_1, lst_1, tup_2, lst_2, tup_3, lst_3, tup_4, lst_4, tup_5, lst_5, tup_6, lst_6, tup_7, lst_7, tup_8, lst_8, tup_9, lst_9, tup_10, lst_10, tup_11, lst_11, tup_12, lst_12, at1, o_mod (by decide : (0 : Int) < 4)]
      simp (config := {implicitDefEqProofs := false, decide := true}) only [e_var, e_cI, e_cS, e_cB, e_cN, e_neg, e_glb, e_bin, e_cmp, e_chain, e_and, e_or, e_not, e_ite, e_idx, e_slc, e_rev, e_call, e_glist, e_bi1, e_biR, e_max2, e_isi, e_isi2, e_sset, e_lset, e_join, e_index, e_get, e_split, e_tupE, e_lstE, e_dicK, e_dicT, e_dic1, e_dic1T, e_rng1, e_rng2, e_enum, e_zip, e_items, e_nil, e_cons, W_s, W_b, W_l, W_p, W_c, W_i, W_it, two_ss, dOf_s, d_sh, d_ol, d_ok, d_ot, asB_bl, asI_i, cons_ss, rd_0, rd_s, sh_sh, nd_sh, nd_ol, and_t, and_f, or_t, or_f, bl_s, dsl_s, ite_t, ite_f, slc_s, max_i, o_addI, o_subI, c_lt, c_le, c_gt, c_ge, c_eq, c_ne, c_in, c_nin, eq_ii, eq_ss, is_nn, ix_tup, ix_lst, ix_scr, ix_str, len_str, len_lst, len_tup, len_scr, wd_lst, wd_tup, wd_str, Option.map_some, Option.bind_some, List.map_cons, List.map_nil, rd_ne, rd_eq, rd_hid, hid_sh, hi_var, hi_cS, hi_glb, hi_bin, hi_ite, hi_idx, hi_slc, hi_rev, hi_call, hi_glist, hi_bi1, hi_biR, hi_sset, hi_join, hi_tupE, hi_lstE, hi_lc, hi_rng1, hi_rng2, hi_enum, hi_zip, hi_items, wipe_cons, wipe_nil, List.length_set, List.set_cons_zero, List.set_cons_succ, bindT, setMany, setSl, if_true, if_false, decide_true, decide_false, Bool.not_true, Bool.not_false, isTy, tup_0, lst_0, tup_1, lst_1, tup_2, lst_2, tup_3, lst_3, tup_4, lst_4, tup_5, lst_5, tup_6, lst_6, tup_7, lst_7, tup_8, lst_8, tup_9, lst_9, tup_10, lst_10, tup_11, lst_11, tup_12, lst_12, ek]
    show Wp (ex _ _ _ [some (.sh (.lst (nD xs))), some (.sh (.int m)), none, none, some (.sh (.int many)), some (.sh (.int kd)), none, none]) _ _ _
    refine wp_seq (wp_set (s := .sh (tN [])) rfl ?_)
    show Wp (ex _ _ _ [some (.sh (.lst (nD xs))), some (.sh (.int m)), some (.sh (tN [])), none, some (.sh (.int many)), some (.sh (.int kd)), none, none]) _ _ _
    refine wp_cut (fun ρ => ∃ (ns : List Str) (a b : Option Slot), ρ = [some (.sh (.lst (nD xs))), some (.sh (.int m)), some (.sh (tN ns)), a, some (.sh (.int many)), some (.sh (.int kd)), b, none] ∧ 1 ≤ ns.length ∧ ns.length ≤ many ∧ ∀ x ∈ ns, NmOk x) ?_ ?_
    · refine wp_for (ds := nD ((xs.take (2 + many)).drop 2)) (fun ds ρ => ∃ (ns : List Str) (rs : List Nat) (a b : Option Slot), ρ = [some (.sh (.lst (nD xs))), some (.sh (.int m)), some (.sh (tN ns)), a, some (.sh (.int many)), some (.sh (.int kd)), b, none] ∧ ds = nD rs ∧ 1 ≤ ns.length + rs.length ∧ ns.length + rs.length ≤ many ∧ ∀ x ∈ ns, NmOk x) ?_ ?_ ?_ ?_
      · simp (config := {implicitDefEqProofs := false, decide := true}) only [e_var, e_cI, e_cS, e_cB, e_cN, e_neg, e_glb, e_bin, e_cmp, e_chain, e_and, e_or, e_not, e_ite, e_idx, e_slc, e_rev, e_call, e_glist, e_bi1, e_biR, e_max2, e_isi, e_isi2, e_sset, e_lset, e_join, e_index, e_get, e_split, e_tupE, e_lstE, e_dicK, e_dicT, e_dic1, e_dic1T, e_rng1, e_rng2, e_enum, e_zip, e_items, e_nil, e_cons, W_s, W_b, W_l, W_p, W_c, W_i, W_it, two_ss, dOf_s, d_sh, d_ol, d_ok, d_ot, asB_bl, asI_i, cons_ss, rd_0, rd_s, sh_sh, nd_sh, nd_ol, and_t, and_f, or_t, or_f, bl_s, dsl_s, ite_t, ite_f, slc_s, max_i, o_addI, o_subI, c_lt, c_le, c_gt, c_ge, c_eq, c_ne, c_in, c_nin, eq_ii, eq_ss, is_nn, ix_tup, ix_lst, ix_scr, ix_str, len_str, len_lst, len_tup, len_scr, wd_lst, wd_tup, wd_str, Option.map_some, Option.bind_some, List.map_cons, List.map_nil, rd_ne, rd_eq, rd_hid, hid_sh, hi_var, hi_cS, hi_glb, hi_bin, hi_ite, hi_idx, hi_slc, hi_rev, hi_call, hi_glist, hi_bi1, hi_biR, hi_sset, hi_join, hi_tupE, hi_lstE, hi_lc, hi_rng1, hi_rng2, hi_enum, hi_zip, hi_items, wipe_cons, wipe_nil, List.length_set, List.set_cons_zero, List.set_cons_succ, bindT, setMany, setSl, if_true, if_false, decide_true, decide_false, Bool.not_true, Bool.not_false, isTy, tup_0, lst_0, tup_1, lst_1, tup_2, lst_2, tup_3, lst_3, tup_4, lst_4, tup_5, lst_5, tup_6, lst_6, tup_7, lst_7, tup_8, lst_8, tup_9, lst_9, tup_10, lst_10, tup_11, lst_11, tup_12, lst_12, s_lst]
        rw [show (2 : Int) + (many : Int) = ((2 + many : Nat) : Int) from by omega, cutL_map]
        exact congrArg some (congrArg _ (cutL_nn xs 2 _))
      · refine ⟨[], _, none, none, rfl, rfl, ?_, ?_, by simp⟩
        · rw [List.length_drop, List.length_take, List.length_nil]; omega
        · rw [List.length_drop, List.length_take, List.length_nil]; omega
      · rintro d ds ρ ⟨ns, rs, a, b, rfl, e, hl, hl2, ha⟩
        cases rs with
        | nil => cases e
        | cons r rs =>
          cases e
          have hr : r % kd < kd := Nat.mod_lt _ k0
          have er := az_at (j := r % kd) (by omega)
          rw [show ((r % kd : Nat) : Int) = (r : Int) % (kd : Int) from by omega] at er
          rw [List.length_cons] at hl hl2
          obtain ⟨sx, es, sl, sa⟩ := suf_at (r / 26)
          rw [show ((r / 26 : Nat) : Int) = (r : Int) / 26 from by omega] at es
          refine ⟨_, rfl, wp_seq (wp_set (s := .sh (.str (ofL [97 + r % kd]))) ?_ ?_)⟩
          · simp (config := {implicitDefEqProofs := false, decide := true}) only [e_var, e_cI, e_cS, e_cB, e_cN, e_neg, e_glb, e_bin, e_cmp, e_chain, e_and, e_or, e_not, e_ite, e_idx, e_slc, e_rev, e_call, e_glist, e_bi1, e_biR, e_max2, e_isi, e_isi2, e_sset, e_lset, e_join, e_index, e_get, e_split, e_tupE, e_lstE, e_dicK, e_dicT, e_dic1, e_dic1T, e_rng1, e_rng2, e_enum, e_zip, e_items, e_nil, e_cons, W_s, W_b, W_l, W_p, W_c, W_i, W_it, two_ss, dOf_s, d_sh, d_ol, d_ok, d_ot, asB_bl, asI_i, cons_ss, rd_0, rd_s, sh_sh, nd_sh, nd_ol, and_t, and_f, or_t, or_f, bl_s, dsl_s, ite_t, ite_f, slc_s, max_i, o_addI, o_subI, c_lt, c_le, c_gt, c_ge, c_eq, c_ne, c_in, c_nin, eq_ii, eq_ss, is_nn, ix_tup, ix_lst, ix_scr, ix_str, len_str, len_lst, len_tup, len_scr, wd_lst, wd_tup, wd_str, Option.map_some, Option.bind_some, List.map_cons, List.map_nil, rd_ne, rd_eq, rd_hid, hid_sh, hi_var, hi_cS, hi_glb, hi_bin, hi_ite, hi_idx, hi_slc, hi_rev, hi_call, hi_glist, hi_bi1, hi_biR, hi_sset, hi_join, hi_tupE, hi_lstE, hi_lc, hi_rng1, hi_rng2, hi_enum, hi_zip, hi_items, wipe_cons, wipe_nil, List.length_set, List.set_cons_zero, List.set_cons_succ, bindT, setMany, setSl, if_true, if_false, decide_true, decide_false, Bool.not_true, Bool.not_false, isTy, tup_0, lst_0, tup_1, lst_1, tup_2, lst_2, tup_3, lst_3, tup_4, lst_4, tup_5, lst_5, tup_6, lst_6, tup_7, lst_7, tup_8, lst_8, tup_9, lst_9, tup_10, lst_10, tup_11, lst_11, tup_12, lst_12, o_mod (by omega : (0 : Int) < (kd : Nat)), er, sgn_ofL]
          show Wp (ex _ _ _ [some (.sh (.lst (nD xs))), some (.sh (.int m)), some (.sh (tN ns)), some (.sh (.int r)), some (.sh (.int many)), some (.sh (.int kd)), some (.sh (.str (ofL [97 + r % kd]))), none]) _ _ _
          refine wp_seq (wp_set (s := .sh (tN (ns ++ [ofL ((97 + r % kd) :: sx)]))) ?_ (wp_skip ⟨_, rs, _, _, rfl, rfl, ?_, ?_, ?_⟩))
          · simp (config := {implicitDefEqProofs := false, decide := true}) only [e_var, e_cI, e_cS, e_cB, e_cN, e_neg, e_glb, e_bin, e_cmp, e_chain, e_and, e_or, e_not, e_ite, e_idx, e_slc, e_rev, e_call, e_glist, e_bi1, e_biR, e_max2, e_isi, e_isi2, e_sset, e_lset, e_join, e_index, e_get, e_split, e_tupE, e_lstE, e_dicK, e_dicT, e_dic1, e_dic1T, e_rng1, e_rng2, e_enum, e_zip, e_items, e_nil, e_cons, W_s, W_b, W_l, W_p, W_c, W_i, W_it, two_ss, dOf_s, d_sh, d_ol, d_ok, d_ot, asB_bl, asI_i, cons_ss, rd_0, rd_s, sh_sh, nd_sh, nd_ol, and_t, and_f, or_t, or_f, bl_s, dsl_s, ite_t, ite_f, slc_s, max_i, o_addI, o_subI, c_lt, c_le, c_gt, c_ge, c_eq, c_ne, c_in, c_nin, eq_ii, eq_ss, is_nn, ix_tup, ix_lst, ix_scr, ix_str, len_str, len_lst, len_tup, len_scr, wd_lst, wd_tup, wd_str, Option.map_some, Option.bind_some, List.map_cons, List.map_nil, rd_ne, rd_eq, rd_hid, hid_sh, hi_var, hi_cS, hi_glb, hi_bin, hi_ite, hi_idx, hi_slc, hi_rev, hi_call, hi_glist, hi_bi1, hi_biR, hi_sset, hi_join, hi_tupE, hi_lstE, hi_lc, hi_rng1, hi_rng2, hi_enum, hi_zip, hi_items, wipe_cons, wipe_nil, List.length_set, List.set_cons_zero, List.set_cons_succ, bindT, setMany, setSl, if_true, if_false, decide_true, decide_false, Bool.not_true, Bool.not_false, isTy, tup_0, lst_0, tup_1, lst_1, tup_2, lst_2, tup_3, lst_3, tup_4, lst_4, tup_5, lst_5, tup_6, lst_6, tup_7, lst_7, tup_8, lst_8, tup_9, lst_9, tup_10, lst_10, tup_11, lst_11, tup_12, lst_12, o_fdiv (by decide : (0 : Int) < 26 ∧ (26 : Int) < 2 ^ 64), o_mod (by decide : (0 : Int) < 4)]
            simp (config := {implicitDefEqProofs := false, decide := true}) only [e_var, e_cI, e_cS, e_cB, e_cN, e_neg, e_glb, e_bin, e_cmp, e_chain, e_and, e_or, e_not, e_ite, e_idx, e_slc, e_rev, e_call, e_glist, e_bi1, e_biR, e_max2, e_isi, e_isi2, e_sset, e_lset, e_join, e_index, e_get, e_split, e_tupE, e_lstE, e_dicK, e_dicT, e_dic1, e_dic1T, e_rng1, e_rng2, e_enum, e_zip, e_items, e_nil, e_cons, W_s, W_b, W_l, W_p, W_c, W_i, W_it, two_ss, dOf_s, d_sh, d_ol, d_ok, d_ot, asB_bl, asI_i, cons_ss, rd_0, rd_s, sh_sh, nd_sh, nd_ol, and_t, and_f, or_t, or_f, bl_s, dsl_s, ite_t, ite_f, slc_s, max_i, o_addI, o_subI, c_lt, c_le, c_gt, c_ge, c_eq, c_ne, c_in, c_nin, eq_ii, eq_ss, is_nn, ix_tup, ix_lst, ix_scr, ix_str, len_str, len_lst, len_tup, len_scr, wd_lst, wd_tup, wd_str, Option.map_some, Option.bind_some, List.map_cons, List.map_nil, rd_ne, rd_eq, rd_hid, hid_sh, hi_var, hi_cS, hi_glb, hi_bin, hi_ite, hi_idx, hi_slc, hi_rev, hi_call, hi_glist, hi_bi1, hi_biR, hi_sset, hi_join, hi_tupE, hi_lstE, hi_lc, hi_rng1, hi_rng2, hi_enum, hi_zip, hi_items, wipe_cons, wipe_nil, List.length_set, List.set_cons_zero, List.set_cons_succ, bindT, setMany, setSl, if_true, if_false, decide_true, decide_false, Bool.not_true, Bool.not_false, isTy, tup_0, lst_0, tup_1, lst_1, tup_2, lst_2, tup_3, lst_3, tup_4, lst_4, tup_5, lst_5, tup_6, lst_6, tup_7, lst_7, tup_8, lst_8, tup_9, lst_9, tup_10, lst_10, tup_11, lst_11, tup_12, lst_12, es]
            rw [o_addS (by rw [ofL_len, ofL_len, sz, List.length_singleton]; omega), ofL_app, dOf_s]
            simp (config := {implicitDefEqProofs := false, decide := true}) only [e_var, e_cI, e_cS, e_cB, e_cN, e_neg, e_glb, e_bin, e_cmp, e_chain, e_and, e_or, e_not, e_ite, e_idx, e_slc, e_rev, e_call, e_glist, e_bi1, e_biR, e_max2, e_isi, e_isi2, e_sset, e_lset, e_join, e_index, e_get, e_split, e_tupE, e_lstE, e_dicK, e_dicT, e_dic1, e_dic1T, e_rng1, e_rng2, e_enum, e_zip, e_items, e_nil, e_cons, W_s, W_b, W_l, W_p, W_c, W_i, W_it, two_ss, dOf_s, d_sh, d_ol, d_ok, d_ot, asB_bl, asI_i, cons_ss, rd_0, rd_s, sh_sh, nd_sh, nd_ol, and_t, and_f, or_t, or_f, bl_s, dsl_s, ite_t, ite_f, slc_s, max_i, o_addI, o_subI, c_lt, c_le, c_gt, c_ge, c_eq, c_ne, c_in, c_nin, eq_ii, eq_ss, is_nn, ix_tup, ix_lst, ix_scr, ix_str, len_str, len_lst, len_tup, len_scr, wd_lst, wd_tup, wd_str, Option.map_some, Option.bind_some, List.map_cons, List.map_nil, rd_ne, rd_eq, rd_hid, hid_sh, hi_var, hi_cS, hi_glb, hi_bin, hi_ite, hi_idx, hi_slc, hi_rev, hi_call, hi_glist, hi_bi1, hi_biR, hi_sset, hi_join, hi_tupE, hi_lstE, hi_lc, hi_rng1, hi_rng2, hi_enum, hi_zip, hi_items, wipe_cons, wipe_nil, List.length_set, List.set_cons_zero, List.set_cons_succ, bindT, setMany, setSl, if_true, if_false, decide_true, decide_false, Bool.not_true, Bool.not_false, isTy, tup_0, lst_0, tup_1, lst_1, tup_2, lst_2, tup_3, lst_3, tup_4, lst_4, tup_5, lst_5, tup_6, lst_6, tup_7, lst_7, tup_8, lst_8, tup_9, lst_9, tup_10, lst_10, tup_11, lst_11, tup_12, lst_12]
            rw [o_addT (by rw [List.length_map, sz, List.length_singleton]; omega)]
            unfold tN
            rw [List.map_append]
            rfl
          · rw [List.length_append, List.length_singleton]; omega
          · rw [List.length_append, List.length_singleton]; omega
          · intro x hx'
            rcases List.mem_append.mp hx' with h | h
            · exact ha x h
            · rw [List.mem_singleton] at h
              subst h
              refine ⟨by simp, by simp; omega, fun c hc => ?_⟩
              rw [ofL_cps] at hc
              rcases List.mem_cons.mp hc with h | h
              · exact ⟨by omega, by omega⟩
              · exact sa c h
      · rintro ρ ⟨ns, rs, a, b, rfl, e, hl, hl2, ha⟩
        cases rs with
        | cons r rs => cases e
        | nil => exact ⟨ns, a, b, rfl, hl, hl2, ha⟩
    · rintro ρ ⟨ns, a, b, rfl, hl, hl2, ha⟩
      refine wp_cut (fun ρ => ∃ (ns : List Str) (a b c : Option Slot), ρ = [some (.sh (.lst (nD xs))), some (.sh (.int m)), some (.sh (tN ns)), a, some (.sh (.int many)), some (.sh (.int kd)), b, c] ∧ GNs m ns) ?_ ?_
      · refine wp_ite (t := decide ((d1 : Int) / 4 % 3 = 0)) ?_ (fun _ => ?_) (fun _ => ?_)
        · simp (config := {implicitDefEqProofs := false, decide := true}) only [e_var, e_cI, e_cS, e_cB, e_cN, e_neg, e_glb, e_bin, e_cmp, e_chain, e_and, e_or, e_not, e_ite, e_idx, e_slc, e_rev, e_call, e_glist, e_bi1, e_biR, e_max2, e_isi, e_isi2, e_sset, e_lset, e_join, e_index, e_get, e_split, e_tupE, e_lstE, e_dicK, e_dicT, e_dic1, e_dic1T, e_rng1, e_rng2, e_enum, e_zip, e_items, e_nil, e_cons, W_s, W_b, W_l, W_p, W_c, W_i, W_it, two_ss, dOf_s, d_sh, d_ol, d_ok, d_ot, asB_bl, asI_i, cons_ss, rd_0, rd_s, sh_sh, nd_sh, nd_ol, and_t, and_f, or_t, or_f, bl_s, dsl_s, ite_t, ite_f, slc_s, max_i, o_addI, o_subI, c_lt, c_le, c_gt, c_ge, c_eq, c_ne, c_in, c_nin, eq_ii, eq_ss, is_nn, ix_tup, ix_lst, ix_scr, ix_str, len_str, len_lst, len_tup, len_scr, wd_lst, wd_tup, wd_str, Option.map_some, Option.bind_some, List.map_cons, List.map_nil, rd_ne, rd_eq, rd_hid, hid_sh, hi_var, hi_cS, hi_glb, hi_bin, hi_ite, hi_idx, hi_slc, hi_rev, hi_call, hi_glist, hi_bi1, hi_biR, hi_sset, hi_join, hi_tupE, hi_lstE, hi_lc, hi_rng1, hi_rng2, hi_enum, hi_zip, hi_items, wipe_cons, wipe_nil, List.length_set, List.set_cons_zero, List.set_cons_succ, bindT, setMany, setSl, if_true, if_false, decide_true, decide_false, Bool.not_true, Bool.not_false, isTy, tup_0, lst_0, tup_1, lst_1, tup_2, lst_2, tup_3, lst_3, tup_4, lst_4, tup_5, lst_5, tup_6, lst_6, tup_7, lst_7, tup_8, lst_8, tup_9, lst_9, tup_10, lst_10, tup_11, lst_11, tup_12, lst_12, at1, o_fdiv (by decide : (0 : Int) < 4 ∧ (4 : Int) < 2 ^ 64), o_mod (by decide : (0 : Int) < 3)]
        · refine wp_seq (wp_set (s := .sh (tN (ns.take (1 + d1 / 12 % 4)))) ?_ ?_)
          · simp (config := {implicitDefEqProofs := false, decide := true}) only [e_var, e_cI, e_cS, e_cB, e_cN, e_neg, e_glb, e_bin, e_cmp, e_chain, e_and, e_or, e_not, e_ite, e_idx, e_slc, e_rev, e_call, e_glist, e_bi1, e_biR, e_max2, e_isi, e_isi2, e_sset, e_lset, e_join, e_index, e_get, e_split, e_tupE, e_lstE, e_dicK, e_dicT, e_dic1, e_dic1T, e_rng1, e_rng2, e_enum, e_zip, e_items, e_nil, e_cons, W_s, W_b, W_l, W_p, W_c, W_i, W_it, two_ss, dOf_s, d_sh, d_ol, d_ok, d_ot, asB_bl, asI_i, cons_ss, rd_0, rd_s, sh_sh, nd_sh, nd_ol, and_t, and_f, or_t, or_f, bl_s, dsl_s, ite_t, ite_f, slc_s, max_i, o_addI, o_subI, c_lt, c_le, c_gt, c_ge, c_eq, c_ne, c_in, c_nin, eq_ii, eq_ss, is_nn, ix_tup, ix_lst, ix_scr, ix_str, len_str, len_lst, len_tup, len_scr, wd_lst, wd_tup, wd_str, Option.map_some, Option.bind_some, List.map_cons, List.map_nil, rd_ne, rd_eq, rd_hid, hid_sh, hi_var, hi_cS, hi_glb, hi_bin, hi_ite, hi_idx, hi_slc, hi_rev, hi_call, hi_glist, hi_bi1, hi_biR, hi_sset, hi_join, hi_tupE, hi_lstE, hi_lc, hi_rng1, hi_rng2, hi_enum, hi_zip, hi_items, wipe_cons, wipe_nil, List.length_set, List.set_cons_zero, List.set_cons_succ, bindT, setMany, setSl, if_true, if_false, decide_true, decide_false, Bool.not_true, Bool.not_false, isTy, tup_0, lst_0, tup_1, lst_1, tup_2, lst_2, tup_3, lst_3, tup_4, lst_4, tup_5, lst_5, tup_6, lst_6, tup_7, lst_7, tup_8, lst_8, tup_9, lst_9, tup_10, lst_10, tup_11, lst_11, tup_12, lst_12, at1, o_fdiv (by decide : (0 : Int) < 12 ∧ (12 : Int) < 2 ^ 64), o_mod (by decide : (0 : Int) < 4), s_tup]
            rw [show (1 : Int) + (d1 : Int) / 12 % 4 = ((1 + d1 / 12 % 4 : Nat) : Int) from by omega, cutL_map, cutL_0]
          have hp : 1 ≤ (ns.take (1 + d1 / 12 % 4)).length := by rw [List.length_take]; omega
          have hp2 : (ns.take (1 + d1 / 12 % 4)).length ≤ many := by rw [List.length_take]; omega
          have hpn : ∀ x ∈ ns.take (1 + d1 / 12 % 4), NmOk x := fun x h => ha x (List.mem_of_mem_take h)
          generalize ns.take (1 + d1 / 12 % 4) = part at hp hp2 hpn
          show Wp (ex _ _ _ [some (.sh (.lst (nD xs))), some (.sh (.int m)), some (.sh (tN ns)), a, some (.sh (.int many)), some (.sh (.int kd)), b, some (.sh (tN part))]) _ _ _
          have hq : many / part.length ≤ many := Nat.div_le_self _ _
          have hq1 : 1 ≤ many / part.length := (Nat.le_div_iff_mul_le (by omega)).mpr (by omega)
          have hq2 : many / part.length * part.length ≤ many := Nat.div_mul_le_self _ _
          refine wp_seq (wp_set (s := .sh (tN (List.replicate (many / part.length) part).flatten)) ?_ (wp_skip ⟨_, _, _, _, rfl, ?_, ?_, ?_⟩))
          · simp (config := {implicitDefEqProofs := false, decide := true}) only [e_var, e_cI, e_cS, e_cB, e_cN, e_neg, e_glb, e_bin, e_cmp, e_chain, e_and, e_or, e_not, e_ite, e_idx, e_slc, e_rev, e_call, e_glist, e_bi1, e_biR, e_max2, e_isi, e_isi2, e_sset, e_lset, e_join, e_index, e_get, e_split, e_tupE, e_lstE, e_dicK, e_dicT, e_dic1, e_dic1T, e_rng1, e_rng2, e_enum, e_zip, e_items, e_nil, e_cons, W_s, W_b, W_l, W_p, W_c, W_i, W_it, two_ss, dOf_s, d_sh, d_ol, d_ok, d_ot, asB_bl, asI_i, cons_ss, rd_0, rd_s, sh_sh, nd_sh, nd_ol, and_t, and_f, or_t, or_f, bl_s, dsl_s, ite_t, ite_f, slc_s, max_i, o_addI, o_subI, c_lt, c_le, c_gt, c_ge, c_eq, c_ne, c_in, c_nin, eq_ii, eq_ss, is_nn, ix_tup, ix_lst, ix_scr, ix_str, len_str, len_lst, len_tup, len_scr, wd_lst, wd_tup, wd_str, Option.map_some, Option.bind_some, List.map_cons, List.map_nil, rd_ne, rd_eq, rd_hid, hid_sh, hi_var, hi_cS, hi_glb, hi_bin, hi_ite, hi_idx, hi_slc, hi_rev, hi_call, hi_glist, hi_bi1, hi_biR, hi_sset, hi_join, hi_tupE, hi_lstE, hi_lc, hi_rng1, hi_rng2, hi_enum, hi_zip, hi_items, wipe_cons, wipe_nil, List.length_set, List.set_cons_zero, List.set_cons_succ, bindT, setMany, setSl, if_true, if_false, decide_true, decide_false, Bool.not_true, Bool.not_false, isTy, tup_0, lst_0, tup_1, lst_1, tup_2, lst_2, tup_3, lst_3, tup_4, lst_4, tup_5, lst_5, tup_6, lst_6, tup_7, lst_7, tup_8, lst_8, tup_9, lst_9, tup_10, lst_10, tup_11, lst_11, tup_12, lst_12, List.length_map, o_fdiv (by omega : (0 : Int) < (part.length : Nat) ∧ ((part.length : Nat) : Int) < 2 ^ 64)]
            rw [show (if (many : Int) / (part.length : Int) > 1 then (many : Int) / (part.length : Int) else 1) = ((many / part.length : Nat) : Int) from by
              rw [← Int.natCast_ediv]; split <;> omega]
            rw [o_mulT hq1 (by omega) (fun e => by rw [List.map_eq_nil_iff] at e; rw [e] at hp; simp at hp) (by rw [List.length_map]; omega), flat_rep]
          · rw [List.length_flatten, List.map_replicate, List.sum_replicate_nat]
            exact Nat.le_trans (by omega : 1 ≤ 1 * 1) (Nat.mul_le_mul hq1 hp)
          · rw [List.length_flatten, List.map_replicate, List.sum_replicate_nat]
            omega
          · intro x hx'
            obtain ⟨l, hl', hx'⟩ := List.mem_flatten.mp hx'
            rw [List.eq_of_mem_replicate hl'] at hx'
            exact hpn x hx'
        · exact wp_skip ⟨ns, a, b, none, rfl, hl, by omega, ha⟩
      · rintro ρ ⟨ns, a, b, c, rfl, g⟩
        exact wp_seq (wp_ret (s := .sh (tN ns)) rfl ⟨ns, rfl, g⟩)
  obtain ⟨v, e, ns, rfl, h⟩ := key
  exact ⟨ns, e, h⟩

/-! ### plain: a map done over and over -/
def it (f : Nat → Nat) : Nat → Nat → Nat
  | 0, x => x
  | k + 1, x => it f k (f x)
theorem it_succ (f : Nat → Nat) : ∀ (k x : Nat), it f (k + 1) x = f (it f k x)
  | 0, _ => rfl
  | k + 1, x => it_succ f k (f x)
theorem it_add (f : Nat → Nat) (a : Nat) : ∀ (b x : Nat), it f (a + b) x = it f a (it f b x)
  | 0, _ => rfl
  | b + 1, x => it_add f a b (f x)
theorem it_lt {f : Nat → Nat} {n : Nat} (h : ∀ x, x < n → f x < n) : ∀ (k : Nat) {x : Nat}, x < n → it f k x < n
  | 0, _, hx => hx
  | k + 1, _, hx => it_lt h k (h _ hx)
theorem nodup_le : ∀ (n : Nat) (l : List Nat), l.Nodup → (∀ x ∈ l, x < n) → l.length ≤ n
  | 0, l, _, h => by
    cases l with
    | nil => exact Nat.le_refl _
    | cons x l => exact absurd (h x List.mem_cons_self) (Nat.not_lt_zero _)
  | n + 1, l, nd, h => by
    have e : (l.erase n).length ≤ n := nodup_le n (l.erase n) (nd.erase n) fun x hx => by
      have h1 := h x (List.mem_of_mem_erase hx)
      have h2 : x ≠ n := fun e => by
        subst e
        exact (List.Nodup.not_mem_erase nd) hx
      omega
    rw [List.length_erase] at e
    split at e <;> omega
/-- seen, then the next one, seen before -/
structure Rho (f : Nat → Nat) (s j m : Nat) : Prop where
  lt : j < m
  inj : ∀ a b, a < m → b < m → it f a s = it f b s → a = b
  eq : it f m s = it f j s
theorem Rho.uniq {f : Nat → Nat} {s j m j' m' : Nat} (h : Rho f s j m) (h' : Rho f s j' m') : j = j' ∧ m = m' := by
  have e : m = m' := by
    rcases Nat.lt_trichotomy m m' with g | g | g
    · have := h'.inj m j g (Nat.lt_trans h.lt g) h.eq
      have := h.lt
      omega
    · exact g
    · have := h.inj m' j' g (Nat.lt_trans h'.lt g) h'.eq
      have := h'.lt
      omega
  subst e
  exact ⟨h.inj _ _ h.lt h'.lt (h.eq.symm.trans h'.eq), rfl⟩
theorem Rho.per {f : Nat → Nat} {s j m : Nat} (h : Rho f s j m) (d : Nat) : it f (m - j + (j + d)) s = it f (j + d) s := by
  have e : m - j + (j + d) = d + m := by have := h.lt; omega
  rw [e, it_add, h.eq, ← it_add, Nat.add_comm]
theorem Rho.pers {f : Nat → Nat} {s j m : Nat} (h : Rho f s j m) : ∀ (c d : Nat), it f (c * (m - j) + (j + d)) s = it f (j + d) s
  | 0, d => by rw [Nat.zero_mul, Nat.zero_add]
  | c + 1, d => by
    have e : (c + 1) * (m - j) + (j + d) = c * (m - j) + (j + (m - j + d)) := by
      rw [Nat.add_mul, Nat.one_mul]; omega
    rw [e, h.pers c, show j + (m - j + d) = m - j + (j + d) by omega, h.per]
/-- every later one is one of the ring -/
theorem Rho.back {f : Nat → Nat} {s j m : Nat} (h : Rho f s j m) (t : Nat) (ht : j ≤ t) : ∃ u, j ≤ u ∧ u < m ∧ it f t s = it f u s := by
  have hp : 0 < m - j := by have := h.lt; omega
  have hm := Nat.mod_lt (t - j) hp
  refine ⟨j + (t - j) % (m - j), by omega, by omega, ?_⟩
  have e : t = (t - j) / (m - j) * (m - j) + (j + (t - j) % (m - j)) := by
    have := Nat.div_add_mod (t - j) (m - j)
    rw [Nat.mul_comm] at this
    omega
  conv => lhs; rw [e]
  exact h.pers _ _
def Per (f : Nat → Nat) (x : Nat) : Prop := ∃ k, 0 < k ∧ it f k x = x
theorem Per.mul {f : Nat → Nat} {x k : Nat} (h : it f k x = x) : ∀ c, it f (c * k) x = x
  | 0 => by rw [Nat.zero_mul]; rfl
  | c + 1 => by rw [Nat.add_mul, Nat.one_mul, it_add, h, Per.mul h c]
theorem Rho.per_iff {f : Nat → Nat} {s j m : Nat} (h : Rho f s j m) (t : Nat) : Per f (it f t s) ↔ j ≤ t := by
  have hl := h.lt
  constructor
  · rintro ⟨k, k0, hk⟩
    apply Nat.le_of_not_lt
    intro ht
    have e := Per.mul hk j
    rw [← it_add] at e
    have hj : j ≤ j * k + t := Nat.le_trans (Nat.le_mul_of_pos_right j k0) (Nat.le_add_right _ _)
    obtain ⟨u, u1, u2, u3⟩ := h.back _ hj
    have := h.inj t u (by omega) u2 (by rw [← e, u3])
    omega
  · intro ht
    refine ⟨m - j, by omega, ?_⟩
    rw [← it_add]
    have := h.per (t - j)
    rwa [show j + (t - j) = t by omega] at this
/-- it is found within n -/
theorem rho_ex {f : Nat → Nat} {n s : Nat} (hf : ∀ x, x < n → f x < n) (hs : s < n) : ∃ j m, Rho f s j m ∧ m ≤ n := by
  have key : ∀ k, k ≤ n → (∃ j m, Rho f s j m ∧ m ≤ n) ∨ ∀ a b, a < k → b < k → it f a s = it f b s → a = b := by
    intro k
    induction k with
    | zero => intro _; exact .inr fun a b h => absurd h (Nat.not_lt_zero _)
    | succ k ih =>
      intro hk
      rcases ih (by omega) with h | h
      · exact .inl h
      · by_cases g : ∃ j, j < k ∧ it f k s = it f j s
        · obtain ⟨j, g1, g2⟩ := g
          exact .inl ⟨j, k, ⟨g1, h, g2⟩, by omega⟩
        · refine .inr fun a b ha hb e => ?_
          by_cases ea : a = k
          · by_cases eb : b = k
            · omega
            · subst ea; exact absurd ⟨b, by omega, e⟩ g
          · by_cases eb : b = k
            · subst eb; exact absurd ⟨a, by omega, e.symm⟩ g
            · exact h a b (by omega) (by omega) e
  rcases key n (Nat.le_refl _) with h | h
  · exact h
  · by_cases g : ∃ j, j < n ∧ it f n s = it f j s
    · obtain ⟨j, g1, g2⟩ := g
      exact ⟨j, n, ⟨g1, h, g2⟩, Nat.le_refl _⟩
    · have nd : ((List.range (n + 1)).map fun t => it f t s).Nodup := by
        refine List.pairwise_map.mpr (List.Pairwise.imp_of_mem ?_ (List.nodup_range (n := n + 1)))
        intro a b ha hb hab e
        rw [List.mem_range] at ha hb
        by_cases ea : a = n
        · subst ea; exact g ⟨b, by omega, e⟩
        · by_cases eb : b = n
          · subst eb; exact g ⟨a, by omega, e.symm⟩
          · exact hab (h a b (by omega) (by omega) e)
      have := nodup_le n _ nd fun x hx => by
        obtain ⟨t, _, rfl⟩ := List.mem_map.mp hx
        exact it_lt hf t hs
      rw [List.length_map, List.length_range] at this
      omega
/-- the first n of a walk -/
def orb (f : Nat → Nat) (s m : Nat) : List Nat := (List.range m).map fun t => it f t s
theorem orb_len {f : Nat → Nat} {s m : Nat} : (orb f s m).length = m := by unfold orb; rw [List.length_map, List.length_range]
theorem orb_succ {f : Nat → Nat} {s m : Nat} : orb f s (m + 1) = orb f s m ++ [it f m s] := by unfold orb; rw [List.range_succ, List.map_append]; rfl
theorem mem_orb {f : Nat → Nat} {s m x : Nat} : x ∈ orb f s m ↔ ∃ t, t < m ∧ it f t s = x := by
  unfold orb
  rw [List.mem_map]
  constructor
  · rintro ⟨t, h, e⟩; exact ⟨t, List.mem_range.mp h, e⟩
  · rintro ⟨t, h, e⟩; exact ⟨t, List.mem_range.mpr h, e⟩
theorem orb_get {f : Nat → Nat} {s m t : Nat} (h : t < m) : (orb f s m)[t]? = some (it f t s) := by
  unfold orb
  rw [List.getElem?_map, List.getElem?_range h]
  rfl
/-- the ring -/
def ring (f : Nat → Nat) (s j m : Nat) : List Nat := (orb f s m).drop j
theorem mem_ring {f : Nat → Nat} {s j m x : Nat} : x ∈ ring f s j m ↔ ∃ t, j ≤ t ∧ t < m ∧ it f t s = x := by
  unfold ring orb
  rw [← List.map_drop, List.mem_map]
  constructor
  · rintro ⟨t, h, e⟩
    rw [List.range_eq_range', List.drop_range', List.mem_range'_1] at h
    exact ⟨t, by omega, by omega, e⟩
  · rintro ⟨t, h, h2, e⟩
    refine ⟨t, ?_, e⟩
    rw [List.range_eq_range', List.drop_range', List.mem_range'_1]
    omega
theorem Rho.mem_self {f : Nat → Nat} {s j m : Nat} (h : Rho f s j m) : s ∈ ring f s j m ↔ Per f s := by
  rw [mem_ring, show Per f s ↔ Per f (it f 0 s) from Iff.rfl, h.per_iff]
  constructor
  · rintro ⟨t, t1, t2, e⟩
    have := h.inj t 0 t2 (by omega) e
    omega
  · intro hj
    exact ⟨0, hj, (by have := h.lt; omega), rfl⟩

/-! ### rows of distances -/
def row (L ks : List Nat) : List Nat := (List.range L.length).map fun i => far L i ks - i
theorem row_len {L ks : List Nat} : (row L ks).length = L.length := by unfold row; rw [List.length_map, List.length_range]
theorem row_at {L ks : List Nat} {i : Nat} (h : i < L.length) : (row L ks)[i]? = some (far L i ks - i) := by
  unfold row
  rw [List.getElem?_map, List.getElem?_range h]
  rfl
theorem rngD0 (n : Nat) : rngD 0 n = (List.range n).map fun w => .int (w : Nat) := by
  have := rngD_eq 0 n
  rw [← List.range_eq_range'] at this
  exact this
/-! #### membership, index -/
theorem toPyL_nD : ∀ xs : List Nat, toPyL (nD xs) = some (xs.map fun x => .int (x : Nat))
  | [] => rfl
  | x :: xs => by
    show (match toPy (.int (x : Nat)), toPyL (nD xs) with | some x, some xs => some (x :: xs) | _, _ => none) = _
    rw [toPyL_nD xs]
    rfl
theorem depthAll_nD : ∀ xs : List Nat, PyData.depthAll (xs.map fun x => PyData.int (x : Nat)) = 0
  | [] => rfl
  | x :: xs => by
    show max (PyData.depth (.int (x : Nat))) (PyData.depthAll (xs.map fun x => PyData.int (x : Nat))) = 0
    rw [depthAll_nD xs]
    rfl
theorem any_nD (a : Nat) (xs : List Nat) : ((xs.map fun x => PyData.int (x : Nat)).any fun z => PyData.eqv z (.int (a : Nat))) = decide (a ∈ xs) := by
  induction xs with
  | nil => rfl
  | cons x xs ih =>
    rw [List.map_cons, List.any_cons, ih]
    have e : PyData.eqv (.int (x : Nat)) (.int (a : Nat)) = decide ((x : Int) = (a : Int)) := by
      have := eq_ii (i := (x : Int)) (j := (a : Int))
      unfold eqD at this
      simpa [toPy, PyData.depth] using this
    rw [e]
    by_cases h : x = a
    · subst h; simp
    · have : ¬ ((x : Int) = (a : Int)) := by omega
      simp [this, Ne.symm h]
theorem mem_lst {a : Nat} {xs : List Nat} : memD (.int (a : Nat)) (.lst (nD xs)) = some (decide (a ∈ xs)) := by
  show (match toPy (.int (a : Nat)), toPyL (nD xs) with | some x, some ys => if x.depth ≤ 64 ∧ PyData.depth (.list ys) ≤ 64 then some (ys.any fun z => PyData.eqv z x) else none | _, _ => none) = _
  rw [toPyL_nD]
  show (if (PyData.int (a : Nat)).depth ≤ 64 ∧ PyData.depth (.list (xs.map fun x => PyData.int (x : Nat))) ≤ 64 then some ((xs.map fun x => PyData.int (x : Nat)).any fun z => PyData.eqv z (.int (a : Nat))) else none) = _
  rw [any_nD, if_pos]
  refine ⟨Nat.zero_le _, ?_⟩
  show PyData.depthAll (xs.map fun x => PyData.int (x : Nat)) + 1 ≤ 64
  rw [depthAll_nD]
  decide
theorem mem_tup {a : Nat} {xs : List Nat} : memD (.int (a : Nat)) (.tup (nD xs)) = some (decide (a ∈ xs)) := by
  show (match toPy (.int (a : Nat)), toPyL (nD xs) with | some x, some ys => if x.depth = 0 ∧ PyData.depthAll ys = 0 then some (ys.any fun z => PyData.eqv z x) else none | _, _ => none) = _
  rw [toPyL_nD]
  show (if (PyData.int (a : Nat)).depth = 0 ∧ PyData.depthAll (xs.map fun x => PyData.int (x : Nat)) = 0 then some ((xs.map fun x => PyData.int (x : Nat)).any fun z => PyData.eqv z (.int (a : Nat))) else none) = _
  rw [any_nD, if_pos ⟨rfl, depthAll_nD xs⟩]
theorem intsD_nD : ∀ xs : List Nat, intsD (nD xs) = some (xs.map fun x : Nat => (x : Int))
  | [] => rfl
  | x :: xs => by
    show (intsD (nD xs)).map _ = _
    rw [intsD_nD xs]
    rfl
theorem findIx_nD {i : Nat} : ∀ {xs : List Nat} {j : Nat}, xs[j]? = some i → (∀ k, k < j → xs[k]? ≠ some i) → findIx (fun z => decide (z = (i : Int))) (xs.map fun x : Nat => (x : Int)) = some j
  | [], j, h, _ => by simp at h
  | x :: xs, 0, h, _ => by
    simp at h
    subst h
    unfold findIx
    simp
  | x :: xs, j + 1, h, hk => by
    have h0 := hk 0 (by omega)
    have hx : ¬ ((x : Int) = (i : Int)) := fun e => h0 (by simp; omega)
    rw [List.map_cons]
    unfold findIx
    rw [if_neg (by simpa using hx), findIx_nD (xs := xs) (j := j) (by simpa using h) (fun k q => by have := hk (k + 1) (by omega); simpa using this)]
    rfl
theorem index_nD {i : Nat} {xs : List Nat} {j : Nat} (h : xs[j]? = some i) (hk : ∀ k, k < j → xs[k]? ≠ some i) : indexD (.lst (nD xs)) (.int (i : Nat)) = some (.sh (.int (j : Nat))) := by
  show ((intsD (nD xs)).bind fun ns => (findIx (fun z => decide (z = (i : Int))) ns).map fun (j : Nat) => Slot.sh (.int (j : Int))) = _
  rw [intsD_nD, Option.bind_some, findIx_nD h hk]
  rfl
/-! #### the ring of a row -/
def nxt (r : List Nat) (p : Nat) : Nat := (p + r.getD p 0) % r.length
theorem nxt_lt {r : List Nat} (h : r ≠ []) (x : Nat) : nxt r x < r.length := Nat.mod_lt _ (List.length_pos_iff.mpr h)
theorem nD_getD {r : List Nat} {p : Nat} (h : p < r.length) : atI (nD r) (p : Int) = some (.int (r.getD p 0 : Nat)) := by
  rw [nD_at h, List.getD_eq_getElem?_getD, List.getElem?_eq_getElem h]
  rfl
theorem nD_app {xs ys : List Nat} : nD (xs ++ ys) = nD xs ++ nD ys := List.map_append
theorem nD_len {xs : List Nat} : (nD xs).length = xs.length := List.length_map ..
theorem Rho.fresh {f : Nat → Nat} {s j m t : Nat} (h : Rho f s j m) (ht : t < m) : it f t s ∉ orb f s t := fun hm => by
  obtain ⟨u, hu, e⟩ := mem_orb.mp hm
  have := h.inj u t (by omega) ht e
  omega
theorem Rho.hit {f : Nat → Nat} {s j m : Nat} (h : Rho f s j m) : it f m s ∈ orb f s m := mem_orb.mpr ⟨j, h.lt, h.eq.symm⟩
theorem Rho.index {f : Nat → Nat} {s j m : Nat} (h : Rho f s j m) : indexD (.lst (nD (orb f s m))) (.int (it f m s : Nat)) = some (.sh (.int (j : Nat))) := by
  refine index_nD (by rw [orb_get h.lt, h.eq]) fun k hk e => ?_
  have hl := h.lt
  rw [orb_get (by omega), h.eq] at e
  have := h.inj k j (by omega) hl (by simpa using e)
  omega
/-! ### plain: which are come back to -/
open Classical in
noncomputable def rhoP (f : Nat → Nat) (s : Nat) : Nat × Nat := if h : ∃ p : Nat × Nat, Rho f s p.1 p.2 then h.choose else (0, 0)
theorem rhoP_ok {f : Nat → Nat} {n s : Nat} (hf : ∀ x, x < n → f x < n) (hs : s < n) : Rho f s (rhoP f s).1 (rhoP f s).2 ∧ (rhoP f s).2 ≤ n := by
  obtain ⟨j, m, h, hm⟩ := rho_ex hf hs
  have e : ∃ p : Nat × Nat, Rho f s p.1 p.2 := ⟨(j, m), h⟩
  have q : Rho f s (rhoP f s).1 (rhoP f s).2 := by
    unfold rhoP
    rw [dif_pos e]
    exact e.choose_spec
  refine ⟨q, ?_⟩
  rw [(q.uniq h).2]
  exact hm
noncomputable def befo (f : Nat → Nat) (s : Nat) : Nat := (rhoP f s).1
noncomputable def rng_ (f : Nat → Nat) (s : Nat) : List Nat := ring f s (rhoP f s).1 (rhoP f s).2
noncomputable instance perDec (f : Nat → Nat) (x : Nat) : Decidable (Per f x) := Classical.propDecidable _
/-- the items that come again -/
noncomputable def cyc (f : Nat → Nat) (n : Nat) : List Nat := (List.range n).filter fun i => decide (Per f i)
theorem mem_cyc {f : Nat → Nat} {n i : Nat} : i ∈ cyc f n ↔ i < n ∧ Per f i := by
  unfold cyc
  rw [List.mem_filter, List.mem_range, decide_eq_true_iff]
theorem max_of {xs : List Int} {m : Int} (h1 : m ∈ xs) (h2 : ∀ x ∈ xs, x ≤ m) : xs.max? = some m := by
  rw [List.max?_eq_some_iff]
  exact ⟨h1, h2⟩
/-- the greatest of them -/
theorem ex_max (g : Nat → Nat) : ∀ n, 0 < n → ∃ k, k < n ∧ ∀ i, i < n → g i ≤ g k
  | 1, _ => ⟨0, by omega, fun i hi => by rw [show i = 0 by omega]; exact Nat.le_refl _⟩
  | n + 2, _ => by
    obtain ⟨k, k1, k2⟩ := ex_max g (n + 1) (by omega)
    by_cases h : g k ≤ g (n + 1)
    · refine ⟨n + 1, by omega, fun i hi => ?_⟩
      by_cases e : i = n + 1
      · rw [e]; exact Nat.le_refl _
      · exact Nat.le_trans (k2 i (by omega)) h
    · refine ⟨k, by omega, fun i hi => ?_⟩
      by_cases e : i = n + 1
      · rw [e]; omega
      · exact k2 i (by omega)

/-! ### k25: the functions -/
theorem row_ne {L ks : List Nat} (h : L ≠ []) : row L ks ≠ [] := fun e => by
  have := congrArg List.length e
  rw [row_len] at this
  exact h (List.length_eq_zero_iff.mp this)
abbrev rw_ (ns : List Str) (ks : List Nat) : List Nat := row (ns.map ini) ks
theorem rw_len {ns : List Str} {ks : List Nat} : (rw_ ns ks).length = ns.length := by unfold rw_; rw [row_len, List.length_map]
theorem mem_rng {r : List Nat} (hr : r ≠ []) {s : Nat} (hs : s < r.length) : s ∈ rng_ (nxt r) s ↔ Per (nxt r) s :=
  (rhoP_ok (f := nxt r) (n := r.length) (fun x _ => nxt_lt hr x) hs).1.mem_self
theorem filt_cyc {f : Nat → Nat} {n : Nat} {p : D → Bool} (h : ∀ i, i < n → (p (.int (i : Nat)) = true ↔ Per f i)) : ((rngD 0 n).filter p) = nD (cyc f n) := by
  rw [rngD0, List.filter_map]
  unfold nD cyc
  congr 1
  refine List.filter_congr fun i hi => ?_
  rw [Bool.eq_iff_iff, decide_eq_true_iff]
  exact h i (List.mem_range.mp hi)
theorem rng_sz {n : Nat} (h : n ≤ 1000) : (rngD 0 n).length ≤ sizeLine := by
  unfold rngD; rw [List.length_map, List.length_range, sz]; omega
theorem listO_n {n : Nat} (h : n ≤ 1000) : biRS .listO (some (.int (n : Nat))) = some (.ol (nD (List.range n))) := by
  show (if 0 ≤ (n : Int) ∧ (n : Int) ≤ 16777216 then some (Slot.ol (rngD 0 (n : Int).toNat)) else none) = _
  rw [if_pos ⟨by omega, by omega⟩, Int.toNat_natCast, rngD0]
theorem all_map {xs : List Nat} (p : Nat → Bool) : biD .allO (.lst (xs.map fun x => D.bl (p x))) = some (.sh (.bl (xs.all p))) := by
  show (blsD _).map _ = _
  have : blsD (xs.map fun x => D.bl (p x)) = some (xs.map p) := by
    induction xs with
    | nil => rfl
    | cons x l ih => simp only [List.map_cons, blsD, ih, Option.map_some]
  rw [this, Option.map_some, List.all_map]
  rfl
/-! #### more of data -/
theorem sm_nD {xs : List Nat} : Sm 2 (.lst (nD xs)) := fun d hd => by
  obtain ⟨_, _, rfl⟩ := List.mem_map.mp hd
  exact trivial
theorem sm_nT {xs : List Nat} : Sm 2 (.tup (nD xs)) := fun d hd => by
  obtain ⟨_, _, rfl⟩ := List.mem_map.mp hd
  exact trivial
theorem nD_inj : ∀ {xs ys : List Nat}, nD xs = nD ys → xs = ys
  | [], [], _ => rfl
  | [], y :: ys, h => by cases h
  | x :: xs, [], h => by cases h
  | x :: xs, y :: ys, h => by
    have h1 : D.int (x : Nat) = D.int (y : Nat) := (List.cons.inj h).1
    have h2 := nD_inj (List.cons.inj h).2
    injection h1 with h1
    rw [h2, show x = y by omega]
theorem eq_nD {xs ys : List Nat} : eqD (.lst (nD xs)) (.lst (nD ys)) = some (decide (xs = ys)) := by
  obtain ⟨b, e, h⟩ := eq_sm (d := .lst (nD xs)) (e := .lst (nD ys)) 2 (by decide) sm_nD sm_nD
  rw [e]
  have : b = true ↔ xs = ys := by
    rw [h]
    exact ⟨fun q => nD_inj (by injection q), fun q => by rw [q]⟩
  cases b with
  | true => rw [decide_eq_true (this.mp rfl)]
  | false => rw [decide_eq_false fun q => by have := this.mpr q; cases this]
theorem eq_nT {xs ys : List Nat} : eqD (.tup (nD xs)) (.tup (nD ys)) = some (decide (xs = ys)) := by
  obtain ⟨b, e, h⟩ := eq_sm (d := .tup (nD xs)) (e := .tup (nD ys)) 2 (by decide) sm_nT sm_nT
  rw [e]
  have : b = true ↔ xs = ys := by
    rw [h]
    exact ⟨fun q => nD_inj (by injection q), fun q => by rw [q]⟩
  cases b with
  | true => rw [decide_eq_true (this.mp rfl)]
  | false => rw [decide_eq_false fun q => by have := this.mpr q; cases this]
theorem max_nD {l : List Nat} {m : Nat} (h1 : m ∈ l) (h2 : ∀ x ∈ l, x ≤ m) : biD .maxO (.lst (nD l)) = some (.sh (.int (m : Nat))) := by
  show (intsD (nD l)).bind _ = _
  rw [intsD_nD, Option.bind_some]
  have : (l.map fun x : Nat => (x : Int)).max? = some (m : Int) := max_of (List.mem_map.mpr ⟨m, h1, rfl⟩) fun x hx => by
    obtain ⟨y, hy, rfl⟩ := List.mem_map.mp hx
    have := h2 y hy
    omega
  rw [this]
  rfl
theorem sum_nD {l : List Nat} : biD .sumO (.lst (nD l)) = some (.sh (.int (l.sum : Nat))) := by
  show (intsD (nD l)).map _ = _
  rw [intsD_nD, Option.map_some]
  have : (l.map fun x : Nat => (x : Int)).sum = (l.sum : Nat) := by
    induction l with
    | nil => rfl
    | cons x l ih => rw [List.map_cons, List.sum_cons, ih, List.sum_cons]; omega
  rw [this]
theorem menu4 (a b c d j : Nat) : ∃ k : Nat, atI [D.int (a : Nat), .int (b : Nat), .int (c : Nat), .int (d : Nat)] ((j : Int) % 4) = some (.int (k : Nat)) ∧ (k = a ∨ k = b ∨ k = c ∨ k = d) := by
  obtain ⟨x, e, h⟩ := four_at (a := D.int (a : Nat)) (b := .int (b : Nat)) (c := .int (c : Nat)) (d := .int (d : Nat)) j
  rw [e]
  rcases h with rfl | rfl | rfl | rfl
  · exact ⟨a, rfl, .inl rfl⟩
  · exact ⟨b, rfl, .inr (.inl rfl)⟩
  · exact ⟨c, rfl, .inr (.inr (.inl rfl))⟩
  · exact ⟨d, rfl, .inr (.inr (.inr rfl))⟩
theorem menu3 (a b c j : Nat) : ∃ k : Nat, atI [D.int (a : Nat), .int (b : Nat), .int (c : Nat)] ((j : Int) % 3) = some (.int (k : Nat)) ∧ (k = a ∨ k = b ∨ k = c) := by
  have h : j % 3 < 3 := Nat.mod_lt _ (by decide)
  rw [atI_of (j := j % 3) (by omega)]
  generalize j % 3 = m at h
  have : m = 0 ∨ m = 1 ∨ m = 2 := by omega
  rcases this with rfl | rfl | rfl
  · exact ⟨a, rfl, .inl rfl⟩
  · exact ⟨b, rfl, .inr (.inl rfl)⟩
  · exact ⟨c, rfl, .inr (.inr rfl)⟩
theorem int_i {i : Int} : biD .intO (.int i) = some (.sh (.int i)) := rfl
theorem abs_i {i : Int} : biD .absO (.int i) = some (.sh (.int (if i < 0 then -i else i))) := rfl
theorem lcL_F {α : Type} {F : En → Option D} {C : En → Option Bool} {B : D → Option En} (f φ : α → D) (p : α → Bool) : ∀ {xs : List α}, (∀ x ∈ xs, ∃ ρ, B (f x) = some ρ ∧ C ρ = some (p x) ∧ (p x = true → F ρ = some (φ x))) → lcL F C B (xs.map f) = some ((xs.filter p).map φ)
  | [], _ => rfl
  | x :: xs, h => by
    obtain ⟨ρ, e1, e2, e3⟩ := h x List.mem_cons_self
    have ih := lcL_F (F := F) (C := C) (B := B) f φ p (xs := xs) fun d hd => h d (List.mem_cons_of_mem _ hd)
    rw [List.map_cons]
    unfold lcL
    cases hp : p x with
    | true => simp only [e1, e2, hp, e3 hp, ih, Option.map_some, List.filter_cons_of_pos hp, List.map_cons]
    | false => simp only [e1, e2, hp, ih, List.filter_cons, Bool.false_eq_true, if_false]
section
variable {gv : Nat → Option D} {cal : Nat → List D → Option Slot} {ρ : En}
theorem e_lcP {α : Type} {own elt tg it cond} {xs : List α} (f φ : α → D) (p : α → Bool) (hi : (evA gv cal it ρ).i = some (xs.map f)) (hl : xs.length ≤ sizeLine)
    (h : ∀ x ∈ xs, ∃ ρ', bindT tg (f x) (wipeE ρ own) = some ρ' ∧ (evA gv cal cond ρ').c = some (p x) ∧ (p x = true → dOf (evA gv cal elt ρ').s = some (φ x))) :
    evA gv cal (.lc own elt tg it cond) ρ = .of (some (.ol ((xs.filter p).map φ))) := by
  show W.of (lcS (fun ρ' => dOf (evA gv cal elt ρ').s) (fun ρ' => (evA gv cal cond ρ').c) (fun d => bindT tg d (wipeE ρ own)) (evA gv cal it ρ).i) = _
  rw [hi]
  show W.of (if (xs.map f).length ≤ sizeLine then (lcL _ _ _ (xs.map f)).map .ol else none) = _
  rw [if_pos (by rw [List.length_map]; exact hl), lcL_F f φ p h]
  rfl
theorem e_lcF {α : Type} {own elt tg it} {xs : List α} (f φ : α → D) (hi : (evA gv cal it ρ).i = some (xs.map f)) (hl : xs.length ≤ sizeLine)
    (h : ∀ x ∈ xs, ∃ ρ', bindT tg (f x) (wipeE ρ own) = some ρ' ∧ dOf (evA gv cal elt ρ').s = some (φ x)) :
    evA gv cal (.lc own elt tg it .nil) ρ = .of (some (.ol (xs.map φ))) := by
  have := e_lcP (cond := .nil) f φ (fun _ => true) hi hl fun d hd => by
    obtain ⟨ρ', e1, e2⟩ := h d hd
    exact ⟨ρ', e1, rfl, fun _ => e2⟩
  rw [this, List.filter_eq_self.mpr fun _ _ => rfl]
end
theorem r1F {n : Nat} (h : n < 2 ^ 62) : rng1S (some (.int (n : Nat))) = some ((List.range n).map fun w => .int (w : Nat)) := by
  rw [r1 h, rngD0]
theorem range_sz {n : Nat} (h : n ≤ 1000) : (List.range n).length ≤ sizeLine := by rw [List.length_range, sz]; omega
theorem nD_map {α : Type} {xs : List α} (φ : α → Nat) : (xs.map fun x => D.int (φ x : Nat)) = nD (xs.map φ) := by unfold nD; rw [List.map_map]; rfl
theorem sum_map {α : Type} {xs : List α} (φ : α → Nat) : biD .sumO (.lst (xs.map fun x => D.int (φ x : Nat))) = some (.sh (.int ((xs.map φ).sum : Nat))) := by rw [nD_map, sum_nD]
theorem menu2 (a b : D) (j : Nat) : ∃ x, atI [a, b] ((j : Int) % 2) = some x ∧ (x = a ∨ x = b) := by
  have h : j % 2 < 2 := Nat.mod_lt _ (by decide)
  rw [atI_of (j := j % 2) (by omega)]
  generalize j % 2 = m at h
  have : m = 0 ∨ m = 1 := by omega
  rcases this with rfl | rfl
  · exact ⟨a, rfl, .inl rfl⟩
  · exact ⟨b, rfl, .inr rfl⟩
theorem at2_0 {a b : D} : atI [a, b] 0 = some a := rfl
theorem at2_1 {a b : D} : atI [a, b] 1 = some b := rfl
theorem eq_t2s {a b : Int} : eqD (.tup [.int a, .int b]) (.tup [.int a, .int b]) = some true := eq_same 2 (by decide) fun d hd => by
  simp only [List.mem_cons, List.not_mem_nil, or_false] at hd
  rcases hd with rfl | rfl <;> exact trivial
theorem p15 : opBin .pow (.int 10) (.int 15) = some (.sh (.int ((1000000000000000 : Nat) : Int))) := by
  rw [o_pow (by decide)]
  rfl
theorem o_mulN {a b : Nat} (h : a < 2 ^ 63 ∨ b < 2 ^ 63) : opBin .mul (.int (a : Nat)) (.int (b : Nat)) = some (.sh (.int (a * b : Nat))) := by
  rw [o_mul (by omega), Int.natCast_mul]
theorem o_modN {a b : Nat} (h : 0 < b) : opBin .mod (.int (a : Nat)) (.int (b : Nat)) = some (.sh (.int (a % b : Nat))) := by
  rw [o_mod (by omega), Int.natCast_emod]
theorem o_addN {a b : Nat} : opBin .add (.int (a : Nat)) (.int (b : Nat)) = some (.sh (.int (a + b : Nat))) := by
  rw [o_addI, Int.natCast_add]
theorem ofL_nil : Str.ofString "" = ofL [] := by decide +kernel

/-! #### tuples of items in lists, in dicts; sets of items -/
theorem eq_bb {a b : Bool} : eqD (.bl a) (.bl b) = some (decide (a = b)) := by
  cases a <;> cases b <;> decide
theorem is_N {a : D} : opCmp .is_ a .non = some (isNonD a) := by cases a <;> rfl
theorem nis_N {a : D} : opCmp .nis a .non = some (!isNonD a) := by cases a <;> rfl
theorem mem_sm {d : D} {ds : List D} (n : Nat) (hn : n < 64) (hd : Sm n d) (hs : ∀ e ∈ ds, Sm n e) : ∃ b, memD d (.lst ds) = some b ∧ (b = true ↔ d ∈ ds) := by
  obtain ⟨x, ex, dx⟩ := sm_py n d hd
  obtain ⟨ys, eys, py⟩ := toPyL_some (ds := ds) (P := fun e y => Sm n e ∧ toPy e = some y ∧ y.depth ≤ n) fun e he => by
    obtain ⟨y, ey, dy⟩ := sm_py n e (hs e he)
    exact ⟨y, ey, hs e he, ey, dy⟩
  have hdep := depthAll_le (n := n) (fun _ _ q => q.2.2) py
  refine ⟨ys.any fun z => PyData.eqv z x, ?_, ?_⟩
  · show (match toPy d, toPyL ds with | some x, some ys => if x.depth ≤ 64 ∧ PyData.depth (.list ys) ≤ 64 then some (ys.any fun z => PyData.eqv z x) else none | _, _ => none) = _
    rw [ex, eys]
    show (if x.depth ≤ 64 ∧ PyData.depth (.list ys) ≤ 64 then some (ys.any fun z => PyData.eqv z x) else none) = _
    rw [if_pos]
    refine ⟨by omega, ?_⟩
    show PyData.depthAll ys + 1 ≤ 64
    omega
  · clear eys hdep hs
    induction py with
    | nil => simp
    | cons p r ih =>
      rename_i e y es ys
      obtain ⟨p1, p2, _⟩ := p
      rw [List.any_cons, Bool.or_eq_true, ih, List.mem_cons, sm_eqv n e d y x p1 hd p2 ex]
      exact ⟨fun h => h.imp (fun q => q.symm) id, fun h => h.imp (fun q => q.symm) id⟩
theorem dec_of {p : Prop} [Decidable p] {b : Bool} (h : b = true ↔ p) : b = decide p := by
  cases b with
  | true => exact (decide_eq_true (h.mp rfl)).symm
  | false => exact (decide_eq_false fun q => by have := h.mpr q; cases this).symm
theorem nT_inj {x y : List Nat} (h : D.tup (nD x) = .tup (nD y)) : x = y := nD_inj (by injection h)
theorem mem_nTs {x : List Nat} {S : List (List Nat)} : memD (.tup (nD x)) (.lst (S.map fun y => .tup (nD y))) = some (decide (x ∈ S)) := by
  obtain ⟨b, e, h⟩ := mem_sm (d := .tup (nD x)) (ds := S.map fun y => .tup (nD y)) 2 (by decide) sm_nT (fun e he => by obtain ⟨y, _, rfl⟩ := List.mem_map.mp he; exact sm_nT)
  rw [e, dec_of (b := b) (p := x ∈ S) (by
    rw [h, List.mem_map]
    exact ⟨fun ⟨y, hy, q⟩ => nT_inj q ▸ hy, fun hx => ⟨x, hx, rfl⟩⟩)]
def keyN (x : List Nat) : List Key := x.map fun i : Nat => (Sum.inl (i : Int) : Key)
theorem keyN_inj : ∀ {x y : List Nat}, keyN x = keyN y → x = y
  | [], [], _ => rfl
  | [], _ :: _, h => by cases h
  | _ :: _, [], h => by cases h
  | a :: x, b :: y, h => by
    have h1 : (Sum.inl (a : Int) : Key) = Sum.inl (b : Int) := (List.cons.inj h).1
    have h2 := keyN_inj (List.cons.inj h).2
    injection h1 with h1
    rw [h2, show a = b by omega]
theorem keysD_nD : ∀ x : List Nat, keysD (nD x) = some (keyN x)
  | [] => rfl
  | a :: x => by
    show (match keyD (.int (a : Nat)), keysD (nD x) with | some k, some ks => some (k :: ks) | _, _ => none) = _
    rw [keysD_nD x]
    rfl
theorem keyT_nD {x : List Nat} : keyT (.tup (nD x)) = some (keyN x) := keysD_nD x
abbrev seenD (S : List (List Nat)) : List (List Key × D) := S.map fun x => (keyN x, D.bl true)
theorem has_seen {S : List (List Nat)} {x : List Nat} : dHas (seenD S) (keyN x) = decide (x ∈ S) := by
  refine dec_of ?_
  unfold dHas
  rw [List.any_eq_true]
  constructor
  · rintro ⟨p, hp, e⟩
    obtain ⟨y, hy, rfl⟩ := List.mem_map.mp hp
    have := keyN_inj (of_decide_eq_true e)
    rw [← this]; exact hy
  · intro hx
    exact ⟨_, List.mem_map.mpr ⟨x, hx, rfl⟩, decide_eq_true rfl⟩
theorem mem_seen {S : List (List Nat)} {x : List Nat} : memD (.tup (nD x)) (.dT (seenD S)) = some (decide (x ∈ S)) := by
  show (keyT (.tup (nD x))).map (dHas (seenD S)) = _
  rw [keyT_nD, Option.map_some, has_seen]
theorem put_seen {S : List (List Nat)} {x : List Nat} (h : x ∉ S) : dPut (seenD S) (keyN x) (.bl true) = seenD (S ++ [x]) := by
  have e : (seenD S).any (fun p => decide (p.1 = keyN x)) = false := by
    have := has_seen (S := S) (x := x)
    rw [decide_eq_false h] at this
    exact this
  unfold dPut
  rw [e, if_neg (by decide)]
  unfold seenD
  rw [List.map_append]
  rfl
/-- items sorted, each once -/
def srt (n : Nat) (xs : List Nat) : List Nat := (List.range n).filter fun j => decide (j ∈ xs)
theorem mem_srt {n : Nat} {xs : List Nat} {j : Nat} : j ∈ srt n xs ↔ j < n ∧ j ∈ xs := by
  unfold srt
  rw [List.mem_filter, List.mem_range, decide_eq_true_iff]
theorem srt_len (n : Nat) (xs : List Nat) : (srt n xs).length ≤ n := by
  have := List.length_filter_le (fun j => decide (j ∈ xs)) (List.range n)
  rw [List.length_range] at this
  exact this
theorem mem_dedupI {x : Int} : ∀ {l : List Int}, x ∈ dedupI l ↔ x ∈ l
  | [] => Iff.rfl
  | y :: l => by
    unfold dedupI
    split
    · rename_i h
      rw [mem_dedupI (l := l), List.mem_cons]
      exact ⟨.inr, fun q => q.elim (fun e => by rw [e]; exact h) id⟩
    · rw [List.mem_cons, List.mem_cons, mem_dedupI (l := l)]
theorem nodup_dedupI : ∀ l : List Int, (dedupI l).Nodup
  | [] => List.nodup_nil
  | y :: l => by
    unfold dedupI
    split
    · exact nodup_dedupI l
    · rename_i h
      exact List.nodup_cons.mpr ⟨fun q => h (mem_dedupI.mp q), nodup_dedupI l⟩
theorem ssetI_srt {n : Nat} {xs : List Nat} (h : ∀ x ∈ xs, x < n) : ssetI (xs.map fun x : Nat => (x : Int)) = (srt n xs).map fun x : Nat => (x : Int) := by
  have nd : ((srt n xs).map fun x : Nat => (x : Int)).Nodup := List.pairwise_map.mpr (((List.nodup_range (n := n)).filter _).imp fun h e => h (by omega))
  have p : (ssetI (xs.map fun x : Nat => (x : Int))).Perm ((srt n xs).map fun x : Nat => (x : Int)) := by
    refine (sortI_perm _).trans ((List.perm_ext_iff_of_nodup (nodup_dedupI _) nd).mpr fun k => ?_)
    rw [mem_dedupI, List.mem_map, List.mem_map]
    exact ⟨fun ⟨x, hx, e⟩ => ⟨x, mem_srt.mpr ⟨h x hx, hx⟩, e⟩, fun ⟨x, hx, e⟩ => ⟨x, (mem_srt.mp hx).2, e⟩⟩
  refine List.Perm.eq_of_pairwise (le := fun a b : Int => a ≤ b) (fun a b _ _ h3 h4 => by omega) (sortI_sorted _) ?_ p
  refine List.pairwise_map.mpr ?_
  have : (List.range n).Pairwise (· < ·) := List.pairwise_lt_range
  exact (this.filter _).imp fun h => by omega
theorem sset_nD {n : Nat} {xs : List Nat} (h : ∀ x ∈ xs, x < n) (hl : xs.length < 64) : ssetD (.lst (nD xs)) = some (.ol (nD (srt n xs))) := by
  show (match intsD (nD xs) with | some ns => if ns.length < 64 then some (Slot.ol ((ssetI ns).map .int)) else none | none => _) = _
  rw [intsD_nD]
  show (if (xs.map fun x : Nat => (x : Int)).length < 64 then some (Slot.ol ((ssetI (xs.map fun x : Nat => (x : Int))).map .int)) else none) = _
  rw [if_pos (by rw [List.length_map]; exact hl), ssetI_srt h, List.map_map]
  rfl
theorem sset_nT {n : Nat} {xs : List Nat} (h : ∀ x ∈ xs, x < n) (hl : xs.length < 64) : ssetD (.tup (nD xs)) = some (.ol (nD (srt n xs))) := by
  show (intsD (nD xs)).bind _ = _
  rw [intsD_nD, Option.bind_some, if_pos (by rw [List.length_map]; exact hl), ssetI_srt h, List.map_map]
  rfl
theorem tup_o {ds : List D} : biD .tupleO (.lst ds) = some (.sh (.tup ds)) := rfl
theorem tup_ot {ds : List D} : biD .tupleO (.tup ds) = some (.sh (.tup ds)) := rfl
theorem lst_o {ds : List D} : biD .listO (.lst ds) = some (.ol ds) := rfl
theorem all_mapF {α : Type} {xs : List α} (p : α → Bool) : biD .allO (.lst (xs.map fun x => D.bl (p x))) = some (.sh (.bl (xs.all p))) := by
  show (blsD _).map _ = _
  have : blsD (xs.map fun x => D.bl (p x)) = some (xs.map p) := by
    induction xs with
    | nil => rfl
    | cons x l ih => simp only [List.map_cons, blsD, ih, Option.map_some]
  rw [this, Option.map_some, List.all_map]
  rfl
theorem az_mem' {c : Nat} (h : Az c) : c ∈ List.range' 97 26 := by
  rw [List.mem_range'_1]
  exact ⟨h.1, h.2⟩

/-! ### k01: values of any kind -/
inductive Gd : Nat → D → Prop
  | non {n : Nat} : Gd n .non
  | bl {n : Nat} {b : Bool} : Gd n (.bl b)
  | int {n : Nat} {i : Int} : Gd n (.int i)
  | str {n : Nat} {x : Str} (h : x.length ≤ 1000) : Gd n (.str x)
  | lst {n : Nat} {ds : List D} (h : ∀ d, d ∈ ds → Gd n d) : Gd (n + 1) (.lst ds)
  | tup {n : Nat} {ds : List D} (h : ∀ d, d ∈ ds → Gd n d) : Gd (n + 1) (.tup ds)
theorem Gd.up {n : Nat} {d : D} (g : Gd n d) : Gd (n + 1) d := by
  induction g with
  | non => exact .non
  | bl => exact .bl
  | int => exact .int
  | str h => exact .str h
  | lst h ih => exact .lst ih
  | tup h ih => exact .tup ih
theorem Gd.le {n m : Nat} {d : D} (g : Gd n d) (h : n ≤ m) : Gd m d := by
  induction h with
  | refl => exact g
  | step _ ih => exact ih.up
mutual
def wt : D → Nat
  | .lst ds => 1 + wtL ds
  | .tup ds => 1 + wtL ds
  | _ => 1
def wtL : List D → Nat
  | [] => 0
  | d :: ds => wt d + wtL ds
end
theorem wt_l {ds : List D} : wt (.lst ds) = 1 + wtL ds := by simp only [wt]
theorem wt_t {ds : List D} : wt (.tup ds) = 1 + wtL ds := by simp only [wt]
theorem wtL_nil : wtL [] = 0 := by simp only [wtL]
theorem wtL_cons {d : D} {ds : List D} : wtL (d :: ds) = wt d + wtL ds := by simp only [wtL]
theorem wt_pos (d : D) : 1 ≤ wt d := by
  cases d <;> simp only [wt] <;> omega
theorem wtL_app : ∀ (xs ys : List D), wtL (xs ++ ys) = wtL xs + wtL ys
  | [], ys => by rw [wtL_nil, Nat.zero_add]; rfl
  | x :: xs, ys => by rw [List.cons_append, wtL_cons, wtL_cons, wtL_app xs ys]; omega
theorem wtL_len : ∀ (xs : List D), xs.length ≤ wtL xs
  | [] => Nat.zero_le _
  | x :: xs => by
    have := wt_pos x
    have := wtL_len xs
    rw [wtL_cons, List.length_cons]; omega
theorem wtL_mem {d : D} : ∀ {xs : List D}, d ∈ xs → wt d ≤ wtL xs
  | x :: xs, h => by
    rw [wtL_cons]
    rcases List.mem_cons.mp h with e | h
    · rw [e]; omega
    · have := wtL_mem h; omega
theorem wtL_rev : ∀ (xs : List D), wtL xs.reverse = wtL xs
  | [] => rfl
  | x :: xs => by rw [List.reverse_cons, wtL_app, wtL_rev xs, wtL_cons, wtL_cons, wtL_nil]; omega
theorem wtL_take (xs : List D) (k : Nat) : wtL (xs.take k) + wtL (xs.drop k) = wtL xs := by
  rw [← wtL_app, List.take_append_drop]
theorem wtL_drop1 (xs : List D) (k : Nat) : wtL (xs.drop (k + 1)) ≤ wtL (xs.drop k) := by
  have := wtL_take (xs.drop k) 1
  rw [List.drop_drop] at this
  omega
theorem wtL_at {xs : List D} {k : Nat} {d : D} (h : xs[k]? = some d) : wtL (xs.take k) + wt d + wtL (xs.drop (k + 1)) = wtL xs := by
  have hk := (List.getElem?_eq_some_iff.mp h).1
  have e := (List.getElem?_eq_some_iff.mp h).2
  have := wtL_take xs k
  rw [List.drop_eq_getElem_cons hk, e, wtL_cons] at this
  omega
theorem wtL_set {xs : List D} {k : Nat} {d v : D} (h : xs[k]? = some d) : wtL (xs.set k v) + wt d = wtL xs + wt v := by
  have hk := (List.getElem?_eq_some_iff.mp h).1
  have h1 := wtL_at h
  rw [List.set_eq_take_append_cons_drop, if_pos hk, wtL_app, wtL_cons]
  omega
theorem gd_py {n : Nat} {d : D} (g : Gd n d) : ∃ x, toPy d = some x ∧ x.depth ≤ n := by
  induction g with
  | non => exact ⟨_, rfl, Nat.zero_le _⟩
  | bl => exact ⟨_, rfl, Nat.zero_le _⟩
  | int => exact ⟨_, rfl, Nat.zero_le _⟩
  | str h => exact ⟨_, rfl, Nat.zero_le _⟩
  | @lst n ds h ih =>
    obtain ⟨xs, e, p⟩ := toPyL_some (P := fun _ x => x.depth ≤ n) ih
    refine ⟨.list xs, by simp only [toPy, e, Option.map_some], ?_⟩
    have := depthAll_le (fun _ _ h => h) p
    simp only [PyData.depth]
    omega
  | @tup n ds h ih =>
    obtain ⟨xs, e, p⟩ := toPyL_some (P := fun _ x => x.depth ≤ n) ih
    refine ⟨.tuple xs, by simp only [toPy, e, Option.map_some], ?_⟩
    have := depthAll_le (fun _ _ h => h) p
    simp only [PyData.depth]
    omega
/-- xs == [] -/
theorem eq_nil {n : Nat} {ds : List D} (h : ∀ d, d ∈ ds → Gd n d) (hn : n < 64) : eqD (.lst ds) (.lst []) = some ds.isEmpty := by
  obtain ⟨xs, e, p⟩ := toPyL_some (P := fun _ x => x.depth ≤ n) fun d hd => gd_py (h d hd)
  have hd := depthAll_le (fun _ _ h => h) p
  unfold eqD
  simp only [toPy, toPyL, e, Option.map_some]
  have q : (PyData.list xs).depth ≤ 64 ∧ (PyData.list []).depth ≤ 64 := by
    simp only [PyData.depth, PyData.depthAll]
    omega
  rw [if_pos q]
  cases p with
  | nil => simp [PyData.eqv, PyData.eqvAll]
  | cons _ _ => simp [PyData.eqv, PyData.eqvAll]
/-! #### the checks -/
def wrd (lo hi : Nat) : D → Bool
  | .str x => decide (lo ≤ x.length) && decide (x.length ≤ hi) && x.cps.toList.all fun c => decide (c ∈ List.range' 97 26)
  | _ => false
def isl : D → Bool
  | .tup ds => decide (1 ≤ ds.length) && decide (ds.length ≤ 30) && ds.all (wrd 1 8)
  | _ => false
theorem dec_le {a b : Nat} : decide ((a : Int) ≤ (b : Int)) = decide (a ≤ b) := decide_eq_decide.mpr (by omega)
theorem dec_le1 {b : Nat} : decide ((1 : Int) ≤ (b : Int)) = decide (1 ≤ b) := decide_eq_decide.mpr (by omega)
theorem dec_le30 {b : Nat} : decide ((b : Int) ≤ 30) = decide (b ≤ 30) := decide_eq_decide.mpr (by omega)
theorem and_bb {a b : Bool} : andS (some a) (some b) = some (.sh (.bl (a && b))) := by cases a <;> rfl
theorem chn_le {a b c : Int} : chn .le .le (some (.int a)) (some (.int b)) (some (.int c)) = some (.sh (.bl (decide (a ≤ b) && decide (b ≤ c)))) := by
  show (match some (decide (a ≤ b)) with | some false => _ | some true => _ | none => _) = _
  cases decide (a ≤ b) <;> rfl
theorem str_sz {x : Str} : x.cps.toList.length = x.length := Array.length_toList ..
theorem all_in_lc {cal : Nat → List D → Option Slot} {ρ : En} {x : Str} {i j : Nat} {e : E} {z : Str} (hz : z.cps.toList = List.range' 97 26) (he : ∀ ρ, evA (lk GS) cal e ρ = .of (some (.sh (.str z)))) (hi : (evA (lk GS) cal (.var i) ρ).i = some (x.cps.toList.map sgn)) (hl : x.length ≤ 1000) (hj : j < ρ.length) :
    evA (lk GS) cal (.bi1 .allO (.lc [j] (.cmp .in_ (.var j) e) (.one j) (.var i) .nil)) ρ = .of (some (.sh (.bl (x.cps.toList.all fun c => decide (c ∈ List.range' 97 26))))) := by
  rw [e_bi1, e_lcF (xs := x.cps.toList) sgn (fun c => .bl (decide (c ∈ List.range' 97 26))) hi (by rw [str_sz, sz]; omega) (fun c hc => ⟨_, rfl, ?_⟩)]
  · rw [W_b, dOf_s, d_ol, Option.bind_some, all_mapF]
  · rw [e_cmp, he, e_var, rd_eq (by rw [wipeE_len]; exact hj)]
    simp (config := {implicitDefEqProofs := false, decide := true}) only [e_var, e_cI, e_cS, e_cB, e_cN, e_neg, e_glb, e_bin, e_cmp, e_chain, e_and, e_or, e_not, e_ite, e_idx, e_slc, e_rev, e_call, e_glist, e_bi1, e_biR, e_max2, e_isi, e_isi2, e_sset, e_lset, e_join, e_index, e_get, e_split, e_tupE, e_lstE, e_dicK, e_dicT, e_dic1, e_dic1T, e_rng1, e_rng2, e_enum, e_zip, e_items, e_nil, e_cons, W_s, W_b, W_l, W_p, W_c, W_i, W_it, two_ss, dOf_s, d_sh, d_ol, d_ok, d_ot, asB_bl, asI_i, cons_ss, rd_0, rd_s, sh_sh, nd_sh, nd_ol, and_t, and_f, or_t, or_f, bl_s, dsl_s, ite_t, ite_f, slc_s, max_i, o_addI, o_subI, c_lt, c_le, c_gt, c_ge, c_eq, c_ne, c_in, c_nin, eq_ii, eq_ss, is_nn, ix_tup, ix_lst, ix_scr, ix_str, len_str, len_lst, len_tup, len_scr, wd_lst, wd_tup, wd_str, Option.map_some, Option.bind_some, List.map_cons, List.map_nil, rd_ne, rd_eq, rd_hid, hid_sh, hi_var, hi_cS, hi_glb, hi_bin, hi_ite, hi_idx, hi_slc, hi_rev, hi_call, hi_glist, hi_bi1, hi_biR, hi_sset, hi_join, hi_tupE, hi_lstE, hi_lc, hi_rng1, hi_rng2, hi_enum, hi_zip, hi_items, wipe_cons, wipe_nil, List.length_set, List.set_cons_zero, List.set_cons_succ, bindT, setMany, setSl, if_true, if_false, decide_true, decide_false, Bool.not_true, Bool.not_false, isTy, tup_0, lst_0, tup_1, lst_1, tup_2, lst_2, tup_3, lst_3, tup_4, lst_4, tup_5, lst_5, tup_6, lst_6, tup_7, lst_7, tup_8, lst_8, tup_9, lst_9, tup_10, lst_10, tup_11, lst_11, tup_12, lst_12, sgn_ofL, in_str, hz]
theorem is_word_ok {d : D} {k : Nat} (g : Gd k d) (lo hi : Nat) (n : Nat) : calN GS T (n + 1) 0 [d, .int (lo : Nat), .int (hi : Nat)] = some (.sh (.bl (wrd lo hi d))) := by
  rw [calN_eq (d := d_is_word) rfl]
  generalize calN GS T n = cal
  refine def_of rfl (wp_seq (wp_ret (s := .sh (.bl (wrd lo hi d))) ?_ rfl))
  show (evA (lk GS) cal _ [some (.sh d), some (.sh (.int lo)), some (.sh (.int hi)), none]).s = _
  cases g with
  | @str _ x h =>
    have e := all_in_lc (cal := cal) (ρ := [some (.sh (.str x)), some (.sh (.int lo)), some (.sh (.int hi)), none]) (x := x) (i := 0) (j := 3) (e := .glb 0) (z := Str.ofString "abcdefghijklmnopqrstuvwxyz") az_cps (fun _ => rfl) (by simp (config := {implicitDefEqProofs := false, decide := true}) only [e_var, e_cI, e_cS, e_cB, e_cN, e_neg, e_glb, e_bin, e_cmp, e_chain, e_and, e_or, e_not, e_ite, e_idx, e_slc, e_rev, e_call, e_glist, e_bi1, e_biR, e_max2, e_isi, e_isi2, e_sset, e_lset, e_join, e_index, e_get, e_split, e_tupE, e_lstE, e_dicK, e_dicT, e_dic1, e_dic1T, e_rng1, e_rng2, e_enum, e_zip, e_items, e_nil, e_cons, W_s, W_b, W_l, W_p, W_c, W_i, W_it, two_ss, dOf_s, d_sh, d_ol, d_ok, d_ot, asB_bl, asI_i, cons_ss, rd_0, rd_s, sh_sh, nd_sh, nd_ol, and_t, and_f, or_t, or_f, bl_s, dsl_s, ite_t, ite_f, slc_s, max_i, o_addI, o_subI, c_lt, c_le, c_gt, c_ge, c_eq, c_ne, c_in, c_nin, eq_ii, eq_ss, is_nn, ix_tup, ix_lst, ix_scr, ix_str, len_str, len_lst, len_tup, len_scr, wd_lst, wd_tup, wd_str, Option.map_some, Option.bind_some, List.map_cons, List.map_nil, rd_ne, rd_eq, rd_hid, hid_sh, hi_var, hi_cS, hi_glb, hi_bin, hi_ite, hi_idx, hi_slc, hi_rev, hi_call, hi_glist, hi_bi1, hi_biR, hi_sset, hi_join, hi_tupE, hi_lstE, hi_lc, hi_rng1, hi_rng2, hi_enum, hi_zip, hi_items, wipe_cons, wipe_nil, List.length_set, List.set_cons_zero, List.set_cons_succ, bindT, setMany, setSl, if_true, if_false, decide_true, decide_false, Bool.not_true, Bool.not_false, isTy, tup_0, lst_0, tup_1, lst_1, tup_2, lst_2, tup_3, lst_3, tup_4, lst_4, tup_5, lst_5, tup_6, lst_6, tup_7, lst_7, tup_8, lst_8, tup_9, lst_9, tup_10, lst_10, tup_11, lst_11, tup_12, lst_12]) h (show 3 < 4 by decide)
    rw [e_and, e_and, e]
    simp (config := {implicitDefEqProofs := false, decide := true}) only [e_var, e_cI, e_cS, e_cB, e_cN, e_neg, e_glb, e_bin, e_cmp, e_chain, e_and, e_or, e_not, e_ite, e_idx, e_slc, e_rev, e_call, e_glist, e_bi1, e_biR, e_max2, e_isi, e_isi2, e_sset, e_lset, e_join, e_index, e_get, e_split, e_tupE, e_lstE, e_dicK, e_dicT, e_dic1, e_dic1T, e_rng1, e_rng2, e_enum, e_zip, e_items, e_nil, e_cons, W_s, W_b, W_l, W_p, W_c, W_i, W_it, two_ss, dOf_s, d_sh, d_ol, d_ok, d_ot, asB_bl, asI_i, cons_ss, rd_0, rd_s, sh_sh, nd_sh, nd_ol, and_t, and_f, or_t, or_f, bl_s, dsl_s, ite_t, ite_f, slc_s, max_i, o_addI, o_subI, c_lt, c_le, c_gt, c_ge, c_eq, c_ne, c_in, c_nin, eq_ii, eq_ss, is_nn, ix_tup, ix_lst, ix_scr, ix_str, len_str, len_lst, len_tup, len_scr, wd_lst, wd_tup, wd_str, Option.map_some, Option.bind_some, List.map_cons, List.map_nil, rd_ne, rd_eq, rd_hid, hid_sh, hi_var, hi_cS, hi_glb, hi_bin, hi_ite, hi_idx, hi_slc, hi_rev, hi_call, hi_glist, hi_bi1, hi_biR, hi_sset, hi_join, hi_tupE, hi_lstE, hi_lc, hi_rng1, hi_rng2, hi_enum, hi_zip, hi_items, wipe_cons, wipe_nil, List.length_set, List.set_cons_zero, List.set_cons_succ, bindT, setMany, setSl, if_true, if_false, decide_true, decide_false, Bool.not_true, Bool.not_false, isTy, tup_0, lst_0, tup_1, lst_1, tup_2, lst_2, tup_3, lst_3, tup_4, lst_4, tup_5, lst_5, tup_6, lst_6, tup_7, lst_7, tup_8, lst_8, tup_9, lst_9, tup_10, lst_10, tup_11, lst_11, tup_12, lst_12, chn_le, and_bb, dec_le]
    rfl
  | non => simp (config := {implicitDefEqProofs := false, decide := true}) only [e_var, e_cI, e_cS, e_cB, e_cN, e_neg, e_glb, e_bin, e_cmp, e_chain, e_and, e_or, e_not, e_ite, e_idx, e_slc, e_rev, e_call, e_glist, e_bi1, e_biR, e_max2, e_isi, e_isi2, e_sset, e_lset, e_join, e_index, e_get, e_split, e_tupE, e_lstE, e_dicK, e_dicT, e_dic1, e_dic1T, e_rng1, e_rng2, e_enum, e_zip, e_items, e_nil, e_cons, W_s, W_b, W_l, W_p, W_c, W_i, W_it, two_ss, dOf_s, d_sh, d_ol, d_ok, d_ot, asB_bl, asI_i, cons_ss, rd_0, rd_s, sh_sh, nd_sh, nd_ol, and_t, and_f, or_t, or_f, bl_s, dsl_s, ite_t, ite_f, slc_s, max_i, o_addI, o_subI, c_lt, c_le, c_gt, c_ge, c_eq, c_ne, c_in, c_nin, eq_ii, eq_ss, is_nn, ix_tup, ix_lst, ix_scr, ix_str, len_str, len_lst, len_tup, len_scr, wd_lst, wd_tup, wd_str, Option.map_some, Option.bind_some, List.map_cons, List.map_nil, rd_ne, rd_eq, rd_hid, hid_sh, hi_var, hi_cS, hi_glb, hi_bin, hi_ite, hi_idx, hi_slc, hi_rev, hi_call, hi_glist, hi_bi1, hi_biR, hi_sset, hi_join, hi_tupE, hi_lstE, hi_lc, hi_rng1, hi_rng2, hi_enum, hi_zip, hi_items, wipe_cons, wipe_nil, List.length_set, List.set_cons_zero, List.set_cons_succ, bindT, setMany, setSl, if_true, if_false, decide_true, decide_false, Bool.not_true, Bool.not_false, isTy, tup_0, lst_0, tup_1, lst_1, tup_2, lst_2, tup_3, lst_3, tup_4, lst_4, tup_5, lst_5, tup_6, lst_6, tup_7, lst_7, tup_8, lst_8, tup_9, lst_9, tup_10, lst_10, tup_11, lst_11, tup_12, lst_12, wrd]
  | bl => simp (config := {implicitDefEqProofs := false, decide := true}) only [e_var, e_cI, e_cS, e_cB, e_cN, e_neg, e_glb, e_bin, e_cmp, e_chain, e_and, e_or, e_not, e_ite, e_idx, e_slc, e_rev, e_call, e_glist, e_bi1, e_biR, e_max2, e_isi, e_isi2, e_sset, e_lset, e_join, e_index, e_get, e_split, e_tupE, e_lstE, e_dicK, e_dicT, e_dic1, e_dic1T, e_rng1, e_rng2, e_enum, e_zip, e_items, e_nil, e_cons, W_s, W_b, W_l, W_p, W_c, W_i, W_it, two_ss, dOf_s, d_sh, d_ol, d_ok, d_ot, asB_bl, asI_i, cons_ss, rd_0, rd_s, sh_sh, nd_sh, nd_ol, and_t, and_f, or_t, or_f, bl_s, dsl_s, ite_t, ite_f, slc_s, max_i, o_addI, o_subI, c_lt, c_le, c_gt, c_ge, c_eq, c_ne, c_in, c_nin, eq_ii, eq_ss, is_nn, ix_tup, ix_lst, ix_scr, ix_str, len_str, len_lst, len_tup, len_scr, wd_lst, wd_tup, wd_str, Option.map_some, Option.bind_some, List.map_cons, List.map_nil, rd_ne, rd_eq, rd_hid, hid_sh, hi_var, hi_cS, hi_glb, hi_bin, hi_ite, hi_idx, hi_slc, hi_rev, hi_call, hi_glist, hi_bi1, hi_biR, hi_sset, hi_join, hi_tupE, hi_lstE, hi_lc, hi_rng1, hi_rng2, hi_enum, hi_zip, hi_items, wipe_cons, wipe_nil, List.length_set, List.set_cons_zero, List.set_cons_succ, bindT, setMany, setSl, if_true, if_false, decide_true, decide_false, Bool.not_true, Bool.not_false, isTy, tup_0, lst_0, tup_1, lst_1, tup_2, lst_2, tup_3, lst_3, tup_4, lst_4, tup_5, lst_5, tup_6, lst_6, tup_7, lst_7, tup_8, lst_8, tup_9, lst_9, tup_10, lst_10, tup_11, lst_11, tup_12, lst_12, wrd]
  | int => simp (config := {implicitDefEqProofs := false, decide := true}) only [e_var, e_cI, e_cS, e_cB, e_cN, e_neg, e_glb, e_bin, e_cmp, e_chain, e_and, e_or, e_not, e_ite, e_idx, e_slc, e_rev, e_call, e_glist, e_bi1, e_biR, e_max2, e_isi, e_isi2, e_sset, e_lset, e_join, e_index, e_get, e_split, e_tupE, e_lstE, e_dicK, e_dicT, e_dic1, e_dic1T, e_rng1, e_rng2, e_enum, e_zip, e_items, e_nil, e_cons, W_s, W_b, W_l, W_p, W_c, W_i, W_it, two_ss, dOf_s, d_sh, d_ol, d_ok, d_ot, asB_bl, asI_i, cons_ss, rd_0, rd_s, sh_sh, nd_sh, nd_ol, and_t, and_f, or_t, or_f, bl_s, dsl_s, ite_t, ite_f, slc_s, max_i, o_addI, o_subI, c_lt, c_le, c_gt, c_ge, c_eq, c_ne, c_in, c_nin, eq_ii, eq_ss, is_nn, ix_tup, ix_lst, ix_scr, ix_str, len_str, len_lst, len_tup, len_scr, wd_lst, wd_tup, wd_str, Option.map_some, Option.bind_some, List.map_cons, List.map_nil, rd_ne, rd_eq, rd_hid, hid_sh, hi_var, hi_cS, hi_glb, hi_bin, hi_ite, hi_idx, hi_slc, hi_rev, hi_call, hi_glist, hi_bi1, hi_biR, hi_sset, hi_join, hi_tupE, hi_lstE, hi_lc, hi_rng1, hi_rng2, hi_enum, hi_zip, hi_items, wipe_cons, wipe_nil, List.length_set, List.set_cons_zero, List.set_cons_succ, bindT, setMany, setSl, if_true, if_false, decide_true, decide_false, Bool.not_true, Bool.not_false, isTy, tup_0, lst_0, tup_1, lst_1, tup_2, lst_2, tup_3, lst_3, tup_4, lst_4, tup_5, lst_5, tup_6, lst_6, tup_7, lst_7, tup_8, lst_8, tup_9, lst_9, tup_10, lst_10, tup_11, lst_11, tup_12, lst_12, wrd]
  | lst h => simp (config := {implicitDefEqProofs := false, decide := true}) only [e_var, e_cI, e_cS, e_cB, e_cN, e_neg, e_glb, e_bin, e_cmp, e_chain, e_and, e_or, e_not, e_ite, e_idx, e_slc, e_rev, e_call, e_glist, e_bi1, e_biR, e_max2, e_isi, e_isi2, e_sset, e_lset, e_join, e_index, e_get, e_split, e_tupE, e_lstE, e_dicK, e_dicT, e_dic1, e_dic1T, e_rng1, e_rng2, e_enum, e_zip, e_items, e_nil, e_cons, W_s, W_b, W_l, W_p, W_c, W_i, W_it, two_ss, dOf_s, d_sh, d_ol, d_ok, d_ot, asB_bl, asI_i, cons_ss, rd_0, rd_s, sh_sh, nd_sh, nd_ol, and_t, and_f, or_t, or_f, bl_s, dsl_s, ite_t, ite_f, slc_s, max_i, o_addI, o_subI, c_lt, c_le, c_gt, c_ge, c_eq, c_ne, c_in, c_nin, eq_ii, eq_ss, is_nn, ix_tup, ix_lst, ix_scr, ix_str, len_str, len_lst, len_tup, len_scr, wd_lst, wd_tup, wd_str, Option.map_some, Option.bind_some, List.map_cons, List.map_nil, rd_ne, rd_eq, rd_hid, hid_sh, hi_var, hi_cS, hi_glb, hi_bin, hi_ite, hi_idx, hi_slc, hi_rev, hi_call, hi_glist, hi_bi1, hi_biR, hi_sset, hi_join, hi_tupE, hi_lstE, hi_lc, hi_rng1, hi_rng2, hi_enum, hi_zip, hi_items, wipe_cons, wipe_nil, List.length_set, List.set_cons_zero, List.set_cons_succ, bindT, setMany, setSl, if_true, if_false, decide_true, decide_false, Bool.not_true, Bool.not_false, isTy, tup_0, lst_0, tup_1, lst_1, tup_2, lst_2, tup_3, lst_3, tup_4, lst_4, tup_5, lst_5, tup_6, lst_6, tup_7, lst_7, tup_8, lst_8, tup_9, lst_9, tup_10, lst_10, tup_11, lst_11, tup_12, lst_12, wrd]
  | tup h => simp (config := {implicitDefEqProofs := false, decide := true}) only [e_var, e_cI, e_cS, e_cB, e_cN, e_neg, e_glb, e_bin, e_cmp, e_chain, e_and, e_or, e_not, e_ite, e_idx, e_slc, e_rev, e_call, e_glist, e_bi1, e_biR, e_max2, e_isi, e_isi2, e_sset, e_lset, e_join, e_index, e_get, e_split, e_tupE, e_lstE, e_dicK, e_dicT, e_dic1, e_dic1T, e_rng1, e_rng2, e_enum, e_zip, e_items, e_nil, e_cons, W_s, W_b, W_l, W_p, W_c, W_i, W_it, two_ss, dOf_s, d_sh, d_ol, d_ok, d_ot, asB_bl, asI_i, cons_ss, rd_0, rd_s, sh_sh, nd_sh, nd_ol, and_t, and_f, or_t, or_f, bl_s, dsl_s, ite_t, ite_f, slc_s, max_i, o_addI, o_subI, c_lt, c_le, c_gt, c_ge, c_eq, c_ne, c_in, c_nin, eq_ii, eq_ss, is_nn, ix_tup, ix_lst, ix_scr, ix_str, len_str, len_lst, len_tup, len_scr, wd_lst, wd_tup, wd_str, Option.map_some, Option.bind_some, List.map_cons, List.map_nil, rd_ne, rd_eq, rd_hid, hid_sh, hi_var, hi_cS, hi_glb, hi_bin, hi_ite, hi_idx, hi_slc, hi_rev, hi_call, hi_glist, hi_bi1, hi_biR, hi_sset, hi_join, hi_tupE, hi_lstE, hi_lc, hi_rng1, hi_rng2, hi_enum, hi_zip, hi_items, wipe_cons, wipe_nil, List.length_set, List.set_cons_zero, List.set_cons_succ, bindT, setMany, setSl, if_true, if_false, decide_true, decide_false, Bool.not_true, Bool.not_false, isTy, tup_0, lst_0, tup_1, lst_1, tup_2, lst_2, tup_3, lst_3, tup_4, lst_4, tup_5, lst_5, tup_6, lst_6, tup_7, lst_7, tup_8, lst_8, tup_9, lst_9, tup_10, lst_10, tup_11, lst_11, tup_12, lst_12, wrd]
theorem is_name_ok {d : D} {k : Nat} (g : Gd k d) (n : Nat) : calN GS T (n + 2) 1 [d] = some (.sh (.bl (wrd 1 8 d))) := by
  rw [calN_eq (d := d_is_name) rfl]
  have h := is_word_ok g 1 8 n
  generalize calN GS T (n + 1) = cal at h
  replace h : cal 0 [d, .int 1, .int 8] = _ := h
  refine def_of rfl (wp_seq (wp_ret (s := .sh (.bl (wrd 1 8 d))) ?_ rfl))
  show (evA (lk GS) cal _ [some (.sh d)]).s = _
  simp (config := {implicitDefEqProofs := false, decide := true}) only [e_var, e_cI, e_cS, e_cB, e_cN, e_neg, e_glb, e_bin, e_cmp, e_chain, e_and, e_or, e_not, e_ite, e_idx, e_slc, e_rev, e_call, e_glist, e_bi1, e_biR, e_max2, e_isi, e_isi2, e_sset, e_lset, e_join, e_index, e_get, e_split, e_tupE, e_lstE, e_dicK, e_dicT, e_dic1, e_dic1T, e_rng1, e_rng2, e_enum, e_zip, e_items, e_nil, e_cons, W_s, W_b, W_l, W_p, W_c, W_i, W_it, two_ss, dOf_s, d_sh, d_ol, d_ok, d_ot, asB_bl, asI_i, cons_ss, rd_0, rd_s, sh_sh, nd_sh, nd_ol, and_t, and_f, or_t, or_f, bl_s, dsl_s, ite_t, ite_f, slc_s, max_i, o_addI, o_subI, c_lt, c_le, c_gt, c_ge, c_eq, c_ne, c_in, c_nin, eq_ii, eq_ss, is_nn, ix_tup, ix_lst, ix_scr, ix_str, len_str, len_lst, len_tup, len_scr, wd_lst, wd_tup, wd_str, Option.map_some, Option.bind_some, List.map_cons, List.map_nil, rd_ne, rd_eq, rd_hid, hid_sh, hi_var, hi_cS, hi_glb, hi_bin, hi_ite, hi_idx, hi_slc, hi_rev, hi_call, hi_glist, hi_bi1, hi_biR, hi_sset, hi_join, hi_tupE, hi_lstE, hi_lc, hi_rng1, hi_rng2, hi_enum, hi_zip, hi_items, wipe_cons, wipe_nil, List.length_set, List.set_cons_zero, List.set_cons_succ, bindT, setMany, setSl, if_true, if_false, decide_true, decide_false, Bool.not_true, Bool.not_false, isTy, tup_0, lst_0, tup_1, lst_1, tup_2, lst_2, tup_3, lst_3, tup_4, lst_4, tup_5, lst_5, tup_6, lst_6, tup_7, lst_7, tup_8, lst_8, tup_9, lst_9, tup_10, lst_10, tup_11, lst_11, tup_12, lst_12, h]
theorem is_keys_ok {d : D} {k : Nat} (g : Gd k d) (n : Nat) : calN GS T (n + 2) 3 [d] = some (.sh (.bl (wrd 0 60 d))) := by
  rw [calN_eq (d := d_is_keys) rfl]
  have h := is_word_ok g 0 60 n
  generalize calN GS T (n + 1) = cal at h
  replace h : cal 0 [d, .int 0, .int 60] = _ := h
  refine def_of rfl (wp_seq (wp_ret (s := .sh (.bl (wrd 0 60 d))) ?_ rfl))
  show (evA (lk GS) cal _ [some (.sh d)]).s = _
  simp (config := {implicitDefEqProofs := false, decide := true}) only [e_var, e_cI, e_cS, e_cB, e_cN, e_neg, e_glb, e_bin, e_cmp, e_chain, e_and, e_or, e_not, e_ite, e_idx, e_slc, e_rev, e_call, e_glist, e_bi1, e_biR, e_max2, e_isi, e_isi2, e_sset, e_lset, e_join, e_index, e_get, e_split, e_tupE, e_lstE, e_dicK, e_dicT, e_dic1, e_dic1T, e_rng1, e_rng2, e_enum, e_zip, e_items, e_nil, e_cons, W_s, W_b, W_l, W_p, W_c, W_i, W_it, two_ss, dOf_s, d_sh, d_ol, d_ok, d_ot, asB_bl, asI_i, cons_ss, rd_0, rd_s, sh_sh, nd_sh, nd_ol, and_t, and_f, or_t, or_f, bl_s, dsl_s, ite_t, ite_f, slc_s, max_i, o_addI, o_subI, c_lt, c_le, c_gt, c_ge, c_eq, c_ne, c_in, c_nin, eq_ii, eq_ss, is_nn, ix_tup, ix_lst, ix_scr, ix_str, len_str, len_lst, len_tup, len_scr, wd_lst, wd_tup, wd_str, Option.map_some, Option.bind_some, List.map_cons, List.map_nil, rd_ne, rd_eq, rd_hid, hid_sh, hi_var, hi_cS, hi_glb, hi_bin, hi_ite, hi_idx, hi_slc, hi_rev, hi_call, hi_glist, hi_bi1, hi_biR, hi_sset, hi_join, hi_tupE, hi_lstE, hi_lc, hi_rng1, hi_rng2, hi_enum, hi_zip, hi_items, wipe_cons, wipe_nil, List.length_set, List.set_cons_zero, List.set_cons_succ, bindT, setMany, setSl, if_true, if_false, decide_true, decide_false, Bool.not_true, Bool.not_false, isTy, tup_0, lst_0, tup_1, lst_1, tup_2, lst_2, tup_3, lst_3, tup_4, lst_4, tup_5, lst_5, tup_6, lst_6, tup_7, lst_7, tup_8, lst_8, tup_9, lst_9, tup_10, lst_10, tup_11, lst_11, tup_12, lst_12, h]
theorem is_list_ok {d : D} {k : Nat} (g : Gd k d) (hw : wt d ≤ 10000) (n : Nat) : calN GS T (n + 3) 2 [d] = some (.sh (.bl (isl d))) := by
  rw [calN_eq (d := d_is_list) rfl]
  have hN := fun (e : D) (k : Nat) (g : Gd k e) => is_name_ok g n
  generalize calN GS T (n + 2) = cal at hN
  refine def_of rfl (wp_seq (wp_ret (s := .sh (.bl (isl d))) ?_ rfl))
  show (evA (lk GS) cal _ [some (.sh d), none]).s = _
  cases g with
  | @tup k ds h =>
    have hl := wtL_len ds
    rw [wt_t] at hw
    have e : evA (lk GS) cal (.bi1 .allO (.lc [1] (.call 1 (.cons (.var 1) .nil)) (.one 1) (.var 0) .nil)) [some (.sh (.tup ds)), none] = .of (some (.sh (.bl (ds.all (wrd 1 8))))) := by
      rw [e_bi1, e_lcF (xs := ds) id (fun c => .bl (wrd 1 8 c)) (by simp (config := {implicitDefEqProofs := false, decide := true}) only [e_var, e_cI, e_cS, e_cB, e_cN, e_neg, e_glb, e_bin, e_cmp, e_chain, e_and, e_or, e_not, e_ite, e_idx, e_slc, e_rev, e_call, e_glist, e_bi1, e_biR, e_max2, e_isi, e_isi2, e_sset, e_lset, e_join, e_index, e_get, e_split, e_tupE, e_lstE, e_dicK, e_dicT, e_dic1, e_dic1T, e_rng1, e_rng2, e_enum, e_zip, e_items, e_nil, e_cons, W_s, W_b, W_l, W_p, W_c, W_i, W_it, two_ss, dOf_s, d_sh, d_ol, d_ok, d_ot, asB_bl, asI_i, cons_ss, rd_0, rd_s, sh_sh, nd_sh, nd_ol, and_t, and_f, or_t, or_f, bl_s, dsl_s, ite_t, ite_f, slc_s, max_i, o_addI, o_subI, c_lt, c_le, c_gt, c_ge, c_eq, c_ne, c_in, c_nin, eq_ii, eq_ss, is_nn, ix_tup, ix_lst, ix_scr, ix_str, len_str, len_lst, len_tup, len_scr, wd_lst, wd_tup, wd_str, Option.map_some, Option.bind_some, List.map_cons, List.map_nil, rd_ne, rd_eq, rd_hid, hid_sh, hi_var, hi_cS, hi_glb, hi_bin, hi_ite, hi_idx, hi_slc, hi_rev, hi_call, hi_glist, hi_bi1, hi_biR, hi_sset, hi_join, hi_tupE, hi_lstE, hi_lc, hi_rng1, hi_rng2, hi_enum, hi_zip, hi_items, wipe_cons, wipe_nil, List.length_set, List.set_cons_zero, List.set_cons_succ, bindT, setMany, setSl, if_true, if_false, decide_true, decide_false, Bool.not_true, Bool.not_false, isTy, tup_0, lst_0, tup_1, lst_1, tup_2, lst_2, tup_3, lst_3, tup_4, lst_4, tup_5, lst_5, tup_6, lst_6, tup_7, lst_7, tup_8, lst_8, tup_9, lst_9, tup_10, lst_10, tup_11, lst_11, tup_12, lst_12, List.map_id]) (by rw [sz]; omega) (fun c hc => ⟨_, rfl, ?_⟩)]
      · rw [W_b, dOf_s, d_ol, Option.bind_some, all_mapF]
      · simp (config := {implicitDefEqProofs := false, decide := true}) only [e_var, e_cI, e_cS, e_cB, e_cN, e_neg, e_glb, e_bin, e_cmp, e_chain, e_and, e_or, e_not, e_ite, e_idx, e_slc, e_rev, e_call, e_glist, e_bi1, e_biR, e_max2, e_isi, e_isi2, e_sset, e_lset, e_join, e_index, e_get, e_split, e_tupE, e_lstE, e_dicK, e_dicT, e_dic1, e_dic1T, e_rng1, e_rng2, e_enum, e_zip, e_items, e_nil, e_cons, W_s, W_b, W_l, W_p, W_c, W_i, W_it, two_ss, dOf_s, d_sh, d_ol, d_ok, d_ot, asB_bl, asI_i, cons_ss, rd_0, rd_s, sh_sh, nd_sh, nd_ol, and_t, and_f, or_t, or_f, bl_s, dsl_s, ite_t, ite_f, slc_s, max_i, o_addI, o_subI, c_lt, c_le, c_gt, c_ge, c_eq, c_ne, c_in, c_nin, eq_ii, eq_ss, is_nn, ix_tup, ix_lst, ix_scr, ix_str, len_str, len_lst, len_tup, len_scr, wd_lst, wd_tup, wd_str, Option.map_some, Option.bind_some, List.map_cons, List.map_nil, rd_ne, rd_eq, rd_hid, hid_sh, hi_var, hi_cS, hi_glb, hi_bin, hi_ite, hi_idx, hi_slc, hi_rev, hi_call, hi_glist, hi_bi1, hi_biR, hi_sset, hi_join, hi_tupE, hi_lstE, hi_lc, hi_rng1, hi_rng2, hi_enum, hi_zip, hi_items, wipe_cons, wipe_nil, List.length_set, List.set_cons_zero, List.set_cons_succ, bindT, setMany, setSl, if_true, if_false, decide_true, decide_false, Bool.not_true, Bool.not_false, isTy, tup_0, lst_0, tup_1, lst_1, tup_2, lst_2, tup_3, lst_3, tup_4, lst_4, tup_5, lst_5, tup_6, lst_6, tup_7, lst_7, tup_8, lst_8, tup_9, lst_9, tup_10, lst_10, tup_11, lst_11, tup_12, lst_12, id, hN c k (h c hc)]
    rw [e_and, e_and, e]
    simp (config := {implicitDefEqProofs := false, decide := true}) only [e_var, e_cI, e_cS, e_cB, e_cN, e_neg, e_glb, e_bin, e_cmp, e_chain, e_and, e_or, e_not, e_ite, e_idx, e_slc, e_rev, e_call, e_glist, e_bi1, e_biR, e_max2, e_isi, e_isi2, e_sset, e_lset, e_join, e_index, e_get, e_split, e_tupE, e_lstE, e_dicK, e_dicT, e_dic1, e_dic1T, e_rng1, e_rng2, e_enum, e_zip, e_items, e_nil, e_cons, W_s, W_b, W_l, W_p, W_c, W_i, W_it, two_ss, dOf_s, d_sh, d_ol, d_ok, d_ot, asB_bl, asI_i, cons_ss, rd_0, rd_s, sh_sh, nd_sh, nd_ol, and_t, and_f, or_t, or_f, bl_s, dsl_s, ite_t, ite_f, slc_s, max_i, o_addI, o_subI, c_lt, c_le, c_gt, c_ge, c_eq, c_ne, c_in, c_nin, eq_ii, eq_ss, is_nn, ix_tup, ix_lst, ix_scr, ix_str, len_str, len_lst, len_tup, len_scr, wd_lst, wd_tup, wd_str, Option.map_some, Option.bind_some, List.map_cons, List.map_nil, rd_ne, rd_eq, rd_hid, hid_sh, hi_var, hi_cS, hi_glb, hi_bin, hi_ite, hi_idx, hi_slc, hi_rev, hi_call, hi_glist, hi_bi1, hi_biR, hi_sset, hi_join, hi_tupE, hi_lstE, hi_lc, hi_rng1, hi_rng2, hi_enum, hi_zip, hi_items, wipe_cons, wipe_nil, List.length_set, List.set_cons_zero, List.set_cons_succ, bindT, setMany, setSl, if_true, if_false, decide_true, decide_false, Bool.not_true, Bool.not_false, isTy, tup_0, lst_0, tup_1, lst_1, tup_2, lst_2, tup_3, lst_3, tup_4, lst_4, tup_5, lst_5, tup_6, lst_6, tup_7, lst_7, tup_8, lst_8, tup_9, lst_9, tup_10, lst_10, tup_11, lst_11, tup_12, lst_12, chn_le, and_bb, dec_le1, dec_le30]
    rfl
  | non => simp (config := {implicitDefEqProofs := false, decide := true}) only [e_var, e_cI, e_cS, e_cB, e_cN, e_neg, e_glb, e_bin, e_cmp, e_chain, e_and, e_or, e_not, e_ite, e_idx, e_slc, e_rev, e_call, e_glist, e_bi1, e_biR, e_max2, e_isi, e_isi2, e_sset, e_lset, e_join, e_index, e_get, e_split, e_tupE, e_lstE, e_dicK, e_dicT, e_dic1, e_dic1T, e_rng1, e_rng2, e_enum, e_zip, e_items, e_nil, e_cons, W_s, W_b, W_l, W_p, W_c, W_i, W_it, two_ss, dOf_s, d_sh, d_ol, d_ok, d_ot, asB_bl, asI_i, cons_ss, rd_0, rd_s, sh_sh, nd_sh, nd_ol, and_t, and_f, or_t, or_f, bl_s, dsl_s, ite_t, ite_f, slc_s, max_i, o_addI, o_subI, c_lt, c_le, c_gt, c_ge, c_eq, c_ne, c_in, c_nin, eq_ii, eq_ss, is_nn, ix_tup, ix_lst, ix_scr, ix_str, len_str, len_lst, len_tup, len_scr, wd_lst, wd_tup, wd_str, Option.map_some, Option.bind_some, List.map_cons, List.map_nil, rd_ne, rd_eq, rd_hid, hid_sh, hi_var, hi_cS, hi_glb, hi_bin, hi_ite, hi_idx, hi_slc, hi_rev, hi_call, hi_glist, hi_bi1, hi_biR, hi_sset, hi_join, hi_tupE, hi_lstE, hi_lc, hi_rng1, hi_rng2, hi_enum, hi_zip, hi_items, wipe_cons, wipe_nil, List.length_set, List.set_cons_zero, List.set_cons_succ, bindT, setMany, setSl, if_true, if_false, decide_true, decide_false, Bool.not_true, Bool.not_false, isTy, tup_0, lst_0, tup_1, lst_1, tup_2, lst_2, tup_3, lst_3, tup_4, lst_4, tup_5, lst_5, tup_6, lst_6, tup_7, lst_7, tup_8, lst_8, tup_9, lst_9, tup_10, lst_10, tup_11, lst_11, tup_12, lst_12, isl]
  | bl => simp (config := {implicitDefEqProofs := false, decide := true}) only [e_var, e_cI, e_cS, e_cB, e_cN, e_neg, e_glb, e_bin, e_cmp, e_chain, e_and, e_or, e_not, e_ite, e_idx, e_slc, e_rev, e_call, e_glist, e_bi1, e_biR, e_max2, e_isi, e_isi2, e_sset, e_lset, e_join, e_index, e_get, e_split, e_tupE, e_lstE, e_dicK, e_dicT, e_dic1, e_dic1T, e_rng1, e_rng2, e_enum, e_zip, e_items, e_nil, e_cons, W_s, W_b, W_l, W_p, W_c, W_i, W_it, two_ss, dOf_s, d_sh, d_ol, d_ok, d_ot, asB_bl, asI_i, cons_ss, rd_0, rd_s, sh_sh, nd_sh, nd_ol, and_t, and_f, or_t, or_f, bl_s, dsl_s, ite_t, ite_f, slc_s, max_i, o_addI, o_subI, c_lt, c_le, c_gt, c_ge, c_eq, c_ne, c_in, c_nin, eq_ii, eq_ss, is_nn, ix_tup, ix_lst, ix_scr, ix_str, len_str, len_lst, len_tup, len_scr, wd_lst, wd_tup, wd_str, Option.map_some, Option.bind_some, List.map_cons, List.map_nil, rd_ne, rd_eq, rd_hid, hid_sh, hi_var, hi_cS, hi_glb, hi_bin, hi_ite, hi_idx, hi_slc, hi_rev, hi_call, hi_glist, hi_bi1, hi_biR, hi_sset, hi_join, hi_tupE, hi_lstE, hi_lc, hi_rng1, hi_rng2, hi_enum, hi_zip, hi_items, wipe_cons, wipe_nil, List.length_set, List.set_cons_zero, List.set_cons_succ, bindT, setMany, setSl, if_true, if_false, decide_true, decide_false, Bool.not_true, Bool.not_false, isTy, tup_0, lst_0, tup_1, lst_1, tup_2, lst_2, tup_3, lst_3, tup_4, lst_4, tup_5, lst_5, tup_6, lst_6, tup_7, lst_7, tup_8, lst_8, tup_9, lst_9, tup_10, lst_10, tup_11, lst_11, tup_12, lst_12, isl]
  | int => simp (config := {implicitDefEqProofs := false, decide := true}) only [e_var, e_cI, e_cS, e_cB, e_cN, e_neg, e_glb, e_bin, e_cmp, e_chain, e_and, e_or, e_not, e_ite, e_idx, e_slc, e_rev, e_call, e_glist, e_bi1, e_biR, e_max2, e_isi, e_isi2, e_sset, e_lset, e_join, e_index, e_get, e_split, e_tupE, e_lstE, e_dicK, e_dicT, e_dic1, e_dic1T, e_rng1, e_rng2, e_enum, e_zip, e_items, e_nil, e_cons, W_s, W_b, W_l, W_p, W_c, W_i, W_it, two_ss, dOf_s, d_sh, d_ol, d_ok, d_ot, asB_bl, asI_i, cons_ss, rd_0, rd_s, sh_sh, nd_sh, nd_ol, and_t, and_f, or_t, or_f, bl_s, dsl_s, ite_t, ite_f, slc_s, max_i, o_addI, o_subI, c_lt, c_le, c_gt, c_ge, c_eq, c_ne, c_in, c_nin, eq_ii, eq_ss, is_nn, ix_tup, ix_lst, ix_scr, ix_str, len_str, len_lst, len_tup, len_scr, wd_lst, wd_tup, wd_str, Option.map_some, Option.bind_some, List.map_cons, List.map_nil, rd_ne, rd_eq, rd_hid, hid_sh, hi_var, hi_cS, hi_glb, hi_bin, hi_ite, hi_idx, hi_slc, hi_rev, hi_call, hi_glist, hi_bi1, hi_biR, hi_sset, hi_join, hi_tupE, hi_lstE, hi_lc, hi_rng1, hi_rng2, hi_enum, hi_zip, hi_items, wipe_cons, wipe_nil, List.length_set, List.set_cons_zero, List.set_cons_succ, bindT, setMany, setSl, if_true, if_false, decide_true, decide_false, Bool.not_true, Bool.not_false, isTy, tup_0, lst_0, tup_1, lst_1, tup_2, lst_2, tup_3, lst_3, tup_4, lst_4, tup_5, lst_5, tup_6, lst_6, tup_7, lst_7, tup_8, lst_8, tup_9, lst_9, tup_10, lst_10, tup_11, lst_11, tup_12, lst_12, isl]
  | lst h => simp (config := {implicitDefEqProofs := false, decide := true}) only [e_var, e_cI, e_cS, e_cB, e_cN, e_neg, e_glb, e_bin, e_cmp, e_chain, e_and, e_or, e_not, e_ite, e_idx, e_slc, e_rev, e_call, e_glist, e_bi1, e_biR, e_max2, e_isi, e_isi2, e_sset, e_lset, e_join, e_index, e_get, e_split, e_tupE, e_lstE, e_dicK, e_dicT, e_dic1, e_dic1T, e_rng1, e_rng2, e_enum, e_zip, e_items, e_nil, e_cons, W_s, W_b, W_l, W_p, W_c, W_i, W_it, two_ss, dOf_s, d_sh, d_ol, d_ok, d_ot, asB_bl, asI_i, cons_ss, rd_0, rd_s, sh_sh, nd_sh, nd_ol, and_t, and_f, or_t, or_f, bl_s, dsl_s, ite_t, ite_f, slc_s, max_i, o_addI, o_subI, c_lt, c_le, c_gt, c_ge, c_eq, c_ne, c_in, c_nin, eq_ii, eq_ss, is_nn, ix_tup, ix_lst, ix_scr, ix_str, len_str, len_lst, len_tup, len_scr, wd_lst, wd_tup, wd_str, Option.map_some, Option.bind_some, List.map_cons, List.map_nil, rd_ne, rd_eq, rd_hid, hid_sh, hi_var, hi_cS, hi_glb, hi_bin, hi_ite, hi_idx, hi_slc, hi_rev, hi_call, hi_glist, hi_bi1, hi_biR, hi_sset, hi_join, hi_tupE, hi_lstE, hi_lc, hi_rng1, hi_rng2, hi_enum, hi_zip, hi_items, wipe_cons, wipe_nil, List.length_set, List.set_cons_zero, List.set_cons_succ, bindT, setMany, setSl, if_true, if_false, decide_true, decide_false, Bool.not_true, Bool.not_false, isTy, tup_0, lst_0, tup_1, lst_1, tup_2, lst_2, tup_3, lst_3, tup_4, lst_4, tup_5, lst_5, tup_6, lst_6, tup_7, lst_7, tup_8, lst_8, tup_9, lst_9, tup_10, lst_10, tup_11, lst_11, tup_12, lst_12, isl]
  | str h => simp (config := {implicitDefEqProofs := false, decide := true}) only [e_var, e_cI, e_cS, e_cB, e_cN, e_neg, e_glb, e_bin, e_cmp, e_chain, e_and, e_or, e_not, e_ite, e_idx, e_slc, e_rev, e_call, e_glist, e_bi1, e_biR, e_max2, e_isi, e_isi2, e_sset, e_lset, e_join, e_index, e_get, e_split, e_tupE, e_lstE, e_dicK, e_dicT, e_dic1, e_dic1T, e_rng1, e_rng2, e_enum, e_zip, e_items, e_nil, e_cons, W_s, W_b, W_l, W_p, W_c, W_i, W_it, two_ss, dOf_s, d_sh, d_ol, d_ok, d_ot, asB_bl, asI_i, cons_ss, rd_0, rd_s, sh_sh, nd_sh, nd_ol, and_t, and_f, or_t, or_f, bl_s, dsl_s, ite_t, ite_f, slc_s, max_i, o_addI, o_subI, c_lt, c_le, c_gt, c_ge, c_eq, c_ne, c_in, c_nin, eq_ii, eq_ss, is_nn, ix_tup, ix_lst, ix_scr, ix_str, len_str, len_lst, len_tup, len_scr, wd_lst, wd_tup, wd_str, Option.map_some, Option.bind_some, List.map_cons, List.map_nil, rd_ne, rd_eq, rd_hid, hid_sh, hi_var, hi_cS, hi_glb, hi_bin, hi_ite, hi_idx, hi_slc, hi_rev, hi_call, hi_glist, hi_bi1, hi_biR, hi_sset, hi_join, hi_tupE, hi_lstE, hi_lc, hi_rng1, hi_rng2, hi_enum, hi_zip, hi_items, wipe_cons, wipe_nil, List.length_set, List.set_cons_zero, List.set_cons_succ, bindT, setMany, setSl, if_true, if_false, decide_true, decide_false, Bool.not_true, Bool.not_false, isTy, tup_0, lst_0, tup_1, lst_1, tup_2, lst_2, tup_3, lst_3, tup_4, lst_4, tup_5, lst_5, tup_6, lst_6, tup_7, lst_7, tup_8, lst_8, tup_9, lst_9, tup_10, lst_10, tup_11, lst_11, tup_12, lst_12, isl]
/-! #### the law's own checks -/
theorem all_not_any {α : Type} (p : α → Bool) (xs : List α) : (xs.filter fun x => !p x).isEmpty = xs.all p := by
  induction xs with
  | nil => rfl
  | cons x xs ih =>
    rw [List.filter_cons, List.all_cons]
    cases p x with
    | true => simpa using ih
    | false => rfl
theorem law_is_word_ok {d : D} {k : Nat} (g : Gd k d) (lo hi : Nat) (n : Nat) : calN GS T (n + 1) 16 [d, .int (lo : Nat), .int (hi : Nat)] = some (.sh (.bl (wrd lo hi d))) := by
  rw [calN_eq (d := d__law_is_word) rfl]
  generalize calN GS T n = cal
  refine def_of rfl ?_
  show Wp (ex (lk GS) cal _ [some (.sh d), some (.sh (.int lo)), some (.sh (.int hi)), none]) _ _ _
  cases g with
  | @str _ x h =>
    have e : (evA (lk GS) cal (.lc [3] (.var 3) (.one 3) (.var 0) (.cmp .nin (.var 3) (.cS (Str.ofString "abcdefghijklmnopqrstuvwxyz")))) [some (.sh (.str x)), some (.sh (.int lo)), some (.sh (.int hi)), none]) = .of (some (.ol ((x.cps.toList.filter fun c => !decide (c ∈ List.range' 97 26)).map sgn))) := by
      rw [e_lcP (xs := x.cps.toList) sgn sgn (fun c => !decide (c ∈ List.range' 97 26)) (by simp (config := {implicitDefEqProofs := false, decide := true}) only [e_var, e_cI, e_cS, e_cB, e_cN, e_neg, e_glb, e_bin, e_cmp, e_chain, e_and, e_or, e_not, e_ite, e_idx, e_slc, e_rev, e_call, e_glist, e_bi1, e_biR, e_max2, e_isi, e_isi2, e_sset, e_lset, e_join, e_index, e_get, e_split, e_tupE, e_lstE, e_dicK, e_dicT, e_dic1, e_dic1T, e_rng1, e_rng2, e_enum, e_zip, e_items, e_nil, e_cons, W_s, W_b, W_l, W_p, W_c, W_i, W_it, two_ss, dOf_s, d_sh, d_ol, d_ok, d_ot, asB_bl, asI_i, cons_ss, rd_0, rd_s, sh_sh, nd_sh, nd_ol, and_t, and_f, or_t, or_f, bl_s, dsl_s, ite_t, ite_f, slc_s, max_i, o_addI, o_subI, c_lt, c_le, c_gt, c_ge, c_eq, c_ne, c_in, c_nin, eq_ii, eq_ss, is_nn, ix_tup, ix_lst, ix_scr, ix_str, len_str, len_lst, len_tup, len_scr, wd_lst, wd_tup, wd_str, Option.map_some, Option.bind_some, List.map_cons, List.map_nil, rd_ne, rd_eq, rd_hid, hid_sh, hi_var, hi_cS, hi_glb, hi_bin, hi_ite, hi_idx, hi_slc, hi_rev, hi_call, hi_glist, hi_bi1, hi_biR, hi_sset, hi_join, hi_tupE, hi_lstE, hi_lc, hi_rng1, hi_rng2, hi_enum, hi_zip, hi_items, wipe_cons, wipe_nil, List.length_set, List.set_cons_zero, List.set_cons_succ, bindT, setMany, setSl, if_true, if_false, decide_true, decide_false, Bool.not_true, Bool.not_false, isTy, tup_0, lst_0, tup_1, lst_1, tup_2, lst_2, tup_3, lst_3, tup_4, lst_4, tup_5, lst_5, tup_6, lst_6, tup_7, lst_7, tup_8, lst_8, tup_9, lst_9, tup_10, lst_10, tup_11, lst_11, tup_12, lst_12]) (by rw [str_sz, sz]; omega) (fun c hc => ⟨_, rfl, ?_, fun _ => by simp (config := {implicitDefEqProofs := false, decide := true}) only [e_var, e_cI, e_cS, e_cB, e_cN, e_neg, e_glb, e_bin, e_cmp, e_chain, e_and, e_or, e_not, e_ite, e_idx, e_slc, e_rev, e_call, e_glist, e_bi1, e_biR, e_max2, e_isi, e_isi2, e_sset, e_lset, e_join, e_index, e_get, e_split, e_tupE, e_lstE, e_dicK, e_dicT, e_dic1, e_dic1T, e_rng1, e_rng2, e_enum, e_zip, e_items, e_nil, e_cons, W_s, W_b, W_l, W_p, W_c, W_i, W_it, two_ss, dOf_s, d_sh, d_ol, d_ok, d_ot, asB_bl, asI_i, cons_ss, rd_0, rd_s, sh_sh, nd_sh, nd_ol, and_t, and_f, or_t, or_f, bl_s, dsl_s, ite_t, ite_f, slc_s, max_i, o_addI, o_subI, c_lt, c_le, c_gt, c_ge, c_eq, c_ne, c_in, c_nin, eq_ii, eq_ss, is_nn, ix_tup, ix_lst, ix_scr, ix_str, len_str, len_lst, len_tup, len_scr, wd_lst, wd_tup, wd_str, Option.map_some, Option.bind_some, List.map_cons, List.map_nil, rd_ne, rd_eq, rd_hid, hid_sh, hi_var, hi_cS, hi_glb, hi_bin, hi_ite, hi_idx, hi_slc, hi_rev, hi_call, hi_glist, hi_bi1, hi_biR, hi_sset, hi_join, hi_tupE, hi_lstE, hi_lc, hi_rng1, hi_rng2, hi_enum, hi_zip, hi_items, wipe_cons, wipe_nil, List.length_set, List.set_cons_zero, List.set_cons_succ, bindT, setMany, setSl, if_true, if_false, decide_true, decide_false, Bool.not_true, Bool.not_false, isTy, tup_0, lst_0, tup_1, lst_1, tup_2, lst_2, tup_3, lst_3, tup_4, lst_4, tup_5, lst_5, tup_6, lst_6, tup_7, lst_7, tup_8, lst_8, tup_9, lst_9, tup_10, lst_10, tup_11, lst_11, tup_12, lst_12]⟩)]
      simp (config := {implicitDefEqProofs := false, decide := true}) only [e_var, e_cI, e_cS, e_cB, e_cN, e_neg, e_glb, e_bin, e_cmp, e_chain, e_and, e_or, e_not, e_ite, e_idx, e_slc, e_rev, e_call, e_glist, e_bi1, e_biR, e_max2, e_isi, e_isi2, e_sset, e_lset, e_join, e_index, e_get, e_split, e_tupE, e_lstE, e_dicK, e_dicT, e_dic1, e_dic1T, e_rng1, e_rng2, e_enum, e_zip, e_items, e_nil, e_cons, W_s, W_b, W_l, W_p, W_c, W_i, W_it, two_ss, dOf_s, d_sh, d_ol, d_ok, d_ot, asB_bl, asI_i, cons_ss, rd_0, rd_s, sh_sh, nd_sh, nd_ol, and_t, and_f, or_t, or_f, bl_s, dsl_s, ite_t, ite_f, slc_s, max_i, o_addI, o_subI, c_lt, c_le, c_gt, c_ge, c_eq, c_ne, c_in, c_nin, eq_ii, eq_ss, is_nn, ix_tup, ix_lst, ix_scr, ix_str, len_str, len_lst, len_tup, len_scr, wd_lst, wd_tup, wd_str, Option.map_some, Option.bind_some, List.map_cons, List.map_nil, rd_ne, rd_eq, rd_hid, hid_sh, hi_var, hi_cS, hi_glb, hi_bin, hi_ite, hi_idx, hi_slc, hi_rev, hi_call, hi_glist, hi_bi1, hi_biR, hi_sset, hi_join, hi_tupE, hi_lstE, hi_lc, hi_rng1, hi_rng2, hi_enum, hi_zip, hi_items, wipe_cons, wipe_nil, List.length_set, List.set_cons_zero, List.set_cons_succ, bindT, setMany, setSl, if_true, if_false, decide_true, decide_false, Bool.not_true, Bool.not_false, isTy, tup_0, lst_0, tup_1, lst_1, tup_2, lst_2, tup_3, lst_3, tup_4, lst_4, tup_5, lst_5, tup_6, lst_6, tup_7, lst_7, tup_8, lst_8, tup_9, lst_9, tup_10, lst_10, tup_11, lst_11, tup_12, lst_12, sgn_ofL, in_str, az_cps]
    refine wp_seq (wp_ite (t := !(decide (lo ≤ x.length) && decide (x.length ≤ hi))) ?_ (fun ht => ?_) (fun ht => ?_))
    · simp (config := {implicitDefEqProofs := false, decide := true}) only [e_var, e_cI, e_cS, e_cB, e_cN, e_neg, e_glb, e_bin, e_cmp, e_chain, e_and, e_or, e_not, e_ite, e_idx, e_slc, e_rev, e_call, e_glist, e_bi1, e_biR, e_max2, e_isi, e_isi2, e_sset, e_lset, e_join, e_index, e_get, e_split, e_tupE, e_lstE, e_dicK, e_dicT, e_dic1, e_dic1T, e_rng1, e_rng2, e_enum, e_zip, e_items, e_nil, e_cons, W_s, W_b, W_l, W_p, W_c, W_i, W_it, two_ss, dOf_s, d_sh, d_ol, d_ok, d_ot, asB_bl, asI_i, cons_ss, rd_0, rd_s, sh_sh, nd_sh, nd_ol, and_t, and_f, or_t, or_f, bl_s, dsl_s, ite_t, ite_f, slc_s, max_i, o_addI, o_subI, c_lt, c_le, c_gt, c_ge, c_eq, c_ne, c_in, c_nin, eq_ii, eq_ss, is_nn, ix_tup, ix_lst, ix_scr, ix_str, len_str, len_lst, len_tup, len_scr, wd_lst, wd_tup, wd_str, Option.map_some, Option.bind_some, List.map_cons, List.map_nil, rd_ne, rd_eq, rd_hid, hid_sh, hi_var, hi_cS, hi_glb, hi_bin, hi_ite, hi_idx, hi_slc, hi_rev, hi_call, hi_glist, hi_bi1, hi_biR, hi_sset, hi_join, hi_tupE, hi_lstE, hi_lc, hi_rng1, hi_rng2, hi_enum, hi_zip, hi_items, wipe_cons, wipe_nil, List.length_set, List.set_cons_zero, List.set_cons_succ, bindT, setMany, setSl, if_true, if_false, decide_true, decide_false, Bool.not_true, Bool.not_false, isTy, tup_0, lst_0, tup_1, lst_1, tup_2, lst_2, tup_3, lst_3, tup_4, lst_4, tup_5, lst_5, tup_6, lst_6, tup_7, lst_7, tup_8, lst_8, tup_9, lst_9, tup_10, lst_10, tup_11, lst_11, tup_12, lst_12, chn_le, dec_le]
    · refine wp_seq (wp_ret (s := .sh (.bl false)) (by simp (config := {implicitDefEqProofs := false, decide := true}) only [e_var, e_cI, e_cS, e_cB, e_cN, e_neg, e_glb, e_bin, e_cmp, e_chain, e_and, e_or, e_not, e_ite, e_idx, e_slc, e_rev, e_call, e_glist, e_bi1, e_biR, e_max2, e_isi, e_isi2, e_sset, e_lset, e_join, e_index, e_get, e_split, e_tupE, e_lstE, e_dicK, e_dicT, e_dic1, e_dic1T, e_rng1, e_rng2, e_enum, e_zip, e_items, e_nil, e_cons, W_s, W_b, W_l, W_p, W_c, W_i, W_it, two_ss, dOf_s, d_sh, d_ol, d_ok, d_ot, asB_bl, asI_i, cons_ss, rd_0, rd_s, sh_sh, nd_sh, nd_ol, and_t, and_f, or_t, or_f, bl_s, dsl_s, ite_t, ite_f, slc_s, max_i, o_addI, o_subI, c_lt, c_le, c_gt, c_ge, c_eq, c_ne, c_in, c_nin, eq_ii, eq_ss, is_nn, ix_tup, ix_lst, ix_scr, ix_str, len_str, len_lst, len_tup, len_scr, wd_lst, wd_tup, wd_str, Option.map_some, Option.bind_some, List.map_cons, List.map_nil, rd_ne, rd_eq, rd_hid, hid_sh, hi_var, hi_cS, hi_glb, hi_bin, hi_ite, hi_idx, hi_slc, hi_rev, hi_call, hi_glist, hi_bi1, hi_biR, hi_sset, hi_join, hi_tupE, hi_lstE, hi_lc, hi_rng1, hi_rng2, hi_enum, hi_zip, hi_items, wipe_cons, wipe_nil, List.length_set, List.set_cons_zero, List.set_cons_succ, bindT, setMany, setSl, if_true, if_false, decide_true, decide_false, Bool.not_true, Bool.not_false, isTy, tup_0, lst_0, tup_1, lst_1, tup_2, lst_2, tup_3, lst_3, tup_4, lst_4, tup_5, lst_5, tup_6, lst_6, tup_7, lst_7, tup_8, lst_8, tup_9, lst_9, tup_10, lst_10, tup_11, lst_11, tup_12, lst_12]) ?_)
      rw [Bool.not_eq_true'] at ht
      show Slot.sh (.bl false) = Slot.sh (.bl (decide (lo ≤ x.length) && decide (x.length ≤ hi) && _))
      rw [ht, Bool.false_and]
    · rw [Bool.not_eq_false'] at ht
      refine wp_skip (wp_seq (wp_ret (s := .sh (.bl (x.cps.toList.all fun c => decide (c ∈ List.range' 97 26)))) ?_ ?_))
      · rw [e_cmp, show (.cS "abcdefghijklmnopqrstuvwxyz" : E) = .cS (Str.ofString "abcdefghijklmnopqrstuvwxyz") from rfl, e]
        simp (config := {implicitDefEqProofs := false, decide := true}) only [e_var, e_cI, e_cS, e_cB, e_cN, e_neg, e_glb, e_bin, e_cmp, e_chain, e_and, e_or, e_not, e_ite, e_idx, e_slc, e_rev, e_call, e_glist, e_bi1, e_biR, e_max2, e_isi, e_isi2, e_sset, e_lset, e_join, e_index, e_get, e_split, e_tupE, e_lstE, e_dicK, e_dicT, e_dic1, e_dic1T, e_rng1, e_rng2, e_enum, e_zip, e_items, e_nil, e_cons, W_s, W_b, W_l, W_p, W_c, W_i, W_it, two_ss, dOf_s, d_sh, d_ol, d_ok, d_ot, asB_bl, asI_i, cons_ss, rd_0, rd_s, sh_sh, nd_sh, nd_ol, and_t, and_f, or_t, or_f, bl_s, dsl_s, ite_t, ite_f, slc_s, max_i, o_addI, o_subI, c_lt, c_le, c_gt, c_ge, c_eq, c_ne, c_in, c_nin, eq_ii, eq_ss, is_nn, ix_tup, ix_lst, ix_scr, ix_str, len_str, len_lst, len_tup, len_scr, wd_lst, wd_tup, wd_str, Option.map_some, Option.bind_some, List.map_cons, List.map_nil, rd_ne, rd_eq, rd_hid, hid_sh, hi_var, hi_cS, hi_glb, hi_bin, hi_ite, hi_idx, hi_slc, hi_rev, hi_call, hi_glist, hi_bi1, hi_biR, hi_sset, hi_join, hi_tupE, hi_lstE, hi_lc, hi_rng1, hi_rng2, hi_enum, hi_zip, hi_items, wipe_cons, wipe_nil, List.length_set, List.set_cons_zero, List.set_cons_succ, bindT, setMany, setSl, if_true, if_false, decide_true, decide_false, Bool.not_true, Bool.not_false, isTy, tup_0, lst_0, tup_1, lst_1, tup_2, lst_2, tup_3, lst_3, tup_4, lst_4, tup_5, lst_5, tup_6, lst_6, tup_7, lst_7, tup_8, lst_8, tup_9, lst_9, tup_10, lst_10, tup_11, lst_11, tup_12, lst_12]
        rw [eq_nil (n := 0) (fun d hd => by obtain ⟨c, _, rfl⟩ := List.mem_map.mp hd; exact .str (show 1 ≤ 1000 by decide)) (by decide)]
        have : ((x.cps.toList.filter fun c => !decide (c ∈ List.range' 97 26)).map sgn).isEmpty = x.cps.toList.all fun c => decide (c ∈ List.range' 97 26) := by
          rw [← all_not_any, List.isEmpty_map]
        rw [this]
        rfl
      · show _ = Slot.sh (.bl (decide (lo ≤ x.length) && decide (x.length ≤ hi) && _))
        rw [ht, Bool.true_and]
  | non => exact wp_seq (wp_ite (t := true) (by simp (config := {implicitDefEqProofs := false, decide := true}) only [e_var, e_cI, e_cS, e_cB, e_cN, e_neg, e_glb, e_bin, e_cmp, e_chain, e_and, e_or, e_not, e_ite, e_idx, e_slc, e_rev, e_call, e_glist, e_bi1, e_biR, e_max2, e_isi, e_isi2, e_sset, e_lset, e_join, e_index, e_get, e_split, e_tupE, e_lstE, e_dicK, e_dicT, e_dic1, e_dic1T, e_rng1, e_rng2, e_enum, e_zip, e_items, e_nil, e_cons, W_s, W_b, W_l, W_p, W_c, W_i, W_it, two_ss, dOf_s, d_sh, d_ol, d_ok, d_ot, asB_bl, asI_i, cons_ss, rd_0, rd_s, sh_sh, nd_sh, nd_ol, and_t, and_f, or_t, or_f, bl_s, dsl_s, ite_t, ite_f, slc_s, max_i, o_addI, o_subI, c_lt, c_le, c_gt, c_ge, c_eq, c_ne, c_in, c_nin, eq_ii, eq_ss, is_nn, ix_tup, ix_lst, ix_scr, ix_str, len_str, len_lst, len_tup, len_scr, wd_lst, wd_tup, wd_str, Option.map_some, Option.bind_some, List.map_cons, List.map_nil, rd_ne, rd_eq, rd_hid, hid_sh, hi_var, hi_cS, hi_glb, hi_bin, hi_ite, hi_idx, hi_slc, hi_rev, hi_call, hi_glist, hi_bi1, hi_biR, hi_sset, hi_join, hi_tupE, hi_lstE, hi_lc, hi_rng1, hi_rng2, hi_enum, hi_zip, hi_items, wipe_cons, wipe_nil, List.length_set, List.set_cons_zero, List.set_cons_succ, bindT, setMany, setSl, if_true, if_false, decide_true, decide_false, Bool.not_true, Bool.not_false, isTy, tup_0, lst_0, tup_1, lst_1, tup_2, lst_2, tup_3, lst_3, tup_4, lst_4, tup_5, lst_5, tup_6, lst_6, tup_7, lst_7, tup_8, lst_8, tup_9, lst_9, tup_10, lst_10, tup_11, lst_11, tup_12, lst_12]) (fun _ => wp_seq (wp_ret (s := .sh (.bl false)) (by simp (config := {implicitDefEqProofs := false, decide := true}) only [e_var, e_cI, e_cS, e_cB, e_cN, e_neg, e_glb, e_bin, e_cmp, e_chain, e_and, e_or, e_not, e_ite, e_idx, e_slc, e_rev, e_call, e_glist, e_bi1, e_biR, e_max2, e_isi, e_isi2, e_sset, e_lset, e_join, e_index, e_get, e_split, e_tupE, e_lstE, e_dicK, e_dicT, e_dic1, e_dic1T, e_rng1, e_rng2, e_enum, e_zip, e_items, e_nil, e_cons, W_s, W_b, W_l, W_p, W_c, W_i, W_it, two_ss, dOf_s, d_sh, d_ol, d_ok, d_ot, asB_bl, asI_i, cons_ss, rd_0, rd_s, sh_sh, nd_sh, nd_ol, and_t, and_f, or_t, or_f, bl_s, dsl_s, ite_t, ite_f, slc_s, max_i, o_addI, o_subI, c_lt, c_le, c_gt, c_ge, c_eq, c_ne, c_in, c_nin, eq_ii, eq_ss, is_nn, ix_tup, ix_lst, ix_scr, ix_str, len_str, len_lst, len_tup, len_scr, wd_lst, wd_tup, wd_str, Option.map_some, Option.bind_some, List.map_cons, List.map_nil, rd_ne, rd_eq, rd_hid, hid_sh, hi_var, hi_cS, hi_glb, hi_bin, hi_ite, hi_idx, hi_slc, hi_rev, hi_call, hi_glist, hi_bi1, hi_biR, hi_sset, hi_join, hi_tupE, hi_lstE, hi_lc, hi_rng1, hi_rng2, hi_enum, hi_zip, hi_items, wipe_cons, wipe_nil, List.length_set, List.set_cons_zero, List.set_cons_succ, bindT, setMany, setSl, if_true, if_false, decide_true, decide_false, Bool.not_true, Bool.not_false, isTy, tup_0, lst_0, tup_1, lst_1, tup_2, lst_2, tup_3, lst_3, tup_4, lst_4, tup_5, lst_5, tup_6, lst_6, tup_7, lst_7, tup_8, lst_8, tup_9, lst_9, tup_10, lst_10, tup_11, lst_11, tup_12, lst_12]) rfl)) (fun h => by cases h))
  | bl => exact wp_seq (wp_ite (t := true) (by simp (config := {implicitDefEqProofs := false, decide := true}) only [e_var, e_cI, e_cS, e_cB, e_cN, e_neg, e_glb, e_bin, e_cmp, e_chain, e_and, e_or, e_not, e_ite, e_idx, e_slc, e_rev, e_call, e_glist, e_bi1, e_biR, e_max2, e_isi, e_isi2, e_sset, e_lset, e_join, e_index, e_get, e_split, e_tupE, e_lstE, e_dicK, e_dicT, e_dic1, e_dic1T, e_rng1, e_rng2, e_enum, e_zip, e_items, e_nil, e_cons, W_s, W_b, W_l, W_p, W_c, W_i, W_it, two_ss, dOf_s, d_sh, d_ol, d_ok, d_ot, asB_bl, asI_i, cons_ss, rd_0, rd_s, sh_sh, nd_sh, nd_ol, and_t, and_f, or_t, or_f, bl_s, dsl_s, ite_t, ite_f, slc_s, max_i, o_addI, o_subI, c_lt, c_le, c_gt, c_ge, c_eq, c_ne, c_in, c_nin, eq_ii, eq_ss, is_nn, ix_tup, ix_lst, ix_scr, ix_str, len_str, len_lst, len_tup, len_scr, wd_lst, wd_tup, wd_str, Option.map_some, Option.bind_some, List.map_cons, List.map_nil, rd_ne, rd_eq, rd_hid, hid_sh, hi_var, hi_cS, hi_glb, hi_bin, hi_ite, hi_idx, hi_slc, hi_rev, hi_call, hi_glist, hi_bi1, hi_biR, hi_sset, hi_join, hi_tupE, hi_lstE, hi_lc, hi_rng1, hi_rng2, hi_enum, hi_zip, hi_items, wipe_cons, wipe_nil, List.length_set, List.set_cons_zero, List.set_cons_succ, bindT, setMany, setSl, if_true, if_false, decide_true, decide_false, Bool.not_true, Bool.not_false, isTy, tup_0, lst_0, tup_1, lst_1, tup_2, lst_2, tup_3, lst_3, tup_4, lst_4, tup_5, lst_5, tup_6, lst_6, tup_7, lst_7, tup_8, lst_8, tup_9, lst_9, tup_10, lst_10, tup_11, lst_11, tup_12, lst_12]) (fun _ => wp_seq (wp_ret (s := .sh (.bl false)) (by simp (config := {implicitDefEqProofs := false, decide := true}) only [e_var, e_cI, e_cS, e_cB, e_cN, e_neg, e_glb, e_bin, e_cmp, e_chain, e_and, e_or, e_not, e_ite, e_idx, e_slc, e_rev, e_call, e_glist, e_bi1, e_biR, e_max2, e_isi, e_isi2, e_sset, e_lset, e_join, e_index, e_get, e_split, e_tupE, e_lstE, e_dicK, e_dicT, e_dic1, e_dic1T, e_rng1, e_rng2, e_enum, e_zip, e_items, e_nil, e_cons, W_s, W_b, W_l, W_p, W_c, W_i, W_it, two_ss, dOf_s, d_sh, d_ol, d_ok, d_ot, asB_bl, asI_i, cons_ss, rd_0, rd_s, sh_sh, nd_sh, nd_ol, and_t, and_f, or_t, or_f, bl_s, dsl_s, ite_t, ite_f, slc_s, max_i, o_addI, o_subI, c_lt, c_le, c_gt, c_ge, c_eq, c_ne, c_in, c_nin, eq_ii, eq_ss, is_nn, ix_tup, ix_lst, ix_scr, ix_str, len_str, len_lst, len_tup, len_scr, wd_lst, wd_tup, wd_str, Option.map_some, Option.bind_some, List.map_cons, List.map_nil, rd_ne, rd_eq, rd_hid, hid_sh, hi_var, hi_cS, hi_glb, hi_bin, hi_ite, hi_idx, hi_slc, hi_rev, hi_call, hi_glist, hi_bi1, hi_biR, hi_sset, hi_join, hi_tupE, hi_lstE, hi_lc, hi_rng1, hi_rng2, hi_enum, hi_zip, hi_items, wipe_cons, wipe_nil, List.length_set, List.set_cons_zero, List.set_cons_succ, bindT, setMany, setSl, if_true, if_false, decide_true, decide_false, Bool.not_true, Bool.not_false, isTy, tup_0, lst_0, tup_1, lst_1, tup_2, lst_2, tup_3, lst_3, tup_4, lst_4, tup_5, lst_5, tup_6, lst_6, tup_7, lst_7, tup_8, lst_8, tup_9, lst_9, tup_10, lst_10, tup_11, lst_11, tup_12, lst_12]) rfl)) (fun h => by cases h))
  | int => exact wp_seq (wp_ite (t := true) (by simp (config := {implicitDefEqProofs := false, decide := true}) only [e_var, e_cI, e_cS, e_cB, e_cN, e_neg, e_glb, e_bin, e_cmp, e_chain, e_and, e_or, e_not, e_ite, e_idx, e_slc, e_rev, e_call, e_glist, e_bi1, e_biR, e_max2, e_isi, e_isi2, e_sset, e_lset, e_join, e_index, e_get, e_split, e_tupE, e_lstE, e_dicK, e_dicT, e_dic1, e_dic1T, e_rng1, e_rng2, e_enum, e_zip, e_items, e_nil, e_cons, W_s, W_b, W_l, W_p, W_c, W_i, W_it, two_ss, dOf_s, d_sh, d_ol, d_ok, d_ot, asB_bl, asI_i, cons_ss, rd_0, rd_s, sh_sh, nd_sh, nd_ol, and_t, and_f, or_t, or_f, bl_s, dsl_s, ite_t, ite_f, slc_s, max_i, o_addI, o_subI, c_lt, c_le, c_gt, c_ge, c_eq, c_ne, c_in, c_nin, eq_ii, eq_ss, is_nn, ix_tup, ix_lst, ix_scr, ix_str, len_str, len_lst, len_tup, len_scr, wd_lst, wd_tup, wd_str, Option.map_some, Option.bind_some, List.map_cons, List.map_nil, rd_ne, rd_eq, rd_hid, hid_sh, hi_var, hi_cS, hi_glb, hi_bin, hi_ite, hi_idx, hi_slc, hi_rev, hi_call, hi_glist, hi_bi1, hi_biR, hi_sset, hi_join, hi_tupE, hi_lstE, hi_lc, hi_rng1, hi_rng2, hi_enum, hi_zip, hi_items, wipe_cons, wipe_nil, List.length_set, List.set_cons_zero, List.set_cons_succ, bindT, setMany, setSl, if_true, if_false, decide_true, decide_false, Bool.not_true, Bool.not_false, isTy, tup_0, lst_0, tup_1, lst_1, tup_2, lst_2, tup_3, lst_3, tup_4, lst_4, tup_5, lst_5, tup_6, lst_6, tup_7, lst_7, tup_8, lst_8, tup_9, lst_9, tup_10, lst_10, tup_11, lst_11, tup_12, lst_12]) (fun _ => wp_seq (wp_ret (s := .sh (.bl false)) (by simp (config := {implicitDefEqProofs := false, decide := true}) only [e_var, e_cI, e_cS, e_cB, e_cN, e_neg, e_glb, e_bin, e_cmp, e_chain, e_and, e_or, e_not, e_ite, e_idx, e_slc, e_rev, e_call, e_glist, e_bi1, e_biR, e_max2, e_isi, e_isi2, e_sset, e_lset, e_join, e_index, e_get, e_split, e_tupE, e_lstE, e_dicK, e_dicT, e_dic1, e_dic1T, e_rng1, e_rng2, e_enum, e_zip, e_items, e_nil, e_cons, W_s, W_b, W_l, W_p, W_c, W_i, W_it, two_ss, dOf_s, d_sh, d_ol, d_ok, d_ot, asB_bl, asI_i, cons_ss, rd_0, rd_s, sh_sh, nd_sh, nd_ol, and_t, and_f, or_t, or_f, bl_s, dsl_s, ite_t, ite_f, slc_s, max_i, o_addI, o_subI, c_lt, c_le, c_gt, c_ge, c_eq, c_ne, c_in, c_nin, eq_ii, eq_ss, is_nn, ix_tup, ix_lst, ix_scr, ix_str, len_str, len_lst, len_tup, len_scr, wd_lst, wd_tup, wd_str, Option.map_some, Option.bind_some, List.map_cons, List.map_nil, rd_ne, rd_eq, rd_hid, hid_sh, hi_var, hi_cS, hi_glb, hi_bin, hi_ite, hi_idx, hi_slc, hi_rev, hi_call, hi_glist, hi_bi1, hi_biR, hi_sset, hi_join, hi_tupE, hi_lstE, hi_lc, hi_rng1, hi_rng2, hi_enum, hi_zip, hi_items, wipe_cons, wipe_nil, List.length_set, List.set_cons_zero, List.set_cons_succ, bindT, setMany, setSl, if_true, if_false, decide_true, decide_false, Bool.not_true, Bool.not_false, isTy, tup_0, lst_0, tup_1, lst_1, tup_2, lst_2, tup_3, lst_3, tup_4, lst_4, tup_5, lst_5, tup_6, lst_6, tup_7, lst_7, tup_8, lst_8, tup_9, lst_9, tup_10, lst_10, tup_11, lst_11, tup_12, lst_12]) rfl)) (fun h => by cases h))
  | lst h => exact wp_seq (wp_ite (t := true) (by simp (config := {implicitDefEqProofs := false, decide := true}) only [e_var, e_cI, e_cS, e_cB, e_cN, e_neg, e_glb, e_bin, e_cmp, e_chain, e_and, e_or, e_not, e_ite, e_idx, e_slc, e_rev, e_call, e_glist, e_bi1, e_biR, e_max2, e_isi, e_isi2, e_sset, e_lset, e_join, e_index, e_get, e_split, e_tupE, e_lstE, e_dicK, e_dicT, e_dic1, e_dic1T, e_rng1, e_rng2, e_enum, e_zip, e_items, e_nil, e_cons, W_s, W_b, W_l, W_p, W_c, W_i, W_it, two_ss, dOf_s, d_sh, d_ol, d_ok, d_ot, asB_bl, asI_i, cons_ss, rd_0, rd_s, sh_sh, nd_sh, nd_ol, and_t, and_f, or_t, or_f, bl_s, dsl_s, ite_t, ite_f, slc_s, max_i, o_addI, o_subI, c_lt, c_le, c_gt, c_ge, c_eq, c_ne, c_in, c_nin, eq_ii, eq_ss, is_nn, ix_tup, ix_lst, ix_scr, ix_str, len_str, len_lst, len_tup, len_scr, wd_lst, wd_tup, wd_str, Option.map_some, Option.bind_some, List.map_cons, List.map_nil, rd_ne, rd_eq, rd_hid, hid_sh, hi_var, hi_cS, hi_glb, hi_bin, hi_ite, hi_idx, hi_slc, hi_rev, hi_call, hi_glist, hi_bi1, hi_biR, hi_sset, hi_join, hi_tupE, hi_lstE, hi_lc, hi_rng1, hi_rng2, hi_enum, hi_zip, hi_items, wipe_cons, wipe_nil, List.length_set, List.set_cons_zero, List.set_cons_succ, bindT, setMany, setSl, if_true, if_false, decide_true, decide_false, Bool.not_true, Bool.not_false, isTy, tup_0, lst_0, tup_1, lst_1, tup_2, lst_2, tup_3, lst_3, tup_4, lst_4, tup_5, lst_5, tup_6, lst_6, tup_7, lst_7, tup_8, lst_8, tup_9, lst_9, tup_10, lst_10, tup_11, lst_11, tup_12, lst_12]) (fun _ => wp_seq (wp_ret (s := .sh (.bl false)) (by simp (config := {implicitDefEqProofs := false, decide := true}) only [e_var, e_cI, e_cS, e_cB, e_cN, e_neg, e_glb, e_bin, e_cmp, e_chain, e_and, e_or, e_not, e_ite, e_idx, e_slc, e_rev, e_call, e_glist, e_bi1, e_biR, e_max2, e_isi, e_isi2, e_sset, e_lset, e_join, e_index, e_get, e_split, e_tupE, e_lstE, e_dicK, e_dicT, e_dic1, e_dic1T, e_rng1, e_rng2, e_enum, e_zip, e_items, e_nil, e_cons, W_s, W_b, W_l, W_p, W_c, W_i, W_it, two_ss, dOf_s, d_sh, d_ol, d_ok, d_ot, asB_bl, asI_i, cons_ss, rd_0, rd_s, sh_sh, nd_sh, nd_ol, and_t, and_f, or_t, or_f, bl_s, dsl_s, ite_t, ite_f, slc_s, max_i, o_addI, o_subI, c_lt, c_le, c_gt, c_ge, c_eq, c_ne, c_in, c_nin, eq_ii, eq_ss, is_nn, ix_tup, ix_lst, ix_scr, ix_str, len_str, len_lst, len_tup, len_scr, wd_lst, wd_tup, wd_str, Option.map_some, Option.bind_some, List.map_cons, List.map_nil, rd_ne, rd_eq, rd_hid, hid_sh, hi_var, hi_cS, hi_glb, hi_bin, hi_ite, hi_idx, hi_slc, hi_rev, hi_call, hi_glist, hi_bi1, hi_biR, hi_sset, hi_join, hi_tupE, hi_lstE, hi_lc, hi_rng1, hi_rng2, hi_enum, hi_zip, hi_items, wipe_cons, wipe_nil, List.length_set, List.set_cons_zero, List.set_cons_succ, bindT, setMany, setSl, if_true, if_false, decide_true, decide_false, Bool.not_true, Bool.not_false, isTy, tup_0, lst_0, tup_1, lst_1, tup_2, lst_2, tup_3, lst_3, tup_4, lst_4, tup_5, lst_5, tup_6, lst_6, tup_7, lst_7, tup_8, lst_8, tup_9, lst_9, tup_10, lst_10, tup_11, lst_11, tup_12, lst_12]) rfl)) (fun h => by cases h))
  | tup h => exact wp_seq (wp_ite (t := true) (by simp (config := {implicitDefEqProofs := false, decide := true}) only [e_var, e_cI, e_cS, e_cB, e_cN, e_neg, e_glb, e_bin, e_cmp, e_chain, e_and, e_or, e_not, e_ite, e_idx, e_slc, e_rev, e_call, e_glist, e_bi1, e_biR, e_max2, e_isi, e_isi2, e_sset, e_lset, e_join, e_index, e_get, e_split, e_tupE, e_lstE, e_dicK, e_dicT, e_dic1, e_dic1T, e_rng1, e_rng2, e_enum, e_zip, e_items, e_nil, e_cons, W_s, W_b, W_l, W_p, W_c, W_i, W_it, two_ss, dOf_s, d_sh, d_ol, d_ok, d_ot, asB_bl, asI_i, cons_ss, rd_0, rd_s, sh_sh, nd_sh, nd_ol, and_t, and_f, or_t, or_f, bl_s, dsl_s, ite_t, ite_f, slc_s, max_i, o_addI, o_subI, c_lt, c_le, c_gt, c_ge, c_eq, c_ne, c_in, c_nin, eq_ii, eq_ss, is_nn, ix_tup, ix_lst, ix_scr, ix_str, len_str, len_lst, len_tup, len_scr, wd_lst, wd_tup, wd_str, Option.map_some, Option.bind_some, List.map_cons, List.map_nil, rd_ne, rd_eq, rd_hid, hid_sh, hi_var, hi_cS, hi_glb, hi_bin, hi_ite, hi_idx, hi_slc, hi_rev, hi_call, hi_glist, hi_bi1, hi_biR, hi_sset, hi_join, hi_tupE, hi_lstE, hi_lc, hi_rng1, hi_rng2, hi_enum, hi_zip, hi_items, wipe_cons, wipe_nil, List.length_set, List.set_cons_zero, List.set_cons_succ, bindT, setMany, setSl, if_true, if_false, decide_true, decide_false, Bool.not_true, Bool.not_false, isTy, tup_0, lst_0, tup_1, lst_1, tup_2, lst_2, tup_3, lst_3, tup_4, lst_4, tup_5, lst_5, tup_6, lst_6, tup_7, lst_7, tup_8, lst_8, tup_9, lst_9, tup_10, lst_10, tup_11, lst_11, tup_12, lst_12]) (fun _ => wp_seq (wp_ret (s := .sh (.bl false)) (by simp (config := {implicitDefEqProofs := false, decide := true}) only [e_var, e_cI, e_cS, e_cB, e_cN, e_neg, e_glb, e_bin, e_cmp, e_chain, e_and, e_or, e_not, e_ite, e_idx, e_slc, e_rev, e_call, e_glist, e_bi1, e_biR, e_max2, e_isi, e_isi2, e_sset, e_lset, e_join, e_index, e_get, e_split, e_tupE, e_lstE, e_dicK, e_dicT, e_dic1, e_dic1T, e_rng1, e_rng2, e_enum, e_zip, e_items, e_nil, e_cons, W_s, W_b, W_l, W_p, W_c, W_i, W_it, two_ss, dOf_s, d_sh, d_ol, d_ok, d_ot, asB_bl, asI_i, cons_ss, rd_0, rd_s, sh_sh, nd_sh, nd_ol, and_t, and_f, or_t, or_f, bl_s, dsl_s, ite_t, ite_f, slc_s, max_i, o_addI, o_subI, c_lt, c_le, c_gt, c_ge, c_eq, c_ne, c_in, c_nin, eq_ii, eq_ss, is_nn, ix_tup, ix_lst, ix_scr, ix_str, len_str, len_lst, len_tup, len_scr, wd_lst, wd_tup, wd_str, Option.map_some, Option.bind_some, List.map_cons, List.map_nil, rd_ne, rd_eq, rd_hid, hid_sh, hi_var, hi_cS, hi_glb, hi_bin, hi_ite, hi_idx, hi_slc, hi_rev, hi_call, hi_glist, hi_bi1, hi_biR, hi_sset, hi_join, hi_tupE, hi_lstE, hi_lc, hi_rng1, hi_rng2, hi_enum, hi_zip, hi_items, wipe_cons, wipe_nil, List.length_set, List.set_cons_zero, List.set_cons_succ, bindT, setMany, setSl, if_true, if_false, decide_true, decide_false, Bool.not_true, Bool.not_false, isTy, tup_0, lst_0, tup_1, lst_1, tup_2, lst_2, tup_3, lst_3, tup_4, lst_4, tup_5, lst_5, tup_6, lst_6, tup_7, lst_7, tup_8, lst_8, tup_9, lst_9, tup_10, lst_10, tup_11, lst_11, tup_12, lst_12]) rfl)) (fun h => by cases h))
theorem same_bool_ok {a : Bool} (n : Nat) : calN GS T (n + 1) 7 [.bl a, .bl a] = some (.sh (.bl true)) := by
  rw [calN_eq (d := d__law_same_bool) rfl]
  generalize calN GS T n = cal
  refine def_of rfl (wp_seq (wp_ret (s := .sh (.bl true)) ?_ rfl))
  show (evA (lk GS) cal _ [some (.sh (.bl a)), some (.sh (.bl a))]).s = _
  simp (config := {implicitDefEqProofs := false, decide := true}) only [e_var, e_cI, e_cS, e_cB, e_cN, e_neg, e_glb, e_bin, e_cmp, e_chain, e_and, e_or, e_not, e_ite, e_idx, e_slc, e_rev, e_call, e_glist, e_bi1, e_biR, e_max2, e_isi, e_isi2, e_sset, e_lset, e_join, e_index, e_get, e_split, e_tupE, e_lstE, e_dicK, e_dicT, e_dic1, e_dic1T, e_rng1, e_rng2, e_enum, e_zip, e_items, e_nil, e_cons, W_s, W_b, W_l, W_p, W_c, W_i, W_it, two_ss, dOf_s, d_sh, d_ol, d_ok, d_ot, asB_bl, asI_i, cons_ss, rd_0, rd_s, sh_sh, nd_sh, nd_ol, and_t, and_f, or_t, or_f, bl_s, dsl_s, ite_t, ite_f, slc_s, max_i, o_addI, o_subI, c_lt, c_le, c_gt, c_ge, c_eq, c_ne, c_in, c_nin, eq_ii, eq_ss, is_nn, ix_tup, ix_lst, ix_scr, ix_str, len_str, len_lst, len_tup, len_scr, wd_lst, wd_tup, wd_str, Option.map_some, Option.bind_some, List.map_cons, List.map_nil, rd_ne, rd_eq, rd_hid, hid_sh, hi_var, hi_cS, hi_glb, hi_bin, hi_ite, hi_idx, hi_slc, hi_rev, hi_call, hi_glist, hi_bi1, hi_biR, hi_sset, hi_join, hi_tupE, hi_lstE, hi_lc, hi_rng1, hi_rng2, hi_enum, hi_zip, hi_items, wipe_cons, wipe_nil, List.length_set, List.set_cons_zero, List.set_cons_succ, bindT, setMany, setSl, if_true, if_false, decide_true, decide_false, Bool.not_true, Bool.not_false, isTy, tup_0, lst_0, tup_1, lst_1, tup_2, lst_2, tup_3, lst_3, tup_4, lst_4, tup_5, lst_5, tup_6, lst_6, tup_7, lst_7, tup_8, lst_8, tup_9, lst_9, tup_10, lst_10, tup_11, lst_11, tup_12, lst_12, eq_bb]

/-! ### k01: parts of values, values changed -/
abbrev pD (t : List Nat) : D := .tup (nD t)
mutual
def pth : D → List (List Nat)
  | .lst ds => [] :: pthL 0 ds
  | .tup ds => [] :: pthL 0 ds
  | _ => [[]]
def pthL : Nat → List D → List (List Nat)
  | _, [] => []
  | i, d :: ds => (pth d).map (i :: ·) ++ pthL (i + 1) ds
end
theorem pthL_nil {i : Nat} : pthL i [] = [] := by simp only [pthL]
theorem pthL_cons {i : Nat} {d : D} {ds : List D} : pthL i (d :: ds) = (pth d).map (i :: ·) ++ pthL (i + 1) ds := by simp only [pthL]
theorem pthL_snoc {z : D} : ∀ (ys : List D) (i : Nat), pthL i (ys ++ [z]) = pthL i ys ++ (pth z).map ((i + ys.length) :: ·)
  | [], i => by rw [List.nil_append, pthL_cons, pthL_nil, pthL_nil, List.append_nil]; rfl
  | y :: ys, i => by
    rw [List.cons_append, pthL_cons, pthL_cons, pthL_snoc ys (i + 1), List.append_assoc, List.length_cons, show i + 1 + ys.length = i + (ys.length + 1) by omega]
mutual
theorem pth_count : ∀ (d : D), (pth d).length = wt d
  | .non => by simp only [pth, wt]; rfl
  | .bl b => by simp only [pth, wt]; rfl
  | .int i => by simp only [pth, wt]; rfl
  | .str x => by simp only [pth, wt]; rfl
  | .scr x => by simp only [pth, wt]; rfl
  | .dK x => by simp only [pth, wt]; rfl
  | .dT x => by simp only [pth, wt]; rfl
  | .lst ds => by simp only [pth, wt, List.length_cons, pthL_count ds 0]; omega
  | .tup ds => by simp only [pth, wt, List.length_cons, pthL_count ds 0]; omega
theorem pthL_count : ∀ (ds : List D) (i : Nat), (pthL i ds).length = wtL ds
  | [], i => by simp only [pthL, wtL]; rfl
  | d :: ds, i => by simp only [pthL, wtL, List.length_append, List.length_map, pth_count d, pthL_count ds (i + 1)]
end
def Tr : List Nat → D → Prop
  | [], _ => True
  | i :: t, d => ∃ ds, (d = .lst ds ∨ d = .tup ds) ∧ ∃ e, ds[i]? = some e ∧ Tr t e
mutual
theorem pth_tr : ∀ (d : D) {t : List Nat}, t ∈ pth d → Tr t d
  | .non, t, h => by simp only [pth, List.mem_singleton] at h; subst h; exact trivial
  | .bl b, t, h => by simp only [pth, List.mem_singleton] at h; subst h; exact trivial
  | .int i, t, h => by simp only [pth, List.mem_singleton] at h; subst h; exact trivial
  | .str x, t, h => by simp only [pth, List.mem_singleton] at h; subst h; exact trivial
  | .scr x, t, h => by simp only [pth, List.mem_singleton] at h; subst h; exact trivial
  | .dK x, t, h => by simp only [pth, List.mem_singleton] at h; subst h; exact trivial
  | .dT x, t, h => by simp only [pth, List.mem_singleton] at h; subst h; exact trivial
  | .lst ds, t, h => by
    simp only [pth, List.mem_cons] at h
    rcases h with rfl | h
    · exact trivial
    · obtain ⟨j, e, s, rfl, h1, h2⟩ := pthL_tr ds 0 h
      exact ⟨ds, .inl rfl, e, by rw [Nat.zero_add]; exact h1, h2⟩
  | .tup ds, t, h => by
    simp only [pth, List.mem_cons] at h
    rcases h with rfl | h
    · exact trivial
    · obtain ⟨j, e, s, rfl, h1, h2⟩ := pthL_tr ds 0 h
      exact ⟨ds, .inr rfl, e, by rw [Nat.zero_add]; exact h1, h2⟩
theorem pthL_tr : ∀ (ds : List D) (i : Nat) {t : List Nat}, t ∈ pthL i ds → ∃ j e s, t = (i + j) :: s ∧ ds[j]? = some e ∧ Tr s e
  | [], i, t, h => by simp only [pthL] at h; cases h
  | d :: ds, i, t, h => by
    simp only [pthL, List.mem_append] at h
    rcases h with h | h
    · obtain ⟨s, hs, rfl⟩ := List.mem_map.mp h
      exact ⟨0, d, s, rfl, rfl, pth_tr d hs⟩
    · obtain ⟨j, e, s, rfl, h1, h2⟩ := pthL_tr ds (i + 1) h
      exact ⟨j + 1, e, s, by rw [show i + 1 + j = i + (j + 1) by omega], by simpa using h1, h2⟩
end
theorem gd_kids {n : Nat} {d : D} {ds : List D} (g : Gd n d) (h : d = .lst ds ∨ d = .tup ds) : ∃ m, n = m + 1 ∧ ∀ e, e ∈ ds → Gd m e := by
  rcases h with rfl | rfl
  · cases g with
    | lst h => exact ⟨_, rfl, h⟩
  · cases g with
    | tup h => exact ⟨_, rfl, h⟩
theorem tr_len : ∀ {t : List Nat} {n : Nat} {d : D}, Tr t d → Gd n d → t.length ≤ n
  | [], n, d, _, _ => Nat.zero_le _
  | i :: t, n, d, ⟨ds, h1, e, h2, h3⟩, g => by
    obtain ⟨m, rfl, hk⟩ := gd_kids g h1
    have := tr_len h3 (hk e (List.mem_of_getElem? h2))
    rw [List.length_cons]; omega
theorem list_o {ds : List D} : biD .listO (.lst ds) = some (.ol ds) := rfl
theorem list_ot {ds : List D} : biD .listO (.tup ds) = some (.ol ds) := rfl
theorem isi2_c {ds : List D} {d : D} (h : d = .lst ds ∨ d = .tup ds) : isi2S .list .tuple (some d) = some (.sh (.bl true)) := by rcases h with rfl | rfl <;> rfl
theorem enum_c {ds : List D} {d : D} (h : d = .lst ds ∨ d = .tup ds) : enumS d = some (enumD 0 ds) := by rcases h with rfl | rfl <;> rfl
theorem paths_ok : ∀ (n : Nat) (d : D), Gd n d → n ≤ 50 → wt d ≤ 10000 → ∀ m, calN GS T (n + m + 1) 8 [d] = some (.sh (.lst ((pth d).map pD))) := by
  intro n
  induction n with
  | zero =>
    intro d g _ _ m
    rw [calN_eq (d := d__law_paths) rfl]
    generalize calN GS T (0 + m) = cal
    refine def_of rfl ?_
    show Wp (ex (lk GS) cal _ [some (.sh d), none, none, none, none]) _ _ _
    refine wp_seq (wp_set (s := .ol [.tup []]) (by simp (config := {implicitDefEqProofs := false, decide := true}) only [e_var, e_cI, e_cS, e_cB, e_cN, e_neg, e_glb, e_bin, e_cmp, e_chain, e_and, e_or, e_not, e_ite, e_idx, e_slc, e_rev, e_call, e_glist, e_bi1, e_biR, e_max2, e_isi, e_isi2, e_sset, e_lset, e_join, e_index, e_get, e_split, e_tupE, e_lstE, e_dicK, e_dicT, e_dic1, e_dic1T, e_rng1, e_rng2, e_enum, e_zip, e_items, e_nil, e_cons, W_s, W_b, W_l, W_p, W_c, W_i, W_it, two_ss, dOf_s, d_sh, d_ol, d_ok, d_ot, asB_bl, asI_i, cons_ss, rd_0, rd_s, sh_sh, nd_sh, nd_ol, and_t, and_f, or_t, or_f, bl_s, dsl_s, ite_t, ite_f, slc_s, max_i, o_addI, o_subI, c_lt, c_le, c_gt, c_ge, c_eq, c_ne, c_in, c_nin, eq_ii, eq_ss, is_nn, ix_tup, ix_lst, ix_scr, ix_str, len_str, len_lst, len_tup, len_scr, wd_lst, wd_tup, wd_str, Option.map_some, Option.bind_some, List.map_cons, List.map_nil, rd_ne, rd_eq, rd_hid, hid_sh, hi_var, hi_cS, hi_glb, hi_bin, hi_ite, hi_idx, hi_slc, hi_rev, hi_call, hi_glist, hi_bi1, hi_biR, hi_sset, hi_join, hi_tupE, hi_lstE, hi_lc, hi_rng1, hi_rng2, hi_enum, hi_zip, hi_items, wipe_cons, wipe_nil, List.length_set, List.set_cons_zero, List.set_cons_succ, bindT, setMany, setSl, if_true, if_false, decide_true, decide_false, Bool.not_true, Bool.not_false, isTy, tup_0, lst_0, tup_1, lst_1, tup_2, lst_2, tup_3, lst_3, tup_4, lst_4, tup_5, lst_5, tup_6, lst_6, tup_7, lst_7, tup_8, lst_8, tup_9, lst_9, tup_10, lst_10, tup_11, lst_11, tup_12, lst_12]) ?_)
    cases g with
    | non => exact wp_seq (wp_ite (t := false) rfl (fun h => by cases h) (fun _ => wp_skip (wp_seq (wp_ret rfl (by simp only [pth]; rfl)))))
    | bl => exact wp_seq (wp_ite (t := false) rfl (fun h => by cases h) (fun _ => wp_skip (wp_seq (wp_ret rfl (by simp only [pth]; rfl)))))
    | int => exact wp_seq (wp_ite (t := false) rfl (fun h => by cases h) (fun _ => wp_skip (wp_seq (wp_ret rfl (by simp only [pth]; rfl)))))
    | str h => exact wp_seq (wp_ite (t := false) rfl (fun h => by cases h) (fun _ => wp_skip (wp_seq (wp_ret rfl (by simp only [pth]; rfl)))))
  | succ n ih =>
    intro d g hn hw m
    rw [calN_eq (d := d__law_paths) rfl]
    have hP := fun (e : D) (g : Gd n e) (hw : wt e ≤ 10000) => ih e g (by omega) hw m
    rw [show n + 1 + m = n + m + 1 by omega]
    generalize calN GS T (n + m + 1) = cal at hP
    refine def_of rfl ?_
    show Wp (ex (lk GS) cal _ [some (.sh d), none, none, none, none]) _ _ _
    refine wp_seq (wp_set (s := .ol [.tup []]) (by simp (config := {implicitDefEqProofs := false, decide := true}) only [e_var, e_cI, e_cS, e_cB, e_cN, e_neg, e_glb, e_bin, e_cmp, e_chain, e_and, e_or, e_not, e_ite, e_idx, e_slc, e_rev, e_call, e_glist, e_bi1, e_biR, e_max2, e_isi, e_isi2, e_sset, e_lset, e_join, e_index, e_get, e_split, e_tupE, e_lstE, e_dicK, e_dicT, e_dic1, e_dic1T, e_rng1, e_rng2, e_enum, e_zip, e_items, e_nil, e_cons, W_s, W_b, W_l, W_p, W_c, W_i, W_it, two_ss, dOf_s, d_sh, d_ol, d_ok, d_ot, asB_bl, asI_i, cons_ss, rd_0, rd_s, sh_sh, nd_sh, nd_ol, and_t, and_f, or_t, or_f, bl_s, dsl_s, ite_t, ite_f, slc_s, max_i, o_addI, o_subI, c_lt, c_le, c_gt, c_ge, c_eq, c_ne, c_in, c_nin, eq_ii, eq_ss, is_nn, ix_tup, ix_lst, ix_scr, ix_str, len_str, len_lst, len_tup, len_scr, wd_lst, wd_tup, wd_str, Option.map_some, Option.bind_some, List.map_cons, List.map_nil, rd_ne, rd_eq, rd_hid, hid_sh, hi_var, hi_cS, hi_glb, hi_bin, hi_ite, hi_idx, hi_slc, hi_rev, hi_call, hi_glist, hi_bi1, hi_biR, hi_sset, hi_join, hi_tupE, hi_lstE, hi_lc, hi_rng1, hi_rng2, hi_enum, hi_zip, hi_items, wipe_cons, wipe_nil, List.length_set, List.set_cons_zero, List.set_cons_succ, bindT, setMany, setSl, if_true, if_false, decide_true, decide_false, Bool.not_true, Bool.not_false, isTy, tup_0, lst_0, tup_1, lst_1, tup_2, lst_2, tup_3, lst_3, tup_4, lst_4, tup_5, lst_5, tup_6, lst_6, tup_7, lst_7, tup_8, lst_8, tup_9, lst_9, tup_10, lst_10, tup_11, lst_11, tup_12, lst_12]) ?_)
    have leaf : (isi2S .list .tuple (some d) = some (.sh (.bl false))) → pth d = [[]] → Wp (ex (lk GS) cal (.seq (.ite (.isi2 (.var 0) .list .tuple) (.seq (.for_ (.many [2, 3]) (.enum (.var 0)) (.seq (.asg 1 false (.bin .add (.var 1) (.lc [4] (.bin .add (.tupE (.cons (.var 2) .nil)) (.var 4)) (.one 4) (.call 8 (.cons (.var 3) .nil)) .nil))) .skip)) .skip) .skip) (.seq (.ret (.var 1)) .skip)) [some (.sh d), some (.sh (.lst [.tup []])), none, none, none]) (fun _ => Slot.sh (.lst ((pth d).map pD)) = .sh .non) (fun s => s = .sh (.lst ((pth d).map pD))) (fun _ => False) := fun e1 e2 =>
      wp_seq (wp_ite (t := false) (by simp (config := {implicitDefEqProofs := false, decide := true}) only [e_var, e_cI, e_cS, e_cB, e_cN, e_neg, e_glb, e_bin, e_cmp, e_chain, e_and, e_or, e_not, e_ite, e_idx, e_slc, e_rev, e_call, e_glist, e_bi1, e_biR, e_max2, e_isi, e_isi2, e_sset, e_lset, e_join, e_index, e_get, e_split, e_tupE, e_lstE, e_dicK, e_dicT, e_dic1, e_dic1T, e_rng1, e_rng2, e_enum, e_zip, e_items, e_nil, e_cons, W_s, W_b, W_l, W_p, W_c, W_i, W_it, two_ss, dOf_s, d_sh, d_ol, d_ok, d_ot, asB_bl, asI_i, cons_ss, rd_0, rd_s, sh_sh, nd_sh, nd_ol, and_t, and_f, or_t, or_f, bl_s, dsl_s, ite_t, ite_f, slc_s, max_i, o_addI, o_subI, c_lt, c_le, c_gt, c_ge, c_eq, c_ne, c_in, c_nin, eq_ii, eq_ss, is_nn, ix_tup, ix_lst, ix_scr, ix_str, len_str, len_lst, len_tup, len_scr, wd_lst, wd_tup, wd_str, Option.map_some, Option.bind_some, List.map_cons, List.map_nil, rd_ne, rd_eq, rd_hid, hid_sh, hi_var, hi_cS, hi_glb, hi_bin, hi_ite, hi_idx, hi_slc, hi_rev, hi_call, hi_glist, hi_bi1, hi_biR, hi_sset, hi_join, hi_tupE, hi_lstE, hi_lc, hi_rng1, hi_rng2, hi_enum, hi_zip, hi_items, wipe_cons, wipe_nil, List.length_set, List.set_cons_zero, List.set_cons_succ, bindT, setMany, setSl, if_true, if_false, decide_true, decide_false, Bool.not_true, Bool.not_false, isTy, tup_0, lst_0, tup_1, lst_1, tup_2, lst_2, tup_3, lst_3, tup_4, lst_4, tup_5, lst_5, tup_6, lst_6, tup_7, lst_7, tup_8, lst_8, tup_9, lst_9, tup_10, lst_10, tup_11, lst_11, tup_12, lst_12, e1]) (fun h => by cases h) (fun _ => wp_skip (wp_seq (wp_ret rfl (by rw [e2]; rfl)))))
    have node : ∀ ds, (d = .lst ds ∨ d = .tup ds) → pth d = [] :: pthL 0 ds → Wp (ex (lk GS) cal (.seq (.ite (.isi2 (.var 0) .list .tuple) (.seq (.for_ (.many [2, 3]) (.enum (.var 0)) (.seq (.asg 1 false (.bin .add (.var 1) (.lc [4] (.bin .add (.tupE (.cons (.var 2) .nil)) (.var 4)) (.one 4) (.call 8 (.cons (.var 3) .nil)) .nil))) .skip)) .skip) .skip) (.seq (.ret (.var 1)) .skip)) [some (.sh d), some (.sh (.lst [.tup []])), none, none, none]) (fun _ => Slot.sh (.lst ((pth d).map pD)) = .sh .non) (fun s => s = .sh (.lst ((pth d).map pD))) (fun _ => False) := by
      intro ds hd hp
      obtain ⟨m', em, hk⟩ := gd_kids g hd
      obtain rfl : n = m' := by omega
      have hwt : wtL ds ≤ 10000 := by rcases hd with rfl | rfl <;> simp only [wt] at hw <;> omega
      refine wp_cut (fun ρ => rd ρ 1 = some (.sh (.lst ((pth d).map pD)))) ?_ (fun ρ h => wp_seq (wp_ret (s := .sh (.lst ((pth d).map pD))) (by simp (config := {implicitDefEqProofs := false, decide := true}) only [e_var, e_cI, e_cS, e_cB, e_cN, e_neg, e_glb, e_bin, e_cmp, e_chain, e_and, e_or, e_not, e_ite, e_idx, e_slc, e_rev, e_call, e_glist, e_bi1, e_biR, e_max2, e_isi, e_isi2, e_sset, e_lset, e_join, e_index, e_get, e_split, e_tupE, e_lstE, e_dicK, e_dicT, e_dic1, e_dic1T, e_rng1, e_rng2, e_enum, e_zip, e_items, e_nil, e_cons, W_s, W_b, W_l, W_p, W_c, W_i, W_it, two_ss, dOf_s, d_sh, d_ol, d_ok, d_ot, asB_bl, asI_i, cons_ss, rd_0, rd_s, sh_sh, nd_sh, nd_ol, and_t, and_f, or_t, or_f, bl_s, dsl_s, ite_t, ite_f, slc_s, max_i, o_addI, o_subI, c_lt, c_le, c_gt, c_ge, c_eq, c_ne, c_in, c_nin, eq_ii, eq_ss, is_nn, ix_tup, ix_lst, ix_scr, ix_str, len_str, len_lst, len_tup, len_scr, wd_lst, wd_tup, wd_str, Option.map_some, Option.bind_some, List.map_cons, List.map_nil, rd_ne, rd_eq, rd_hid, hid_sh, hi_var, hi_cS, hi_glb, hi_bin, hi_ite, hi_idx, hi_slc, hi_rev, hi_call, hi_glist, hi_bi1, hi_biR, hi_sset, hi_join, hi_tupE, hi_lstE, hi_lc, hi_rng1, hi_rng2, hi_enum, hi_zip, hi_items, wipe_cons, wipe_nil, List.length_set, List.set_cons_zero, List.set_cons_succ, bindT, setMany, setSl, if_true, if_false, decide_true, decide_false, Bool.not_true, Bool.not_false, isTy, tup_0, lst_0, tup_1, lst_1, tup_2, lst_2, tup_3, lst_3, tup_4, lst_4, tup_5, lst_5, tup_6, lst_6, tup_7, lst_7, tup_8, lst_8, tup_9, lst_9, tup_10, lst_10, tup_11, lst_11, tup_12, lst_12, h]) rfl))
      refine wp_ite (t := true) (by simp (config := {implicitDefEqProofs := false, decide := true}) only [e_var, e_cI, e_cS, e_cB, e_cN, e_neg, e_glb, e_bin, e_cmp, e_chain, e_and, e_or, e_not, e_ite, e_idx, e_slc, e_rev, e_call, e_glist, e_bi1, e_biR, e_max2, e_isi, e_isi2, e_sset, e_lset, e_join, e_index, e_get, e_split, e_tupE, e_lstE, e_dicK, e_dicT, e_dic1, e_dic1T, e_rng1, e_rng2, e_enum, e_zip, e_items, e_nil, e_cons, W_s, W_b, W_l, W_p, W_c, W_i, W_it, two_ss, dOf_s, d_sh, d_ol, d_ok, d_ot, asB_bl, asI_i, cons_ss, rd_0, rd_s, sh_sh, nd_sh, nd_ol, and_t, and_f, or_t, or_f, bl_s, dsl_s, ite_t, ite_f, slc_s, max_i, o_addI, o_subI, c_lt, c_le, c_gt, c_ge, c_eq, c_ne, c_in, c_nin, eq_ii, eq_ss, is_nn, ix_tup, ix_lst, ix_scr, ix_str, len_str, len_lst, len_tup, len_scr, wd_lst, wd_tup, wd_str, Option.map_some, Option.bind_some, List.map_cons, List.map_nil, rd_ne, rd_eq, rd_hid, hid_sh, hi_var, hi_cS, hi_glb, hi_bin, hi_ite, hi_idx, hi_slc, hi_rev, hi_call, hi_glist, hi_bi1, hi_biR, hi_sset, hi_join, hi_tupE, hi_lstE, hi_lc, hi_rng1, hi_rng2, hi_enum, hi_zip, hi_items, wipe_cons, wipe_nil, List.length_set, List.set_cons_zero, List.set_cons_succ, bindT, setMany, setSl, if_true, if_false, decide_true, decide_false, Bool.not_true, Bool.not_false, isTy, tup_0, lst_0, tup_1, lst_1, tup_2, lst_2, tup_3, lst_3, tup_4, lst_4, tup_5, lst_5, tup_6, lst_6, tup_7, lst_7, tup_8, lst_8, tup_9, lst_9, tup_10, lst_10, tup_11, lst_11, tup_12, lst_12, isi2_c hd]) (fun _ => ?_) (fun h => by cases h)
      refine wp_seq (wp_for (ds := enumD 0 ds) (fun rest ρ => ∃ ys zs b2 b3 b4, ds = ys ++ zs ∧ rest = enumD ys.length zs ∧ ρ = [some (.sh d), some (.sh (.lst (([] :: pthL 0 ys).map pD))), b2, b3, b4]) (by simp (config := {implicitDefEqProofs := false, decide := true}) only [e_var, e_cI, e_cS, e_cB, e_cN, e_neg, e_glb, e_bin, e_cmp, e_chain, e_and, e_or, e_not, e_ite, e_idx, e_slc, e_rev, e_call, e_glist, e_bi1, e_biR, e_max2, e_isi, e_isi2, e_sset, e_lset, e_join, e_index, e_get, e_split, e_tupE, e_lstE, e_dicK, e_dicT, e_dic1, e_dic1T, e_rng1, e_rng2, e_enum, e_zip, e_items, e_nil, e_cons, W_s, W_b, W_l, W_p, W_c, W_i, W_it, two_ss, dOf_s, d_sh, d_ol, d_ok, d_ot, asB_bl, asI_i, cons_ss, rd_0, rd_s, sh_sh, nd_sh, nd_ol, and_t, and_f, or_t, or_f, bl_s, dsl_s, ite_t, ite_f, slc_s, max_i, o_addI, o_subI, c_lt, c_le, c_gt, c_ge, c_eq, c_ne, c_in, c_nin, eq_ii, eq_ss, is_nn, ix_tup, ix_lst, ix_scr, ix_str, len_str, len_lst, len_tup, len_scr, wd_lst, wd_tup, wd_str, Option.map_some, Option.bind_some, List.map_cons, List.map_nil, rd_ne, rd_eq, rd_hid, hid_sh, hi_var, hi_cS, hi_glb, hi_bin, hi_ite, hi_idx, hi_slc, hi_rev, hi_call, hi_glist, hi_bi1, hi_biR, hi_sset, hi_join, hi_tupE, hi_lstE, hi_lc, hi_rng1, hi_rng2, hi_enum, hi_zip, hi_items, wipe_cons, wipe_nil, List.length_set, List.set_cons_zero, List.set_cons_succ, bindT, setMany, setSl, if_true, if_false, decide_true, decide_false, Bool.not_true, Bool.not_false, isTy, tup_0, lst_0, tup_1, lst_1, tup_2, lst_2, tup_3, lst_3, tup_4, lst_4, tup_5, lst_5, tup_6, lst_6, tup_7, lst_7, tup_8, lst_8, tup_9, lst_9, tup_10, lst_10, tup_11, lst_11, tup_12, lst_12, enum_c hd]) ⟨[], ds, none, none, none, rfl, rfl, by rw [pthL_nil]; rfl⟩ ?_ ?_)
      · rintro x rest ρ ⟨ys, zs, b2, b3, b4, e, er, rfl⟩
        cases zs with
        | nil => cases er
        | cons z zs =>
          cases er
          have hz : z ∈ ds := by rw [e]; simp
          have hzw := wtL_mem hz
          have hc := pth_count z
          have hy := pthL_count ys 0
          have ha := wtL_app ys (z :: zs)
          rw [← e, wtL_cons] at ha
          refine ⟨_, rfl, wp_seq (wp_set (s := .ol (([] :: pthL 0 (ys ++ [z])).map pD)) ?_ (wp_skip ⟨ys ++ [z], zs, _, _, _, by rw [e, List.append_assoc]; rfl, by rw [List.length_append]; rfl, rfl⟩))⟩
          rw [e_bin, e_lcF (xs := pth z) pD (fun t => pD (ys.length :: t)) ?_ (by rw [hc, sz]; omega) (fun t ht => ⟨_, rfl, ?_⟩)]
          · simp (config := {implicitDefEqProofs := false, decide := true}) only [e_var, e_cI, e_cS, e_cB, e_cN, e_neg, e_glb, e_bin, e_cmp, e_chain, e_and, e_or, e_not, e_ite, e_idx, e_slc, e_rev, e_call, e_glist, e_bi1, e_biR, e_max2, e_isi, e_isi2, e_sset, e_lset, e_join, e_index, e_get, e_split, e_tupE, e_lstE, e_dicK, e_dicT, e_dic1, e_dic1T, e_rng1, e_rng2, e_enum, e_zip, e_items, e_nil, e_cons, W_s, W_b, W_l, W_p, W_c, W_i, W_it, two_ss, dOf_s, d_sh, d_ol, d_ok, d_ot, asB_bl, asI_i, cons_ss, rd_0, rd_s, sh_sh, nd_sh, nd_ol, and_t, and_f, or_t, or_f, bl_s, dsl_s, ite_t, ite_f, slc_s, max_i, o_addI, o_subI, c_lt, c_le, c_gt, c_ge, c_eq, c_ne, c_in, c_nin, eq_ii, eq_ss, is_nn, ix_tup, ix_lst, ix_scr, ix_str, len_str, len_lst, len_tup, len_scr, wd_lst, wd_tup, wd_str, Option.map_some, Option.bind_some, List.map_cons, List.map_nil, rd_ne, rd_eq, rd_hid, hid_sh, hi_var, hi_cS, hi_glb, hi_bin, hi_ite, hi_idx, hi_slc, hi_rev, hi_call, hi_glist, hi_bi1, hi_biR, hi_sset, hi_join, hi_tupE, hi_lstE, hi_lc, hi_rng1, hi_rng2, hi_enum, hi_zip, hi_items, wipe_cons, wipe_nil, List.length_set, List.set_cons_zero, List.set_cons_succ, bindT, setMany, setSl, if_true, if_false, decide_true, decide_false, Bool.not_true, Bool.not_false, isTy, tup_0, lst_0, tup_1, lst_1, tup_2, lst_2, tup_3, lst_3, tup_4, lst_4, tup_5, lst_5, tup_6, lst_6, tup_7, lst_7, tup_8, lst_8, tup_9, lst_9, tup_10, lst_10, tup_11, lst_11, tup_12, lst_12]
            rw [o_addL (by rw [List.length_cons, List.length_map, List.length_map, hc, hy, sz]; omega), pthL_snoc, Nat.zero_add, List.map_append, List.map_map]
            rfl
          · show (evA (lk GS) cal _ [_, _, some (.sh (.int (ys.length : Nat))), some (.sh z), b4]).i = _
            simp (config := {implicitDefEqProofs := false, decide := true}) only [e_var, e_cI, e_cS, e_cB, e_cN, e_neg, e_glb, e_bin, e_cmp, e_chain, e_and, e_or, e_not, e_ite, e_idx, e_slc, e_rev, e_call, e_glist, e_bi1, e_biR, e_max2, e_isi, e_isi2, e_sset, e_lset, e_join, e_index, e_get, e_split, e_tupE, e_lstE, e_dicK, e_dicT, e_dic1, e_dic1T, e_rng1, e_rng2, e_enum, e_zip, e_items, e_nil, e_cons, W_s, W_b, W_l, W_p, W_c, W_i, W_it, two_ss, dOf_s, d_sh, d_ol, d_ok, d_ot, asB_bl, asI_i, cons_ss, rd_0, rd_s, sh_sh, nd_sh, nd_ol, and_t, and_f, or_t, or_f, bl_s, dsl_s, ite_t, ite_f, slc_s, max_i, o_addI, o_subI, c_lt, c_le, c_gt, c_ge, c_eq, c_ne, c_in, c_nin, eq_ii, eq_ss, is_nn, ix_tup, ix_lst, ix_scr, ix_str, len_str, len_lst, len_tup, len_scr, wd_lst, wd_tup, wd_str, Option.map_some, Option.bind_some, List.map_cons, List.map_nil, rd_ne, rd_eq, rd_hid, hid_sh, hi_var, hi_cS, hi_glb, hi_bin, hi_ite, hi_idx, hi_slc, hi_rev, hi_call, hi_glist, hi_bi1, hi_biR, hi_sset, hi_join, hi_tupE, hi_lstE, hi_lc, hi_rng1, hi_rng2, hi_enum, hi_zip, hi_items, wipe_cons, wipe_nil, List.length_set, List.set_cons_zero, List.set_cons_succ, bindT, setMany, setSl, if_true, if_false, decide_true, decide_false, Bool.not_true, Bool.not_false, isTy, tup_0, lst_0, tup_1, lst_1, tup_2, lst_2, tup_3, lst_3, tup_4, lst_4, tup_5, lst_5, tup_6, lst_6, tup_7, lst_7, tup_8, lst_8, tup_9, lst_9, tup_10, lst_10, tup_11, lst_11, tup_12, lst_12, hP z (hk z hz) (by omega)]
          · have tl := tr_len (pth_tr z ht) (hk z hz)
            show dOf (evA (lk GS) cal _ [_, _, some (.sh (.int (ys.length : Nat))), some (.sh z), some (.sh (pD t))]).s = _
            simp (config := {implicitDefEqProofs := false, decide := true}) only [e_var, e_cI, e_cS, e_cB, e_cN, e_neg, e_glb, e_bin, e_cmp, e_chain, e_and, e_or, e_not, e_ite, e_idx, e_slc, e_rev, e_call, e_glist, e_bi1, e_biR, e_max2, e_isi, e_isi2, e_sset, e_lset, e_join, e_index, e_get, e_split, e_tupE, e_lstE, e_dicK, e_dicT, e_dic1, e_dic1T, e_rng1, e_rng2, e_enum, e_zip, e_items, e_nil, e_cons, W_s, W_b, W_l, W_p, W_c, W_i, W_it, two_ss, dOf_s, d_sh, d_ol, d_ok, d_ot, asB_bl, asI_i, cons_ss, rd_0, rd_s, sh_sh, nd_sh, nd_ol, and_t, and_f, or_t, or_f, bl_s, dsl_s, ite_t, ite_f, slc_s, max_i, o_addI, o_subI, c_lt, c_le, c_gt, c_ge, c_eq, c_ne, c_in, c_nin, eq_ii, eq_ss, is_nn, ix_tup, ix_lst, ix_scr, ix_str, len_str, len_lst, len_tup, len_scr, wd_lst, wd_tup, wd_str, Option.map_some, Option.bind_some, List.map_cons, List.map_nil, rd_ne, rd_eq, rd_hid, hid_sh, hi_var, hi_cS, hi_glb, hi_bin, hi_ite, hi_idx, hi_slc, hi_rev, hi_call, hi_glist, hi_bi1, hi_biR, hi_sset, hi_join, hi_tupE, hi_lstE, hi_lc, hi_rng1, hi_rng2, hi_enum, hi_zip, hi_items, wipe_cons, wipe_nil, List.length_set, List.set_cons_zero, List.set_cons_succ, bindT, setMany, setSl, if_true, if_false, decide_true, decide_false, Bool.not_true, Bool.not_false, isTy, tup_0, lst_0, tup_1, lst_1, tup_2, lst_2, tup_3, lst_3, tup_4, lst_4, tup_5, lst_5, tup_6, lst_6, tup_7, lst_7, tup_8, lst_8, tup_9, lst_9, tup_10, lst_10, tup_11, lst_11, tup_12, lst_12]
            rw [o_addT (by rw [nD_len, sz]; simp only [List.length_cons, List.length_nil]; omega)]
            rfl
      · rintro ρ ⟨ys, zs, b2, b3, b4, e, er, rfl⟩
        cases zs with
        | cons z zs => cases er
        | nil =>
          rw [List.append_nil] at e
          subst e
          refine wp_skip ?_
          rw [hp]; rfl
    cases g with
    | non => exact leaf rfl (by simp only [pth])
    | bl => exact leaf rfl (by simp only [pth])
    | int => exact leaf rfl (by simp only [pth])
    | str h => exact leaf rfl (by simp only [pth])
    | lst h => exact node _ (.inl rfl) (by simp only [pth])
    | tup h => exact node _ (.inr rfl) (by simp only [pth])
/-! #### another value -/
theorem lst_16 {a b c d e f g h i j k l m n o p : D} : lstS (some [a, b, c, d, e, f, g, h, i, j, k, l, m, n, o, p]) = some (.ol [a, b, c, d, e, f, g, h, i, j, k, l, m, n, o, p]) := rfl
theorem at_len {L : List D} (h : L ≠ []) (u : Nat) : ∃ v, v ∈ L ∧ atI L ((u : Int) % (L.length : Int)) = some v := by
  have hl := List.length_pos_iff.mpr h
  have hu : u % L.length < L.length := Nat.mod_lt _ hl
  refine ⟨L[u % L.length], List.getElem_mem hu, ?_⟩
  rw [atI_of (j := u % L.length) (by omega), List.getElem?_eq_getElem hu]
def othS : S :=
  (.seq (.ite (.and_ (.isi (.var 0) .int) (.not_ (.isi (.var 0) .bool)))
    (.seq (.asg 2 false (.bin .add (.lstE (.cons (.bin .add (.var 0) (.cI 1)) (.cons (.bin .sub (.var 0) (.cI 1)) (.cons (.bi1 .boolO (.var 0)) (.cons (.bin .add (.var 0) (.cI 1)) (.cons (.bin .sub (.var 0) (.cI 1)) (.cons (.bi1 .boolO (.var 0)) .nil))))))) (.var 2)))
    .skip)
    .skip)
  (.seq (.ite (.isi2 (.var 0) .list .tuple)
    (.seq (.asg 2 false (.bin .add (.lstE (.cons (.bi1 .listO (.var 0)) (.cons (.bi1 .tupleO (.var 0)) (.cons (.bi1 .tupleO (.rev (.var 0))) (.cons (.bi1 .listO (.var 0)) .nil))))) (.var 2)))
    .skip)
    .skip)
  (.seq (.ret (.idx (.var 2) (.bin .mod (.idx (.var 1) (.cI 1)) (.bi1 .len (.var 2)))))
  .skip)))
structure GdW (n w : Nat) (v : D) : Prop where
  g : Gd n v
  w : wt v ≤ w
theorem other_ok {n : Nat} {d : D} (g : Gd n d) (hw : wt d ≤ 10000) {xs : List Nat} (hx : 2 ≤ xs.length) (m : Nat) : ∃ v, calN GS T (m + 1) 9 [d, .lst (nD xs)] = some (.sh v) ∧ GdW (n + 1) (2 * wt d + 30) v := by
  rw [calN_eq (d := d__law_other_value) rfl]
  generalize calN GS T m = cal
  have x1 := nD_at (xs := xs) (j := 1) (by omega)
  generalize xs[1] = u at x1
  replace x1 : atI (nD xs) 1 = _ := x1
  have wp1 := wt_pos d
  have key : ∃ s, evDef (lk GS) cal d__law_other_value [d, .lst (nD xs)] = some s ∧ ∃ v, s = .sh v ∧ GdW (n + 1) (2 * wt d + 30) v := by
    refine def_ex rfl ?_
    show Wp (ex (lk GS) cal _ [some (.sh d), some (.sh (.lst (nD xs))), none]) _ _ _
    obtain ⟨big, hb⟩ : ∃ big, opBin .pow (.int 10) (.int 39) = some (.sh (.int big)) := ⟨_, o_pow (by decide)⟩
    have fin : ∀ (L : List D), L ≠ [] → (∀ v ∈ L, GdW (n + 1) (2 * wt d + 30) v) → Wp (ex (lk GS) cal (.seq (.ret (.idx (.var 2) (.bin .mod (.idx (.var 1) (.cI 1)) (.bi1 .len (.var 2))))) .skip) [some (.sh d), some (.sh (.lst (nD xs))), some (.sh (.lst L))]) (fun _ => ∃ v, (Slot.sh .non) = .sh v ∧ GdW (n + 1) (2 * wt d + 30) v) (fun s => ∃ v, s = .sh v ∧ GdW (n + 1) (2 * wt d + 30) v) (fun _ => False) := by
      intro L hL hG
      obtain ⟨v, hv, ev⟩ := at_len hL u
      have hl := List.length_pos_iff.mpr hL
      refine wp_seq (wp_ret (s := .sh v) ?_ ⟨v, rfl, hG v hv⟩)
      simp (config := {implicitDefEqProofs := false, decide := true}) only [e_var, e_cI, e_cS, e_cB, e_cN, e_neg, e_glb, e_bin, e_cmp, e_chain, e_and, e_or, e_not, e_ite, e_idx, e_slc, e_rev, e_call, e_glist, e_bi1, e_biR, e_max2, e_isi, e_isi2, e_sset, e_lset, e_join, e_index, e_get, e_split, e_tupE, e_lstE, e_dicK, e_dicT, e_dic1, e_dic1T, e_rng1, e_rng2, e_enum, e_zip, e_items, e_nil, e_cons, W_s, W_b, W_l, W_p, W_c, W_i, W_it, two_ss, dOf_s, d_sh, d_ol, d_ok, d_ot, asB_bl, asI_i, cons_ss, rd_0, rd_s, sh_sh, nd_sh, nd_ol, and_t, and_f, or_t, or_f, bl_s, dsl_s, ite_t, ite_f, slc_s, max_i, o_addI, o_subI, c_lt, c_le, c_gt, c_ge, c_eq, c_ne, c_in, c_nin, eq_ii, eq_ss, is_nn, ix_tup, ix_lst, ix_scr, ix_str, len_str, len_lst, len_tup, len_scr, wd_lst, wd_tup, wd_str, Option.map_some, Option.bind_some, List.map_cons, List.map_nil, rd_ne, rd_eq, rd_hid, hid_sh, hi_var, hi_cS, hi_glb, hi_bin, hi_ite, hi_idx, hi_slc, hi_rev, hi_call, hi_glist, hi_bi1, hi_biR, hi_sset, hi_join, hi_tupE, hi_lstE, hi_lc, hi_rng1, hi_rng2, hi_enum, hi_zip, hi_items, wipe_cons, wipe_nil, List.length_set, List.set_cons_zero, List.set_cons_succ, bindT, setMany, setSl, if_true, if_false, decide_true, decide_false, Bool.not_true, Bool.not_false, isTy, tup_0, lst_0, tup_1, lst_1, tup_2, lst_2, tup_3, lst_3, tup_4, lst_4, tup_5, lst_5, tup_6, lst_6, tup_7, lst_7, tup_8, lst_8, tup_9, lst_9, tup_10, lst_10, tup_11, lst_11, tup_12, lst_12, x1]
      rw [o_mod (by omega)]
      simp (config := {implicitDefEqProofs := false, decide := true}) only [e_var, e_cI, e_cS, e_cB, e_cN, e_neg, e_glb, e_bin, e_cmp, e_chain, e_and, e_or, e_not, e_ite, e_idx, e_slc, e_rev, e_call, e_glist, e_bi1, e_biR, e_max2, e_isi, e_isi2, e_sset, e_lset, e_join, e_index, e_get, e_split, e_tupE, e_lstE, e_dicK, e_dicT, e_dic1, e_dic1T, e_rng1, e_rng2, e_enum, e_zip, e_items, e_nil, e_cons, W_s, W_b, W_l, W_p, W_c, W_i, W_it, two_ss, dOf_s, d_sh, d_ol, d_ok, d_ot, asB_bl, asI_i, cons_ss, rd_0, rd_s, sh_sh, nd_sh, nd_ol, and_t, and_f, or_t, or_f, bl_s, dsl_s, ite_t, ite_f, slc_s, max_i, o_addI, o_subI, c_lt, c_le, c_gt, c_ge, c_eq, c_ne, c_in, c_nin, eq_ii, eq_ss, is_nn, ix_tup, ix_lst, ix_scr, ix_str, len_str, len_lst, len_tup, len_scr, wd_lst, wd_tup, wd_str, Option.map_some, Option.bind_some, List.map_cons, List.map_nil, rd_ne, rd_eq, rd_hid, hid_sh, hi_var, hi_cS, hi_glb, hi_bin, hi_ite, hi_idx, hi_slc, hi_rev, hi_call, hi_glist, hi_bi1, hi_biR, hi_sset, hi_join, hi_tupE, hi_lstE, hi_lc, hi_rng1, hi_rng2, hi_enum, hi_zip, hi_items, wipe_cons, wipe_nil, List.length_set, List.set_cons_zero, List.set_cons_succ, bindT, setMany, setSl, if_true, if_false, decide_true, decide_false, Bool.not_true, Bool.not_false, isTy, tup_0, lst_0, tup_1, lst_1, tup_2, lst_2, tup_3, lst_3, tup_4, lst_4, tup_5, lst_5, tup_6, lst_6, tup_7, lst_7, tup_8, lst_8, tup_9, lst_9, tup_10, lst_10, tup_11, lst_11, tup_12, lst_12, ev]
    refine wp_seq (wp_set (s := .ol [.non, .bl true, .bl false, .int 7, .int (-1), .int big, .str (Str.ofString "0"), .str (Str.ofString ""), .tup [], .lst [], .tup [d], .lst [d], .tup [.int 0], .tup [.int 1, .int 0], .int 1, .int 0]) ?_ ?_)
    · simp (config := {implicitDefEqProofs := false, decide := true}) only [e_var, e_cI, e_cS, e_cB, e_cN, e_neg, e_glb, e_bin, e_cmp, e_chain, e_and, e_or, e_not, e_ite, e_idx, e_slc, e_rev, e_call, e_glist, e_bi1, e_biR, e_max2, e_isi, e_isi2, e_sset, e_lset, e_join, e_index, e_get, e_split, e_tupE, e_lstE, e_dicK, e_dicT, e_dic1, e_dic1T, e_rng1, e_rng2, e_enum, e_zip, e_items, e_nil, e_cons, W_s, W_b, W_l, W_p, W_c, W_i, W_it, two_ss, dOf_s, d_sh, d_ol, d_ok, d_ot, asB_bl, asI_i, cons_ss, rd_0, rd_s, sh_sh, nd_sh, nd_ol, and_t, and_f, or_t, or_f, bl_s, dsl_s, ite_t, ite_f, slc_s, max_i, o_addI, o_subI, c_lt, c_le, c_gt, c_ge, c_eq, c_ne, c_in, c_nin, eq_ii, eq_ss, is_nn, ix_tup, ix_lst, ix_scr, ix_str, len_str, len_lst, len_tup, len_scr, wd_lst, wd_tup, wd_str, Option.map_some, Option.bind_some, List.map_cons, List.map_nil, rd_ne, rd_eq, rd_hid, hid_sh, hi_var, hi_cS, hi_glb, hi_bin, hi_ite, hi_idx, hi_slc, hi_rev, hi_call, hi_glist, hi_bi1, hi_biR, hi_sset, hi_join, hi_tupE, hi_lstE, hi_lc, hi_rng1, hi_rng2, hi_enum, hi_zip, hi_items, wipe_cons, wipe_nil, List.length_set, List.set_cons_zero, List.set_cons_succ, bindT, setMany, setSl, if_true, if_false, decide_true, decide_false, Bool.not_true, Bool.not_false, isTy, tup_0, lst_0, tup_1, lst_1, tup_2, lst_2, tup_3, lst_3, tup_4, lst_4, tup_5, lst_5, tup_6, lst_6, tup_7, lst_7, tup_8, lst_8, tup_9, lst_9, tup_10, lst_10, tup_11, lst_11, tup_12, lst_12, hb, lst_16]
      rfl
    have g0 : ∀ v ∈ [D.non, .bl true, .bl false, .int 7, .int (-1), .int big, .str (Str.ofString "0"), .str (Str.ofString ""), .tup [], .lst [], .tup [d], .lst [d], .tup [.int 0], .tup [.int 1, .int 0], .int 1, .int 0], GdW (n + 1) (2 * wt d + 30) v := by
      intro v hv
      simp only [List.mem_cons, List.not_mem_nil, or_false] at hv
      rcases hv with rfl | rfl | rfl | rfl | rfl | rfl | rfl | rfl | rfl | rfl | rfl | rfl | rfl | rfl | rfl | rfl
      all_goals refine ⟨?_, by simp only [wt, wtL]; omega⟩
      all_goals first
        | exact .non
        | exact .bl
        | exact .int
        | exact .str (by decide +kernel)
        | (refine .lst fun e he => ?_; cases he; done)
        | (refine .tup fun e he => ?_; cases he; done)
        | (refine .tup fun e he => ?_; simp only [List.mem_cons, List.not_mem_nil, or_false] at he; first | (subst he; exact g) | (subst he; exact .int) | (rcases he with rfl | rfl <;> exact .int))
        | (refine .lst fun e he => ?_; simp only [List.mem_cons, List.not_mem_nil, or_false] at he; subst he; exact g)
    generalize hL0 : [D.non, .bl true, .bl false, .int 7, .int (-1), .int big, .str (Str.ofString "0"), .str (Str.ofString ""), .tup [], .lst [], .tup [d], .lst [d], .tup [.int 0], .tup [.int 1, .int 0], .int 1, .int 0] = L0 at g0
    have n0 : L0 ≠ [] := by rw [← hL0]; exact List.cons_ne_nil _ _
    have l0 : L0.length = 16 := by rw [← hL0]; rfl
    show Wp (ex (lk GS) cal othS [some (.sh d), some (.sh (.lst (nD xs))), some (.sh (.lst L0))]) _ _ _
    have plain : (evA (lk GS) cal (.and_ (.isi (.var 0) .int) (.not_ (.isi (.var 0) .bool))) [some (.sh d), some (.sh (.lst (nD xs))), some (.sh (.lst L0))]).b = some (.bl false) → isi2S .list .tuple (some d) = some (.sh (.bl false)) → Wp (ex (lk GS) cal othS [some (.sh d), some (.sh (.lst (nD xs))), some (.sh (.lst L0))]) (fun _ => ∃ v, (Slot.sh .non) = .sh v ∧ GdW (n + 1) (2 * wt d + 30) v) (fun s => ∃ v, s = .sh v ∧ GdW (n + 1) (2 * wt d + 30) v) (fun _ => False) := fun h1 h2 =>
      wp_seq (wp_ite (t := false) h1 (fun h => by cases h) (fun _ => wp_skip (wp_seq (wp_ite (t := false) (by simp (config := {implicitDefEqProofs := false, decide := true}) only [e_var, e_cI, e_cS, e_cB, e_cN, e_neg, e_glb, e_bin, e_cmp, e_chain, e_and, e_or, e_not, e_ite, e_idx, e_slc, e_rev, e_call, e_glist, e_bi1, e_biR, e_max2, e_isi, e_isi2, e_sset, e_lset, e_join, e_index, e_get, e_split, e_tupE, e_lstE, e_dicK, e_dicT, e_dic1, e_dic1T, e_rng1, e_rng2, e_enum, e_zip, e_items, e_nil, e_cons, W_s, W_b, W_l, W_p, W_c, W_i, W_it, two_ss, dOf_s, d_sh, d_ol, d_ok, d_ot, asB_bl, asI_i, cons_ss, rd_0, rd_s, sh_sh, nd_sh, nd_ol, and_t, and_f, or_t, or_f, bl_s, dsl_s, ite_t, ite_f, slc_s, max_i, o_addI, o_subI, c_lt, c_le, c_gt, c_ge, c_eq, c_ne, c_in, c_nin, eq_ii, eq_ss, is_nn, ix_tup, ix_lst, ix_scr, ix_str, len_str, len_lst, len_tup, len_scr, wd_lst, wd_tup, wd_str, Option.map_some, Option.bind_some, List.map_cons, List.map_nil, rd_ne, rd_eq, rd_hid, hid_sh, hi_var, hi_cS, hi_glb, hi_bin, hi_ite, hi_idx, hi_slc, hi_rev, hi_call, hi_glist, hi_bi1, hi_biR, hi_sset, hi_join, hi_tupE, hi_lstE, hi_lc, hi_rng1, hi_rng2, hi_enum, hi_zip, hi_items, wipe_cons, wipe_nil, List.length_set, List.set_cons_zero, List.set_cons_succ, bindT, setMany, setSl, if_true, if_false, decide_true, decide_false, Bool.not_true, Bool.not_false, isTy, tup_0, lst_0, tup_1, lst_1, tup_2, lst_2, tup_3, lst_3, tup_4, lst_4, tup_5, lst_5, tup_6, lst_6, tup_7, lst_7, tup_8, lst_8, tup_9, lst_9, tup_10, lst_10, tup_11, lst_11, tup_12, lst_12, h2]) (fun h => by cases h) (fun _ => wp_skip (fin L0 n0 g0))))))
    have node : ∀ ds, (d = .lst ds ∨ d = .tup ds) → Wp (ex (lk GS) cal othS [some (.sh d), some (.sh (.lst (nD xs))), some (.sh (.lst L0))]) (fun _ => ∃ v, (Slot.sh .non) = .sh v ∧ GdW (n + 1) (2 * wt d + 30) v) (fun s => ∃ v, s = .sh v ∧ GdW (n + 1) (2 * wt d + 30) v) (fun _ => False) := fun ds hd => by
      obtain ⟨m', em, hk⟩ := gd_kids g hd
      refine wp_seq (wp_ite (t := false) (by rcases hd with rfl | rfl <;> rfl) (fun h => by cases h) (fun _ => wp_skip ?_))
      refine wp_cut (fun ρ => ∃ L, L ≠ [] ∧ (∀ v ∈ L, GdW (n + 1) (2 * wt d + 30) v) ∧ ρ = [some (.sh d), some (.sh (.lst (nD xs))), some (.sh (.lst L))]) ?_ (fun ρ ⟨L, h1, h2, h3⟩ => by rw [h3]; exact fin L h1 h2)
      refine wp_ite (t := true) (by simp (config := {implicitDefEqProofs := false, decide := true}) only [e_var, e_cI, e_cS, e_cB, e_cN, e_neg, e_glb, e_bin, e_cmp, e_chain, e_and, e_or, e_not, e_ite, e_idx, e_slc, e_rev, e_call, e_glist, e_bi1, e_biR, e_max2, e_isi, e_isi2, e_sset, e_lset, e_join, e_index, e_get, e_split, e_tupE, e_lstE, e_dicK, e_dicT, e_dic1, e_dic1T, e_rng1, e_rng2, e_enum, e_zip, e_items, e_nil, e_cons, W_s, W_b, W_l, W_p, W_c, W_i, W_it, two_ss, dOf_s, d_sh, d_ol, d_ok, d_ot, asB_bl, asI_i, cons_ss, rd_0, rd_s, sh_sh, nd_sh, nd_ol, and_t, and_f, or_t, or_f, bl_s, dsl_s, ite_t, ite_f, slc_s, max_i, o_addI, o_subI, c_lt, c_le, c_gt, c_ge, c_eq, c_ne, c_in, c_nin, eq_ii, eq_ss, is_nn, ix_tup, ix_lst, ix_scr, ix_str, len_str, len_lst, len_tup, len_scr, wd_lst, wd_tup, wd_str, Option.map_some, Option.bind_some, List.map_cons, List.map_nil, rd_ne, rd_eq, rd_hid, hid_sh, hi_var, hi_cS, hi_glb, hi_bin, hi_ite, hi_idx, hi_slc, hi_rev, hi_call, hi_glist, hi_bi1, hi_biR, hi_sset, hi_join, hi_tupE, hi_lstE, hi_lc, hi_rng1, hi_rng2, hi_enum, hi_zip, hi_items, wipe_cons, wipe_nil, List.length_set, List.set_cons_zero, List.set_cons_succ, bindT, setMany, setSl, if_true, if_false, decide_true, decide_false, Bool.not_true, Bool.not_false, isTy, tup_0, lst_0, tup_1, lst_1, tup_2, lst_2, tup_3, lst_3, tup_4, lst_4, tup_5, lst_5, tup_6, lst_6, tup_7, lst_7, tup_8, lst_8, tup_9, lst_9, tup_10, lst_10, tup_11, lst_11, tup_12, lst_12, isi2_c hd]) (fun _ => ?_) (fun h => by cases h)
      refine wp_seq (wp_set (s := .ol ([.lst ds, .tup ds, .tup ds.reverse, .lst ds] ++ L0)) ?_ (wp_skip ⟨[.lst ds, .tup ds, .tup ds.reverse, .lst ds] ++ L0, List.cons_ne_nil _ _, ?_, rfl⟩))
      · rcases hd with rfl | rfl
        · simp (config := {implicitDefEqProofs := false, decide := true}) only [e_var, e_cI, e_cS, e_cB, e_cN, e_neg, e_glb, e_bin, e_cmp, e_chain, e_and, e_or, e_not, e_ite, e_idx, e_slc, e_rev, e_call, e_glist, e_bi1, e_biR, e_max2, e_isi, e_isi2, e_sset, e_lset, e_join, e_index, e_get, e_split, e_tupE, e_lstE, e_dicK, e_dicT, e_dic1, e_dic1T, e_rng1, e_rng2, e_enum, e_zip, e_items, e_nil, e_cons, W_s, W_b, W_l, W_p, W_c, W_i, W_it, two_ss, dOf_s, d_sh, d_ol, d_ok, d_ot, asB_bl, asI_i, cons_ss, rd_0, rd_s, sh_sh, nd_sh, nd_ol, and_t, and_f, or_t, or_f, bl_s, dsl_s, ite_t, ite_f, slc_s, max_i, o_addI, o_subI, c_lt, c_le, c_gt, c_ge, c_eq, c_ne, c_in, c_nin, eq_ii, eq_ss, is_nn, ix_tup, ix_lst, ix_scr, ix_str, len_str, len_lst, len_tup, len_scr, wd_lst, wd_tup, wd_str, Option.map_some, Option.bind_some, List.map_cons, List.map_nil, rd_ne, rd_eq, rd_hid, hid_sh, hi_var, hi_cS, hi_glb, hi_bin, hi_ite, hi_idx, hi_slc, hi_rev, hi_call, hi_glist, hi_bi1, hi_biR, hi_sset, hi_join, hi_tupE, hi_lstE, hi_lc, hi_rng1, hi_rng2, hi_enum, hi_zip, hi_items, wipe_cons, wipe_nil, List.length_set, List.set_cons_zero, List.set_cons_succ, bindT, setMany, setSl, if_true, if_false, decide_true, decide_false, Bool.not_true, Bool.not_false, isTy, tup_0, lst_0, tup_1, lst_1, tup_2, lst_2, tup_3, lst_3, tup_4, lst_4, tup_5, lst_5, tup_6, lst_6, tup_7, lst_7, tup_8, lst_8, tup_9, lst_9, tup_10, lst_10, tup_11, lst_11, tup_12, lst_12, list_o, tup_o, tup_ot, revD]
          rw [o_addL (by rw [l0, sz]; simp only [List.length_cons, List.length_nil]; omega)]
        · simp (config := {implicitDefEqProofs := false, decide := true}) only [e_var, e_cI, e_cS, e_cB, e_cN, e_neg, e_glb, e_bin, e_cmp, e_chain, e_and, e_or, e_not, e_ite, e_idx, e_slc, e_rev, e_call, e_glist, e_bi1, e_biR, e_max2, e_isi, e_isi2, e_sset, e_lset, e_join, e_index, e_get, e_split, e_tupE, e_lstE, e_dicK, e_dicT, e_dic1, e_dic1T, e_rng1, e_rng2, e_enum, e_zip, e_items, e_nil, e_cons, W_s, W_b, W_l, W_p, W_c, W_i, W_it, two_ss, dOf_s, d_sh, d_ol, d_ok, d_ot, asB_bl, asI_i, cons_ss, rd_0, rd_s, sh_sh, nd_sh, nd_ol, and_t, and_f, or_t, or_f, bl_s, dsl_s, ite_t, ite_f, slc_s, max_i, o_addI, o_subI, c_lt, c_le, c_gt, c_ge, c_eq, c_ne, c_in, c_nin, eq_ii, eq_ss, is_nn, ix_tup, ix_lst, ix_scr, ix_str, len_str, len_lst, len_tup, len_scr, wd_lst, wd_tup, wd_str, Option.map_some, Option.bind_some, List.map_cons, List.map_nil, rd_ne, rd_eq, rd_hid, hid_sh, hi_var, hi_cS, hi_glb, hi_bin, hi_ite, hi_idx, hi_slc, hi_rev, hi_call, hi_glist, hi_bi1, hi_biR, hi_sset, hi_join, hi_tupE, hi_lstE, hi_lc, hi_rng1, hi_rng2, hi_enum, hi_zip, hi_items, wipe_cons, wipe_nil, List.length_set, List.set_cons_zero, List.set_cons_succ, bindT, setMany, setSl, if_true, if_false, decide_true, decide_false, Bool.not_true, Bool.not_false, isTy, tup_0, lst_0, tup_1, lst_1, tup_2, lst_2, tup_3, lst_3, tup_4, lst_4, tup_5, lst_5, tup_6, lst_6, tup_7, lst_7, tup_8, lst_8, tup_9, lst_9, tup_10, lst_10, tup_11, lst_11, tup_12, lst_12, list_ot, tup_o, tup_ot, revD]
          rw [o_addL (by rw [l0, sz]; simp only [List.length_cons, List.length_nil]; omega)]
      · intro v hv
        rcases List.mem_append.mp hv with hv | hv
        · have hwd : wt d = 1 + wtL ds := by rcases hd with rfl | rfl <;> simp only [wt]
          have kid : ∀ e, e ∈ ds → Gd n e := fun e he => by rw [em]; exact (hk e he).up
          simp only [List.mem_cons, List.not_mem_nil, or_false] at hv
          rcases hv with rfl | rfl | rfl | rfl
          · exact ⟨.lst kid, by rw [wt_l]; omega⟩
          · exact ⟨.tup kid, by rw [wt_t]; omega⟩
          · exact ⟨.tup fun e he => kid e (List.mem_reverse.mp he), by rw [wt_t, wtL_rev]; omega⟩
          · exact ⟨.lst kid, by rw [wt_l]; omega⟩
        · exact g0 v hv
    cases g with
    | non => exact plain rfl rfl
    | bl => exact plain rfl rfl
    | str h => exact plain rfl rfl
    | lst h => exact node _ (.inl rfl)
    | tup h => exact node _ (.inr rfl)
    | @int _ i =>
      refine wp_cut (fun ρ => ∃ L, L ≠ [] ∧ (∀ v ∈ L, GdW (n + 1) (2 * wt (.int i) + 30) v) ∧ ρ = [some (.sh (.int i)), some (.sh (.lst (nD xs))), some (.sh (.lst L))]) ?_ (fun ρ ⟨L, h1, h2, h3⟩ => by rw [h3]; exact wp_seq (wp_ite (t := false) rfl (fun h => by cases h) (fun _ => wp_skip (fin L h1 h2))))
      refine wp_ite (t := true) rfl (fun _ => ?_) (fun h => by cases h)
      refine wp_seq (wp_set (s := .ol ([.int (i + 1), .int (i - 1), .bl (i != 0), .int (i + 1), .int (i - 1), .bl (i != 0)] ++ L0)) ?_ (wp_skip ⟨[.int (i + 1), .int (i - 1), .bl (i != 0), .int (i + 1), .int (i - 1), .bl (i != 0)] ++ L0, List.cons_ne_nil _ _, ?_, rfl⟩))
      · simp (config := {implicitDefEqProofs := false, decide := true}) only [e_var, e_cI, e_cS, e_cB, e_cN, e_neg, e_glb, e_bin, e_cmp, e_chain, e_and, e_or, e_not, e_ite, e_idx, e_slc, e_rev, e_call, e_glist, e_bi1, e_biR, e_max2, e_isi, e_isi2, e_sset, e_lset, e_join, e_index, e_get, e_split, e_tupE, e_lstE, e_dicK, e_dicT, e_dic1, e_dic1T, e_rng1, e_rng2, e_enum, e_zip, e_items, e_nil, e_cons, W_s, W_b, W_l, W_p, W_c, W_i, W_it, two_ss, dOf_s, d_sh, d_ol, d_ok, d_ot, asB_bl, asI_i, cons_ss, rd_0, rd_s, sh_sh, nd_sh, nd_ol, and_t, and_f, or_t, or_f, bl_s, dsl_s, ite_t, ite_f, slc_s, max_i, o_addI, o_subI, c_lt, c_le, c_gt, c_ge, c_eq, c_ne, c_in, c_nin, eq_ii, eq_ss, is_nn, ix_tup, ix_lst, ix_scr, ix_str, len_str, len_lst, len_tup, len_scr, wd_lst, wd_tup, wd_str, Option.map_some, Option.bind_some, List.map_cons, List.map_nil, rd_ne, rd_eq, rd_hid, hid_sh, hi_var, hi_cS, hi_glb, hi_bin, hi_ite, hi_idx, hi_slc, hi_rev, hi_call, hi_glist, hi_bi1, hi_biR, hi_sset, hi_join, hi_tupE, hi_lstE, hi_lc, hi_rng1, hi_rng2, hi_enum, hi_zip, hi_items, wipe_cons, wipe_nil, List.length_set, List.set_cons_zero, List.set_cons_succ, bindT, setMany, setSl, if_true, if_false, decide_true, decide_false, Bool.not_true, Bool.not_false, isTy, tup_0, lst_0, tup_1, lst_1, tup_2, lst_2, tup_3, lst_3, tup_4, lst_4, tup_5, lst_5, tup_6, lst_6, tup_7, lst_7, tup_8, lst_8, tup_9, lst_9, tup_10, lst_10, tup_11, lst_11, tup_12, lst_12, biD]
        rw [o_addL (by rw [l0, sz]; simp only [List.length_cons, List.length_nil]; omega)]
      · intro v hv
        rcases List.mem_append.mp hv with hv | hv
        · simp only [List.mem_cons, List.not_mem_nil, or_false] at hv
          rcases hv with rfl | rfl | rfl | rfl | rfl | rfl
          all_goals refine ⟨?_, by simp only [wt]; omega⟩
          all_goals first | exact .int | exact .bl
        · exact g0 v hv
  obtain ⟨s, es, v, rfl, gv⟩ := key
  exact ⟨v, es, gv⟩

/-! ### k01: one change at any place -/
theorem cut_pre (ds : List D) (k : Nat) : slcD (.lst ds) none (some (k : Int)) = some (.ol (ds.take k)) := by rw [s_lst, cutL_0]
theorem cut_suf (ds : List D) (k : Nat) : slcD (.lst ds) (some (k : Int)) none = some (.ol (ds.drop k)) := by rw [s_lst, cutL_n]
theorem cut_suf1 (ds : List D) (k : Nat) : slcD (.lst ds) (some ((k : Int) + 1)) none = some (.ol (ds.drop (k + 1))) := by
  rw [show (k : Int) + 1 = ((k + 1 : Nat) : Int) from by omega, cut_suf]
theorem moved_ok {items : List D} {i : Nat} {v : D} (hv : items[i]? = some v) (hl : wtL items ≤ 100000) {xs : List Nat} (hx : 3 ≤ xs.length) (m : Nat) :
    ∃ r, calN GS T (m + 1) 10 [.lst items, .int (i : Nat), .lst (nD xs)] = some (.ol r) ∧ (∀ e ∈ r, e ∈ items) ∧ wtL r ≤ 2 * wtL items := by
  rw [calN_eq (d := d__law_moved_item) rfl]
  generalize calN GS T m = cal
  have hi := (List.getElem?_eq_some_iff.mp hv).1
  have hlen := wtL_len items
  have x0 := nD_at (xs := xs) (j := 0) (by omega)
  generalize xs[0] = u0 at x0
  replace x0 : atI (nD xs) 0 = _ := x0
  have x2 := nD_at (xs := xs) (j := 2) (by omega)
  generalize xs[2] = u2 at x2
  replace x2 : atI (nD xs) 2 = _ := x2
  have hvm := List.mem_of_getElem? hv
  have hvw := wtL_mem hvm
  have atv : atI items (i : Int) = some v := by rw [atI_nat', hv]
  have key : ∃ s, evDef (lk GS) cal d__law_moved_item [.lst items, .int (i : Nat), .lst (nD xs)] = some s ∧ ∃ r, s = .ol r ∧ (∀ e ∈ r, e ∈ items) ∧ wtL r ≤ 2 * wtL items := by
    refine def_ex rfl ?_
    show Wp (ex (lk GS) cal _ [some (.sh (.lst items)), some (.sh (.int i)), some (.sh (.lst (nD xs))), none, none]) _ _ _
    refine wp_seq (wp_set (s := .sh (.int (u2 % items.length : Nat))) ?_ ?_)
    · simp (config := {implicitDefEqProofs := false, decide := true}) only [e_var, e_cI, e_cS, e_cB, e_cN, e_neg, e_glb, e_bin, e_cmp, e_chain, e_and, e_or, e_not, e_ite, e_idx, e_slc, e_rev, e_call, e_glist, e_bi1, e_biR, e_max2, e_isi, e_isi2, e_sset, e_lset, e_join, e_index, e_get, e_split, e_tupE, e_lstE, e_dicK, e_dicT, e_dic1, e_dic1T, e_rng1, e_rng2, e_enum, e_zip, e_items, e_nil, e_cons, W_s, W_b, W_l, W_p, W_c, W_i, W_it, two_ss, dOf_s, d_sh, d_ol, d_ok, d_ot, asB_bl, asI_i, cons_ss, rd_0, rd_s, sh_sh, nd_sh, nd_ol, and_t, and_f, or_t, or_f, bl_s, dsl_s, ite_t, ite_f, slc_s, max_i, o_addI, o_subI, c_lt, c_le, c_gt, c_ge, c_eq, c_ne, c_in, c_nin, eq_ii, eq_ss, is_nn, ix_tup, ix_lst, ix_scr, ix_str, len_str, len_lst, len_tup, len_scr, wd_lst, wd_tup, wd_str, Option.map_some, Option.bind_some, List.map_cons, List.map_nil, rd_ne, rd_eq, rd_hid, hid_sh, hi_var, hi_cS, hi_glb, hi_bin, hi_ite, hi_idx, hi_slc, hi_rev, hi_call, hi_glist, hi_bi1, hi_biR, hi_sset, hi_join, hi_tupE, hi_lstE, hi_lc, hi_rng1, hi_rng2, hi_enum, hi_zip, hi_items, wipe_cons, wipe_nil, List.length_set, List.set_cons_zero, List.set_cons_succ, bindT, setMany, setSl, if_true, if_false, decide_true, decide_false, Bool.not_true, Bool.not_false, isTy, tup_0, lst_0, tup_1, lst_1, tup_2, lst_2, tup_3, lst_3, tup_4, lst_4, tup_5, lst_5, tup_6, lst_6, tup_7, lst_7, tup_8, lst_8, tup_9, lst_9, tup_10, lst_10, tup_11, lst_11, tup_12, lst_12, x2]
      rw [o_mod (by omega)]
      rfl
    have ht : u2 % items.length < items.length := Nat.mod_lt _ (by omega)
    generalize u2 % items.length = t at ht
    have restW : wtL (items.take i ++ items.drop (i + 1)) + wt v = wtL items := by
      have := wtL_at hv
      rw [wtL_app]; omega
    have restM : ∀ e ∈ items.take i ++ items.drop (i + 1), e ∈ items := fun e he => by
      rcases List.mem_append.mp he with h | h
      · exact List.mem_of_mem_take h
      · exact List.mem_of_mem_drop h
    have ins : ∀ (l : List D), (∀ e ∈ l, e ∈ items) → (∀ e ∈ l.take t ++ [v] ++ l.drop t, e ∈ items) ∧ wtL (l.take t ++ [v] ++ l.drop t) = wtL l + wt v := fun l h => by
      refine ⟨fun e he => ?_, ?_⟩
      · rcases List.mem_append.mp he with h' | h'
        · rcases List.mem_append.mp h' with h' | h'
          · exact h e (List.mem_of_mem_take h')
          · rw [List.mem_singleton.mp h']; exact hvm
        · exact h e (List.mem_of_mem_drop h')
      · have := wtL_take l t
        rw [wtL_app, wtL_app, wtL_cons, wtL_nil]; omega
    have aA : opBin .add (.lst (items.take i)) (.lst (items.drop (i + 1))) = some (.ol (items.take i ++ items.drop (i + 1))) := o_addL (by rw [List.length_take, List.length_drop, sz]; omega)
    have aL : ∀ l : List D, l.length ≤ wtL items → opBin .add (.lst (l.take t)) (.lst [v]) = some (.ol (l.take t ++ [v])) := fun l h => o_addL (by rw [List.length_take, List.length_singleton, sz]; omega)
    have aM : ∀ l : List D, l.length ≤ wtL items → opBin .add (.lst (l.take t ++ [v])) (.lst (l.drop t)) = some (.ol (l.take t ++ [v] ++ l.drop t)) := fun l h => o_addL (by rw [List.length_append, List.length_take, List.length_singleton, List.length_drop, sz]; omega)
    refine wp_seq (wp_ite (t := decide (u0 % 3 = 0)) ?_ (fun _ => ?_) (fun _ => wp_skip ?_))
    · simp (config := {implicitDefEqProofs := false, decide := true}) only [e_var, e_cI, e_cS, e_cB, e_cN, e_neg, e_glb, e_bin, e_cmp, e_chain, e_and, e_or, e_not, e_ite, e_idx, e_slc, e_rev, e_call, e_glist, e_bi1, e_biR, e_max2, e_isi, e_isi2, e_sset, e_lset, e_join, e_index, e_get, e_split, e_tupE, e_lstE, e_dicK, e_dicT, e_dic1, e_dic1T, e_rng1, e_rng2, e_enum, e_zip, e_items, e_nil, e_cons, W_s, W_b, W_l, W_p, W_c, W_i, W_it, two_ss, dOf_s, d_sh, d_ol, d_ok, d_ot, asB_bl, asI_i, cons_ss, rd_0, rd_s, sh_sh, nd_sh, nd_ol, and_t, and_f, or_t, or_f, bl_s, dsl_s, ite_t, ite_f, slc_s, max_i, o_addI, o_subI, c_lt, c_le, c_gt, c_ge, c_eq, c_ne, c_in, c_nin, eq_ii, eq_ss, is_nn, ix_tup, ix_lst, ix_scr, ix_str, len_str, len_lst, len_tup, len_scr, wd_lst, wd_tup, wd_str, Option.map_some, Option.bind_some, List.map_cons, List.map_nil, rd_ne, rd_eq, rd_hid, hid_sh, hi_var, hi_cS, hi_glb, hi_bin, hi_ite, hi_idx, hi_slc, hi_rev, hi_call, hi_glist, hi_bi1, hi_biR, hi_sset, hi_join, hi_tupE, hi_lstE, hi_lc, hi_rng1, hi_rng2, hi_enum, hi_zip, hi_items, wipe_cons, wipe_nil, List.length_set, List.set_cons_zero, List.set_cons_succ, bindT, setMany, setSl, if_true, if_false, decide_true, decide_false, Bool.not_true, Bool.not_false, isTy, tup_0, lst_0, tup_1, lst_1, tup_2, lst_2, tup_3, lst_3, tup_4, lst_4, tup_5, lst_5, tup_6, lst_6, tup_7, lst_7, tup_8, lst_8, tup_9, lst_9, tup_10, lst_10, tup_11, lst_11, tup_12, lst_12, x0, o_mod (by decide : (0 : Int) < 3)]
      exact congrArg (fun b => some (D.bl b)) (decide_eq_decide.mpr (by omega))
    · refine wp_seq (wp_ret (s := .ol (items.take i ++ items.drop (i + 1))) ?_ ⟨_, rfl, restM, by omega⟩)
      simp (config := {implicitDefEqProofs := false, decide := true}) only [e_var, e_cI, e_cS, e_cB, e_cN, e_neg, e_glb, e_bin, e_cmp, e_chain, e_and, e_or, e_not, e_ite, e_idx, e_slc, e_rev, e_call, e_glist, e_bi1, e_biR, e_max2, e_isi, e_isi2, e_sset, e_lset, e_join, e_index, e_get, e_split, e_tupE, e_lstE, e_dicK, e_dicT, e_dic1, e_dic1T, e_rng1, e_rng2, e_enum, e_zip, e_items, e_nil, e_cons, W_s, W_b, W_l, W_p, W_c, W_i, W_it, two_ss, dOf_s, d_sh, d_ol, d_ok, d_ot, asB_bl, asI_i, cons_ss, rd_0, rd_s, sh_sh, nd_sh, nd_ol, and_t, and_f, or_t, or_f, bl_s, dsl_s, ite_t, ite_f, slc_s, max_i, o_addI, o_subI, c_lt, c_le, c_gt, c_ge, c_eq, c_ne, c_in, c_nin, eq_ii, eq_ss, is_nn, ix_tup, ix_lst, ix_scr, ix_str, len_str, len_lst, len_tup, len_scr, wd_lst, wd_tup, wd_str, Option.map_some, Option.bind_some, List.map_cons, List.map_nil, rd_ne, rd_eq, rd_hid, hid_sh, hi_var, hi_cS, hi_glb, hi_bin, hi_ite, hi_idx, hi_slc, hi_rev, hi_call, hi_glist, hi_bi1, hi_biR, hi_sset, hi_join, hi_tupE, hi_lstE, hi_lc, hi_rng1, hi_rng2, hi_enum, hi_zip, hi_items, wipe_cons, wipe_nil, List.length_set, List.set_cons_zero, List.set_cons_succ, bindT, setMany, setSl, if_true, if_false, decide_true, decide_false, Bool.not_true, Bool.not_false, isTy, tup_0, lst_0, tup_1, lst_1, tup_2, lst_2, tup_3, lst_3, tup_4, lst_4, tup_5, lst_5, tup_6, lst_6, tup_7, lst_7, tup_8, lst_8, tup_9, lst_9, tup_10, lst_10, tup_11, lst_11, tup_12, lst_12, cut_pre, cut_suf1, aA]
    refine wp_seq (wp_ite (t := decide (u0 % 3 = 1)) ?_ (fun _ => ?_) (fun _ => wp_skip ?_))
    · simp (config := {implicitDefEqProofs := false, decide := true}) only [e_var, e_cI, e_cS, e_cB, e_cN, e_neg, e_glb, e_bin, e_cmp, e_chain, e_and, e_or, e_not, e_ite, e_idx, e_slc, e_rev, e_call, e_glist, e_bi1, e_biR, e_max2, e_isi, e_isi2, e_sset, e_lset, e_join, e_index, e_get, e_split, e_tupE, e_lstE, e_dicK, e_dicT, e_dic1, e_dic1T, e_rng1, e_rng2, e_enum, e_zip, e_items, e_nil, e_cons, W_s, W_b, W_l, W_p, W_c, W_i, W_it, two_ss, dOf_s, d_sh, d_ol, d_ok, d_ot, asB_bl, asI_i, cons_ss, rd_0, rd_s, sh_sh, nd_sh, nd_ol, and_t, and_f, or_t, or_f, bl_s, dsl_s, ite_t, ite_f, slc_s, max_i, o_addI, o_subI, c_lt, c_le, c_gt, c_ge, c_eq, c_ne, c_in, c_nin, eq_ii, eq_ss, is_nn, ix_tup, ix_lst, ix_scr, ix_str, len_str, len_lst, len_tup, len_scr, wd_lst, wd_tup, wd_str, Option.map_some, Option.bind_some, List.map_cons, List.map_nil, rd_ne, rd_eq, rd_hid, hid_sh, hi_var, hi_cS, hi_glb, hi_bin, hi_ite, hi_idx, hi_slc, hi_rev, hi_call, hi_glist, hi_bi1, hi_biR, hi_sset, hi_join, hi_tupE, hi_lstE, hi_lc, hi_rng1, hi_rng2, hi_enum, hi_zip, hi_items, wipe_cons, wipe_nil, List.length_set, List.set_cons_zero, List.set_cons_succ, bindT, setMany, setSl, if_true, if_false, decide_true, decide_false, Bool.not_true, Bool.not_false, isTy, tup_0, lst_0, tup_1, lst_1, tup_2, lst_2, tup_3, lst_3, tup_4, lst_4, tup_5, lst_5, tup_6, lst_6, tup_7, lst_7, tup_8, lst_8, tup_9, lst_9, tup_10, lst_10, tup_11, lst_11, tup_12, lst_12, x0, o_mod (by decide : (0 : Int) < 3)]
      exact congrArg (fun b => some (D.bl b)) (decide_eq_decide.mpr (by omega))
    · obtain ⟨i1, i2⟩ := ins items fun e h => h
      refine wp_seq (wp_ret (s := .ol (items.take t ++ [v] ++ items.drop t)) ?_ ⟨_, rfl, i1, by omega⟩)
      simp (config := {implicitDefEqProofs := false, decide := true}) only [e_var, e_cI, e_cS, e_cB, e_cN, e_neg, e_glb, e_bin, e_cmp, e_chain, e_and, e_or, e_not, e_ite, e_idx, e_slc, e_rev, e_call, e_glist, e_bi1, e_biR, e_max2, e_isi, e_isi2, e_sset, e_lset, e_join, e_index, e_get, e_split, e_tupE, e_lstE, e_dicK, e_dicT, e_dic1, e_dic1T, e_rng1, e_rng2, e_enum, e_zip, e_items, e_nil, e_cons, W_s, W_b, W_l, W_p, W_c, W_i, W_it, two_ss, dOf_s, d_sh, d_ol, d_ok, d_ot, asB_bl, asI_i, cons_ss, rd_0, rd_s, sh_sh, nd_sh, nd_ol, and_t, and_f, or_t, or_f, bl_s, dsl_s, ite_t, ite_f, slc_s, max_i, o_addI, o_subI, c_lt, c_le, c_gt, c_ge, c_eq, c_ne, c_in, c_nin, eq_ii, eq_ss, is_nn, ix_tup, ix_lst, ix_scr, ix_str, len_str, len_lst, len_tup, len_scr, wd_lst, wd_tup, wd_str, Option.map_some, Option.bind_some, List.map_cons, List.map_nil, rd_ne, rd_eq, rd_hid, hid_sh, hi_var, hi_cS, hi_glb, hi_bin, hi_ite, hi_idx, hi_slc, hi_rev, hi_call, hi_glist, hi_bi1, hi_biR, hi_sset, hi_join, hi_tupE, hi_lstE, hi_lc, hi_rng1, hi_rng2, hi_enum, hi_zip, hi_items, wipe_cons, wipe_nil, List.length_set, List.set_cons_zero, List.set_cons_succ, bindT, setMany, setSl, if_true, if_false, decide_true, decide_false, Bool.not_true, Bool.not_false, isTy, tup_0, lst_0, tup_1, lst_1, tup_2, lst_2, tup_3, lst_3, tup_4, lst_4, tup_5, lst_5, tup_6, lst_6, tup_7, lst_7, tup_8, lst_8, tup_9, lst_9, tup_10, lst_10, tup_11, lst_11, tup_12, lst_12, cut_pre, cut_suf, atv, aL _ hlen, aM _ hlen]
    refine wp_seq (wp_set (s := .ol (items.take i ++ items.drop (i + 1))) ?_ ?_)
    · simp (config := {implicitDefEqProofs := false, decide := true}) only [e_var, e_cI, e_cS, e_cB, e_cN, e_neg, e_glb, e_bin, e_cmp, e_chain, e_and, e_or, e_not, e_ite, e_idx, e_slc, e_rev, e_call, e_glist, e_bi1, e_biR, e_max2, e_isi, e_isi2, e_sset, e_lset, e_join, e_index, e_get, e_split, e_tupE, e_lstE, e_dicK, e_dicT, e_dic1, e_dic1T, e_rng1, e_rng2, e_enum, e_zip, e_items, e_nil, e_cons, W_s, W_b, W_l, W_p, W_c, W_i, W_it, two_ss, dOf_s, d_sh, d_ol, d_ok, d_ot, asB_bl, asI_i, cons_ss, rd_0, rd_s, sh_sh, nd_sh, nd_ol, and_t, and_f, or_t, or_f, bl_s, dsl_s, ite_t, ite_f, slc_s, max_i, o_addI, o_subI, c_lt, c_le, c_gt, c_ge, c_eq, c_ne, c_in, c_nin, eq_ii, eq_ss, is_nn, ix_tup, ix_lst, ix_scr, ix_str, len_str, len_lst, len_tup, len_scr, wd_lst, wd_tup, wd_str, Option.map_some, Option.bind_some, List.map_cons, List.map_nil, rd_ne, rd_eq, rd_hid, hid_sh, hi_var, hi_cS, hi_glb, hi_bin, hi_ite, hi_idx, hi_slc, hi_rev, hi_call, hi_glist, hi_bi1, hi_biR, hi_sset, hi_join, hi_tupE, hi_lstE, hi_lc, hi_rng1, hi_rng2, hi_enum, hi_zip, hi_items, wipe_cons, wipe_nil, List.length_set, List.set_cons_zero, List.set_cons_succ, bindT, setMany, setSl, if_true, if_false, decide_true, decide_false, Bool.not_true, Bool.not_false, isTy, tup_0, lst_0, tup_1, lst_1, tup_2, lst_2, tup_3, lst_3, tup_4, lst_4, tup_5, lst_5, tup_6, lst_6, tup_7, lst_7, tup_8, lst_8, tup_9, lst_9, tup_10, lst_10, tup_11, lst_11, tup_12, lst_12, cut_pre, cut_suf1, aA]
    obtain ⟨i1, i2⟩ := ins _ restM
    refine wp_seq (wp_ret (s := .ol ((items.take i ++ items.drop (i + 1)).take t ++ [v] ++ (items.take i ++ items.drop (i + 1)).drop t)) ?_ ⟨_, rfl, i1, by omega⟩)
    have rl : (items.take i ++ items.drop (i + 1)).length ≤ wtL items := by
      rw [List.length_append, List.length_take, List.length_drop]; omega
    simp (config := {implicitDefEqProofs := false, decide := true}) only [e_var, e_cI, e_cS, e_cB, e_cN, e_neg, e_glb, e_bin, e_cmp, e_chain, e_and, e_or, e_not, e_ite, e_idx, e_slc, e_rev, e_call, e_glist, e_bi1, e_biR, e_max2, e_isi, e_isi2, e_sset, e_lset, e_join, e_index, e_get, e_split, e_tupE, e_lstE, e_dicK, e_dicT, e_dic1, e_dic1T, e_rng1, e_rng2, e_enum, e_zip, e_items, e_nil, e_cons, W_s, W_b, W_l, W_p, W_c, W_i, W_it, two_ss, dOf_s, d_sh, d_ol, d_ok, d_ot, asB_bl, asI_i, cons_ss, rd_0, rd_s, sh_sh, nd_sh, nd_ol, and_t, and_f, or_t, or_f, bl_s, dsl_s, ite_t, ite_f, slc_s, max_i, o_addI, o_subI, c_lt, c_le, c_gt, c_ge, c_eq, c_ne, c_in, c_nin, eq_ii, eq_ss, is_nn, ix_tup, ix_lst, ix_scr, ix_str, len_str, len_lst, len_tup, len_scr, wd_lst, wd_tup, wd_str, Option.map_some, Option.bind_some, List.map_cons, List.map_nil, rd_ne, rd_eq, rd_hid, hid_sh, hi_var, hi_cS, hi_glb, hi_bin, hi_ite, hi_idx, hi_slc, hi_rev, hi_call, hi_glist, hi_bi1, hi_biR, hi_sset, hi_join, hi_tupE, hi_lstE, hi_lc, hi_rng1, hi_rng2, hi_enum, hi_zip, hi_items, wipe_cons, wipe_nil, List.length_set, List.set_cons_zero, List.set_cons_succ, bindT, setMany, setSl, if_true, if_false, decide_true, decide_false, Bool.not_true, Bool.not_false, isTy, tup_0, lst_0, tup_1, lst_1, tup_2, lst_2, tup_3, lst_3, tup_4, lst_4, tup_5, lst_5, tup_6, lst_6, tup_7, lst_7, tup_8, lst_8, tup_9, lst_9, tup_10, lst_10, tup_11, lst_11, tup_12, lst_12, cut_pre, cut_suf, atv, aL _ rl, aM _ rl]
  obtain ⟨s, es, r, rfl, h⟩ := key
  exact ⟨r, es, h⟩
theorem eq_trail {t : List Nat} : eqD (.tup (nD t)) (.tup []) = some (decide (t = [])) := eq_nT (xs := t) (ys := [])
theorem eq_t00 : eqD (.tup []) (.tup []) = some true := eq_nT (xs := []) (ys := [])
theorem ixN_n {n j : Nat} (hj : j < n) : ixN n (j : Int) = some j := by
  unfold ixN
  rw [if_pos (by omega), if_pos (by omega)]
  rfl
theorem eq_tc {i : Nat} {t : List Nat} : eqD (.tup (D.int (i : Nat) :: nD t)) (.tup []) = some false := (eq_nT (xs := i :: t) (ys := [])).trans (by simp)
theorem change_ok (R : Nat) : ∀ (t : List Nat) (n : Nat) (d : D) (xs : List Nat), Tr t d → Gd n d → wt d ≤ 10000 → 5 ≤ xs.length → ∀ m, ∃ s, calN GS T (t.length + m + 2) 11 [d, .tup (nD t), .lst (nD xs)] = some s ∧ GdW (n + 1) (2 * wt d + 30) s.d := by
  intro t
  induction t with
  | nil =>
    intro n d xs _ g hw hx m
    rw [calN_eq (d := d__law_change_at) rfl]
    obtain ⟨v, ev, gv⟩ := other_ok g hw (xs := xs) (by omega) m
    rw [show ([] : List Nat).length + m + 1 = m + 1 by simp]
    generalize calN GS T (m + 1) = cal at ev
    refine ⟨.sh v, def_of rfl ?_, gv⟩
    show Wp (ex (lk GS) cal _ [some (.sh d), some (.sh (.tup (nD []))), some (.sh (.lst (nD xs))), none]) _ _ _
    refine wp_seq (wp_ite (t := true) (by simp (config := {implicitDefEqProofs := false, decide := true}) only [e_var, e_cI, e_cS, e_cB, e_cN, e_neg, e_glb, e_bin, e_cmp, e_chain, e_and, e_or, e_not, e_ite, e_idx, e_slc, e_rev, e_call, e_glist, e_bi1, e_biR, e_max2, e_isi, e_isi2, e_sset, e_lset, e_join, e_index, e_get, e_split, e_tupE, e_lstE, e_dicK, e_dicT, e_dic1, e_dic1T, e_rng1, e_rng2, e_enum, e_zip, e_items, e_nil, e_cons, W_s, W_b, W_l, W_p, W_c, W_i, W_it, two_ss, dOf_s, d_sh, d_ol, d_ok, d_ot, asB_bl, asI_i, cons_ss, rd_0, rd_s, sh_sh, nd_sh, nd_ol, and_t, and_f, or_t, or_f, bl_s, dsl_s, ite_t, ite_f, slc_s, max_i, o_addI, o_subI, c_lt, c_le, c_gt, c_ge, c_eq, c_ne, c_in, c_nin, eq_ii, eq_ss, is_nn, ix_tup, ix_lst, ix_scr, ix_str, len_str, len_lst, len_tup, len_scr, wd_lst, wd_tup, wd_str, Option.map_some, Option.bind_some, List.map_cons, List.map_nil, rd_ne, rd_eq, rd_hid, hid_sh, hi_var, hi_cS, hi_glb, hi_bin, hi_ite, hi_idx, hi_slc, hi_rev, hi_call, hi_glist, hi_bi1, hi_biR, hi_sset, hi_join, hi_tupE, hi_lstE, hi_lc, hi_rng1, hi_rng2, hi_enum, hi_zip, hi_items, wipe_cons, wipe_nil, List.length_set, List.set_cons_zero, List.set_cons_succ, bindT, setMany, setSl, if_true, if_false, decide_true, decide_false, Bool.not_true, Bool.not_false, isTy, tup_0, lst_0, tup_1, lst_1, tup_2, lst_2, tup_3, lst_3, tup_4, lst_4, tup_5, lst_5, tup_6, lst_6, tup_7, lst_7, tup_8, lst_8, tup_9, lst_9, tup_10, lst_10, tup_11, lst_11, tup_12, lst_12, eq_t00]) (fun _ => ?_) (fun h => by cases h))
    exact wp_seq (wp_ret (s := .sh v) (by simp (config := {implicitDefEqProofs := false, decide := true}) only [e_var, e_cI, e_cS, e_cB, e_cN, e_neg, e_glb, e_bin, e_cmp, e_chain, e_and, e_or, e_not, e_ite, e_idx, e_slc, e_rev, e_call, e_glist, e_bi1, e_biR, e_max2, e_isi, e_isi2, e_sset, e_lset, e_join, e_index, e_get, e_split, e_tupE, e_lstE, e_dicK, e_dicT, e_dic1, e_dic1T, e_rng1, e_rng2, e_enum, e_zip, e_items, e_nil, e_cons, W_s, W_b, W_l, W_p, W_c, W_i, W_it, two_ss, dOf_s, d_sh, d_ol, d_ok, d_ot, asB_bl, asI_i, cons_ss, rd_0, rd_s, sh_sh, nd_sh, nd_ol, and_t, and_f, or_t, or_f, bl_s, dsl_s, ite_t, ite_f, slc_s, max_i, o_addI, o_subI, c_lt, c_le, c_gt, c_ge, c_eq, c_ne, c_in, c_nin, eq_ii, eq_ss, is_nn, ix_tup, ix_lst, ix_scr, ix_str, len_str, len_lst, len_tup, len_scr, wd_lst, wd_tup, wd_str, Option.map_some, Option.bind_some, List.map_cons, List.map_nil, rd_ne, rd_eq, rd_hid, hid_sh, hi_var, hi_cS, hi_glb, hi_bin, hi_ite, hi_idx, hi_slc, hi_rev, hi_call, hi_glist, hi_bi1, hi_biR, hi_sset, hi_join, hi_tupE, hi_lstE, hi_lc, hi_rng1, hi_rng2, hi_enum, hi_zip, hi_items, wipe_cons, wipe_nil, List.length_set, List.set_cons_zero, List.set_cons_succ, bindT, setMany, setSl, if_true, if_false, decide_true, decide_false, Bool.not_true, Bool.not_false, isTy, tup_0, lst_0, tup_1, lst_1, tup_2, lst_2, tup_3, lst_3, tup_4, lst_4, tup_5, lst_5, tup_6, lst_6, tup_7, lst_7, tup_8, lst_8, tup_9, lst_9, tup_10, lst_10, tup_11, lst_11, tup_12, lst_12, ev]) rfl)
  | cons i t ih =>
    intro n d xs htr g hw hx m
    obtain ⟨ds, hd, e, he, htr⟩ := htr
    obtain ⟨n', rfl, hk⟩ := gd_kids g hd
    have hwt : wt d = 1 + wtL ds := by rcases hd with rfl | rfl <;> simp only [wt]
    have hem := List.mem_of_getElem? he
    have hew := wtL_mem hem
    have hi := (List.getElem?_eq_some_iff.mp he).1
    have hdl := wtL_len ds
    have x3 := nD_at (xs := xs) (j := 3) (by omega)
    generalize hu : xs[3] = u3 at x3
    replace x3 : atI (nD xs) 3 = _ := x3
    rw [calN_eq (d := d__law_change_at) rfl]
    obtain ⟨r, er, rm, rw1⟩ := moved_ok he (by omega) (xs := xs) (by omega) ((i :: t).length + m)
    obtain ⟨s, es, gs⟩ := ih n' e xs htr (hk e hem) (by omega) hx m
    rw [show t.length + m + 2 = (i :: t).length + m + 1 by rw [List.length_cons]; omega] at es
    generalize calN GS T ((i :: t).length + m + 1) = cal at er es
    have at0 : ∀ l : List D, atI (D.int (i : Nat) :: l) 0 = some (.int (i : Nat)) := fun l => atI_zero rfl
    have ate : atI ds (i : Int) = some e := by rw [atI_nat', he]
    have key : ∃ s, evDef (lk GS) cal d__law_change_at [d, .tup (nD (i :: t)), .lst (nD xs)] = some s ∧ GdW (n' + 1 + 1) (2 * wt d + 30) s.d := by
      refine def_ex rfl ?_
      show Wp (ex (lk GS) cal _ [some (.sh d), some (.sh (.tup (nD (i :: t)))), some (.sh (.lst (nD xs))), none]) _ _ _
      refine wp_seq (wp_ite (t := false) (by simp (config := {implicitDefEqProofs := false, decide := true}) only [e_var, e_cI, e_cS, e_cB, e_cN, e_neg, e_glb, e_bin, e_cmp, e_chain, e_and, e_or, e_not, e_ite, e_idx, e_slc, e_rev, e_call, e_glist, e_bi1, e_biR, e_max2, e_isi, e_isi2, e_sset, e_lset, e_join, e_index, e_get, e_split, e_tupE, e_lstE, e_dicK, e_dicT, e_dic1, e_dic1T, e_rng1, e_rng2, e_enum, e_zip, e_items, e_nil, e_cons, W_s, W_b, W_l, W_p, W_c, W_i, W_it, two_ss, dOf_s, d_sh, d_ol, d_ok, d_ot, asB_bl, asI_i, cons_ss, rd_0, rd_s, sh_sh, nd_sh, nd_ol, and_t, and_f, or_t, or_f, bl_s, dsl_s, ite_t, ite_f, slc_s, max_i, o_addI, o_subI, c_lt, c_le, c_gt, c_ge, c_eq, c_ne, c_in, c_nin, eq_ii, eq_ss, is_nn, ix_tup, ix_lst, ix_scr, ix_str, len_str, len_lst, len_tup, len_scr, wd_lst, wd_tup, wd_str, Option.map_some, Option.bind_some, List.map_cons, List.map_nil, rd_ne, rd_eq, rd_hid, hid_sh, hi_var, hi_cS, hi_glb, hi_bin, hi_ite, hi_idx, hi_slc, hi_rev, hi_call, hi_glist, hi_bi1, hi_biR, hi_sset, hi_join, hi_tupE, hi_lstE, hi_lc, hi_rng1, hi_rng2, hi_enum, hi_zip, hi_items, wipe_cons, wipe_nil, List.length_set, List.set_cons_zero, List.set_cons_succ, bindT, setMany, setSl, if_true, if_false, decide_true, decide_false, Bool.not_true, Bool.not_false, isTy, tup_0, lst_0, tup_1, lst_1, tup_2, lst_2, tup_3, lst_3, tup_4, lst_4, tup_5, lst_5, tup_6, lst_6, tup_7, lst_7, tup_8, lst_8, tup_9, lst_9, tup_10, lst_10, tup_11, lst_11, tup_12, lst_12, eq_tc]) (fun h => by cases h) (fun _ => wp_skip ?_))
      refine wp_seq (wp_own (s := .ol ds) ?_ ?_)
      · rcases hd with rfl | rfl
        · simp (config := {implicitDefEqProofs := false, decide := true}) only [e_var, e_cI, e_cS, e_cB, e_cN, e_neg, e_glb, e_bin, e_cmp, e_chain, e_and, e_or, e_not, e_ite, e_idx, e_slc, e_rev, e_call, e_glist, e_bi1, e_biR, e_max2, e_isi, e_isi2, e_sset, e_lset, e_join, e_index, e_get, e_split, e_tupE, e_lstE, e_dicK, e_dicT, e_dic1, e_dic1T, e_rng1, e_rng2, e_enum, e_zip, e_items, e_nil, e_cons, W_s, W_b, W_l, W_p, W_c, W_i, W_it, two_ss, dOf_s, d_sh, d_ol, d_ok, d_ot, asB_bl, asI_i, cons_ss, rd_0, rd_s, sh_sh, nd_sh, nd_ol, and_t, and_f, or_t, or_f, bl_s, dsl_s, ite_t, ite_f, slc_s, max_i, o_addI, o_subI, c_lt, c_le, c_gt, c_ge, c_eq, c_ne, c_in, c_nin, eq_ii, eq_ss, is_nn, ix_tup, ix_lst, ix_scr, ix_str, len_str, len_lst, len_tup, len_scr, wd_lst, wd_tup, wd_str, Option.map_some, Option.bind_some, List.map_cons, List.map_nil, rd_ne, rd_eq, rd_hid, hid_sh, hi_var, hi_cS, hi_glb, hi_bin, hi_ite, hi_idx, hi_slc, hi_rev, hi_call, hi_glist, hi_bi1, hi_biR, hi_sset, hi_join, hi_tupE, hi_lstE, hi_lc, hi_rng1, hi_rng2, hi_enum, hi_zip, hi_items, wipe_cons, wipe_nil, List.length_set, List.set_cons_zero, List.set_cons_succ, bindT, setMany, setSl, if_true, if_false, decide_true, decide_false, Bool.not_true, Bool.not_false, isTy, tup_0, lst_0, tup_1, lst_1, tup_2, lst_2, tup_3, lst_3, tup_4, lst_4, tup_5, lst_5, tup_6, lst_6, tup_7, lst_7, tup_8, lst_8, tup_9, lst_9, tup_10, lst_10, tup_11, lst_11, tup_12, lst_12, list_o]
        · simp (config := {implicitDefEqProofs := false, decide := true}) only [e_var, e_cI, e_cS, e_cB, e_cN, e_neg, e_glb, e_bin, e_cmp, e_chain, e_and, e_or, e_not, e_ite, e_idx, e_slc, e_rev, e_call, e_glist, e_bi1, e_biR, e_max2, e_isi, e_isi2, e_sset, e_lset, e_join, e_index, e_get, e_split, e_tupE, e_lstE, e_dicK, e_dicT, e_dic1, e_dic1T, e_rng1, e_rng2, e_enum, e_zip, e_items, e_nil, e_cons, W_s, W_b, W_l, W_p, W_c, W_i, W_it, two_ss, dOf_s, d_sh, d_ol, d_ok, d_ot, asB_bl, asI_i, cons_ss, rd_0, rd_s, sh_sh, nd_sh, nd_ol, and_t, and_f, or_t, or_f, bl_s, dsl_s, ite_t, ite_f, slc_s, max_i, o_addI, o_subI, c_lt, c_le, c_gt, c_ge, c_eq, c_ne, c_in, c_nin, eq_ii, eq_ss, is_nn, ix_tup, ix_lst, ix_scr, ix_str, len_str, len_lst, len_tup, len_scr, wd_lst, wd_tup, wd_str, Option.map_some, Option.bind_some, List.map_cons, List.map_nil, rd_ne, rd_eq, rd_hid, hid_sh, hi_var, hi_cS, hi_glb, hi_bin, hi_ite, hi_idx, hi_slc, hi_rev, hi_call, hi_glist, hi_bi1, hi_biR, hi_sset, hi_join, hi_tupE, hi_lstE, hi_lc, hi_rng1, hi_rng2, hi_enum, hi_zip, hi_items, wipe_cons, wipe_nil, List.length_set, List.set_cons_zero, List.set_cons_succ, bindT, setMany, setSl, if_true, if_false, decide_true, decide_false, Bool.not_true, Bool.not_false, isTy, tup_0, lst_0, tup_1, lst_1, tup_2, lst_2, tup_3, lst_3, tup_4, lst_4, tup_5, lst_5, tup_6, lst_6, tup_7, lst_7, tup_8, lst_8, tup_9, lst_9, tup_10, lst_10, tup_11, lst_11, tup_12, lst_12, list_ot]
      show Wp (ex (lk GS) cal _ [some (.sh d), some (.sh (.tup (nD (i :: t)))), some (.sh (.lst (nD xs))), some (.ol ds)]) _ _ _
      refine wp_cut (fun ρ => ∃ l, (∀ x, x ∈ l → Gd (n' + 1) x) ∧ 1 + wtL l ≤ 2 * wt d + 30 ∧ ρ = [some (.sh d), some (.sh (.tup (nD (i :: t)))), some (.sh (.lst (nD xs))), some (.ol l)]) ?_ ?_
      · refine wp_ite (t := decide (t = []) && decide (u3 % 2 = 0)) ?_ (fun _ => ?_) (fun _ => ?_)
        · simp (config := {implicitDefEqProofs := false, decide := true}) only [e_var, e_cI, e_cS, e_cB, e_cN, e_neg, e_glb, e_bin, e_cmp, e_chain, e_and, e_or, e_not, e_ite, e_idx, e_slc, e_rev, e_call, e_glist, e_bi1, e_biR, e_max2, e_isi, e_isi2, e_sset, e_lset, e_join, e_index, e_get, e_split, e_tupE, e_lstE, e_dicK, e_dicT, e_dic1, e_dic1T, e_rng1, e_rng2, e_enum, e_zip, e_items, e_nil, e_cons, W_s, W_b, W_l, W_p, W_c, W_i, W_it, two_ss, dOf_s, d_sh, d_ol, d_ok, d_ot, asB_bl, asI_i, cons_ss, rd_0, rd_s, sh_sh, nd_sh, nd_ol, and_t, and_f, or_t, or_f, bl_s, dsl_s, ite_t, ite_f, slc_s, max_i, o_addI, o_subI, c_lt, c_le, c_gt, c_ge, c_eq, c_ne, c_in, c_nin, eq_ii, eq_ss, is_nn, ix_tup, ix_lst, ix_scr, ix_str, len_str, len_lst, len_tup, len_scr, wd_lst, wd_tup, wd_str, Option.map_some, Option.bind_some, List.map_cons, List.map_nil, rd_ne, rd_eq, rd_hid, hid_sh, hi_var, hi_cS, hi_glb, hi_bin, hi_ite, hi_idx, hi_slc, hi_rev, hi_call, hi_glist, hi_bi1, hi_biR, hi_sset, hi_join, hi_tupE, hi_lstE, hi_lc, hi_rng1, hi_rng2, hi_enum, hi_zip, hi_items, wipe_cons, wipe_nil, List.length_set, List.set_cons_zero, List.set_cons_succ, bindT, setMany, setSl, if_true, if_false, decide_true, decide_false, Bool.not_true, Bool.not_false, isTy, tup_0, lst_0, tup_1, lst_1, tup_2, lst_2, tup_3, lst_3, tup_4, lst_4, tup_5, lst_5, tup_6, lst_6, tup_7, lst_7, tup_8, lst_8, tup_9, lst_9, tup_10, lst_10, tup_11, lst_11, tup_12, lst_12, x3, o_mod (by decide : (0 : Int) < 2), and_bb, nD_len]
          refine congrArg (fun b => some (D.bl b)) ?_
          congr 1
          · refine decide_eq_decide.mpr ?_
            rw [List.length_cons, List.length_map]
            constructor
            · intro h; exact List.length_eq_zero_iff.mp (by omega)
            · intro h; rw [h]; rfl
          · exact decide_eq_decide.mpr (by omega)
        · refine wp_seq (wp_pub (s := .ol ds) rfl ?_)
          refine wp_seq (wp_own (s := .ol r) ?_ (wp_skip ⟨r, fun x hx => (hk x (rm x hx)).up, by omega, rfl⟩))
          show (evA (lk GS) cal _ [some (.sh d), some (.sh (.tup (nD (i :: t)))), some (.sh (.lst (nD xs))), some (.sh (.lst ds))]).s = _
          simp (config := {implicitDefEqProofs := false, decide := true}) only [e_var, e_cI, e_cS, e_cB, e_cN, e_neg, e_glb, e_bin, e_cmp, e_chain, e_and, e_or, e_not, e_ite, e_idx, e_slc, e_rev, e_call, e_glist, e_bi1, e_biR, e_max2, e_isi, e_isi2, e_sset, e_lset, e_join, e_index, e_get, e_split, e_tupE, e_lstE, e_dicK, e_dicT, e_dic1, e_dic1T, e_rng1, e_rng2, e_enum, e_zip, e_items, e_nil, e_cons, W_s, W_b, W_l, W_p, W_c, W_i, W_it, two_ss, dOf_s, d_sh, d_ol, d_ok, d_ot, asB_bl, asI_i, cons_ss, rd_0, rd_s, sh_sh, nd_sh, nd_ol, and_t, and_f, or_t, or_f, bl_s, dsl_s, ite_t, ite_f, slc_s, max_i, o_addI, o_subI, c_lt, c_le, c_gt, c_ge, c_eq, c_ne, c_in, c_nin, eq_ii, eq_ss, is_nn, ix_tup, ix_lst, ix_scr, ix_str, len_str, len_lst, len_tup, len_scr, wd_lst, wd_tup, wd_str, Option.map_some, Option.bind_some, List.map_cons, List.map_nil, rd_ne, rd_eq, rd_hid, hid_sh, hi_var, hi_cS, hi_glb, hi_bin, hi_ite, hi_idx, hi_slc, hi_rev, hi_call, hi_glist, hi_bi1, hi_biR, hi_sset, hi_join, hi_tupE, hi_lstE, hi_lc, hi_rng1, hi_rng2, hi_enum, hi_zip, hi_items, wipe_cons, wipe_nil, List.length_set, List.set_cons_zero, List.set_cons_succ, bindT, setMany, setSl, if_true, if_false, decide_true, decide_false, Bool.not_true, Bool.not_false, isTy, tup_0, lst_0, tup_1, lst_1, tup_2, lst_2, tup_3, lst_3, tup_4, lst_4, tup_5, lst_5, tup_6, lst_6, tup_7, lst_7, tup_8, lst_8, tup_9, lst_9, tup_10, lst_10, tup_11, lst_11, tup_12, lst_12, at0, er]
        · refine wp_seq (wp_put (ρ' := [some (.sh d), some (.sh (.tup (nD (i :: t)))), some (.sh (.lst (nD xs))), some (.ol (ds.set i s.d))]) ?_ (wp_skip ⟨ds.set i s.d, fun x hx => ?_, ?_, rfl⟩))
          · have c1 : slcD (.tup (D.int (i : Nat) :: nD t)) (some 1) none = some (.sh (.tup (nD t))) := by
              show slcD (.tup (nD (i :: t))) (some 1) none = _
              rw [s_tup, show (1 : Int) = ((1 : Nat) : Int) from rfl, cutL_map, cutL_n]; rfl
            simp (config := {implicitDefEqProofs := false, decide := true}) only [e_var, e_cI, e_cS, e_cB, e_cN, e_neg, e_glb, e_bin, e_cmp, e_chain, e_and, e_or, e_not, e_ite, e_idx, e_slc, e_rev, e_call, e_glist, e_bi1, e_biR, e_max2, e_isi, e_isi2, e_sset, e_lset, e_join, e_index, e_get, e_split, e_tupE, e_lstE, e_dicK, e_dicT, e_dic1, e_dic1T, e_rng1, e_rng2, e_enum, e_zip, e_items, e_nil, e_cons, W_s, W_b, W_l, W_p, W_c, W_i, W_it, two_ss, dOf_s, d_sh, d_ol, d_ok, d_ot, asB_bl, asI_i, cons_ss, rd_0, rd_s, sh_sh, nd_sh, nd_ol, and_t, and_f, or_t, or_f, bl_s, dsl_s, ite_t, ite_f, slc_s, max_i, o_addI, o_subI, c_lt, c_le, c_gt, c_ge, c_eq, c_ne, c_in, c_nin, eq_ii, eq_ss, is_nn, ix_tup, ix_lst, ix_scr, ix_str, len_str, len_lst, len_tup, len_scr, wd_lst, wd_tup, wd_str, Option.map_some, Option.bind_some, List.map_cons, List.map_nil, rd_ne, rd_eq, rd_hid, hid_sh, hi_var, hi_cS, hi_glb, hi_bin, hi_ite, hi_idx, hi_slc, hi_rev, hi_call, hi_glist, hi_bi1, hi_biR, hi_sset, hi_join, hi_tupE, hi_lstE, hi_lc, hi_rng1, hi_rng2, hi_enum, hi_zip, hi_items, wipe_cons, wipe_nil, List.length_set, List.set_cons_zero, List.set_cons_succ, bindT, setMany, setSl, if_true, if_false, decide_true, decide_false, Bool.not_true, Bool.not_false, isTy, tup_0, lst_0, tup_1, lst_1, tup_2, lst_2, tup_3, lst_3, tup_4, lst_4, tup_5, lst_5, tup_6, lst_6, tup_7, lst_7, tup_8, lst_8, tup_9, lst_9, tup_10, lst_10, tup_11, lst_11, tup_12, lst_12, at0, ate, c1, es]
            show (ixN ds.length (i : Int)).map _ = _
            rw [ixN_n hi]
            rfl
          · rcases List.mem_or_eq_of_mem_set hx with h | h
            · exact (hk x h).up
            · rw [h]; exact gs.g
          · have := wtL_set (v := s.d) he
            have := gs.w
            omega
      · rintro ρ ⟨l, hl, hlw, rfl⟩
        refine wp_seq (wp_pub (s := .ol l) rfl ?_)
        show Wp (ex (lk GS) cal _ [some (.sh d), some (.sh (.tup (nD (i :: t)))), some (.sh (.lst (nD xs))), some (.sh (.lst l))]) _ _ _
        rcases hd with rfl | rfl
        · exact wp_seq (wp_ret (s := .sh (.lst l)) (by simp (config := {implicitDefEqProofs := false, decide := true}) only [e_var, e_cI, e_cS, e_cB, e_cN, e_neg, e_glb, e_bin, e_cmp, e_chain, e_and, e_or, e_not, e_ite, e_idx, e_slc, e_rev, e_call, e_glist, e_bi1, e_biR, e_max2, e_isi, e_isi2, e_sset, e_lset, e_join, e_index, e_get, e_split, e_tupE, e_lstE, e_dicK, e_dicT, e_dic1, e_dic1T, e_rng1, e_rng2, e_enum, e_zip, e_items, e_nil, e_cons, W_s, W_b, W_l, W_p, W_c, W_i, W_it, two_ss, dOf_s, d_sh, d_ol, d_ok, d_ot, asB_bl, asI_i, cons_ss, rd_0, rd_s, sh_sh, nd_sh, nd_ol, and_t, and_f, or_t, or_f, bl_s, dsl_s, ite_t, ite_f, slc_s, max_i, o_addI, o_subI, c_lt, c_le, c_gt, c_ge, c_eq, c_ne, c_in, c_nin, eq_ii, eq_ss, is_nn, ix_tup, ix_lst, ix_scr, ix_str, len_str, len_lst, len_tup, len_scr, wd_lst, wd_tup, wd_str, Option.map_some, Option.bind_some, List.map_cons, List.map_nil, rd_ne, rd_eq, rd_hid, hid_sh, hi_var, hi_cS, hi_glb, hi_bin, hi_ite, hi_idx, hi_slc, hi_rev, hi_call, hi_glist, hi_bi1, hi_biR, hi_sset, hi_join, hi_tupE, hi_lstE, hi_lc, hi_rng1, hi_rng2, hi_enum, hi_zip, hi_items, wipe_cons, wipe_nil, List.length_set, List.set_cons_zero, List.set_cons_succ, bindT, setMany, setSl, if_true, if_false, decide_true, decide_false, Bool.not_true, Bool.not_false, isTy, tup_0, lst_0, tup_1, lst_1, tup_2, lst_2, tup_3, lst_3, tup_4, lst_4, tup_5, lst_5, tup_6, lst_6, tup_7, lst_7, tup_8, lst_8, tup_9, lst_9, tup_10, lst_10, tup_11, lst_11, tup_12, lst_12]) ⟨.lst hl, by rw [d_sh, wt_l]; exact hlw⟩)
        · exact wp_seq (wp_ret (s := .sh (.tup l)) (by simp (config := {implicitDefEqProofs := false, decide := true}) only [e_var, e_cI, e_cS, e_cB, e_cN, e_neg, e_glb, e_bin, e_cmp, e_chain, e_and, e_or, e_not, e_ite, e_idx, e_slc, e_rev, e_call, e_glist, e_bi1, e_biR, e_max2, e_isi, e_isi2, e_sset, e_lset, e_join, e_index, e_get, e_split, e_tupE, e_lstE, e_dicK, e_dicT, e_dic1, e_dic1T, e_rng1, e_rng2, e_enum, e_zip, e_items, e_nil, e_cons, W_s, W_b, W_l, W_p, W_c, W_i, W_it, two_ss, dOf_s, d_sh, d_ol, d_ok, d_ot, asB_bl, asI_i, cons_ss, rd_0, rd_s, sh_sh, nd_sh, nd_ol, and_t, and_f, or_t, or_f, bl_s, dsl_s, ite_t, ite_f, slc_s, max_i, o_addI, o_subI, c_lt, c_le, c_gt, c_ge, c_eq, c_ne, c_in, c_nin, eq_ii, eq_ss, is_nn, ix_tup, ix_lst, ix_scr, ix_str, len_str, len_lst, len_tup, len_scr, wd_lst, wd_tup, wd_str, Option.map_some, Option.bind_some, List.map_cons, List.map_nil, rd_ne, rd_eq, rd_hid, hid_sh, hi_var, hi_cS, hi_glb, hi_bin, hi_ite, hi_idx, hi_slc, hi_rev, hi_call, hi_glist, hi_bi1, hi_biR, hi_sset, hi_join, hi_tupE, hi_lstE, hi_lc, hi_rng1, hi_rng2, hi_enum, hi_zip, hi_items, wipe_cons, wipe_nil, List.length_set, List.set_cons_zero, List.set_cons_succ, bindT, setMany, setSl, if_true, if_false, decide_true, decide_false, Bool.not_true, Bool.not_false, isTy, tup_0, lst_0, tup_1, lst_1, tup_2, lst_2, tup_3, lst_3, tup_4, lst_4, tup_5, lst_5, tup_6, lst_6, tup_7, lst_7, tup_8, lst_8, tup_9, lst_9, tup_10, lst_10, tup_11, lst_11, tup_12, lst_12, tup_o]) ⟨.tup hl, by rw [d_sh, wt_t]; exact hlw⟩)
    exact key
theorem mutated_ok {n : Nat} {d : D} (g : Gd n d) (hn : n ≤ 8) (hw : wt d ≤ 5000) {xs : List Nat} (hx : 5 ≤ xs.length) (m : Nat) : ∃ s, calN GS T (m + 13) 12 [d, .lst (nD xs)] = some s ∧ GdW (n + 1) (2 * wt d + 30) s.d := by
  rw [calN_eq (d := d__law_mutated) rfl]
  have hp := paths_ok n d g (by omega) (by omega) (m + 11 - n)
  rw [show n + (m + 11 - n) + 1 = m + 12 by omega] at hp
  have x4 := nD_at (xs := xs) (j := 4) (by omega)
  generalize xs[4] = u4 at x4
  replace x4 : atI (nD xs) 4 = _ := x4
  have ne : (pth d).map pD ≠ [] := fun e => by
    have h1 := pth_count d
    have h2 := wt_pos d
    rw [List.map_eq_nil_iff] at e
    rw [e] at h1
    simp at h1
    omega
  obtain ⟨v, hv, ev⟩ := at_len ne u4
  obtain ⟨t, ht, rfl⟩ := List.mem_map.mp hv
  have tr := pth_tr d ht
  have tl := tr_len tr g
  obtain ⟨s, es, gs⟩ := change_ok 0 t n d xs tr g (by omega) hx (m + 10 - t.length)
  rw [show t.length + (m + 10 - t.length) + 2 = m + 12 by omega] at es
  generalize calN GS T (m + 12) = cal at hp es
  have hl := List.length_pos_iff.mpr ne
  refine ⟨s, def_of rfl ?_, gs⟩
  show Wp (ex (lk GS) cal _ [some (.sh d), some (.sh (.lst (nD xs))), none]) _ _ _
  refine wp_seq (wp_set (s := .sh (.lst ((pth d).map pD))) (by simp (config := {implicitDefEqProofs := false, decide := true}) only [e_var, e_cI, e_cS, e_cB, e_cN, e_neg, e_glb, e_bin, e_cmp, e_chain, e_and, e_or, e_not, e_ite, e_idx, e_slc, e_rev, e_call, e_glist, e_bi1, e_biR, e_max2, e_isi, e_isi2, e_sset, e_lset, e_join, e_index, e_get, e_split, e_tupE, e_lstE, e_dicK, e_dicT, e_dic1, e_dic1T, e_rng1, e_rng2, e_enum, e_zip, e_items, e_nil, e_cons, W_s, W_b, W_l, W_p, W_c, W_i, W_it, two_ss, dOf_s, d_sh, d_ol, d_ok, d_ot, asB_bl, asI_i, cons_ss, rd_0, rd_s, sh_sh, nd_sh, nd_ol, and_t, and_f, or_t, or_f, bl_s, dsl_s, ite_t, ite_f, slc_s, max_i, o_addI, o_subI, c_lt, c_le, c_gt, c_ge, c_eq, c_ne, c_in, c_nin, eq_ii, eq_ss, is_nn, ix_tup, ix_lst, ix_scr, ix_str, len_str, len_lst, len_tup, len_scr, wd_lst, wd_tup, wd_str, Option.map_some, Option.bind_some, List.map_cons, List.map_nil, rd_ne, rd_eq, rd_hid, hid_sh, hi_var, hi_cS, hi_glb, hi_bin, hi_ite, hi_idx, hi_slc, hi_rev, hi_call, hi_glist, hi_bi1, hi_biR, hi_sset, hi_join, hi_tupE, hi_lstE, hi_lc, hi_rng1, hi_rng2, hi_enum, hi_zip, hi_items, wipe_cons, wipe_nil, List.length_set, List.set_cons_zero, List.set_cons_succ, bindT, setMany, setSl, if_true, if_false, decide_true, decide_false, Bool.not_true, Bool.not_false, isTy, tup_0, lst_0, tup_1, lst_1, tup_2, lst_2, tup_3, lst_3, tup_4, lst_4, tup_5, lst_5, tup_6, lst_6, tup_7, lst_7, tup_8, lst_8, tup_9, lst_9, tup_10, lst_10, tup_11, lst_11, tup_12, lst_12, hp]) ?_)
  refine wp_seq (wp_ret (s := s) ?_ rfl)
  show (evA (lk GS) cal _ [some (.sh d), some (.sh (.lst (nD xs))), some (.sh (.lst ((pth d).map pD)))]).s = _
  simp (config := {implicitDefEqProofs := false, decide := true}) only [e_var, e_cI, e_cS, e_cB, e_cN, e_neg, e_glb, e_bin, e_cmp, e_chain, e_and, e_or, e_not, e_ite, e_idx, e_slc, e_rev, e_call, e_glist, e_bi1, e_biR, e_max2, e_isi, e_isi2, e_sset, e_lset, e_join, e_index, e_get, e_split, e_tupE, e_lstE, e_dicK, e_dicT, e_dic1, e_dic1T, e_rng1, e_rng2, e_enum, e_zip, e_items, e_nil, e_cons, W_s, W_b, W_l, W_p, W_c, W_i, W_it, two_ss, dOf_s, d_sh, d_ol, d_ok, d_ot, asB_bl, asI_i, cons_ss, rd_0, rd_s, sh_sh, nd_sh, nd_ol, and_t, and_f, or_t, or_f, bl_s, dsl_s, ite_t, ite_f, slc_s, max_i, o_addI, o_subI, c_lt, c_le, c_gt, c_ge, c_eq, c_ne, c_in, c_nin, eq_ii, eq_ss, is_nn, ix_tup, ix_lst, ix_scr, ix_str, len_str, len_lst, len_tup, len_scr, wd_lst, wd_tup, wd_str, Option.map_some, Option.bind_some, List.map_cons, List.map_nil, rd_ne, rd_eq, rd_hid, hid_sh, hi_var, hi_cS, hi_glb, hi_bin, hi_ite, hi_idx, hi_slc, hi_rev, hi_call, hi_glist, hi_bi1, hi_biR, hi_sset, hi_join, hi_tupE, hi_lstE, hi_lc, hi_rng1, hi_rng2, hi_enum, hi_zip, hi_items, wipe_cons, wipe_nil, List.length_set, List.set_cons_zero, List.set_cons_succ, bindT, setMany, setSl, if_true, if_false, decide_true, decide_false, Bool.not_true, Bool.not_false, isTy, tup_0, lst_0, tup_1, lst_1, tup_2, lst_2, tup_3, lst_3, tup_4, lst_4, tup_5, lst_5, tup_6, lst_6, tup_7, lst_7, tup_8, lst_8, tup_9, lst_9, tup_10, lst_10, tup_11, lst_11, tup_12, lst_12, x4]
  rw [o_mod (by omega)]
  simp (config := {implicitDefEqProofs := false, decide := true}) only [e_var, e_cI, e_cS, e_cB, e_cN, e_neg, e_glb, e_bin, e_cmp, e_chain, e_and, e_or, e_not, e_ite, e_idx, e_slc, e_rev, e_call, e_glist, e_bi1, e_biR, e_max2, e_isi, e_isi2, e_sset, e_lset, e_join, e_index, e_get, e_split, e_tupE, e_lstE, e_dicK, e_dicT, e_dic1, e_dic1T, e_rng1, e_rng2, e_enum, e_zip, e_items, e_nil, e_cons, W_s, W_b, W_l, W_p, W_c, W_i, W_it, two_ss, dOf_s, d_sh, d_ol, d_ok, d_ot, asB_bl, asI_i, cons_ss, rd_0, rd_s, sh_sh, nd_sh, nd_ol, and_t, and_f, or_t, or_f, bl_s, dsl_s, ite_t, ite_f, slc_s, max_i, o_addI, o_subI, c_lt, c_le, c_gt, c_ge, c_eq, c_ne, c_in, c_nin, eq_ii, eq_ss, is_nn, ix_tup, ix_lst, ix_scr, ix_str, len_str, len_lst, len_tup, len_scr, wd_lst, wd_tup, wd_str, Option.map_some, Option.bind_some, List.map_cons, List.map_nil, rd_ne, rd_eq, rd_hid, hid_sh, hi_var, hi_cS, hi_glb, hi_bin, hi_ite, hi_idx, hi_slc, hi_rev, hi_call, hi_glist, hi_bi1, hi_biR, hi_sset, hi_join, hi_tupE, hi_lstE, hi_lc, hi_rng1, hi_rng2, hi_enum, hi_zip, hi_items, wipe_cons, wipe_nil, List.length_set, List.set_cons_zero, List.set_cons_succ, bindT, setMany, setSl, if_true, if_false, decide_true, decide_false, Bool.not_true, Bool.not_false, isTy, tup_0, lst_0, tup_1, lst_1, tup_2, lst_2, tup_3, lst_3, tup_4, lst_4, tup_5, lst_5, tup_6, lst_6, tup_7, lst_7, tup_8, lst_8, tup_9, lst_9, tup_10, lst_10, tup_11, lst_11, tup_12, lst_12, ev, es]

/-! ### k01: a value of any kind -/
theorem at_lit {L : List D} {k : Nat} (hk : k < L.length) : ∃ v, v ∈ L ∧ atI L (k : Int) = some v := ⟨L[k], List.getElem_mem hk, by rw [atI_nat', List.getElem?_eq_getElem hk]⟩
theorem any_ok : ∀ (k : Nat), k ≤ 4 → ∀ (xs : List Nat) (m : Nat), 20 ≤ xs.length → xs.length ≤ 1000 → ∃ s, calN GS T (k + m + 1) 13 [.lst (nD xs), .int (4 - k : Nat)] = some s ∧ GdW k (4 ^ k) s.d := by
  intro k
  induction k with
  | zero =>
    intro _ xs m hx hx2
    rw [calN_eq (d := d__law_any_value) rfl]
    generalize calN GS T (0 + m) = cal
    have key : ∃ s, evDef (lk GS) cal d__law_any_value [.lst (nD xs), .int (4 - 0 : Nat)] = some s ∧ GdW 0 (4 ^ 0) s.d := by
      refine def_ex rfl ?_
      show Wp (ex (lk GS) cal _ [some (.sh (.lst (nD xs))), some (.sh (.int 4)), none, none, none, none]) _ _ _
      obtain ⟨big, hb⟩ : ∃ big, opBin .pow (.int 10) (.int 39) = some (.sh (.int big)) := ⟨_, o_pow (by decide)⟩
      have x4 : atI (nD xs) 4 = some (.int (xs[4]'(by omega) : Nat)) := nD_at (xs := xs) (j := 4) (by omega)
      have x5 : atI (nD xs) 5 = some (.int (xs[5]'(by omega) : Nat)) := nD_at (xs := xs) (j := 5) (by omega)
      have x6 : atI (nD xs) 6 = some (.int (xs[6]'(by omega) : Nat)) := nD_at (xs := xs) (j := 6) (by omega)
      generalize xs[4]'(by omega) = u at x4
      generalize xs[5]'(by omega) = v at x5
      generalize xs[6]'(by omega) = w at x6
      replace x5 : atI (nD xs) ((4 : Int) + 1) = _ := x5
      replace x6 : atI (nD xs) ((4 : Int) + 2) = _ := x6
      refine wp_seq (wp_set (s := .sh (.int (u % 12 : Nat))) (by simp (config := {implicitDefEqProofs := false, decide := true}) only [e_var, e_cI, e_cS, e_cB, e_cN, e_neg, e_glb, e_bin, e_cmp, e_chain, e_and, e_or, e_not, e_ite, e_idx, e_slc, e_rev, e_call, e_glist, e_bi1, e_biR, e_max2, e_isi, e_isi2, e_sset, e_lset, e_join, e_index, e_get, e_split, e_tupE, e_lstE, e_dicK, e_dicT, e_dic1, e_dic1T, e_rng1, e_rng2, e_enum, e_zip, e_items, e_nil, e_cons, W_s, W_b, W_l, W_p, W_c, W_i, W_it, two_ss, dOf_s, d_sh, d_ol, d_ok, d_ot, asB_bl, asI_i, cons_ss, rd_0, rd_s, sh_sh, nd_sh, nd_ol, and_t, and_f, or_t, or_f, bl_s, dsl_s, ite_t, ite_f, slc_s, max_i, o_addI, o_subI, c_lt, c_le, c_gt, c_ge, c_eq, c_ne, c_in, c_nin, eq_ii, eq_ss, is_nn, ix_tup, ix_lst, ix_scr, ix_str, len_str, len_lst, len_tup, len_scr, wd_lst, wd_tup, wd_str, Option.map_some, Option.bind_some, List.map_cons, List.map_nil, rd_ne, rd_eq, rd_hid, hid_sh, hi_var, hi_cS, hi_glb, hi_bin, hi_ite, hi_idx, hi_slc, hi_rev, hi_call, hi_glist, hi_bi1, hi_biR, hi_sset, hi_join, hi_tupE, hi_lstE, hi_lc, hi_rng1, hi_rng2, hi_enum, hi_zip, hi_items, wipe_cons, wipe_nil, List.length_set, List.set_cons_zero, List.set_cons_succ, bindT, setMany, setSl, if_true, if_false, decide_true, decide_false, Bool.not_true, Bool.not_false, isTy, tup_0, lst_0, tup_1, lst_1, tup_2, lst_2, tup_3, lst_3, tup_4, lst_4, tup_5, lst_5, tup_6, lst_6, tup_7, lst_7, tup_8, lst_8, tup_9, lst_9, tup_10, lst_10, tup_11, lst_11, tup_12, lst_12, x4, o_mod (by decide : (0 : Int) < 12)]; rfl) ?_)
      obtain ⟨z, hz, ez⟩ := at_len (L := [.int ((v : Int) % 12 - 2), .int (0 - big), .int big]) (List.cons_ne_nil _ _) w
      replace ez : atI [D.int ((v : Int) % 12 - 2), .int (0 - big), .int big] ((w : Int) % 3) = some z := ez
      have zi : ∃ i, z = .int i := by
        simp only [List.mem_cons, List.not_mem_nil, or_false] at hz
        rcases hz with rfl | rfl | rfl <;> exact ⟨_, rfl⟩
      obtain ⟨i, rfl⟩ := zi
      refine wp_seq (wp_set (s := .sh (.int i)) (by simp (config := {implicitDefEqProofs := false, decide := true}) only [e_var, e_cI, e_cS, e_cB, e_cN, e_neg, e_glb, e_bin, e_cmp, e_chain, e_and, e_or, e_not, e_ite, e_idx, e_slc, e_rev, e_call, e_glist, e_bi1, e_biR, e_max2, e_isi, e_isi2, e_sset, e_lset, e_join, e_index, e_get, e_split, e_tupE, e_lstE, e_dicK, e_dicT, e_dic1, e_dic1T, e_rng1, e_rng2, e_enum, e_zip, e_items, e_nil, e_cons, W_s, W_b, W_l, W_p, W_c, W_i, W_it, two_ss, dOf_s, d_sh, d_ol, d_ok, d_ot, asB_bl, asI_i, cons_ss, rd_0, rd_s, sh_sh, nd_sh, nd_ol, and_t, and_f, or_t, or_f, bl_s, dsl_s, ite_t, ite_f, slc_s, max_i, o_addI, o_subI, c_lt, c_le, c_gt, c_ge, c_eq, c_ne, c_in, c_nin, eq_ii, eq_ss, is_nn, ix_tup, ix_lst, ix_scr, ix_str, len_str, len_lst, len_tup, len_scr, wd_lst, wd_tup, wd_str, Option.map_some, Option.bind_some, List.map_cons, List.map_nil, rd_ne, rd_eq, rd_hid, hid_sh, hi_var, hi_cS, hi_glb, hi_bin, hi_ite, hi_idx, hi_slc, hi_rev, hi_call, hi_glist, hi_bi1, hi_biR, hi_sset, hi_join, hi_tupE, hi_lstE, hi_lc, hi_rng1, hi_rng2, hi_enum, hi_zip, hi_items, wipe_cons, wipe_nil, List.length_set, List.set_cons_zero, List.set_cons_succ, bindT, setMany, setSl, if_true, if_false, decide_true, decide_false, Bool.not_true, Bool.not_false, isTy, tup_0, lst_0, tup_1, lst_1, tup_2, lst_2, tup_3, lst_3, tup_4, lst_4, tup_5, lst_5, tup_6, lst_6, tup_7, lst_7, tup_8, lst_8, tup_9, lst_9, tup_10, lst_10, tup_11, lst_11, tup_12, lst_12, x5, x6, hb, o_mod (by decide : (0 : Int) < 12), o_mod (by decide : (0 : Int) < 3), ez]) ?_)
      refine wp_seq (wp_ite (t := true) ?_ (fun _ => wp_seq (wp_ret (s := .sh (.int i)) (by simp (config := {implicitDefEqProofs := false, decide := true}) only [e_var, e_cI, e_cS, e_cB, e_cN, e_neg, e_glb, e_bin, e_cmp, e_chain, e_and, e_or, e_not, e_ite, e_idx, e_slc, e_rev, e_call, e_glist, e_bi1, e_biR, e_max2, e_isi, e_isi2, e_sset, e_lset, e_join, e_index, e_get, e_split, e_tupE, e_lstE, e_dicK, e_dicT, e_dic1, e_dic1T, e_rng1, e_rng2, e_enum, e_zip, e_items, e_nil, e_cons, W_s, W_b, W_l, W_p, W_c, W_i, W_it, two_ss, dOf_s, d_sh, d_ol, d_ok, d_ot, asB_bl, asI_i, cons_ss, rd_0, rd_s, sh_sh, nd_sh, nd_ol, and_t, and_f, or_t, or_f, bl_s, dsl_s, ite_t, ite_f, slc_s, max_i, o_addI, o_subI, c_lt, c_le, c_gt, c_ge, c_eq, c_ne, c_in, c_nin, eq_ii, eq_ss, is_nn, ix_tup, ix_lst, ix_scr, ix_str, len_str, len_lst, len_tup, len_scr, wd_lst, wd_tup, wd_str, Option.map_some, Option.bind_some, List.map_cons, List.map_nil, rd_ne, rd_eq, rd_hid, hid_sh, hi_var, hi_cS, hi_glb, hi_bin, hi_ite, hi_idx, hi_slc, hi_rev, hi_call, hi_glist, hi_bi1, hi_biR, hi_sset, hi_join, hi_tupE, hi_lstE, hi_lc, hi_rng1, hi_rng2, hi_enum, hi_zip, hi_items, wipe_cons, wipe_nil, List.length_set, List.set_cons_zero, List.set_cons_succ, bindT, setMany, setSl, if_true, if_false, decide_true, decide_false, Bool.not_true, Bool.not_false, isTy, tup_0, lst_0, tup_1, lst_1, tup_2, lst_2, tup_3, lst_3, tup_4, lst_4, tup_5, lst_5, tup_6, lst_6, tup_7, lst_7, tup_8, lst_8, tup_9, lst_9, tup_10, lst_10, tup_11, lst_11, tup_12, lst_12]) ⟨.int, by simp only [wt, d_sh]; decide⟩)) (fun h => by cases h))
      by_cases hc : ((u % 12 : Nat) : Int) < 4
      · simp (config := {implicitDefEqProofs := false, decide := true}) only [e_var, e_cI, e_cS, e_cB, e_cN, e_neg, e_glb, e_bin, e_cmp, e_chain, e_and, e_or, e_not, e_ite, e_idx, e_slc, e_rev, e_call, e_glist, e_bi1, e_biR, e_max2, e_isi, e_isi2, e_sset, e_lset, e_join, e_index, e_get, e_split, e_tupE, e_lstE, e_dicK, e_dicT, e_dic1, e_dic1T, e_rng1, e_rng2, e_enum, e_zip, e_items, e_nil, e_cons, W_s, W_b, W_l, W_p, W_c, W_i, W_it, two_ss, dOf_s, d_sh, d_ol, d_ok, d_ot, asB_bl, asI_i, cons_ss, rd_0, rd_s, sh_sh, nd_sh, nd_ol, and_t, and_f, or_t, or_f, bl_s, dsl_s, ite_t, ite_f, slc_s, max_i, o_addI, o_subI, c_lt, c_le, c_gt, c_ge, c_eq, c_ne, c_in, c_nin, eq_ii, eq_ss, is_nn, ix_tup, ix_lst, ix_scr, ix_str, len_str, len_lst, len_tup, len_scr, wd_lst, wd_tup, wd_str, Option.map_some, Option.bind_some, List.map_cons, List.map_nil, rd_ne, rd_eq, rd_hid, hid_sh, hi_var, hi_cS, hi_glb, hi_bin, hi_ite, hi_idx, hi_slc, hi_rev, hi_call, hi_glist, hi_bi1, hi_biR, hi_sset, hi_join, hi_tupE, hi_lstE, hi_lc, hi_rng1, hi_rng2, hi_enum, hi_zip, hi_items, wipe_cons, wipe_nil, List.length_set, List.set_cons_zero, List.set_cons_succ, bindT, setMany, setSl, if_true, if_false, decide_true, decide_false, Bool.not_true, Bool.not_false, isTy, tup_0, lst_0, tup_1, lst_1, tup_2, lst_2, tup_3, lst_3, tup_4, lst_4, tup_5, lst_5, tup_6, lst_6, tup_7, lst_7, tup_8, lst_8, tup_9, lst_9, tup_10, lst_10, tup_11, lst_11, tup_12, lst_12, decide_eq_true hc]
      · simp (config := {implicitDefEqProofs := false, decide := true}) only [e_var, e_cI, e_cS, e_cB, e_cN, e_neg, e_glb, e_bin, e_cmp, e_chain, e_and, e_or, e_not, e_ite, e_idx, e_slc, e_rev, e_call, e_glist, e_bi1, e_biR, e_max2, e_isi, e_isi2, e_sset, e_lset, e_join, e_index, e_get, e_split, e_tupE, e_lstE, e_dicK, e_dicT, e_dic1, e_dic1T, e_rng1, e_rng2, e_enum, e_zip, e_items, e_nil, e_cons, W_s, W_b, W_l, W_p, W_c, W_i, W_it, two_ss, dOf_s, d_sh, d_ol, d_ok, d_ot, asB_bl, asI_i, cons_ss, rd_0, rd_s, sh_sh, nd_sh, nd_ol, and_t, and_f, or_t, or_f, bl_s, dsl_s, ite_t, ite_f, slc_s, max_i, o_addI, o_subI, c_lt, c_le, c_gt, c_ge, c_eq, c_ne, c_in, c_nin, eq_ii, eq_ss, is_nn, ix_tup, ix_lst, ix_scr, ix_str, len_str, len_lst, len_tup, len_scr, wd_lst, wd_tup, wd_str, Option.map_some, Option.bind_some, List.map_cons, List.map_nil, rd_ne, rd_eq, rd_hid, hid_sh, hi_var, hi_cS, hi_glb, hi_bin, hi_ite, hi_idx, hi_slc, hi_rev, hi_call, hi_glist, hi_bi1, hi_biR, hi_sset, hi_join, hi_tupE, hi_lstE, hi_lc, hi_rng1, hi_rng2, hi_enum, hi_zip, hi_items, wipe_cons, wipe_nil, List.length_set, List.set_cons_zero, List.set_cons_succ, bindT, setMany, setSl, if_true, if_false, decide_true, decide_false, Bool.not_true, Bool.not_false, isTy, tup_0, lst_0, tup_1, lst_1, tup_2, lst_2, tup_3, lst_3, tup_4, lst_4, tup_5, lst_5, tup_6, lst_6, tup_7, lst_7, tup_8, lst_8, tup_9, lst_9, tup_10, lst_10, tup_11, lst_11, tup_12, lst_12, decide_eq_false hc]
    exact key
  | succ k ih =>
    intro hk4 xs m hx hx2
    rw [calN_eq (d := d__law_any_value) rfl]
    have hA := fun (ys : List Nat) (h1 : 20 ≤ ys.length) (h2 : ys.length ≤ 1000) => ih (by omega) ys m h1 h2
    rw [show k + 1 + m = k + m + 1 by omega]
    generalize calN GS T (k + m + 1) = cal at hA
    obtain ⟨dp, hdp⟩ : ∃ dp, dp = 4 - (k + 1) := ⟨_, rfl⟩
    rw [← hdp]
    rw [show 4 - k = dp + 1 by omega] at hA
    have key : ∃ s, evDef (lk GS) cal d__law_any_value [.lst (nD xs), .int (dp : Nat)] = some s ∧ GdW (k + 1) (4 ^ (k + 1)) s.d := by
      refine def_ex rfl ?_
      show Wp (ex (lk GS) cal _ [some (.sh (.lst (nD xs))), some (.sh (.int dp)), none, none, none, none]) _ _ _
      have p4 : 1 ≤ 4 ^ k := Nat.pow_pos (by decide)
      have p5 : 4 ^ (k + 1) = 4 * 4 ^ k := by rw [Nat.pow_succ]; omega
      obtain ⟨big, hb⟩ : ∃ big, opBin .pow (.int 10) (.int 39) = some (.sh (.int big)) := ⟨_, o_pow (by decide)⟩
      have xat : ∀ j : Nat, j ≤ 4 → ∃ u : Nat, atI (nD xs) ((dp : Int) + (j : Int)) = some (.int (u : Nat)) := fun j hj =>
        ⟨xs[dp + j]'(by omega), by rw [show (dp : Int) + (j : Int) = ((dp + j : Nat) : Int) from by omega]; exact nD_at (by omega)⟩
      obtain ⟨u, x0⟩ := xat 0 (by decide)
      obtain ⟨v, x1⟩ := xat 1 (by decide)
      obtain ⟨w, x2⟩ := xat 2 (by decide)
      obtain ⟨y, x3⟩ := xat 3 (by decide)
      obtain ⟨q, x4⟩ := xat 4 (by decide)
      replace x0 : atI (nD xs) (dp : Int) = some (.int (u : Nat)) := by rw [← x0]; simp
      replace x1 : atI (nD xs) ((dp : Int) + 1) = some (.int (v : Nat)) := x1
      replace x2 : atI (nD xs) ((dp : Int) + 2) = some (.int (w : Nat)) := x2
      replace x3 : atI (nD xs) ((dp : Int) + 3) = some (.int (y : Nat)) := x3
      replace x4 : atI (nD xs) ((dp : Int) + 4) = some (.int (q : Nat)) := x4
      refine wp_seq (wp_set (s := .sh (.int (u % 12 : Nat))) (by simp (config := {implicitDefEqProofs := false, decide := true}) only [e_var, e_cI, e_cS, e_cB, e_cN, e_neg, e_glb, e_bin, e_cmp, e_chain, e_and, e_or, e_not, e_ite, e_idx, e_slc, e_rev, e_call, e_glist, e_bi1, e_biR, e_max2, e_isi, e_isi2, e_sset, e_lset, e_join, e_index, e_get, e_split, e_tupE, e_lstE, e_dicK, e_dicT, e_dic1, e_dic1T, e_rng1, e_rng2, e_enum, e_zip, e_items, e_nil, e_cons, W_s, W_b, W_l, W_p, W_c, W_i, W_it, two_ss, dOf_s, d_sh, d_ol, d_ok, d_ot, asB_bl, asI_i, cons_ss, rd_0, rd_s, sh_sh, nd_sh, nd_ol, and_t, and_f, or_t, or_f, bl_s, dsl_s, ite_t, ite_f, slc_s, max_i, o_addI, o_subI, c_lt, c_le, c_gt, c_ge, c_eq, c_ne, c_in, c_nin, eq_ii, eq_ss, is_nn, ix_tup, ix_lst, ix_scr, ix_str, len_str, len_lst, len_tup, len_scr, wd_lst, wd_tup, wd_str, Option.map_some, Option.bind_some, List.map_cons, List.map_nil, rd_ne, rd_eq, rd_hid, hid_sh, hi_var, hi_cS, hi_glb, hi_bin, hi_ite, hi_idx, hi_slc, hi_rev, hi_call, hi_glist, hi_bi1, hi_biR, hi_sset, hi_join, hi_tupE, hi_lstE, hi_lc, hi_rng1, hi_rng2, hi_enum, hi_zip, hi_items, wipe_cons, wipe_nil, List.length_set, List.set_cons_zero, List.set_cons_succ, bindT, setMany, setSl, if_true, if_false, decide_true, decide_false, Bool.not_true, Bool.not_false, isTy, tup_0, lst_0, tup_1, lst_1, tup_2, lst_2, tup_3, lst_3, tup_4, lst_4, tup_5, lst_5, tup_6, lst_6, tup_7, lst_7, tup_8, lst_8, tup_9, lst_9, tup_10, lst_10, tup_11, lst_11, tup_12, lst_12, x0, o_mod (by decide : (0 : Int) < 12)]; rfl) ?_)
      have hc12 : u % 12 < 12 := Nat.mod_lt _ (by decide)
      generalize u % 12 = c at hc12
      obtain ⟨z, hz, ez⟩ := at_len (L := [.int ((v : Int) % 12 - 2), .int (0 - big), .int big]) (List.cons_ne_nil _ _) w
      replace ez : atI [D.int ((v : Int) % 12 - 2), .int (0 - big), .int big] ((w : Int) % 3) = some z := ez
      have zi : ∃ i, z = .int i := by
        simp only [List.mem_cons, List.not_mem_nil, or_false] at hz
        rcases hz with rfl | rfl | rfl <;> exact ⟨_, rfl⟩
      obtain ⟨i, rfl⟩ := zi
      refine wp_seq (wp_set (s := .sh (.int i)) (by simp (config := {implicitDefEqProofs := false, decide := true}) only [e_var, e_cI, e_cS, e_cB, e_cN, e_neg, e_glb, e_bin, e_cmp, e_chain, e_and, e_or, e_not, e_ite, e_idx, e_slc, e_rev, e_call, e_glist, e_bi1, e_biR, e_max2, e_isi, e_isi2, e_sset, e_lset, e_join, e_index, e_get, e_split, e_tupE, e_lstE, e_dicK, e_dicT, e_dic1, e_dic1T, e_rng1, e_rng2, e_enum, e_zip, e_items, e_nil, e_cons, W_s, W_b, W_l, W_p, W_c, W_i, W_it, two_ss, dOf_s, d_sh, d_ol, d_ok, d_ot, asB_bl, asI_i, cons_ss, rd_0, rd_s, sh_sh, nd_sh, nd_ol, and_t, and_f, or_t, or_f, bl_s, dsl_s, ite_t, ite_f, slc_s, max_i, o_addI, o_subI, c_lt, c_le, c_gt, c_ge, c_eq, c_ne, c_in, c_nin, eq_ii, eq_ss, is_nn, ix_tup, ix_lst, ix_scr, ix_str, len_str, len_lst, len_tup, len_scr, wd_lst, wd_tup, wd_str, Option.map_some, Option.bind_some, List.map_cons, List.map_nil, rd_ne, rd_eq, rd_hid, hid_sh, hi_var, hi_cS, hi_glb, hi_bin, hi_ite, hi_idx, hi_slc, hi_rev, hi_call, hi_glist, hi_bi1, hi_biR, hi_sset, hi_join, hi_tupE, hi_lstE, hi_lc, hi_rng1, hi_rng2, hi_enum, hi_zip, hi_items, wipe_cons, wipe_nil, List.length_set, List.set_cons_zero, List.set_cons_succ, bindT, setMany, setSl, if_true, if_false, decide_true, decide_false, Bool.not_true, Bool.not_false, isTy, tup_0, lst_0, tup_1, lst_1, tup_2, lst_2, tup_3, lst_3, tup_4, lst_4, tup_5, lst_5, tup_6, lst_6, tup_7, lst_7, tup_8, lst_8, tup_9, lst_9, tup_10, lst_10, tup_11, lst_11, tup_12, lst_12, x1, x2, hb, o_mod (by decide : (0 : Int) < 12), o_mod (by decide : (0 : Int) < 3), ez]) ?_)
      have hd3 : ¬ ((3 : Int) < (dp : Int)) := by omega
      refine wp_seq (wp_ite (t := decide (c < 4)) ?_ (fun _ => wp_seq (wp_ret (s := .sh (.int i)) (by simp (config := {implicitDefEqProofs := false, decide := true}) only [e_var, e_cI, e_cS, e_cB, e_cN, e_neg, e_glb, e_bin, e_cmp, e_chain, e_and, e_or, e_not, e_ite, e_idx, e_slc, e_rev, e_call, e_glist, e_bi1, e_biR, e_max2, e_isi, e_isi2, e_sset, e_lset, e_join, e_index, e_get, e_split, e_tupE, e_lstE, e_dicK, e_dicT, e_dic1, e_dic1T, e_rng1, e_rng2, e_enum, e_zip, e_items, e_nil, e_cons, W_s, W_b, W_l, W_p, W_c, W_i, W_it, two_ss, dOf_s, d_sh, d_ol, d_ok, d_ot, asB_bl, asI_i, cons_ss, rd_0, rd_s, sh_sh, nd_sh, nd_ol, and_t, and_f, or_t, or_f, bl_s, dsl_s, ite_t, ite_f, slc_s, max_i, o_addI, o_subI, c_lt, c_le, c_gt, c_ge, c_eq, c_ne, c_in, c_nin, eq_ii, eq_ss, is_nn, ix_tup, ix_lst, ix_scr, ix_str, len_str, len_lst, len_tup, len_scr, wd_lst, wd_tup, wd_str, Option.map_some, Option.bind_some, List.map_cons, List.map_nil, rd_ne, rd_eq, rd_hid, hid_sh, hi_var, hi_cS, hi_glb, hi_bin, hi_ite, hi_idx, hi_slc, hi_rev, hi_call, hi_glist, hi_bi1, hi_biR, hi_sset, hi_join, hi_tupE, hi_lstE, hi_lc, hi_rng1, hi_rng2, hi_enum, hi_zip, hi_items, wipe_cons, wipe_nil, List.length_set, List.set_cons_zero, List.set_cons_succ, bindT, setMany, setSl, if_true, if_false, decide_true, decide_false, Bool.not_true, Bool.not_false, isTy, tup_0, lst_0, tup_1, lst_1, tup_2, lst_2, tup_3, lst_3, tup_4, lst_4, tup_5, lst_5, tup_6, lst_6, tup_7, lst_7, tup_8, lst_8, tup_9, lst_9, tup_10, lst_10, tup_11, lst_11, tup_12, lst_12]) ⟨.int, by simp only [wt, d_sh]; omega⟩)) (fun h4 => wp_skip ?_))
      · by_cases hc : c < 4
        · simp (config := {implicitDefEqProofs := false, decide := true}) only [e_var, e_cI, e_cS, e_cB, e_cN, e_neg, e_glb, e_bin, e_cmp, e_chain, e_and, e_or, e_not, e_ite, e_idx, e_slc, e_rev, e_call, e_glist, e_bi1, e_biR, e_max2, e_isi, e_isi2, e_sset, e_lset, e_join, e_index, e_get, e_split, e_tupE, e_lstE, e_dicK, e_dicT, e_dic1, e_dic1T, e_rng1, e_rng2, e_enum, e_zip, e_items, e_nil, e_cons, W_s, W_b, W_l, W_p, W_c, W_i, W_it, two_ss, dOf_s, d_sh, d_ol, d_ok, d_ot, asB_bl, asI_i, cons_ss, rd_0, rd_s, sh_sh, nd_sh, nd_ol, and_t, and_f, or_t, or_f, bl_s, dsl_s, ite_t, ite_f, slc_s, max_i, o_addI, o_subI, c_lt, c_le, c_gt, c_ge, c_eq, c_ne, c_in, c_nin, eq_ii, eq_ss, is_nn, ix_tup, ix_lst, ix_scr, ix_str, len_str, len_lst, len_tup, len_scr, wd_lst, wd_tup, wd_str, Option.map_some, Option.bind_some, List.map_cons, List.map_nil, rd_ne, rd_eq, rd_hid, hid_sh, hi_var, hi_cS, hi_glb, hi_bin, hi_ite, hi_idx, hi_slc, hi_rev, hi_call, hi_glist, hi_bi1, hi_biR, hi_sset, hi_join, hi_tupE, hi_lstE, hi_lc, hi_rng1, hi_rng2, hi_enum, hi_zip, hi_items, wipe_cons, wipe_nil, List.length_set, List.set_cons_zero, List.set_cons_succ, bindT, setMany, setSl, if_true, if_false, decide_true, decide_false, Bool.not_true, Bool.not_false, isTy, tup_0, lst_0, tup_1, lst_1, tup_2, lst_2, tup_3, lst_3, tup_4, lst_4, tup_5, lst_5, tup_6, lst_6, tup_7, lst_7, tup_8, lst_8, tup_9, lst_9, tup_10, lst_10, tup_11, lst_11, tup_12, lst_12, decide_eq_true (show (c : Int) < 4 by omega), decide_eq_true hc]
        · simp (config := {implicitDefEqProofs := false, decide := true}) only [e_var, e_cI, e_cS, e_cB, e_cN, e_neg, e_glb, e_bin, e_cmp, e_chain, e_and, e_or, e_not, e_ite, e_idx, e_slc, e_rev, e_call, e_glist, e_bi1, e_biR, e_max2, e_isi, e_isi2, e_sset, e_lset, e_join, e_index, e_get, e_split, e_tupE, e_lstE, e_dicK, e_dicT, e_dic1, e_dic1T, e_rng1, e_rng2, e_enum, e_zip, e_items, e_nil, e_cons, W_s, W_b, W_l, W_p, W_c, W_i, W_it, two_ss, dOf_s, d_sh, d_ol, d_ok, d_ot, asB_bl, asI_i, cons_ss, rd_0, rd_s, sh_sh, nd_sh, nd_ol, and_t, and_f, or_t, or_f, bl_s, dsl_s, ite_t, ite_f, slc_s, max_i, o_addI, o_subI, c_lt, c_le, c_gt, c_ge, c_eq, c_ne, c_in, c_nin, eq_ii, eq_ss, is_nn, ix_tup, ix_lst, ix_scr, ix_str, len_str, len_lst, len_tup, len_scr, wd_lst, wd_tup, wd_str, Option.map_some, Option.bind_some, List.map_cons, List.map_nil, rd_ne, rd_eq, rd_hid, hid_sh, hi_var, hi_cS, hi_glb, hi_bin, hi_ite, hi_idx, hi_slc, hi_rev, hi_call, hi_glist, hi_bi1, hi_biR, hi_sset, hi_join, hi_tupE, hi_lstE, hi_lc, hi_rng1, hi_rng2, hi_enum, hi_zip, hi_items, wipe_cons, wipe_nil, List.length_set, List.set_cons_zero, List.set_cons_succ, bindT, setMany, setSl, if_true, if_false, decide_true, decide_false, Bool.not_true, Bool.not_false, isTy, tup_0, lst_0, tup_1, lst_1, tup_2, lst_2, tup_3, lst_3, tup_4, lst_4, tup_5, lst_5, tup_6, lst_6, tup_7, lst_7, tup_8, lst_8, tup_9, lst_9, tup_10, lst_10, tup_11, lst_11, tup_12, lst_12, decide_eq_false (show ¬ (c : Int) < 4 by omega), decide_eq_false hc, decide_eq_false hd3]
      have h4 : 4 ≤ c := by have := of_decide_eq_false h4; omega
      refine wp_seq (wp_ite (t := decide (c < 7)) ?_ (fun h7 => ?_) (fun h7 => wp_skip ?_))
      · simp (config := {implicitDefEqProofs := false, decide := true}) only [e_var, e_cI, e_cS, e_cB, e_cN, e_neg, e_glb, e_bin, e_cmp, e_chain, e_and, e_or, e_not, e_ite, e_idx, e_slc, e_rev, e_call, e_glist, e_bi1, e_biR, e_max2, e_isi, e_isi2, e_sset, e_lset, e_join, e_index, e_get, e_split, e_tupE, e_lstE, e_dicK, e_dicT, e_dic1, e_dic1T, e_rng1, e_rng2, e_enum, e_zip, e_items, e_nil, e_cons, W_s, W_b, W_l, W_p, W_c, W_i, W_it, two_ss, dOf_s, d_sh, d_ol, d_ok, d_ot, asB_bl, asI_i, cons_ss, rd_0, rd_s, sh_sh, nd_sh, nd_ol, and_t, and_f, or_t, or_f, bl_s, dsl_s, ite_t, ite_f, slc_s, max_i, o_addI, o_subI, c_lt, c_le, c_gt, c_ge, c_eq, c_ne, c_in, c_nin, eq_ii, eq_ss, is_nn, ix_tup, ix_lst, ix_scr, ix_str, len_str, len_lst, len_tup, len_scr, wd_lst, wd_tup, wd_str, Option.map_some, Option.bind_some, List.map_cons, List.map_nil, rd_ne, rd_eq, rd_hid, hid_sh, hi_var, hi_cS, hi_glb, hi_bin, hi_ite, hi_idx, hi_slc, hi_rev, hi_call, hi_glist, hi_bi1, hi_biR, hi_sset, hi_join, hi_tupE, hi_lstE, hi_lc, hi_rng1, hi_rng2, hi_enum, hi_zip, hi_items, wipe_cons, wipe_nil, List.length_set, List.set_cons_zero, List.set_cons_succ, bindT, setMany, setSl, if_true, if_false, decide_true, decide_false, Bool.not_true, Bool.not_false, isTy, tup_0, lst_0, tup_1, lst_1, tup_2, lst_2, tup_3, lst_3, tup_4, lst_4, tup_5, lst_5, tup_6, lst_6, tup_7, lst_7, tup_8, lst_8, tup_9, lst_9, tup_10, lst_10, tup_11, lst_11, tup_12, lst_12]
        exact congrArg (fun b => some (D.bl b)) (decide_eq_decide.mpr (by omega))
      · have h7 := of_decide_eq_true h7
        obtain ⟨z, hz, ez⟩ := at_lit (L := [.bl true, .bl false, .non]) (k := c - 4) (by show c - 4 < 3; omega)
        refine wp_seq (wp_ret (s := .sh z) ?_ ?_)
        · simp (config := {implicitDefEqProofs := false, decide := true}) only [e_var, e_cI, e_cS, e_cB, e_cN, e_neg, e_glb, e_bin, e_cmp, e_chain, e_and, e_or, e_not, e_ite, e_idx, e_slc, e_rev, e_call, e_glist, e_bi1, e_biR, e_max2, e_isi, e_isi2, e_sset, e_lset, e_join, e_index, e_get, e_split, e_tupE, e_lstE, e_dicK, e_dicT, e_dic1, e_dic1T, e_rng1, e_rng2, e_enum, e_zip, e_items, e_nil, e_cons, W_s, W_b, W_l, W_p, W_c, W_i, W_it, two_ss, dOf_s, d_sh, d_ol, d_ok, d_ot, asB_bl, asI_i, cons_ss, rd_0, rd_s, sh_sh, nd_sh, nd_ol, and_t, and_f, or_t, or_f, bl_s, dsl_s, ite_t, ite_f, slc_s, max_i, o_addI, o_subI, c_lt, c_le, c_gt, c_ge, c_eq, c_ne, c_in, c_nin, eq_ii, eq_ss, is_nn, ix_tup, ix_lst, ix_scr, ix_str, len_str, len_lst, len_tup, len_scr, wd_lst, wd_tup, wd_str, Option.map_some, Option.bind_some, List.map_cons, List.map_nil, rd_ne, rd_eq, rd_hid, hid_sh, hi_var, hi_cS, hi_glb, hi_bin, hi_ite, hi_idx, hi_slc, hi_rev, hi_call, hi_glist, hi_bi1, hi_biR, hi_sset, hi_join, hi_tupE, hi_lstE, hi_lc, hi_rng1, hi_rng2, hi_enum, hi_zip, hi_items, wipe_cons, wipe_nil, List.length_set, List.set_cons_zero, List.set_cons_succ, bindT, setMany, setSl, if_true, if_false, decide_true, decide_false, Bool.not_true, Bool.not_false, isTy, tup_0, lst_0, tup_1, lst_1, tup_2, lst_2, tup_3, lst_3, tup_4, lst_4, tup_5, lst_5, tup_6, lst_6, tup_7, lst_7, tup_8, lst_8, tup_9, lst_9, tup_10, lst_10, tup_11, lst_11, tup_12, lst_12]
          rw [show (c : Int) - 4 = ((c - 4 : Nat) : Int) from by omega, ez]
          rfl
        · simp only [List.mem_cons, List.not_mem_nil, or_false] at hz
          rcases hz with rfl | rfl | rfl <;> refine ⟨?_, by simp only [wt, d_sh]; omega⟩
          · exact .bl
          · exact .bl
          · exact .non
      refine wp_seq (wp_ite (t := decide (c < 9)) ?_ (fun h9 => ?_) (fun h9 => wp_skip ?_))
      · simp (config := {implicitDefEqProofs := false, decide := true}) only [e_var, e_cI, e_cS, e_cB, e_cN, e_neg, e_glb, e_bin, e_cmp, e_chain, e_and, e_or, e_not, e_ite, e_idx, e_slc, e_rev, e_call, e_glist, e_bi1, e_biR, e_max2, e_isi, e_isi2, e_sset, e_lset, e_join, e_index, e_get, e_split, e_tupE, e_lstE, e_dicK, e_dicT, e_dic1, e_dic1T, e_rng1, e_rng2, e_enum, e_zip, e_items, e_nil, e_cons, W_s, W_b, W_l, W_p, W_c, W_i, W_it, two_ss, dOf_s, d_sh, d_ol, d_ok, d_ot, asB_bl, asI_i, cons_ss, rd_0, rd_s, sh_sh, nd_sh, nd_ol, and_t, and_f, or_t, or_f, bl_s, dsl_s, ite_t, ite_f, slc_s, max_i, o_addI, o_subI, c_lt, c_le, c_gt, c_ge, c_eq, c_ne, c_in, c_nin, eq_ii, eq_ss, is_nn, ix_tup, ix_lst, ix_scr, ix_str, len_str, len_lst, len_tup, len_scr, wd_lst, wd_tup, wd_str, Option.map_some, Option.bind_some, List.map_cons, List.map_nil, rd_ne, rd_eq, rd_hid, hid_sh, hi_var, hi_cS, hi_glb, hi_bin, hi_ite, hi_idx, hi_slc, hi_rev, hi_call, hi_glist, hi_bi1, hi_biR, hi_sset, hi_join, hi_tupE, hi_lstE, hi_lc, hi_rng1, hi_rng2, hi_enum, hi_zip, hi_items, wipe_cons, wipe_nil, List.length_set, List.set_cons_zero, List.set_cons_succ, bindT, setMany, setSl, if_true, if_false, decide_true, decide_false, Bool.not_true, Bool.not_false, isTy, tup_0, lst_0, tup_1, lst_1, tup_2, lst_2, tup_3, lst_3, tup_4, lst_4, tup_5, lst_5, tup_6, lst_6, tup_7, lst_7, tup_8, lst_8, tup_9, lst_9, tup_10, lst_10, tup_11, lst_11, tup_12, lst_12]
        exact congrArg (fun b => some (D.bl b)) (decide_eq_decide.mpr (by omega))
      · obtain ⟨z, hz, ez⟩ := at_len (L := [.str (Str.ofString ""), .str (Str.ofString "0"), .str (Str.ofString "a"), .str (Str.ofString "ax"), .str (Str.ofString "3"), .str (Str.ofString "none"), .str (Str.ofString "A"), .str (Str.ofString "~")]) (List.cons_ne_nil _ _) y
        replace ez : atI [D.str (Str.ofString ""), .str (Str.ofString "0"), .str (Str.ofString "a"), .str (Str.ofString "ax"), .str (Str.ofString "3"), .str (Str.ofString "none"), .str (Str.ofString "A"), .str (Str.ofString "~")] ((y : Int) % 8) = some z := ez
        refine wp_seq (wp_ret (s := .sh z) (by simp (config := {implicitDefEqProofs := false, decide := true}) only [e_var, e_cI, e_cS, e_cB, e_cN, e_neg, e_glb, e_bin, e_cmp, e_chain, e_and, e_or, e_not, e_ite, e_idx, e_slc, e_rev, e_call, e_glist, e_bi1, e_biR, e_max2, e_isi, e_isi2, e_sset, e_lset, e_join, e_index, e_get, e_split, e_tupE, e_lstE, e_dicK, e_dicT, e_dic1, e_dic1T, e_rng1, e_rng2, e_enum, e_zip, e_items, e_nil, e_cons, W_s, W_b, W_l, W_p, W_c, W_i, W_it, two_ss, dOf_s, d_sh, d_ol, d_ok, d_ot, asB_bl, asI_i, cons_ss, rd_0, rd_s, sh_sh, nd_sh, nd_ol, and_t, and_f, or_t, or_f, bl_s, dsl_s, ite_t, ite_f, slc_s, max_i, o_addI, o_subI, c_lt, c_le, c_gt, c_ge, c_eq, c_ne, c_in, c_nin, eq_ii, eq_ss, is_nn, ix_tup, ix_lst, ix_scr, ix_str, len_str, len_lst, len_tup, len_scr, wd_lst, wd_tup, wd_str, Option.map_some, Option.bind_some, List.map_cons, List.map_nil, rd_ne, rd_eq, rd_hid, hid_sh, hi_var, hi_cS, hi_glb, hi_bin, hi_ite, hi_idx, hi_slc, hi_rev, hi_call, hi_glist, hi_bi1, hi_biR, hi_sset, hi_join, hi_tupE, hi_lstE, hi_lc, hi_rng1, hi_rng2, hi_enum, hi_zip, hi_items, wipe_cons, wipe_nil, List.length_set, List.set_cons_zero, List.set_cons_succ, bindT, setMany, setSl, if_true, if_false, decide_true, decide_false, Bool.not_true, Bool.not_false, isTy, tup_0, lst_0, tup_1, lst_1, tup_2, lst_2, tup_3, lst_3, tup_4, lst_4, tup_5, lst_5, tup_6, lst_6, tup_7, lst_7, tup_8, lst_8, tup_9, lst_9, tup_10, lst_10, tup_11, lst_11, tup_12, lst_12, x3, o_mod (by decide : (0 : Int) < 8), ez]) ?_)
        simp only [List.mem_cons, List.not_mem_nil, or_false] at hz
        rcases hz with rfl | rfl | rfl | rfl | rfl | rfl | rfl | rfl <;> exact ⟨.str (by decide +kernel), by simp only [wt, d_sh]; omega⟩
      -- parts
      have hq : q % 4 < 4 := Nat.mod_lt _ (by decide)
      have part : ∀ j, ∃ v, j < 4 → (∃ s, cal 13 [.lst (nD (xs.drop j ++ xs.take j)), .int (dp + 1 : Nat)] = some s ∧ s.d = v) ∧ GdW k (4 ^ k) v := fun j => by
        by_cases hj : j < 4
        · obtain ⟨s, es, gs⟩ := hA (xs.drop j ++ xs.take j) (by rw [List.length_append, List.length_drop, List.length_take]; omega) (by rw [List.length_append, List.length_drop, List.length_take]; omega)
          exact ⟨s.d, fun _ => ⟨⟨s, es, rfl⟩, gs⟩⟩
        · exact ⟨.non, fun h => absurd h hj⟩
      obtain ⟨f, hf⟩ := Classical.axiomOfChoice part
      refine wp_seq (wp_set (s := .ol ((List.range (q % 4)).map f)) ?_ ?_)
      · rw [e_lcF (xs := List.range (q % 4)) (fun w : Nat => .int (w : Nat)) f ?_ (range_sz (by omega)) (fun j hj => ⟨_, rfl, ?_⟩), W_s]
        · simp (config := {implicitDefEqProofs := false, decide := true}) only [e_var, e_cI, e_cS, e_cB, e_cN, e_neg, e_glb, e_bin, e_cmp, e_chain, e_and, e_or, e_not, e_ite, e_idx, e_slc, e_rev, e_call, e_glist, e_bi1, e_biR, e_max2, e_isi, e_isi2, e_sset, e_lset, e_join, e_index, e_get, e_split, e_tupE, e_lstE, e_dicK, e_dicT, e_dic1, e_dic1T, e_rng1, e_rng2, e_enum, e_zip, e_items, e_nil, e_cons, W_s, W_b, W_l, W_p, W_c, W_i, W_it, two_ss, dOf_s, d_sh, d_ol, d_ok, d_ot, asB_bl, asI_i, cons_ss, rd_0, rd_s, sh_sh, nd_sh, nd_ol, and_t, and_f, or_t, or_f, bl_s, dsl_s, ite_t, ite_f, slc_s, max_i, o_addI, o_subI, c_lt, c_le, c_gt, c_ge, c_eq, c_ne, c_in, c_nin, eq_ii, eq_ss, is_nn, ix_tup, ix_lst, ix_scr, ix_str, len_str, len_lst, len_tup, len_scr, wd_lst, wd_tup, wd_str, Option.map_some, Option.bind_some, List.map_cons, List.map_nil, rd_ne, rd_eq, rd_hid, hid_sh, hi_var, hi_cS, hi_glb, hi_bin, hi_ite, hi_idx, hi_slc, hi_rev, hi_call, hi_glist, hi_bi1, hi_biR, hi_sset, hi_join, hi_tupE, hi_lstE, hi_lc, hi_rng1, hi_rng2, hi_enum, hi_zip, hi_items, wipe_cons, wipe_nil, List.length_set, List.set_cons_zero, List.set_cons_succ, bindT, setMany, setSl, if_true, if_false, decide_true, decide_false, Bool.not_true, Bool.not_false, isTy, tup_0, lst_0, tup_1, lst_1, tup_2, lst_2, tup_3, lst_3, tup_4, lst_4, tup_5, lst_5, tup_6, lst_6, tup_7, lst_7, tup_8, lst_8, tup_9, lst_9, tup_10, lst_10, tup_11, lst_11, tup_12, lst_12, x4, o_mod (by decide : (0 : Int) < 4)]
          rw [show (q : Int) % 4 = ((q % 4 : Nat) : Int) from by omega]
          exact r1F (by omega)
        · have hj := List.mem_range.mp hj
          obtain ⟨⟨s, es, ef⟩, _⟩ := hf j (by omega)
          have c1 : slcD (.lst (nD xs)) (some (j : Int)) none = some (.ol (nD (xs.drop j))) := by rw [s_lst, cutL_map, cutL_n]
          have c2 : slcD (.lst (nD xs)) none (some (j : Int)) = some (.ol (nD (xs.take j))) := by rw [s_lst, cutL_map, cutL_0]
          have c3 : opBin .add (.lst (nD (xs.drop j))) (.lst (nD (xs.take j))) = some (.ol (nD (xs.drop j ++ xs.take j))) := by
            rw [o_addL (by rw [nD_len, nD_len, List.length_drop, List.length_take, sz]; omega), nD_app]
          replace es : cal 13 [.lst (nD (xs.drop j ++ xs.take j)), .int ((dp : Int) + 1)] = some s := es
          show dOf (evA (lk GS) cal _ [some (.sh (.lst (nD xs))), some (.sh (.int dp)), some (.sh (.int c)), some (.sh (.int i)), none, some (.sh (.int j))]).s = _
          simp (config := {implicitDefEqProofs := false, decide := true}) only [e_var, e_cI, e_cS, e_cB, e_cN, e_neg, e_glb, e_bin, e_cmp, e_chain, e_and, e_or, e_not, e_ite, e_idx, e_slc, e_rev, e_call, e_glist, e_bi1, e_biR, e_max2, e_isi, e_isi2, e_sset, e_lset, e_join, e_index, e_get, e_split, e_tupE, e_lstE, e_dicK, e_dicT, e_dic1, e_dic1T, e_rng1, e_rng2, e_enum, e_zip, e_items, e_nil, e_cons, W_s, W_b, W_l, W_p, W_c, W_i, W_it, two_ss, dOf_s, d_sh, d_ol, d_ok, d_ot, asB_bl, asI_i, cons_ss, rd_0, rd_s, sh_sh, nd_sh, nd_ol, and_t, and_f, or_t, or_f, bl_s, dsl_s, ite_t, ite_f, slc_s, max_i, o_addI, o_subI, c_lt, c_le, c_gt, c_ge, c_eq, c_ne, c_in, c_nin, eq_ii, eq_ss, is_nn, ix_tup, ix_lst, ix_scr, ix_str, len_str, len_lst, len_tup, len_scr, wd_lst, wd_tup, wd_str, Option.map_some, Option.bind_some, List.map_cons, List.map_nil, rd_ne, rd_eq, rd_hid, hid_sh, hi_var, hi_cS, hi_glb, hi_bin, hi_ite, hi_idx, hi_slc, hi_rev, hi_call, hi_glist, hi_bi1, hi_biR, hi_sset, hi_join, hi_tupE, hi_lstE, hi_lc, hi_rng1, hi_rng2, hi_enum, hi_zip, hi_items, wipe_cons, wipe_nil, List.length_set, List.set_cons_zero, List.set_cons_succ, bindT, setMany, setSl, if_true, if_false, decide_true, decide_false, Bool.not_true, Bool.not_false, isTy, tup_0, lst_0, tup_1, lst_1, tup_2, lst_2, tup_3, lst_3, tup_4, lst_4, tup_5, lst_5, tup_6, lst_6, tup_7, lst_7, tup_8, lst_8, tup_9, lst_9, tup_10, lst_10, tup_11, lst_11, tup_12, lst_12, c1, c2, c3, es, ef]
      have gv : ∀ v, v ∈ (List.range (q % 4)).map f → GdW k (4 ^ k) v := fun v hv => by
        obtain ⟨j, hj, rfl⟩ := List.mem_map.mp hv
        exact (hf j (by have := List.mem_range.mp hj; omega)).2
      have gw : ∀ (l : List D) (B : Nat), (∀ v, v ∈ l → wt v ≤ B) → wtL l ≤ l.length * B := by
        intro l B
        induction l with
        | nil => intro _; rw [wtL_nil]; omega
        | cons a l ih =>
          intro h
          have h1 := h a List.mem_cons_self
          have h2 := ih fun v hv => h v (List.mem_cons_of_mem _ hv)
          rw [wtL_cons, List.length_cons, Nat.add_mul]; omega
      have gl := gw ((List.range (q % 4)).map f) (4 ^ k) fun v hv => (gv v hv).w
      rw [List.length_map, List.length_range] at gl
      have gl2 : q % 4 * 4 ^ k ≤ 3 * 4 ^ k := Nat.mul_le_mul_right _ (by omega)
      refine wp_seq (wp_ret (s := .sh (if c = 9 then .lst ((List.range (q % 4)).map f) else .tup ((List.range (q % 4)).map f))) ?_ ?_)
      · by_cases h9 : c = 9
        · simp (config := {implicitDefEqProofs := false, decide := true}) only [e_var, e_cI, e_cS, e_cB, e_cN, e_neg, e_glb, e_bin, e_cmp, e_chain, e_and, e_or, e_not, e_ite, e_idx, e_slc, e_rev, e_call, e_glist, e_bi1, e_biR, e_max2, e_isi, e_isi2, e_sset, e_lset, e_join, e_index, e_get, e_split, e_tupE, e_lstE, e_dicK, e_dicT, e_dic1, e_dic1T, e_rng1, e_rng2, e_enum, e_zip, e_items, e_nil, e_cons, W_s, W_b, W_l, W_p, W_c, W_i, W_it, two_ss, dOf_s, d_sh, d_ol, d_ok, d_ot, asB_bl, asI_i, cons_ss, rd_0, rd_s, sh_sh, nd_sh, nd_ol, and_t, and_f, or_t, or_f, bl_s, dsl_s, ite_t, ite_f, slc_s, max_i, o_addI, o_subI, c_lt, c_le, c_gt, c_ge, c_eq, c_ne, c_in, c_nin, eq_ii, eq_ss, is_nn, ix_tup, ix_lst, ix_scr, ix_str, len_str, len_lst, len_tup, len_scr, wd_lst, wd_tup, wd_str, Option.map_some, Option.bind_some, List.map_cons, List.map_nil, rd_ne, rd_eq, rd_hid, hid_sh, hi_var, hi_cS, hi_glb, hi_bin, hi_ite, hi_idx, hi_slc, hi_rev, hi_call, hi_glist, hi_bi1, hi_biR, hi_sset, hi_join, hi_tupE, hi_lstE, hi_lc, hi_rng1, hi_rng2, hi_enum, hi_zip, hi_items, wipe_cons, wipe_nil, List.length_set, List.set_cons_zero, List.set_cons_succ, bindT, setMany, setSl, if_true, if_false, decide_true, decide_false, Bool.not_true, Bool.not_false, isTy, tup_0, lst_0, tup_1, lst_1, tup_2, lst_2, tup_3, lst_3, tup_4, lst_4, tup_5, lst_5, tup_6, lst_6, tup_7, lst_7, tup_8, lst_8, tup_9, lst_9, tup_10, lst_10, tup_11, lst_11, tup_12, lst_12, decide_eq_true (show (c : Int) = 9 by omega), if_pos h9]
        · simp (config := {implicitDefEqProofs := false, decide := true}) only [e_var, e_cI, e_cS, e_cB, e_cN, e_neg, e_glb, e_bin, e_cmp, e_chain, e_and, e_or, e_not, e_ite, e_idx, e_slc, e_rev, e_call, e_glist, e_bi1, e_biR, e_max2, e_isi, e_isi2, e_sset, e_lset, e_join, e_index, e_get, e_split, e_tupE, e_lstE, e_dicK, e_dicT, e_dic1, e_dic1T, e_rng1, e_rng2, e_enum, e_zip, e_items, e_nil, e_cons, W_s, W_b, W_l, W_p, W_c, W_i, W_it, two_ss, dOf_s, d_sh, d_ol, d_ok, d_ot, asB_bl, asI_i, cons_ss, rd_0, rd_s, sh_sh, nd_sh, nd_ol, and_t, and_f, or_t, or_f, bl_s, dsl_s, ite_t, ite_f, slc_s, max_i, o_addI, o_subI, c_lt, c_le, c_gt, c_ge, c_eq, c_ne, c_in, c_nin, eq_ii, eq_ss, is_nn, ix_tup, ix_lst, ix_scr, ix_str, len_str, len_lst, len_tup, len_scr, wd_lst, wd_tup, wd_str, Option.map_some, Option.bind_some, List.map_cons, List.map_nil, rd_ne, rd_eq, rd_hid, hid_sh, hi_var, hi_cS, hi_glb, hi_bin, hi_ite, hi_idx, hi_slc, hi_rev, hi_call, hi_glist, hi_bi1, hi_biR, hi_sset, hi_join, hi_tupE, hi_lstE, hi_lc, hi_rng1, hi_rng2, hi_enum, hi_zip, hi_items, wipe_cons, wipe_nil, List.length_set, List.set_cons_zero, List.set_cons_succ, bindT, setMany, setSl, if_true, if_false, decide_true, decide_false, Bool.not_true, Bool.not_false, isTy, tup_0, lst_0, tup_1, lst_1, tup_2, lst_2, tup_3, lst_3, tup_4, lst_4, tup_5, lst_5, tup_6, lst_6, tup_7, lst_7, tup_8, lst_8, tup_9, lst_9, tup_10, lst_10, tup_11, lst_11, tup_12, lst_12, decide_eq_false (show ¬ (c : Int) = 9 by omega), if_neg h9, tup_o]
      · by_cases h9 : c = 9
        · rw [if_pos h9]
          exact ⟨.lst fun v hv => (gv v hv).g, by rw [d_sh, wt_l]; omega⟩
        · rw [if_neg h9]
          exact ⟨.tup fun v hv => (gv v hv).g, by rw [d_sh, wt_t]; omega⟩
    exact key

/-! ### k01: the law -/
abbrev RANK : Nat := 13
abbrev OkV (v : D) : Prop := GdW 12 10000 v
theorem lst_13 {a b c d e f g h i j k l m : D} : lstS (some [a, b, c, d, e, f, g, h, i, j, k, l, m]) = some (.ol [a, b, c, d, e, f, g, h, i, j, k, l, m]) := rfl
theorem at_lenA {α : Type} {L : List α} (h : 0 < L.length) (u : Nat) : ∃ v, v ∈ L ∧ atI L ((u : Int) % (L.length : Int)) = some v := by
  have hu : u % L.length < L.length := Nat.mod_lt _ h
  refine ⟨L[u % L.length], List.getElem_mem hu, ?_⟩
  rw [atI_of (j := u % L.length) (by omega), List.getElem?_eq_getElem hu]
theorem okV_str {x : Str} (h : x.length ≤ 1000) : OkV (.str x) := ⟨.str h, by simp only [wt]; omega⟩
theorem wtL_strs : ∀ (ns : List Str), wtL (ns.map D.str) = ns.length
  | [] => by rw [List.map_nil, wtL_nil]; rfl
  | x :: ns => by rw [List.map_cons, wtL_cons, wtL_strs ns, List.length_cons]; simp only [wt]; omega
def lawV1 : E := .lstE (.cons (.cS "a") (.cons (.cS "") (.cons (.cS "abcdefgh") (.cons (.cS "abcdefghi") (.cons (.cS "A") (.cons (.cS "a1") (.cons (.cS "a b") (.cons (.cS "a\n") (.cons (.bin .mul (.cS "z") (.cI 60)) (.cons (.bin .mul (.cS "z") (.cI 61)) (.cons .cN (.cons (.cI 5) (.cons (.cB true) .nil)))))))))))))
theorem okV_lit {x : String} (h : (Str.ofString x).length ≤ 1000) : OkV (.str (Str.ofString x)) := okV_str h
theorem okV_tup {ds : List D} (h : ∀ d ∈ ds, Gd 3 d) (hw : wtL ds ≤ 1000) : OkV (.tup ds) := ⟨(Gd.tup (n := 3) h).le (by decide), by rw [wt_t]; omega⟩
theorem okV_lst {ds : List D} (h : ∀ d ∈ ds, Gd 3 d) (hw : wtL ds ≤ 1000) : OkV (.lst ds) := ⟨(Gd.lst (n := 3) h).le (by decide), by rw [wt_l]; omega⟩
theorem ten_str {x : Str} (hx : x.length ≤ 1000) : ∀ k : Nat, k ≤ 40 → (∀ d ∈ (List.replicate k [D.str x]).flatten, Gd 3 d) ∧ wtL (List.replicate k [D.str x]).flatten ≤ 1000 := fun k hk => by
  refine ⟨fun d hd => ?_, ?_⟩
  · obtain ⟨l, hl, h⟩ := List.mem_flatten.mp hd
    rw [(List.mem_replicate.mp hl).2, List.mem_singleton] at h
    rw [h]; exact .str hx
  · have : ∀ k : Nat, wtL (List.replicate k [D.str x]).flatten = k := fun k => by
      induction k with
      | zero => rw [List.replicate_zero, List.flatten_nil, wtL_nil]
      | succ k ih => rw [List.replicate_succ, List.flatten_cons, wtL_app, ih, wtL_cons, wtL_nil]; simp only [wt]; omega
    rw [this]; omega
theorem letters_lc1 {gv : Nat → Option D} {cal : Nat → List D → Option Slot} {ρ : En} {ns : List Str} (h : NsOk ns) {i v : Nat} (hr : rd ρ v = some (.sh (tN ns))) (hi : i < ρ.length) (hv : v ≠ i) :
    evA gv cal (.lc [i] (.idx (.var i) (.cI 0)) (.one i) (.var v) .nil) ρ = .of (some (.ol ((ns.map ini).map sgn))) := by
  rw [e_lcF (xs := ns) D.str (fun x => sgn (ini x)) ?_ (by have := h.le; rw [sz]; omega) (fun x hx => ⟨_, rfl, ?_⟩)]
  · rw [List.map_map]; rfl
  · simp (config := {implicitDefEqProofs := false, decide := true}) only [e_var, e_cI, e_cS, e_cB, e_cN, e_neg, e_glb, e_bin, e_cmp, e_chain, e_and, e_or, e_not, e_ite, e_idx, e_slc, e_rev, e_call, e_glist, e_bi1, e_biR, e_max2, e_isi, e_isi2, e_sset, e_lset, e_join, e_index, e_get, e_split, e_tupE, e_lstE, e_dicK, e_dicT, e_dic1, e_dic1T, e_rng1, e_rng2, e_enum, e_zip, e_items, e_nil, e_cons, W_s, W_b, W_l, W_p, W_c, W_i, W_it, two_ss, dOf_s, d_sh, d_ol, d_ok, d_ot, asB_bl, asI_i, cons_ss, rd_0, rd_s, sh_sh, nd_sh, nd_ol, and_t, and_f, or_t, or_f, bl_s, dsl_s, ite_t, ite_f, slc_s, max_i, o_addI, o_subI, c_lt, c_le, c_gt, c_ge, c_eq, c_ne, c_in, c_nin, eq_ii, eq_ss, is_nn, ix_tup, ix_lst, ix_scr, ix_str, len_str, len_lst, len_tup, len_scr, wd_lst, wd_tup, wd_str, Option.map_some, Option.bind_some, List.map_cons, List.map_nil, rd_ne, rd_eq, rd_hid, hid_sh, hi_var, hi_cS, hi_glb, hi_bin, hi_ite, hi_idx, hi_slc, hi_rev, hi_call, hi_glist, hi_bi1, hi_biR, hi_sset, hi_join, hi_tupE, hi_lstE, hi_lc, hi_rng1, hi_rng2, hi_enum, hi_zip, hi_items, wipe_cons, wipe_nil, List.length_set, List.set_cons_zero, List.set_cons_succ, bindT, setMany, setSl, if_true, if_false, decide_true, decide_false, Bool.not_true, Bool.not_false, isTy, tup_0, lst_0, tup_1, lst_1, tup_2, lst_2, tup_3, lst_3, tup_4, lst_4, tup_5, lst_5, tup_6, lst_6, tup_7, lst_7, tup_8, lst_8, tup_9, lst_9, tup_10, lst_10, tup_11, lst_11, tup_12, lst_12, hr]
  · rw [e_idx, e_var, e_cI, rd_eq (by rw [len_wipe]; exact hi)]
    simp (config := {implicitDefEqProofs := false, decide := true}) only [e_var, e_cI, e_cS, e_cB, e_cN, e_neg, e_glb, e_bin, e_cmp, e_chain, e_and, e_or, e_not, e_ite, e_idx, e_slc, e_rev, e_call, e_glist, e_bi1, e_biR, e_max2, e_isi, e_isi2, e_sset, e_lset, e_join, e_index, e_get, e_split, e_tupE, e_lstE, e_dicK, e_dicT, e_dic1, e_dic1T, e_rng1, e_rng2, e_enum, e_zip, e_items, e_nil, e_cons, W_s, W_b, W_l, W_p, W_c, W_i, W_it, two_ss, dOf_s, d_sh, d_ol, d_ok, d_ot, asB_bl, asI_i, cons_ss, rd_0, rd_s, sh_sh, nd_sh, nd_ol, and_t, and_f, or_t, or_f, bl_s, dsl_s, ite_t, ite_f, slc_s, max_i, o_addI, o_subI, c_lt, c_le, c_gt, c_ge, c_eq, c_ne, c_in, c_nin, eq_ii, eq_ss, is_nn, ix_tup, ix_lst, ix_scr, ix_str, len_str, len_lst, len_tup, len_scr, wd_lst, wd_tup, wd_str, Option.map_some, Option.bind_some, List.map_cons, List.map_nil, rd_ne, rd_eq, rd_hid, hid_sh, hi_var, hi_cS, hi_glb, hi_bin, hi_ite, hi_idx, hi_slc, hi_rev, hi_call, hi_glist, hi_bi1, hi_biR, hi_sset, hi_join, hi_tupE, hi_lstE, hi_lc, hi_rng1, hi_rng2, hi_enum, hi_zip, hi_items, wipe_cons, wipe_nil, List.length_set, List.set_cons_zero, List.set_cons_succ, bindT, setMany, setSl, if_true, if_false, decide_true, decide_false, Bool.not_true, Bool.not_false, isTy, tup_0, lst_0, tup_1, lst_1, tup_2, lst_2, tup_3, lst_3, tup_4, lst_4, tup_5, lst_5, tup_6, lst_6, tup_7, lst_7, tup_8, lst_8, tup_9, lst_9, tup_10, lst_10, tup_11, lst_11, tup_12, lst_12, ini_at (h.ne x hx)]
theorem law_ok : ∀ ns : List Int, ns.length ≤ 63 → evDef (lk GS) (calN GS T RANK) d_law [.scr ns] = some (.sh (.bl true)) := by
  intro sc _
  have hD := fun (i : Nat) (hi : i < 1000) => law_digits_ok sc i hi 90 (by decide) 27720 (by decide) (by decide) 11
  have hN := fun (xs : List Nat) (hx : 3 ≤ xs.length) (m : Nat) (h1 : 1 ≤ m) (h2 : m ≤ 1000) => law_names_ok xs hx m h1 h2 12
  have hK := fun (xs : List Nat) (hx : 1 ≤ xs.length) (m : Nat) (hm : m ≤ 1000) => law_keys_ok xs hx m hm 12
  have hI := fun (ns : List Str) (h : NsOk ns) => initials_ok h 12
  have hNm := fun (d : D) (k : Nat) (g : Gd k d) => is_name_ok g 11
  have hKy := fun (d : D) (k : Nat) (g : Gd k d) => is_keys_ok g 11
  have hLs := fun (d : D) (k : Nat) (g : Gd k d) (hw : wt d ≤ 10000) => is_list_ok g hw 10
  have hW := fun (d : D) (k : Nat) (g : Gd k d) (lo hi : Nat) => law_is_word_ok g lo hi 12
  have hB := fun (a : Bool) => same_bool_ok (a := a) 12
  have hM := fun (d : D) (n : Nat) (g : Gd n d) (hn : n ≤ 8) (hw : wt d ≤ 5000) (xs : List Nat) (hx : 5 ≤ xs.length) => mutated_ok g hn hw hx 0
  have hA := fun (xs : List Nat) (h1 : 20 ≤ xs.length) (h2 : xs.length ≤ 1000) => any_ok 4 (by decide) xs 8 h1 h2
  have z1 : calN GS T 13 4 [.tup [.str (Str.ofString "apple"), .str (Str.ofString "bear"), .str (Str.ofString "ant")]] = some (.sh (.str (Str.ofString "aba"))) := by kernel_rfl
  replace hM : ∀ (d : D) (n : Nat), Gd n d → n ≤ 8 → wt d ≤ 5000 → ∀ (xs : List Nat), 5 ≤ xs.length → ∃ s, calN GS T 13 12 [d, .lst (nD xs)] = some s ∧ GdW (n + 1) (2 * wt d + 30) s.d := hM
  replace hA : ∀ (xs : List Nat), 20 ≤ xs.length → xs.length ≤ 1000 → ∃ s, calN GS T 13 13 [.lst (nD xs), .int 0] = some s ∧ GdW 4 (4 ^ 4) s.d := hA
  generalize calN GS T 13 = cal at hD hN hK hI hNm hKy hLs hW hB hM hA z1 ⊢
  refine def_rd rfl (by decide) fun ρ hρ hr => ?_
  have hρ : ρ.length = 14 := hρ
  have r0 := hr 0 _ rfl
  clear hr
  -- the fixed values
  obtain ⟨z60, e60, l60⟩ : ∃ x, opBin .mul (.str (Str.ofString "z")) (.int 60) = some (.sh (.str x)) ∧ x.length ≤ 1000 := ⟨_, rfl, by decide +kernel⟩
  obtain ⟨z61, e61, l61⟩ : ∃ x, opBin .mul (.str (Str.ofString "z")) (.int 61) = some (.sh (.str x)) ∧ x.length ≤ 1000 := ⟨_, rfl, by decide +kernel⟩
  have la : (Str.ofString "a").length ≤ 1000 := by decide +kernel
  have t30 : opBin .mul (.tup [.str (Str.ofString "a")]) (.int 30) = some (.sh (.tup (List.replicate 30 [D.str (Str.ofString "a")]).flatten)) := o_mulT (k := 30) (by decide) (by decide) (List.cons_ne_nil _ _) (show 1 ≤ 1000 by decide)
  have t31 : opBin .mul (.tup [.str (Str.ofString "a")]) (.int 31) = some (.sh (.tup (List.replicate 31 [D.str (Str.ofString "a")]).flatten)) := o_mulT (k := 31) (by decide) (by decide) (List.cons_ne_nil _ _) (show 1 ≤ 1000 by decide)
  obtain ⟨g30, w30⟩ := ten_str la 30 (by decide)
  obtain ⟨g31, w31⟩ := ten_str la 31 (by decide)
  generalize (List.replicate 30 [D.str (Str.ofString "a")]).flatten = a30 at t30 g30 w30
  generalize (List.replicate 31 [D.str (Str.ofString "a")]).flatten = a31 at t31 g31 w31
  have lit : ∀ x : String, (Str.ofString x).length ≤ 1000 → OkV (.str (Str.ofString x)) := fun x h => okV_lit h
  have V1 : ∀ v ∈ [D.str (Str.ofString "a"), .str (Str.ofString ""), .str (Str.ofString "abcdefgh"), .str (Str.ofString "abcdefghi"), .str (Str.ofString "A"), .str (Str.ofString "a1"), .str (Str.ofString "a b"), .str (Str.ofString "a\n"), .str z60, .str z61, .non, .int 5, .bl true], OkV v := by
    intro v hv
    simp only [List.mem_cons, List.not_mem_nil, or_false] at hv
    rcases hv with rfl | rfl | rfl | rfl | rfl | rfl | rfl | rfl | rfl | rfl | rfl | rfl | rfl
    all_goals first
      | exact okV_str l60
      | exact okV_str l61
      | exact ⟨.non, by simp only [wt]; decide⟩
      | exact ⟨.int, by simp only [wt]; decide⟩
      | exact ⟨.bl, by simp only [wt]; decide⟩
      | exact okV_lit (by decide +kernel)
  have V2 : ∀ v ∈ [D.tup [.str (Str.ofString "a")], .lst [.str (Str.ofString "a")]], OkV v := by
    intro v hv
    simp only [List.mem_cons, List.not_mem_nil, or_false] at hv
    rcases hv with rfl | rfl
    · exact okV_tup (fun d hd => by rw [List.mem_singleton.mp hd]; exact .str la) (by simp only [wt, wtL]; decide)
    · exact okV_lst (fun d hd => by rw [List.mem_singleton.mp hd]; exact .str la) (by simp only [wt, wtL]; decide)
  have V3 : ∀ v ∈ [D.tup [], .tup a30, .tup a31, .tup [.str (Str.ofString "a"), .str (Str.ofString "")], .tup [.str (Str.ofString "a"), .str (Str.ofString "B")], .tup [.str (Str.ofString "a"), .non], .tup [.str (Str.ofString "abcdefghi")], .tup [.tup [.str (Str.ofString "a")]]], OkV v := by
    intro v hv
    simp only [List.mem_cons, List.not_mem_nil, or_false] at hv
    rcases hv with rfl | rfl | rfl | rfl | rfl | rfl | rfl | rfl
    · exact okV_tup (fun d hd => by cases hd) (by simp only [wtL]; decide)
    · exact okV_tup g30 w30
    · exact okV_tup g31 w31
    all_goals refine okV_tup (fun d hd => ?_) (by simp only [wt, wtL]; decide)
    all_goals simp only [List.mem_cons, List.not_mem_nil, or_false] at hd
    · rcases hd with rfl | rfl <;> exact .str (by decide +kernel)
    · rcases hd with rfl | rfl <;> exact .str (by decide +kernel)
    · rcases hd with rfl | rfl
      · exact .str (by decide +kernel)
      · exact .non
    · subst hd; exact .str (by decide +kernel)
    · subst hd
      exact (Gd.tup (n := 0) fun d hd => by rw [List.mem_singleton.mp hd]; exact .str la).le (by decide)
  refine wp_seq (wp_set (s := .ol [D.str (Str.ofString "a"), .str (Str.ofString ""), .str (Str.ofString "abcdefgh"), .str (Str.ofString "abcdefghi"), .str (Str.ofString "A"), .str (Str.ofString "a1"), .str (Str.ofString "a b"), .str (Str.ofString "a\n"), .str z60, .str z61, .non, .int 5, .bl true]) (by simp (config := {implicitDefEqProofs := false, decide := true}) only [e_var, e_cI, e_cS, e_cB, e_cN, e_neg, e_glb, e_bin, e_cmp, e_chain, e_and, e_or, e_not, e_ite, e_idx, e_slc, e_rev, e_call, e_glist, e_bi1, e_biR, e_max2, e_isi, e_isi2, e_sset, e_lset, e_join, e_index, e_get, e_split, e_tupE, e_lstE, e_dicK, e_dicT, e_dic1, e_dic1T, e_rng1, e_rng2, e_enum, e_zip, e_items, e_nil, e_cons, W_s, W_b, W_l, W_p, W_c, W_i, W_it, two_ss, dOf_s, d_sh, d_ol, d_ok, d_ot, asB_bl, asI_i, cons_ss, rd_0, rd_s, sh_sh, nd_sh, nd_ol, and_t, and_f, or_t, or_f, bl_s, dsl_s, ite_t, ite_f, slc_s, max_i, o_addI, o_subI, c_lt, c_le, c_gt, c_ge, c_eq, c_ne, c_in, c_nin, eq_ii, eq_ss, is_nn, ix_tup, ix_lst, ix_scr, ix_str, len_str, len_lst, len_tup, len_scr, wd_lst, wd_tup, wd_str, Option.map_some, Option.bind_some, List.map_cons, List.map_nil, rd_ne, rd_eq, rd_hid, hid_sh, hi_var, hi_cS, hi_glb, hi_bin, hi_ite, hi_idx, hi_slc, hi_rev, hi_call, hi_glist, hi_bi1, hi_biR, hi_sset, hi_join, hi_tupE, hi_lstE, hi_lc, hi_rng1, hi_rng2, hi_enum, hi_zip, hi_items, wipe_cons, wipe_nil, List.length_set, List.set_cons_zero, List.set_cons_succ, bindT, setMany, setSl, if_true, if_false, decide_true, decide_false, Bool.not_true, Bool.not_false, isTy, tup_0, lst_0, tup_1, lst_1, tup_2, lst_2, tup_3, lst_3, tup_4, lst_4, tup_5, lst_5, tup_6, lst_6, tup_7, lst_7, tup_8, lst_8, tup_9, lst_9, tup_10, lst_10, tup_11, lst_11, tup_12, lst_12, e60, e61, lst_13]) ?_)
  generalize hL1 : [D.str (Str.ofString "a"), .str (Str.ofString ""), .str (Str.ofString "abcdefgh"), .str (Str.ofString "abcdefghi"), .str (Str.ofString "A"), .str (Str.ofString "a1"), .str (Str.ofString "a b"), .str (Str.ofString "a\n"), .str z60, .str z61, .non, .int 5, .bl true] = L1 at V1 ⊢
  have n1 : L1.length = 13 := by rw [← hL1]; rfl
  clear hL1
  refine wp_seq (wp_set (s := .ol (L1 ++ [D.tup [.str (Str.ofString "a")], .lst [.str (Str.ofString "a")]])) ?_ ?_)
  · simp (config := {implicitDefEqProofs := false, decide := true}) only [e_var, e_cI, e_cS, e_cB, e_cN, e_neg, e_glb, e_bin, e_cmp, e_chain, e_and, e_or, e_not, e_ite, e_idx, e_slc, e_rev, e_call, e_glist, e_bi1, e_biR, e_max2, e_isi, e_isi2, e_sset, e_lset, e_join, e_index, e_get, e_split, e_tupE, e_lstE, e_dicK, e_dicT, e_dic1, e_dic1T, e_rng1, e_rng2, e_enum, e_zip, e_items, e_nil, e_cons, W_s, W_b, W_l, W_p, W_c, W_i, W_it, two_ss, dOf_s, d_sh, d_ol, d_ok, d_ot, asB_bl, asI_i, cons_ss, rd_0, rd_s, sh_sh, nd_sh, nd_ol, and_t, and_f, or_t, or_f, bl_s, dsl_s, ite_t, ite_f, slc_s, max_i, o_addI, o_subI, c_lt, c_le, c_gt, c_ge, c_eq, c_ne, c_in, c_nin, eq_ii, eq_ss, is_nn, ix_tup, ix_lst, ix_scr, ix_str, len_str, len_lst, len_tup, len_scr, wd_lst, wd_tup, wd_str, Option.map_some, Option.bind_some, List.map_cons, List.map_nil, rd_ne, rd_eq, rd_hid, hid_sh, hi_var, hi_cS, hi_glb, hi_bin, hi_ite, hi_idx, hi_slc, hi_rev, hi_call, hi_glist, hi_bi1, hi_biR, hi_sset, hi_join, hi_tupE, hi_lstE, hi_lc, hi_rng1, hi_rng2, hi_enum, hi_zip, hi_items, wipe_cons, wipe_nil, List.length_set, List.set_cons_zero, List.set_cons_succ, bindT, setMany, setSl, if_true, if_false, decide_true, decide_false, Bool.not_true, Bool.not_false, isTy, tup_0, lst_0, tup_1, lst_1, tup_2, lst_2, tup_3, lst_3, tup_4, lst_4, tup_5, lst_5, tup_6, lst_6, tup_7, lst_7, tup_8, lst_8, tup_9, lst_9, tup_10, lst_10, tup_11, lst_11, tup_12, lst_12, hρ]
    exact o_addL (by rw [n1, sz]; simp only [List.length_cons, List.length_nil]; omega)
  refine wp_seq (wp_set (s := .ol (L1 ++ [D.tup [.str (Str.ofString "a")], .lst [.str (Str.ofString "a")]] ++ [D.tup [], .tup a30, .tup a31, .tup [.str (Str.ofString "a"), .str (Str.ofString "")], .tup [.str (Str.ofString "a"), .str (Str.ofString "B")], .tup [.str (Str.ofString "a"), .non], .tup [.str (Str.ofString "abcdefghi")], .tup [.tup [.str (Str.ofString "a")]]])) ?_ ?_)
  · simp (config := {implicitDefEqProofs := false, decide := true}) only [e_var, e_cI, e_cS, e_cB, e_cN, e_neg, e_glb, e_bin, e_cmp, e_chain, e_and, e_or, e_not, e_ite, e_idx, e_slc, e_rev, e_call, e_glist, e_bi1, e_biR, e_max2, e_isi, e_isi2, e_sset, e_lset, e_join, e_index, e_get, e_split, e_tupE, e_lstE, e_dicK, e_dicT, e_dic1, e_dic1T, e_rng1, e_rng2, e_enum, e_zip, e_items, e_nil, e_cons, W_s, W_b, W_l, W_p, W_c, W_i, W_it, two_ss, dOf_s, d_sh, d_ol, d_ok, d_ot, asB_bl, asI_i, cons_ss, rd_0, rd_s, sh_sh, nd_sh, nd_ol, and_t, and_f, or_t, or_f, bl_s, dsl_s, ite_t, ite_f, slc_s, max_i, o_addI, o_subI, c_lt, c_le, c_gt, c_ge, c_eq, c_ne, c_in, c_nin, eq_ii, eq_ss, is_nn, ix_tup, ix_lst, ix_scr, ix_str, len_str, len_lst, len_tup, len_scr, wd_lst, wd_tup, wd_str, Option.map_some, Option.bind_some, List.map_cons, List.map_nil, rd_ne, rd_eq, rd_hid, hid_sh, hi_var, hi_cS, hi_glb, hi_bin, hi_ite, hi_idx, hi_slc, hi_rev, hi_call, hi_glist, hi_bi1, hi_biR, hi_sset, hi_join, hi_tupE, hi_lstE, hi_lc, hi_rng1, hi_rng2, hi_enum, hi_zip, hi_items, wipe_cons, wipe_nil, List.length_set, List.set_cons_zero, List.set_cons_succ, bindT, setMany, setSl, if_true, if_false, decide_true, decide_false, Bool.not_true, Bool.not_false, isTy, tup_0, lst_0, tup_1, lst_1, tup_2, lst_2, tup_3, lst_3, tup_4, lst_4, tup_5, lst_5, tup_6, lst_6, tup_7, lst_7, tup_8, lst_8, tup_9, lst_9, tup_10, lst_10, tup_11, lst_11, tup_12, lst_12, hρ, t30, t31]
    exact o_addL (by rw [List.length_append, n1, sz]; simp only [List.length_cons, List.length_nil]; omega)
  have hV : ∀ v ∈ L1 ++ [D.tup [.str (Str.ofString "a")], .lst [.str (Str.ofString "a")]] ++ [D.tup [], .tup a30, .tup a31, .tup [.str (Str.ofString "a"), .str (Str.ofString "")], .tup [.str (Str.ofString "a"), .str (Str.ofString "B")], .tup [.str (Str.ofString "a"), .non], .tup [.str (Str.ofString "abcdefghi")], .tup [.tup [.str (Str.ofString "a")]]], OkV v := fun v hv => by
    rcases List.mem_append.mp hv with hv | hv
    · rcases List.mem_append.mp hv with hv | hv
      · exact V1 v hv
      · exact V2 v hv
    · exact V3 v hv
  have nV : (L1 ++ [D.tup [.str (Str.ofString "a")], .lst [.str (Str.ofString "a")]] ++ [D.tup [], .tup a30, .tup a31, .tup [.str (Str.ofString "a"), .str (Str.ofString "")], .tup [.str (Str.ofString "a"), .str (Str.ofString "B")], .tup [.str (Str.ofString "a"), .non], .tup [.str (Str.ofString "abcdefghi")], .tup [.tup [.str (Str.ofString "a")]]]).length ≤ 100 := by
    rw [List.length_append, List.length_append, n1]; simp only [List.length_cons, List.length_nil]; omega
  generalize (L1 ++ [D.tup [.str (Str.ofString "a")], .lst [.str (Str.ofString "a")]] ++ [D.tup [], .tup a30, .tup a31, .tup [.str (Str.ofString "a"), .str (Str.ofString "")], .tup [.str (Str.ofString "a"), .str (Str.ofString "B")], .tup [.str (Str.ofString "a"), .non], .tup [.str (Str.ofString "abcdefghi")], .tup [.tup [.str (Str.ofString "a")]]]) = V at hV nV
  clear V1 V2 V3 g30 w30 g31 w31 t30 t31 e60 e61 l60 l61 lit
  refine wp_cut (fun ρ => ρ.length = 14) ?_ ?_
  · refine wp_each (ds := [.int (0 : Nat), .int (1 : Nat), .int (2 : Nat), .int (3 : Nat)]) (fun ρ => ρ.length = 14 ∧ rd ρ 0 = some (.sh (.scr sc)) ∧ rd ρ 1 = some (.sh (.lst V))) (by simp (config := {implicitDefEqProofs := false, decide := true}) only [e_var, e_cI, e_cS, e_cB, e_cN, e_neg, e_glb, e_bin, e_cmp, e_chain, e_and, e_or, e_not, e_ite, e_idx, e_slc, e_rev, e_call, e_glist, e_bi1, e_biR, e_max2, e_isi, e_isi2, e_sset, e_lset, e_join, e_index, e_get, e_split, e_tupE, e_lstE, e_dicK, e_dicT, e_dic1, e_dic1T, e_rng1, e_rng2, e_enum, e_zip, e_items, e_nil, e_cons, W_s, W_b, W_l, W_p, W_c, W_i, W_it, two_ss, dOf_s, d_sh, d_ol, d_ok, d_ot, asB_bl, asI_i, cons_ss, rd_0, rd_s, sh_sh, nd_sh, nd_ol, and_t, and_f, or_t, or_f, bl_s, dsl_s, ite_t, ite_f, slc_s, max_i, o_addI, o_subI, c_lt, c_le, c_gt, c_ge, c_eq, c_ne, c_in, c_nin, eq_ii, eq_ss, is_nn, ix_tup, ix_lst, ix_scr, ix_str, len_str, len_lst, len_tup, len_scr, wd_lst, wd_tup, wd_str, Option.map_some, Option.bind_some, List.map_cons, List.map_nil, rd_ne, rd_eq, rd_hid, hid_sh, hi_var, hi_cS, hi_glb, hi_bin, hi_ite, hi_idx, hi_slc, hi_rev, hi_call, hi_glist, hi_bi1, hi_biR, hi_sset, hi_join, hi_tupE, hi_lstE, hi_lc, hi_rng1, hi_rng2, hi_enum, hi_zip, hi_items, wipe_cons, wipe_nil, List.length_set, List.set_cons_zero, List.set_cons_succ, bindT, setMany, setSl, if_true, if_false, decide_true, decide_false, Bool.not_true, Bool.not_false, isTy, tup_0, lst_0, tup_1, lst_1, tup_2, lst_2, tup_3, lst_3, tup_4, lst_4, tup_5, lst_5, tup_6, lst_6, tup_7, lst_7, tup_8, lst_8, tup_9, lst_9, tup_10, lst_10, tup_11, lst_11, tup_12, lst_12]; rfl) ⟨by simp (config := {implicitDefEqProofs := false, decide := true}) only [rd_ne, rd_eq, rd_hid, hid_sh, wipe_cons, wipe_nil, List.length_set, d_sh, d_ol, if_true, if_false, hρ], by simp (config := {implicitDefEqProofs := false, decide := true}) only [rd_ne, rd_eq, rd_hid, hid_sh, wipe_cons, wipe_nil, List.length_set, d_sh, d_ol, if_true, if_false, hρ, r0], by simp (config := {implicitDefEqProofs := false, decide := true}) only [rd_ne, rd_eq, rd_hid, hid_sh, wipe_cons, wipe_nil, List.length_set, d_sh, d_ol, if_true, if_false, hρ]⟩ ?_ (fun ρ h => h.1)
    rintro d hd ρ ⟨hρ, r0, rV⟩
    have hi : ∃ i : Nat, i < 1000 ∧ d = .int (i : Nat) := by
      simp only [List.mem_cons, List.not_mem_nil, or_false] at hd
      rcases hd with rfl | rfl | rfl | rfl
      · exact ⟨0, by decide, rfl⟩
      · exact ⟨1, by decide, rfl⟩
      · exact ⟨2, by decide, rfl⟩
      · exact ⟨3, by decide, rfl⟩
    obtain ⟨index, hi, rfl⟩ := hi
    obtain ⟨xs, hxs, xl, xb⟩ := hD index hi
    obtain ⟨ns, hns, gn⟩ := hN xs (by omega) 30 (by decide) (by decide)
    have ok := gn.ok (by decide)
    have npos := gn.pos
    have nle := gn.le
    obtain ⟨ks, eks, lks, aks⟩ := hK (xs.drop 30) (by rw [List.length_drop]; omega) 60 (by decide)
    have gN : Gd 1 (tN ns) := .tup fun d hd => by
      obtain ⟨x, hx, rfl⟩ := List.mem_map.mp hd
      have := (gn.nm x hx).le
      rw [str_sz] at this
      exact .str (by omega)
    have wN : wt (tN ns) ≤ 31 := by rw [wt_t, wtL_strs]; omega
    refine ⟨_, rfl, wp_seq (wp_set (s := .ol (nD xs)) (by simp (config := {implicitDefEqProofs := false, decide := true}) only [e_var, e_cI, e_cS, e_cB, e_cN, e_neg, e_glb, e_bin, e_cmp, e_chain, e_and, e_or, e_not, e_ite, e_idx, e_slc, e_rev, e_call, e_glist, e_bi1, e_biR, e_max2, e_isi, e_isi2, e_sset, e_lset, e_join, e_index, e_get, e_split, e_tupE, e_lstE, e_dicK, e_dicT, e_dic1, e_dic1T, e_rng1, e_rng2, e_enum, e_zip, e_items, e_nil, e_cons, W_s, W_b, W_l, W_p, W_c, W_i, W_it, two_ss, dOf_s, d_sh, d_ol, d_ok, d_ot, asB_bl, asI_i, cons_ss, rd_0, rd_s, sh_sh, nd_sh, nd_ol, and_t, and_f, or_t, or_f, bl_s, dsl_s, ite_t, ite_f, slc_s, max_i, o_addI, o_subI, c_lt, c_le, c_gt, c_ge, c_eq, c_ne, c_in, c_nin, eq_ii, eq_ss, is_nn, ix_tup, ix_lst, ix_scr, ix_str, len_str, len_lst, len_tup, len_scr, wd_lst, wd_tup, wd_str, Option.map_some, Option.bind_some, List.map_cons, List.map_nil, rd_ne, rd_eq, rd_hid, hid_sh, hi_var, hi_cS, hi_glb, hi_bin, hi_ite, hi_idx, hi_slc, hi_rev, hi_call, hi_glist, hi_bi1, hi_biR, hi_sset, hi_join, hi_tupE, hi_lstE, hi_lc, hi_rng1, hi_rng2, hi_enum, hi_zip, hi_items, wipe_cons, wipe_nil, List.length_set, List.set_cons_zero, List.set_cons_succ, bindT, setMany, setSl, if_true, if_false, decide_true, decide_false, Bool.not_true, Bool.not_false, isTy, tup_0, lst_0, tup_1, lst_1, tup_2, lst_2, tup_3, lst_3, tup_4, lst_4, tup_5, lst_5, tup_6, lst_6, tup_7, lst_7, tup_8, lst_8, tup_9, lst_9, tup_10, lst_10, tup_11, lst_11, tup_12, lst_12, hρ, r0]; exact hxs) ?_)⟩
    have c30 : slcD (.lst (nD xs)) (some 30) none = some (.ol (nD (xs.drop 30))) := by
      rw [s_lst, show (30 : Int) = ((30 : Nat) : Int) from rfl, cutL_map, cutL_n]
    refine wp_seq (wp_par (ss := [.sh (tN ns), .sh (.str (ofL ks))]) (evM2 (s := .sh (tN ns)) (t := .sh (.str (ofL ks))) (by simp (config := {implicitDefEqProofs := false, decide := true}) only [e_var, e_cI, e_cS, e_cB, e_cN, e_neg, e_glb, e_bin, e_cmp, e_chain, e_and, e_or, e_not, e_ite, e_idx, e_slc, e_rev, e_call, e_glist, e_bi1, e_biR, e_max2, e_isi, e_isi2, e_sset, e_lset, e_join, e_index, e_get, e_split, e_tupE, e_lstE, e_dicK, e_dicT, e_dic1, e_dic1T, e_rng1, e_rng2, e_enum, e_zip, e_items, e_nil, e_cons, W_s, W_b, W_l, W_p, W_c, W_i, W_it, two_ss, dOf_s, d_sh, d_ol, d_ok, d_ot, asB_bl, asI_i, cons_ss, rd_0, rd_s, sh_sh, nd_sh, nd_ol, and_t, and_f, or_t, or_f, bl_s, dsl_s, ite_t, ite_f, slc_s, max_i, o_addI, o_subI, c_lt, c_le, c_gt, c_ge, c_eq, c_ne, c_in, c_nin, eq_ii, eq_ss, is_nn, ix_tup, ix_lst, ix_scr, ix_str, len_str, len_lst, len_tup, len_scr, wd_lst, wd_tup, wd_str, Option.map_some, Option.bind_some, List.map_cons, List.map_nil, rd_ne, rd_eq, rd_hid, hid_sh, hi_var, hi_cS, hi_glb, hi_bin, hi_ite, hi_idx, hi_slc, hi_rev, hi_call, hi_glist, hi_bi1, hi_biR, hi_sset, hi_join, hi_tupE, hi_lstE, hi_lc, hi_rng1, hi_rng2, hi_enum, hi_zip, hi_items, wipe_cons, wipe_nil, List.length_set, List.set_cons_zero, List.set_cons_succ, bindT, setMany, setSl, if_true, if_false, decide_true, decide_false, Bool.not_true, Bool.not_false, isTy, tup_0, lst_0, tup_1, lst_1, tup_2, lst_2, tup_3, lst_3, tup_4, lst_4, tup_5, lst_5, tup_6, lst_6, tup_7, lst_7, tup_8, lst_8, tup_9, lst_9, tup_10, lst_10, tup_11, lst_11, tup_12, lst_12, hρ]; exact hns) (by simp (config := {implicitDefEqProofs := false, decide := true}) only [e_var, e_cI, e_cS, e_cB, e_cN, e_neg, e_glb, e_bin, e_cmp, e_chain, e_and, e_or, e_not, e_ite, e_idx, e_slc, e_rev, e_call, e_glist, e_bi1, e_biR, e_max2, e_isi, e_isi2, e_sset, e_lset, e_join, e_index, e_get, e_split, e_tupE, e_lstE, e_dicK, e_dicT, e_dic1, e_dic1T, e_rng1, e_rng2, e_enum, e_zip, e_items, e_nil, e_cons, W_s, W_b, W_l, W_p, W_c, W_i, W_it, two_ss, dOf_s, d_sh, d_ol, d_ok, d_ot, asB_bl, asI_i, cons_ss, rd_0, rd_s, sh_sh, nd_sh, nd_ol, and_t, and_f, or_t, or_f, bl_s, dsl_s, ite_t, ite_f, slc_s, max_i, o_addI, o_subI, c_lt, c_le, c_gt, c_ge, c_eq, c_ne, c_in, c_nin, eq_ii, eq_ss, is_nn, ix_tup, ix_lst, ix_scr, ix_str, len_str, len_lst, len_tup, len_scr, wd_lst, wd_tup, wd_str, Option.map_some, Option.bind_some, List.map_cons, List.map_nil, rd_ne, rd_eq, rd_hid, hid_sh, hi_var, hi_cS, hi_glb, hi_bin, hi_ite, hi_idx, hi_slc, hi_rev, hi_call, hi_glist, hi_bi1, hi_biR, hi_sset, hi_join, hi_tupE, hi_lstE, hi_lc, hi_rng1, hi_rng2, hi_enum, hi_zip, hi_items, wipe_cons, wipe_nil, List.length_set, List.set_cons_zero, List.set_cons_succ, bindT, setMany, setSl, if_true, if_false, decide_true, decide_false, Bool.not_true, Bool.not_false, isTy, tup_0, lst_0, tup_1, lst_1, tup_2, lst_2, tup_3, lst_3, tup_4, lst_4, tup_5, lst_5, tup_6, lst_6, tup_7, lst_7, tup_8, lst_8, tup_9, lst_9, tup_10, lst_10, tup_11, lst_11, tup_12, lst_12, hρ, c30]; exact eks) _ _) rfl ?_)
    have x80 := nD_at (xs := xs) (j := 80) (by omega)
    have x81 := nD_at (xs := xs) (j := 81) (by omega)
    generalize xs[80]'(by omega) = u80 at x80
    generalize xs[81]'(by omega) = u81 at x81
    replace x80 : atI (nD xs) 80 = _ := x80
    replace x81 : atI (nD xs) 81 = _ := x81
    refine wp_seq (wp_set (s := .sh (.int (u80 % (ks.length + 1) : Nat))) ?_ ?_)
    · simp (config := {implicitDefEqProofs := false, decide := true}) only [e_var, e_cI, e_cS, e_cB, e_cN, e_neg, e_glb, e_bin, e_cmp, e_chain, e_and, e_or, e_not, e_ite, e_idx, e_slc, e_rev, e_call, e_glist, e_bi1, e_biR, e_max2, e_isi, e_isi2, e_sset, e_lset, e_join, e_index, e_get, e_split, e_tupE, e_lstE, e_dicK, e_dicT, e_dic1, e_dic1T, e_rng1, e_rng2, e_enum, e_zip, e_items, e_nil, e_cons, W_s, W_b, W_l, W_p, W_c, W_i, W_it, two_ss, dOf_s, d_sh, d_ol, d_ok, d_ot, asB_bl, asI_i, cons_ss, rd_0, rd_s, sh_sh, nd_sh, nd_ol, and_t, and_f, or_t, or_f, bl_s, dsl_s, ite_t, ite_f, slc_s, max_i, o_addI, o_subI, c_lt, c_le, c_gt, c_ge, c_eq, c_ne, c_in, c_nin, eq_ii, eq_ss, is_nn, ix_tup, ix_lst, ix_scr, ix_str, len_str, len_lst, len_tup, len_scr, wd_lst, wd_tup, wd_str, Option.map_some, Option.bind_some, List.map_cons, List.map_nil, rd_ne, rd_eq, rd_hid, hid_sh, hi_var, hi_cS, hi_glb, hi_bin, hi_ite, hi_idx, hi_slc, hi_rev, hi_call, hi_glist, hi_bi1, hi_biR, hi_sset, hi_join, hi_tupE, hi_lstE, hi_lc, hi_rng1, hi_rng2, hi_enum, hi_zip, hi_items, wipe_cons, wipe_nil, List.length_set, List.set_cons_zero, List.set_cons_succ, bindT, setMany, setSl, if_true, if_false, decide_true, decide_false, Bool.not_true, Bool.not_false, isTy, tup_0, lst_0, tup_1, lst_1, tup_2, lst_2, tup_3, lst_3, tup_4, lst_4, tup_5, lst_5, tup_6, lst_6, tup_7, lst_7, tup_8, lst_8, tup_9, lst_9, tup_10, lst_10, tup_11, lst_11, tup_12, lst_12, hρ, x80, ofL_len]
      rw [show (ks.length : Int) + 1 = ((ks.length + 1 : Nat) : Int) from by omega, o_modN (by omega)]
    generalize u80 % (ks.length + 1) = at'
    obtain ⟨x0, hx0⟩ : ∃ x0, (ns.map D.str).head? = some (.str x0) ∧ x0 ∈ ns := by
      cases ns with
      | nil => exact absurd npos (by decide)
      | cons x r => exact ⟨x, rfl, List.mem_cons_self⟩
    have hx0l := (gn.nm x0 hx0.2).le
    rw [str_sz] at hx0l
    have at0 : atI (ns.map D.str) 0 = some (.str x0) := atI_zero hx0.1
    obtain ⟨ch, _, hch⟩ := at_lenA (L := (Str.ofString "Z- 5\n").cps.toList) (by decide +kernel) u81
    replace hch : atI (Str.ofString "Z- 5\n").cps.toList ((u81 : Int) % 5) = some ch := hch
    have p1 : slcD (.str (ofL ks)) none (some (at' : Int)) = some (.sh (.str (ofL (ks.take at')))) := by rw [s_str, ofL_cps, cutL_0]
    have p2 : slcD (.str (ofL ks)) (some (at' : Int)) none = some (.sh (.str (ofL (ks.drop at')))) := by rw [s_str, ofL_cps, cutL_n]
    have p3 : opBin .add (.str (ofL (ks.take at'))) (.str (ofL [ch])) = some (.sh (.str (ofL (ks.take at' ++ [ch])))) := by
      rw [o_addS (by rw [ofL_len, ofL_len, List.length_take, List.length_singleton, sz]; omega), ofL_app]
    have p4 : opBin .add (.str (ofL (ks.take at' ++ [ch]))) (.str (ofL (ks.drop at'))) = some (.sh (.str (ofL (ks.take at' ++ [ch] ++ ks.drop at')))) := by
      rw [o_addS (by rw [ofL_len, ofL_len, List.length_append, List.length_take, List.length_singleton, List.length_drop, sz]; omega), ofL_app]
    have la1 : (Str.ofString "a").length = 1 := by decide +kernel
    have p5 : opBin .add (.str (ofL ks)) (.str (Str.ofString "a")) = some (.sh (.str (ofL ks ++ Str.ofString "a"))) := o_addS (by rw [ofL_len, la1, sz]; omega)
    have p5l : (ofL ks ++ Str.ofString "a").length ≤ 1000 := by
      rw [show Str.ofString "a" = ofL [97] from by decide +kernel, ofL_app, ofL_len, List.length_append, List.length_singleton]; omega
    refine wp_seq (wp_set (s := .ol [tN ns, .lst (ns.map .str), .str x0, .str (ofL ks), .str (ofL (ks.take at' ++ [ch] ++ ks.drop at')), .str (ofL ks ++ Str.ofString "a")]) ?_ ?_)
    · simp (config := {implicitDefEqProofs := false, decide := true}) only [e_var, e_cI, e_cS, e_cB, e_cN, e_neg, e_glb, e_bin, e_cmp, e_chain, e_and, e_or, e_not, e_ite, e_idx, e_slc, e_rev, e_call, e_glist, e_bi1, e_biR, e_max2, e_isi, e_isi2, e_sset, e_lset, e_join, e_index, e_get, e_split, e_tupE, e_lstE, e_dicK, e_dicT, e_dic1, e_dic1T, e_rng1, e_rng2, e_enum, e_zip, e_items, e_nil, e_cons, W_s, W_b, W_l, W_p, W_c, W_i, W_it, two_ss, dOf_s, d_sh, d_ol, d_ok, d_ot, asB_bl, asI_i, cons_ss, rd_0, rd_s, sh_sh, nd_sh, nd_ol, and_t, and_f, or_t, or_f, bl_s, dsl_s, ite_t, ite_f, slc_s, max_i, o_addI, o_subI, c_lt, c_le, c_gt, c_ge, c_eq, c_ne, c_in, c_nin, eq_ii, eq_ss, is_nn, ix_tup, ix_lst, ix_scr, ix_str, len_str, len_lst, len_tup, len_scr, wd_lst, wd_tup, wd_str, Option.map_some, Option.bind_some, List.map_cons, List.map_nil, rd_ne, rd_eq, rd_hid, hid_sh, hi_var, hi_cS, hi_glb, hi_bin, hi_ite, hi_idx, hi_slc, hi_rev, hi_call, hi_glist, hi_bi1, hi_biR, hi_sset, hi_join, hi_tupE, hi_lstE, hi_lc, hi_rng1, hi_rng2, hi_enum, hi_zip, hi_items, wipe_cons, wipe_nil, List.length_set, List.set_cons_zero, List.set_cons_succ, bindT, setMany, setSl, if_true, if_false, decide_true, decide_false, Bool.not_true, Bool.not_false, isTy, tup_0, lst_0, tup_1, lst_1, tup_2, lst_2, tup_3, lst_3, tup_4, lst_4, tup_5, lst_5, tup_6, lst_6, tup_7, lst_7, tup_8, lst_8, tup_9, lst_9, tup_10, lst_10, tup_11, lst_11, tup_12, lst_12, hρ, list_ot, at0, p1, p2, x81, o_mod (by decide : (0 : Int) < 5), hch, sgn_ofL, p3, p4, p5]
    have S0 : ∀ v ∈ [tN ns, .lst (ns.map .str), .str x0, .str (ofL ks), .str (ofL (ks.take at' ++ [ch] ++ ks.drop at')), .str (ofL ks ++ Str.ofString "a")], OkV v := by
      intro v hv
      simp only [List.mem_cons, List.not_mem_nil, or_false] at hv
      rcases hv with rfl | rfl | rfl | rfl | rfl | rfl
      · exact ⟨gN.le (by decide), by omega⟩
      · cases gN with
        | tup h => exact ⟨(Gd.lst h).le (by decide), by rw [wt_l, wtL_strs]; omega⟩
      · exact okV_str (by omega)
      · exact okV_str (by rw [ofL_len]; omega)
      · exact okV_str (by rw [ofL_len, List.length_append, List.length_append, List.length_take, List.length_singleton, List.length_drop]; omega)
      · exact okV_str p5l
    refine wp_cut (fun ρ => ρ.length = 14 ∧ rd ρ 0 = some (.sh (.scr sc)) ∧ rd ρ 1 = some (.sh (.lst V)) ∧ rd ρ 8 = some (.sh (tN ns)) ∧ ∃ S : List D, rd ρ 5 = some (.sh (.lst S)) ∧ (∀ v ∈ S, OkV v) ∧ S.length ≤ 100) ?_ ?_
    · refine wp_fold (xs := List.range 10) (fun w : Nat => .int (w : Nat)) (fun ys ρ => ρ.length = 14 ∧ rd ρ 0 = some (.sh (.scr sc)) ∧ rd ρ 1 = some (.sh (.lst V)) ∧ rd ρ 3 = some (.sh (.lst (nD xs))) ∧ rd ρ 8 = some (.sh (tN ns)) ∧ ∃ S : List D, rd ρ 5 = some (.sh (.lst S)) ∧ (∀ v ∈ S, OkV v) ∧ S.length ≤ 6 + 3 * ys.length) ?_ ?_ ?_ ?_
      · simp (config := {implicitDefEqProofs := false, decide := true}) only [e_var, e_cI, e_cS, e_cB, e_cN, e_neg, e_glb, e_bin, e_cmp, e_chain, e_and, e_or, e_not, e_ite, e_idx, e_slc, e_rev, e_call, e_glist, e_bi1, e_biR, e_max2, e_isi, e_isi2, e_sset, e_lset, e_join, e_index, e_get, e_split, e_tupE, e_lstE, e_dicK, e_dicT, e_dic1, e_dic1T, e_rng1, e_rng2, e_enum, e_zip, e_items, e_nil, e_cons, W_s, W_b, W_l, W_p, W_c, W_i, W_it, two_ss, dOf_s, d_sh, d_ol, d_ok, d_ot, asB_bl, asI_i, cons_ss, rd_0, rd_s, sh_sh, nd_sh, nd_ol, and_t, and_f, or_t, or_f, bl_s, dsl_s, ite_t, ite_f, slc_s, max_i, o_addI, o_subI, c_lt, c_le, c_gt, c_ge, c_eq, c_ne, c_in, c_nin, eq_ii, eq_ss, is_nn, ix_tup, ix_lst, ix_scr, ix_str, len_str, len_lst, len_tup, len_scr, wd_lst, wd_tup, wd_str, Option.map_some, Option.bind_some, List.map_cons, List.map_nil, rd_ne, rd_eq, rd_hid, hid_sh, hi_var, hi_cS, hi_glb, hi_bin, hi_ite, hi_idx, hi_slc, hi_rev, hi_call, hi_glist, hi_bi1, hi_biR, hi_sset, hi_join, hi_tupE, hi_lstE, hi_lc, hi_rng1, hi_rng2, hi_enum, hi_zip, hi_items, wipe_cons, wipe_nil, List.length_set, List.set_cons_zero, List.set_cons_succ, bindT, setMany, setSl, if_true, if_false, decide_true, decide_false, Bool.not_true, Bool.not_false, isTy, tup_0, lst_0, tup_1, lst_1, tup_2, lst_2, tup_3, lst_3, tup_4, lst_4, tup_5, lst_5, tup_6, lst_6, tup_7, lst_7, tup_8, lst_8, tup_9, lst_9, tup_10, lst_10, tup_11, lst_11, tup_12, lst_12]
        exact r1F (n := 10) (by decide)
      · exact ⟨by simp (config := {implicitDefEqProofs := false, decide := true}) only [rd_ne, rd_eq, rd_hid, hid_sh, wipe_cons, wipe_nil, List.length_set, d_sh, d_ol, if_true, if_false, hρ], by simp (config := {implicitDefEqProofs := false, decide := true}) only [rd_ne, rd_eq, rd_hid, hid_sh, wipe_cons, wipe_nil, List.length_set, d_sh, d_ol, if_true, if_false, hρ, r0], by simp (config := {implicitDefEqProofs := false, decide := true}) only [rd_ne, rd_eq, rd_hid, hid_sh, wipe_cons, wipe_nil, List.length_set, d_sh, d_ol, if_true, if_false, hρ, rV], by simp (config := {implicitDefEqProofs := false, decide := true}) only [rd_ne, rd_eq, rd_hid, hid_sh, wipe_cons, wipe_nil, List.length_set, d_sh, d_ol, if_true, if_false, hρ], by simp (config := {implicitDefEqProofs := false, decide := true}) only [rd_ne, rd_eq, rd_hid, hid_sh, wipe_cons, wipe_nil, List.length_set, d_sh, d_ol, if_true, if_false, hρ], _, by simp (config := {implicitDefEqProofs := false, decide := true}) only [rd_ne, rd_eq, rd_hid, hid_sh, wipe_cons, wipe_nil, List.length_set, d_sh, d_ol, if_true, if_false, hρ], S0, Nat.le_refl 6⟩
      · rintro ys k zs e ρ ⟨hρ, r0, rV, r3, r8, S, r5, hS, lS⟩
        have hk : k < 10 := by
          have : k ∈ List.range 10 := by rw [e]; simp
          exact List.mem_range.mp this
        have hy : ys.length < 10 := by
          have := congrArg List.length e
          rw [List.length_range, List.length_append, List.length_cons] at this
          omega
        have rowl : ((xs.take (5 * k + 5)).drop (5 * k)).length = 5 := by rw [List.length_drop, List.length_take]; omega
        have q1 : slcD (.lst (nD xs)) (some (5 * (k : Int))) (some (5 * (k : Int) + 5)) = some (.ol (nD ((xs.take (5 * k + 5)).drop (5 * k)))) := by
          rw [s_lst, show 5 * (k : Int) = ((5 * k : Nat) : Int) from by omega, show ((5 * k : Nat) : Int) + 5 = ((5 * k + 5 : Nat) : Int) from by omega, cutL_map, cutL_nn]
        generalize (xs.take (5 * k + 5)).drop (5 * k) = row at rowl q1
        refine ⟨_, rfl, wp_seq (wp_set (s := .ol (nD row)) (by simp (config := {implicitDefEqProofs := false, decide := true}) only [e_var, e_cI, e_cS, e_cB, e_cN, e_neg, e_glb, e_bin, e_cmp, e_chain, e_and, e_or, e_not, e_ite, e_idx, e_slc, e_rev, e_call, e_glist, e_bi1, e_biR, e_max2, e_isi, e_isi2, e_sset, e_lset, e_join, e_index, e_get, e_split, e_tupE, e_lstE, e_dicK, e_dicT, e_dic1, e_dic1T, e_rng1, e_rng2, e_enum, e_zip, e_items, e_nil, e_cons, W_s, W_b, W_l, W_p, W_c, W_i, W_it, two_ss, dOf_s, d_sh, d_ol, d_ok, d_ot, asB_bl, asI_i, cons_ss, rd_0, rd_s, sh_sh, nd_sh, nd_ol, and_t, and_f, or_t, or_f, bl_s, dsl_s, ite_t, ite_f, slc_s, max_i, o_addI, o_subI, c_lt, c_le, c_gt, c_ge, c_eq, c_ne, c_in, c_nin, eq_ii, eq_ss, is_nn, ix_tup, ix_lst, ix_scr, ix_str, len_str, len_lst, len_tup, len_scr, wd_lst, wd_tup, wd_str, Option.map_some, Option.bind_some, List.map_cons, List.map_nil, rd_ne, rd_eq, rd_hid, hid_sh, hi_var, hi_cS, hi_glb, hi_bin, hi_ite, hi_idx, hi_slc, hi_rev, hi_call, hi_glist, hi_bi1, hi_biR, hi_sset, hi_join, hi_tupE, hi_lstE, hi_lc, hi_rng1, hi_rng2, hi_enum, hi_zip, hi_items, wipe_cons, wipe_nil, List.length_set, List.set_cons_zero, List.set_cons_succ, bindT, setMany, setSl, if_true, if_false, decide_true, decide_false, Bool.not_true, Bool.not_false, isTy, tup_0, lst_0, tup_1, lst_1, tup_2, lst_2, tup_3, lst_3, tup_4, lst_4, tup_5, lst_5, tup_6, lst_6, tup_7, lst_7, tup_8, lst_8, tup_9, lst_9, tup_10, lst_10, tup_11, lst_11, tup_12, lst_12, hρ, r3, o_mul (i := 5) (j := (k : Nat)) (.inl ⟨by decide, by decide⟩), q1]) ?_)⟩
        obtain ⟨s1, es1, gs1⟩ := hM (tN ns) 1 gN (by decide) (by omega) row (by omega)
        have w1 := gs1.w
        obtain ⟨s2, es2, gs2⟩ := hM s1.d 2 gs1.g (by decide) (by omega) row.reverse (by rw [List.length_reverse]; omega)
        have w2 := gs2.w
        obtain ⟨s3, es3, gs3⟩ := hA (xs.drop k ++ xs.take k) (by rw [List.length_append, List.length_drop, List.length_take]; omega) (by rw [List.length_append, List.length_drop, List.length_take]; omega)
        have w3 := gs3.w
        replace w3 : wt s3.d ≤ 256 := w3
        have er : revD (.lst (nD row)) = some (.ol (nD row.reverse)) := by
          show some (Slot.ol (nD row).reverse) = _
          rw [← List.map_reverse]
        have c1 : slcD (.lst (nD xs)) (some (k : Int)) none = some (.ol (nD (xs.drop k))) := by rw [s_lst, cutL_map, cutL_n]
        have c2 : slcD (.lst (nD xs)) none (some (k : Int)) = some (.ol (nD (xs.take k))) := by rw [s_lst, cutL_map, cutL_0]
        have c3 : opBin .add (.lst (nD (xs.drop k))) (.lst (nD (xs.take k))) = some (.ol (nD (xs.drop k ++ xs.take k))) := by
          rw [o_addL (by rw [nD_len, nD_len, List.length_drop, List.length_take, sz]; omega), nD_app]
        refine wp_seq (wp_set (s := s1) (by simp (config := {implicitDefEqProofs := false, decide := true}) only [e_var, e_cI, e_cS, e_cB, e_cN, e_neg, e_glb, e_bin, e_cmp, e_chain, e_and, e_or, e_not, e_ite, e_idx, e_slc, e_rev, e_call, e_glist, e_bi1, e_biR, e_max2, e_isi, e_isi2, e_sset, e_lset, e_join, e_index, e_get, e_split, e_tupE, e_lstE, e_dicK, e_dicT, e_dic1, e_dic1T, e_rng1, e_rng2, e_enum, e_zip, e_items, e_nil, e_cons, W_s, W_b, W_l, W_p, W_c, W_i, W_it, two_ss, dOf_s, d_sh, d_ol, d_ok, d_ot, asB_bl, asI_i, cons_ss, rd_0, rd_s, sh_sh, nd_sh, nd_ol, and_t, and_f, or_t, or_f, bl_s, dsl_s, ite_t, ite_f, slc_s, max_i, o_addI, o_subI, c_lt, c_le, c_gt, c_ge, c_eq, c_ne, c_in, c_nin, eq_ii, eq_ss, is_nn, ix_tup, ix_lst, ix_scr, ix_str, len_str, len_lst, len_tup, len_scr, wd_lst, wd_tup, wd_str, Option.map_some, Option.bind_some, List.map_cons, List.map_nil, rd_ne, rd_eq, rd_hid, hid_sh, hi_var, hi_cS, hi_glb, hi_bin, hi_ite, hi_idx, hi_slc, hi_rev, hi_call, hi_glist, hi_bi1, hi_biR, hi_sset, hi_join, hi_tupE, hi_lstE, hi_lc, hi_rng1, hi_rng2, hi_enum, hi_zip, hi_items, wipe_cons, wipe_nil, List.length_set, List.set_cons_zero, List.set_cons_succ, bindT, setMany, setSl, if_true, if_false, decide_true, decide_false, Bool.not_true, Bool.not_false, isTy, tup_0, lst_0, tup_1, lst_1, tup_2, lst_2, tup_3, lst_3, tup_4, lst_4, tup_5, lst_5, tup_6, lst_6, tup_7, lst_7, tup_8, lst_8, tup_9, lst_9, tup_10, lst_10, tup_11, lst_11, tup_12, lst_12, hρ, r8, es1]) ?_)
        refine wp_seq (wp_set (s := .ol (S ++ [s1.d, s2.d, s3.d])) ?_ (wp_skip ⟨by simp (config := {implicitDefEqProofs := false, decide := true}) only [rd_ne, rd_eq, rd_hid, hid_sh, wipe_cons, wipe_nil, List.length_set, d_sh, d_ol, if_true, if_false, hρ], by simp (config := {implicitDefEqProofs := false, decide := true}) only [rd_ne, rd_eq, rd_hid, hid_sh, wipe_cons, wipe_nil, List.length_set, d_sh, d_ol, if_true, if_false, hρ, r0], by simp (config := {implicitDefEqProofs := false, decide := true}) only [rd_ne, rd_eq, rd_hid, hid_sh, wipe_cons, wipe_nil, List.length_set, d_sh, d_ol, if_true, if_false, hρ, rV], by simp (config := {implicitDefEqProofs := false, decide := true}) only [rd_ne, rd_eq, rd_hid, hid_sh, wipe_cons, wipe_nil, List.length_set, d_sh, d_ol, if_true, if_false, hρ, r3], by simp (config := {implicitDefEqProofs := false, decide := true}) only [rd_ne, rd_eq, rd_hid, hid_sh, wipe_cons, wipe_nil, List.length_set, d_sh, d_ol, if_true, if_false, hρ, r8], S ++ [s1.d, s2.d, s3.d], by simp (config := {implicitDefEqProofs := false, decide := true}) only [rd_ne, rd_eq, rd_hid, hid_sh, wipe_cons, wipe_nil, List.length_set, d_sh, d_ol, if_true, if_false, hρ], fun v hv => ?_, ?_⟩))
        · simp (config := {implicitDefEqProofs := false, decide := true}) only [e_var, e_cI, e_cS, e_cB, e_cN, e_neg, e_glb, e_bin, e_cmp, e_chain, e_and, e_or, e_not, e_ite, e_idx, e_slc, e_rev, e_call, e_glist, e_bi1, e_biR, e_max2, e_isi, e_isi2, e_sset, e_lset, e_join, e_index, e_get, e_split, e_tupE, e_lstE, e_dicK, e_dicT, e_dic1, e_dic1T, e_rng1, e_rng2, e_enum, e_zip, e_items, e_nil, e_cons, W_s, W_b, W_l, W_p, W_c, W_i, W_it, two_ss, dOf_s, d_sh, d_ol, d_ok, d_ot, asB_bl, asI_i, cons_ss, rd_0, rd_s, sh_sh, nd_sh, nd_ol, and_t, and_f, or_t, or_f, bl_s, dsl_s, ite_t, ite_f, slc_s, max_i, o_addI, o_subI, c_lt, c_le, c_gt, c_ge, c_eq, c_ne, c_in, c_nin, eq_ii, eq_ss, is_nn, ix_tup, ix_lst, ix_scr, ix_str, len_str, len_lst, len_tup, len_scr, wd_lst, wd_tup, wd_str, Option.map_some, Option.bind_some, List.map_cons, List.map_nil, rd_ne, rd_eq, rd_hid, hid_sh, hi_var, hi_cS, hi_glb, hi_bin, hi_ite, hi_idx, hi_slc, hi_rev, hi_call, hi_glist, hi_bi1, hi_biR, hi_sset, hi_join, hi_tupE, hi_lstE, hi_lc, hi_rng1, hi_rng2, hi_enum, hi_zip, hi_items, wipe_cons, wipe_nil, List.length_set, List.set_cons_zero, List.set_cons_succ, bindT, setMany, setSl, if_true, if_false, decide_true, decide_false, Bool.not_true, Bool.not_false, isTy, tup_0, lst_0, tup_1, lst_1, tup_2, lst_2, tup_3, lst_3, tup_4, lst_4, tup_5, lst_5, tup_6, lst_6, tup_7, lst_7, tup_8, lst_8, tup_9, lst_9, tup_10, lst_10, tup_11, lst_11, tup_12, lst_12, hρ, r5, r3, er, es2, c1, c2, c3, es3]
          rw [o_addL (by rw [sz]; simp only [List.length_cons, List.length_nil]; omega)]
        · rcases List.mem_append.mp hv with hv | hv
          · exact hS v hv
          · simp only [List.mem_cons, List.not_mem_nil, or_false] at hv
            rcases hv with rfl | rfl | rfl
            · exact ⟨gs1.g.le (by decide), by omega⟩
            · exact ⟨gs2.g.le (by decide), by omega⟩
            · exact ⟨gs3.g.le (by decide), by omega⟩
        · rw [List.length_append, List.length_append]; simp only [List.length_cons, List.length_nil]; omega
      · rintro ρ ⟨hρ, r0, rV, r3, r8, S, r5, hS, lS⟩
        rw [List.length_range] at lS
        exact ⟨hρ, r0, rV, r8, S, r5, hS, by omega⟩
    · rintro ρ ⟨hρ, r0, rV, r8, S, r5, hS, lS⟩
      refine wp_cut (fun ρ => ρ.length = 14 ∧ rd ρ 0 = some (.sh (.scr sc)) ∧ rd ρ 1 = some (.sh (.lst V)) ∧ rd ρ 8 = some (.sh (tN ns))) ?_ ?_
      · refine wp_each (ds := V ++ S) (fun ρ => ρ.length = 14 ∧ rd ρ 0 = some (.sh (.scr sc)) ∧ rd ρ 1 = some (.sh (.lst V)) ∧ rd ρ 8 = some (.sh (tN ns))) ?_ ⟨hρ, r0, rV, r8⟩ ?_ (fun ρ h => h)
        · simp (config := {implicitDefEqProofs := false, decide := true}) only [e_var, e_cI, e_cS, e_cB, e_cN, e_neg, e_glb, e_bin, e_cmp, e_chain, e_and, e_or, e_not, e_ite, e_idx, e_slc, e_rev, e_call, e_glist, e_bi1, e_biR, e_max2, e_isi, e_isi2, e_sset, e_lset, e_join, e_index, e_get, e_split, e_tupE, e_lstE, e_dicK, e_dicT, e_dic1, e_dic1T, e_rng1, e_rng2, e_enum, e_zip, e_items, e_nil, e_cons, W_s, W_b, W_l, W_p, W_c, W_i, W_it, two_ss, dOf_s, d_sh, d_ol, d_ok, d_ot, asB_bl, asI_i, cons_ss, rd_0, rd_s, sh_sh, nd_sh, nd_ol, and_t, and_f, or_t, or_f, bl_s, dsl_s, ite_t, ite_f, slc_s, max_i, o_addI, o_subI, c_lt, c_le, c_gt, c_ge, c_eq, c_ne, c_in, c_nin, eq_ii, eq_ss, is_nn, ix_tup, ix_lst, ix_scr, ix_str, len_str, len_lst, len_tup, len_scr, wd_lst, wd_tup, wd_str, Option.map_some, Option.bind_some, List.map_cons, List.map_nil, rd_ne, rd_eq, rd_hid, hid_sh, hi_var, hi_cS, hi_glb, hi_bin, hi_ite, hi_idx, hi_slc, hi_rev, hi_call, hi_glist, hi_bi1, hi_biR, hi_sset, hi_join, hi_tupE, hi_lstE, hi_lc, hi_rng1, hi_rng2, hi_enum, hi_zip, hi_items, wipe_cons, wipe_nil, List.length_set, List.set_cons_zero, List.set_cons_succ, bindT, setMany, setSl, if_true, if_false, decide_true, decide_false, Bool.not_true, Bool.not_false, isTy, tup_0, lst_0, tup_1, lst_1, tup_2, lst_2, tup_3, lst_3, tup_4, lst_4, tup_5, lst_5, tup_6, lst_6, tup_7, lst_7, tup_8, lst_8, tup_9, lst_9, tup_10, lst_10, tup_11, lst_11, tup_12, lst_12, hρ, rV, r5]
          rw [o_addL (by rw [sz]; omega)]
          rfl
        · rintro v hv ρ ⟨hρ, r0, rV, r8⟩
          have gv : OkV v := by
            rcases List.mem_append.mp hv with h | h
            · exact hV v h
            · exact hS v h
          have h16 := fun (lo hi : Nat) => hW v 12 gv.g lo hi
          have e18 : cal 16 [v, .int 1, .int 8] = some (.sh (.bl (wrd 1 8 v))) := h16 1 8
          have e060 : cal 16 [v, .int 0, .int 60] = some (.sh (.bl (wrd 0 60 v))) := h16 0 60
          refine ⟨_, rfl, wp_seq (wp_ite (t := false) (by simp (config := {implicitDefEqProofs := false, decide := true}) only [e_var, e_cI, e_cS, e_cB, e_cN, e_neg, e_glb, e_bin, e_cmp, e_chain, e_and, e_or, e_not, e_ite, e_idx, e_slc, e_rev, e_call, e_glist, e_bi1, e_biR, e_max2, e_isi, e_isi2, e_sset, e_lset, e_join, e_index, e_get, e_split, e_tupE, e_lstE, e_dicK, e_dicT, e_dic1, e_dic1T, e_rng1, e_rng2, e_enum, e_zip, e_items, e_nil, e_cons, W_s, W_b, W_l, W_p, W_c, W_i, W_it, two_ss, dOf_s, d_sh, d_ol, d_ok, d_ot, asB_bl, asI_i, cons_ss, rd_0, rd_s, sh_sh, nd_sh, nd_ol, and_t, and_f, or_t, or_f, bl_s, dsl_s, ite_t, ite_f, slc_s, max_i, o_addI, o_subI, c_lt, c_le, c_gt, c_ge, c_eq, c_ne, c_in, c_nin, eq_ii, eq_ss, is_nn, ix_tup, ix_lst, ix_scr, ix_str, len_str, len_lst, len_tup, len_scr, wd_lst, wd_tup, wd_str, Option.map_some, Option.bind_some, List.map_cons, List.map_nil, rd_ne, rd_eq, rd_hid, hid_sh, hi_var, hi_cS, hi_glb, hi_bin, hi_ite, hi_idx, hi_slc, hi_rev, hi_call, hi_glist, hi_bi1, hi_biR, hi_sset, hi_join, hi_tupE, hi_lstE, hi_lc, hi_rng1, hi_rng2, hi_enum, hi_zip, hi_items, wipe_cons, wipe_nil, List.length_set, List.set_cons_zero, List.set_cons_succ, bindT, setMany, setSl, if_true, if_false, decide_true, decide_false, Bool.not_true, Bool.not_false, isTy, tup_0, lst_0, tup_1, lst_1, tup_2, lst_2, tup_3, lst_3, tup_4, lst_4, tup_5, lst_5, tup_6, lst_6, tup_7, lst_7, tup_8, lst_8, tup_9, lst_9, tup_10, lst_10, tup_11, lst_11, tup_12, lst_12, hρ, hNm v 12 gv.g, e18, hB]) (fun h => by cases h) (fun _ => wp_skip ?_))⟩
          refine wp_seq (wp_ite (t := false) (by simp (config := {implicitDefEqProofs := false, decide := true}) only [e_var, e_cI, e_cS, e_cB, e_cN, e_neg, e_glb, e_bin, e_cmp, e_chain, e_and, e_or, e_not, e_ite, e_idx, e_slc, e_rev, e_call, e_glist, e_bi1, e_biR, e_max2, e_isi, e_isi2, e_sset, e_lset, e_join, e_index, e_get, e_split, e_tupE, e_lstE, e_dicK, e_dicT, e_dic1, e_dic1T, e_rng1, e_rng2, e_enum, e_zip, e_items, e_nil, e_cons, W_s, W_b, W_l, W_p, W_c, W_i, W_it, two_ss, dOf_s, d_sh, d_ol, d_ok, d_ot, asB_bl, asI_i, cons_ss, rd_0, rd_s, sh_sh, nd_sh, nd_ol, and_t, and_f, or_t, or_f, bl_s, dsl_s, ite_t, ite_f, slc_s, max_i, o_addI, o_subI, c_lt, c_le, c_gt, c_ge, c_eq, c_ne, c_in, c_nin, eq_ii, eq_ss, is_nn, ix_tup, ix_lst, ix_scr, ix_str, len_str, len_lst, len_tup, len_scr, wd_lst, wd_tup, wd_str, Option.map_some, Option.bind_some, List.map_cons, List.map_nil, rd_ne, rd_eq, rd_hid, hid_sh, hi_var, hi_cS, hi_glb, hi_bin, hi_ite, hi_idx, hi_slc, hi_rev, hi_call, hi_glist, hi_bi1, hi_biR, hi_sset, hi_join, hi_tupE, hi_lstE, hi_lc, hi_rng1, hi_rng2, hi_enum, hi_zip, hi_items, wipe_cons, wipe_nil, List.length_set, List.set_cons_zero, List.set_cons_succ, bindT, setMany, setSl, if_true, if_false, decide_true, decide_false, Bool.not_true, Bool.not_false, isTy, tup_0, lst_0, tup_1, lst_1, tup_2, lst_2, tup_3, lst_3, tup_4, lst_4, tup_5, lst_5, tup_6, lst_6, tup_7, lst_7, tup_8, lst_8, tup_9, lst_9, tup_10, lst_10, tup_11, lst_11, tup_12, lst_12, hρ, hKy v 12 gv.g, e060, hB]) (fun h => by cases h) (fun _ => wp_skip ?_))
          refine wp_cut (fun ρ => ρ.length = 14 ∧ rd ρ 0 = some (.sh (.scr sc)) ∧ rd ρ 1 = some (.sh (.lst V)) ∧ rd ρ 8 = some (.sh (tN ns)) ∧ rd ρ 7 = some (.sh v) ∧ ∃ b, rd ρ 12 = some (.sh (.bl b)) ∧ (b = false → isl v = false) ∧ (b = true → ∃ ds, v = .tup ds ∧ isl v = ds.all (wrd 1 8))) ?_ ?_
          · have h12 : ∃ b, (evA (lk GS) cal (.and_ (.isi (.var 7) .tuple) (.chain .le .le (.cI 1) (.bi1 .len (.var 7)) (.cI 30))) (ρ.set 7 (some (.sh v)))).s = some (.sh (.bl b)) ∧ (b = false → isl v = false) ∧ (b = true → ∃ ds, v = .tup ds ∧ isl v = ds.all (wrd 1 8)) := by
              have gg := gv.g
              cases v with
              | non => exact ⟨false, by simp (config := {implicitDefEqProofs := false, decide := true}) only [e_var, e_cI, e_cS, e_cB, e_cN, e_neg, e_glb, e_bin, e_cmp, e_chain, e_and, e_or, e_not, e_ite, e_idx, e_slc, e_rev, e_call, e_glist, e_bi1, e_biR, e_max2, e_isi, e_isi2, e_sset, e_lset, e_join, e_index, e_get, e_split, e_tupE, e_lstE, e_dicK, e_dicT, e_dic1, e_dic1T, e_rng1, e_rng2, e_enum, e_zip, e_items, e_nil, e_cons, W_s, W_b, W_l, W_p, W_c, W_i, W_it, two_ss, dOf_s, d_sh, d_ol, d_ok, d_ot, asB_bl, asI_i, cons_ss, rd_0, rd_s, sh_sh, nd_sh, nd_ol, and_t, and_f, or_t, or_f, bl_s, dsl_s, ite_t, ite_f, slc_s, max_i, o_addI, o_subI, c_lt, c_le, c_gt, c_ge, c_eq, c_ne, c_in, c_nin, eq_ii, eq_ss, is_nn, ix_tup, ix_lst, ix_scr, ix_str, len_str, len_lst, len_tup, len_scr, wd_lst, wd_tup, wd_str, Option.map_some, Option.bind_some, List.map_cons, List.map_nil, rd_ne, rd_eq, rd_hid, hid_sh, hi_var, hi_cS, hi_glb, hi_bin, hi_ite, hi_idx, hi_slc, hi_rev, hi_call, hi_glist, hi_bi1, hi_biR, hi_sset, hi_join, hi_tupE, hi_lstE, hi_lc, hi_rng1, hi_rng2, hi_enum, hi_zip, hi_items, wipe_cons, wipe_nil, List.length_set, List.set_cons_zero, List.set_cons_succ, bindT, setMany, setSl, if_true, if_false, decide_true, decide_false, Bool.not_true, Bool.not_false, isTy, tup_0, lst_0, tup_1, lst_1, tup_2, lst_2, tup_3, lst_3, tup_4, lst_4, tup_5, lst_5, tup_6, lst_6, tup_7, lst_7, tup_8, lst_8, tup_9, lst_9, tup_10, lst_10, tup_11, lst_11, tup_12, lst_12, hρ], fun _ => rfl, fun h => by cases h⟩
              | bl _ => exact ⟨false, by simp (config := {implicitDefEqProofs := false, decide := true}) only [e_var, e_cI, e_cS, e_cB, e_cN, e_neg, e_glb, e_bin, e_cmp, e_chain, e_and, e_or, e_not, e_ite, e_idx, e_slc, e_rev, e_call, e_glist, e_bi1, e_biR, e_max2, e_isi, e_isi2, e_sset, e_lset, e_join, e_index, e_get, e_split, e_tupE, e_lstE, e_dicK, e_dicT, e_dic1, e_dic1T, e_rng1, e_rng2, e_enum, e_zip, e_items, e_nil, e_cons, W_s, W_b, W_l, W_p, W_c, W_i, W_it, two_ss, dOf_s, d_sh, d_ol, d_ok, d_ot, asB_bl, asI_i, cons_ss, rd_0, rd_s, sh_sh, nd_sh, nd_ol, and_t, and_f, or_t, or_f, bl_s, dsl_s, ite_t, ite_f, slc_s, max_i, o_addI, o_subI, c_lt, c_le, c_gt, c_ge, c_eq, c_ne, c_in, c_nin, eq_ii, eq_ss, is_nn, ix_tup, ix_lst, ix_scr, ix_str, len_str, len_lst, len_tup, len_scr, wd_lst, wd_tup, wd_str, Option.map_some, Option.bind_some, List.map_cons, List.map_nil, rd_ne, rd_eq, rd_hid, hid_sh, hi_var, hi_cS, hi_glb, hi_bin, hi_ite, hi_idx, hi_slc, hi_rev, hi_call, hi_glist, hi_bi1, hi_biR, hi_sset, hi_join, hi_tupE, hi_lstE, hi_lc, hi_rng1, hi_rng2, hi_enum, hi_zip, hi_items, wipe_cons, wipe_nil, List.length_set, List.set_cons_zero, List.set_cons_succ, bindT, setMany, setSl, if_true, if_false, decide_true, decide_false, Bool.not_true, Bool.not_false, isTy, tup_0, lst_0, tup_1, lst_1, tup_2, lst_2, tup_3, lst_3, tup_4, lst_4, tup_5, lst_5, tup_6, lst_6, tup_7, lst_7, tup_8, lst_8, tup_9, lst_9, tup_10, lst_10, tup_11, lst_11, tup_12, lst_12, hρ], fun _ => rfl, fun h => by cases h⟩
              | int _ => exact ⟨false, by simp (config := {implicitDefEqProofs := false, decide := true}) only [e_var, e_cI, e_cS, e_cB, e_cN, e_neg, e_glb, e_bin, e_cmp, e_chain, e_and, e_or, e_not, e_ite, e_idx, e_slc, e_rev, e_call, e_glist, e_bi1, e_biR, e_max2, e_isi, e_isi2, e_sset, e_lset, e_join, e_index, e_get, e_split, e_tupE, e_lstE, e_dicK, e_dicT, e_dic1, e_dic1T, e_rng1, e_rng2, e_enum, e_zip, e_items, e_nil, e_cons, W_s, W_b, W_l, W_p, W_c, W_i, W_it, two_ss, dOf_s, d_sh, d_ol, d_ok, d_ot, asB_bl, asI_i, cons_ss, rd_0, rd_s, sh_sh, nd_sh, nd_ol, and_t, and_f, or_t, or_f, bl_s, dsl_s, ite_t, ite_f, slc_s, max_i, o_addI, o_subI, c_lt, c_le, c_gt, c_ge, c_eq, c_ne, c_in, c_nin, eq_ii, eq_ss, is_nn, ix_tup, ix_lst, ix_scr, ix_str, len_str, len_lst, len_tup, len_scr, wd_lst, wd_tup, wd_str, Option.map_some, Option.bind_some, List.map_cons, List.map_nil, rd_ne, rd_eq, rd_hid, hid_sh, hi_var, hi_cS, hi_glb, hi_bin, hi_ite, hi_idx, hi_slc, hi_rev, hi_call, hi_glist, hi_bi1, hi_biR, hi_sset, hi_join, hi_tupE, hi_lstE, hi_lc, hi_rng1, hi_rng2, hi_enum, hi_zip, hi_items, wipe_cons, wipe_nil, List.length_set, List.set_cons_zero, List.set_cons_succ, bindT, setMany, setSl, if_true, if_false, decide_true, decide_false, Bool.not_true, Bool.not_false, isTy, tup_0, lst_0, tup_1, lst_1, tup_2, lst_2, tup_3, lst_3, tup_4, lst_4, tup_5, lst_5, tup_6, lst_6, tup_7, lst_7, tup_8, lst_8, tup_9, lst_9, tup_10, lst_10, tup_11, lst_11, tup_12, lst_12, hρ], fun _ => rfl, fun h => by cases h⟩
              | str _ => exact ⟨false, by simp (config := {implicitDefEqProofs := false, decide := true}) only [e_var, e_cI, e_cS, e_cB, e_cN, e_neg, e_glb, e_bin, e_cmp, e_chain, e_and, e_or, e_not, e_ite, e_idx, e_slc, e_rev, e_call, e_glist, e_bi1, e_biR, e_max2, e_isi, e_isi2, e_sset, e_lset, e_join, e_index, e_get, e_split, e_tupE, e_lstE, e_dicK, e_dicT, e_dic1, e_dic1T, e_rng1, e_rng2, e_enum, e_zip, e_items, e_nil, e_cons, W_s, W_b, W_l, W_p, W_c, W_i, W_it, two_ss, dOf_s, d_sh, d_ol, d_ok, d_ot, asB_bl, asI_i, cons_ss, rd_0, rd_s, sh_sh, nd_sh, nd_ol, and_t, and_f, or_t, or_f, bl_s, dsl_s, ite_t, ite_f, slc_s, max_i, o_addI, o_subI, c_lt, c_le, c_gt, c_ge, c_eq, c_ne, c_in, c_nin, eq_ii, eq_ss, is_nn, ix_tup, ix_lst, ix_scr, ix_str, len_str, len_lst, len_tup, len_scr, wd_lst, wd_tup, wd_str, Option.map_some, Option.bind_some, List.map_cons, List.map_nil, rd_ne, rd_eq, rd_hid, hid_sh, hi_var, hi_cS, hi_glb, hi_bin, hi_ite, hi_idx, hi_slc, hi_rev, hi_call, hi_glist, hi_bi1, hi_biR, hi_sset, hi_join, hi_tupE, hi_lstE, hi_lc, hi_rng1, hi_rng2, hi_enum, hi_zip, hi_items, wipe_cons, wipe_nil, List.length_set, List.set_cons_zero, List.set_cons_succ, bindT, setMany, setSl, if_true, if_false, decide_true, decide_false, Bool.not_true, Bool.not_false, isTy, tup_0, lst_0, tup_1, lst_1, tup_2, lst_2, tup_3, lst_3, tup_4, lst_4, tup_5, lst_5, tup_6, lst_6, tup_7, lst_7, tup_8, lst_8, tup_9, lst_9, tup_10, lst_10, tup_11, lst_11, tup_12, lst_12, hρ], fun _ => rfl, fun h => by cases h⟩
              | lst _ => exact ⟨false, by simp (config := {implicitDefEqProofs := false, decide := true}) only [e_var, e_cI, e_cS, e_cB, e_cN, e_neg, e_glb, e_bin, e_cmp, e_chain, e_and, e_or, e_not, e_ite, e_idx, e_slc, e_rev, e_call, e_glist, e_bi1, e_biR, e_max2, e_isi, e_isi2, e_sset, e_lset, e_join, e_index, e_get, e_split, e_tupE, e_lstE, e_dicK, e_dicT, e_dic1, e_dic1T, e_rng1, e_rng2, e_enum, e_zip, e_items, e_nil, e_cons, W_s, W_b, W_l, W_p, W_c, W_i, W_it, two_ss, dOf_s, d_sh, d_ol, d_ok, d_ot, asB_bl, asI_i, cons_ss, rd_0, rd_s, sh_sh, nd_sh, nd_ol, and_t, and_f, or_t, or_f, bl_s, dsl_s, ite_t, ite_f, slc_s, max_i, o_addI, o_subI, c_lt, c_le, c_gt, c_ge, c_eq, c_ne, c_in, c_nin, eq_ii, eq_ss, is_nn, ix_tup, ix_lst, ix_scr, ix_str, len_str, len_lst, len_tup, len_scr, wd_lst, wd_tup, wd_str, Option.map_some, Option.bind_some, List.map_cons, List.map_nil, rd_ne, rd_eq, rd_hid, hid_sh, hi_var, hi_cS, hi_glb, hi_bin, hi_ite, hi_idx, hi_slc, hi_rev, hi_call, hi_glist, hi_bi1, hi_biR, hi_sset, hi_join, hi_tupE, hi_lstE, hi_lc, hi_rng1, hi_rng2, hi_enum, hi_zip, hi_items, wipe_cons, wipe_nil, List.length_set, List.set_cons_zero, List.set_cons_succ, bindT, setMany, setSl, if_true, if_false, decide_true, decide_false, Bool.not_true, Bool.not_false, isTy, tup_0, lst_0, tup_1, lst_1, tup_2, lst_2, tup_3, lst_3, tup_4, lst_4, tup_5, lst_5, tup_6, lst_6, tup_7, lst_7, tup_8, lst_8, tup_9, lst_9, tup_10, lst_10, tup_11, lst_11, tup_12, lst_12, hρ], fun _ => rfl, fun h => by cases h⟩
              | scr _ => cases gg
              | dK _ => cases gg
              | dT _ => cases gg
              | tup ds =>
                refine ⟨decide (1 ≤ ds.length) && decide (ds.length ≤ 30), by simp (config := {implicitDefEqProofs := false, decide := true}) only [e_var, e_cI, e_cS, e_cB, e_cN, e_neg, e_glb, e_bin, e_cmp, e_chain, e_and, e_or, e_not, e_ite, e_idx, e_slc, e_rev, e_call, e_glist, e_bi1, e_biR, e_max2, e_isi, e_isi2, e_sset, e_lset, e_join, e_index, e_get, e_split, e_tupE, e_lstE, e_dicK, e_dicT, e_dic1, e_dic1T, e_rng1, e_rng2, e_enum, e_zip, e_items, e_nil, e_cons, W_s, W_b, W_l, W_p, W_c, W_i, W_it, two_ss, dOf_s, d_sh, d_ol, d_ok, d_ot, asB_bl, asI_i, cons_ss, rd_0, rd_s, sh_sh, nd_sh, nd_ol, and_t, and_f, or_t, or_f, bl_s, dsl_s, ite_t, ite_f, slc_s, max_i, o_addI, o_subI, c_lt, c_le, c_gt, c_ge, c_eq, c_ne, c_in, c_nin, eq_ii, eq_ss, is_nn, ix_tup, ix_lst, ix_scr, ix_str, len_str, len_lst, len_tup, len_scr, wd_lst, wd_tup, wd_str, Option.map_some, Option.bind_some, List.map_cons, List.map_nil, rd_ne, rd_eq, rd_hid, hid_sh, hi_var, hi_cS, hi_glb, hi_bin, hi_ite, hi_idx, hi_slc, hi_rev, hi_call, hi_glist, hi_bi1, hi_biR, hi_sset, hi_join, hi_tupE, hi_lstE, hi_lc, hi_rng1, hi_rng2, hi_enum, hi_zip, hi_items, wipe_cons, wipe_nil, List.length_set, List.set_cons_zero, List.set_cons_succ, bindT, setMany, setSl, if_true, if_false, decide_true, decide_false, Bool.not_true, Bool.not_false, isTy, tup_0, lst_0, tup_1, lst_1, tup_2, lst_2, tup_3, lst_3, tup_4, lst_4, tup_5, lst_5, tup_6, lst_6, tup_7, lst_7, tup_8, lst_8, tup_9, lst_9, tup_10, lst_10, tup_11, lst_11, tup_12, lst_12, hρ, chn_le, dec_le1, dec_le30], fun h => ?_, fun h => ⟨ds, rfl, ?_⟩⟩
                · show (decide (1 ≤ ds.length) && decide (ds.length ≤ 30) && _) = false
                  rw [h, Bool.false_and]
                · show (decide (1 ≤ ds.length) && decide (ds.length ≤ 30) && _) = _
                  rw [h, Bool.true_and]
            obtain ⟨b, eb, h0, h1⟩ := h12
            exact wp_set eb ⟨by simp (config := {implicitDefEqProofs := false, decide := true}) only [rd_ne, rd_eq, rd_hid, hid_sh, wipe_cons, wipe_nil, List.length_set, d_sh, d_ol, if_true, if_false, hρ], by simp (config := {implicitDefEqProofs := false, decide := true}) only [rd_ne, rd_eq, rd_hid, hid_sh, wipe_cons, wipe_nil, List.length_set, d_sh, d_ol, if_true, if_false, hρ, r0], by simp (config := {implicitDefEqProofs := false, decide := true}) only [rd_ne, rd_eq, rd_hid, hid_sh, wipe_cons, wipe_nil, List.length_set, d_sh, d_ol, if_true, if_false, hρ, rV], by simp (config := {implicitDefEqProofs := false, decide := true}) only [rd_ne, rd_eq, rd_hid, hid_sh, wipe_cons, wipe_nil, List.length_set, d_sh, d_ol, if_true, if_false, hρ, r8], by simp (config := {implicitDefEqProofs := false, decide := true}) only [rd_ne, rd_eq, rd_hid, hid_sh, wipe_cons, wipe_nil, List.length_set, d_sh, d_ol, if_true, if_false, hρ], b, by simp (config := {implicitDefEqProofs := false, decide := true}) only [rd_ne, rd_eq, rd_hid, hid_sh, wipe_cons, wipe_nil, List.length_set, d_sh, d_ol, if_true, if_false, hρ], h0, h1⟩
          · rintro ρ ⟨hρ, r0, rV, r8, r7, b, r12, h0, h1⟩
            refine wp_seq (wp_set (s := .sh (.bl (isl v))) ?_ ?_)
            · cases b with
              | false => simp (config := {implicitDefEqProofs := false, decide := true}) only [e_var, e_cI, e_cS, e_cB, e_cN, e_neg, e_glb, e_bin, e_cmp, e_chain, e_and, e_or, e_not, e_ite, e_idx, e_slc, e_rev, e_call, e_glist, e_bi1, e_biR, e_max2, e_isi, e_isi2, e_sset, e_lset, e_join, e_index, e_get, e_split, e_tupE, e_lstE, e_dicK, e_dicT, e_dic1, e_dic1T, e_rng1, e_rng2, e_enum, e_zip, e_items, e_nil, e_cons, W_s, W_b, W_l, W_p, W_c, W_i, W_it, two_ss, dOf_s, d_sh, d_ol, d_ok, d_ot, asB_bl, asI_i, cons_ss, rd_0, rd_s, sh_sh, nd_sh, nd_ol, and_t, and_f, or_t, or_f, bl_s, dsl_s, ite_t, ite_f, slc_s, max_i, o_addI, o_subI, c_lt, c_le, c_gt, c_ge, c_eq, c_ne, c_in, c_nin, eq_ii, eq_ss, is_nn, ix_tup, ix_lst, ix_scr, ix_str, len_str, len_lst, len_tup, len_scr, wd_lst, wd_tup, wd_str, Option.map_some, Option.bind_some, List.map_cons, List.map_nil, rd_ne, rd_eq, rd_hid, hid_sh, hi_var, hi_cS, hi_glb, hi_bin, hi_ite, hi_idx, hi_slc, hi_rev, hi_call, hi_glist, hi_bi1, hi_biR, hi_sset, hi_join, hi_tupE, hi_lstE, hi_lc, hi_rng1, hi_rng2, hi_enum, hi_zip, hi_items, wipe_cons, wipe_nil, List.length_set, List.set_cons_zero, List.set_cons_succ, bindT, setMany, setSl, if_true, if_false, decide_true, decide_false, Bool.not_true, Bool.not_false, isTy, tup_0, lst_0, tup_1, lst_1, tup_2, lst_2, tup_3, lst_3, tup_4, lst_4, tup_5, lst_5, tup_6, lst_6, tup_7, lst_7, tup_8, lst_8, tup_9, lst_9, tup_10, lst_10, tup_11, lst_11, tup_12, lst_12, hρ, r12, h0 rfl]
              | true =>
                obtain ⟨ds, rfl, hd⟩ := h1 rfl
                have gg := gv.g
                have ww := gv.w
                obtain ⟨m', em, hk⟩ := gd_kids gg (.inr rfl)
                have dl := wtL_len ds
                rw [wt_t] at ww
                have e : evA (lk GS) cal (.lc [13] (.var 13) (.one 13) (.var 7) (.not_ (.call 16 (.cons (.var 13) (.cons (.cI 1) (.cons (.cI 8) .nil)))))) ρ = .of (some (.ol (((ds.filter fun x => !wrd 1 8 x)).map id))) := by
                  refine e_lcP (xs := ds) id id (fun x => !wrd 1 8 x) (by simp (config := {implicitDefEqProofs := false, decide := true}) only [e_var, e_cI, e_cS, e_cB, e_cN, e_neg, e_glb, e_bin, e_cmp, e_chain, e_and, e_or, e_not, e_ite, e_idx, e_slc, e_rev, e_call, e_glist, e_bi1, e_biR, e_max2, e_isi, e_isi2, e_sset, e_lset, e_join, e_index, e_get, e_split, e_tupE, e_lstE, e_dicK, e_dicT, e_dic1, e_dic1T, e_rng1, e_rng2, e_enum, e_zip, e_items, e_nil, e_cons, W_s, W_b, W_l, W_p, W_c, W_i, W_it, two_ss, dOf_s, d_sh, d_ol, d_ok, d_ot, asB_bl, asI_i, cons_ss, rd_0, rd_s, sh_sh, nd_sh, nd_ol, and_t, and_f, or_t, or_f, bl_s, dsl_s, ite_t, ite_f, slc_s, max_i, o_addI, o_subI, c_lt, c_le, c_gt, c_ge, c_eq, c_ne, c_in, c_nin, eq_ii, eq_ss, is_nn, ix_tup, ix_lst, ix_scr, ix_str, len_str, len_lst, len_tup, len_scr, wd_lst, wd_tup, wd_str, Option.map_some, Option.bind_some, List.map_cons, List.map_nil, rd_ne, rd_eq, rd_hid, hid_sh, hi_var, hi_cS, hi_glb, hi_bin, hi_ite, hi_idx, hi_slc, hi_rev, hi_call, hi_glist, hi_bi1, hi_biR, hi_sset, hi_join, hi_tupE, hi_lstE, hi_lc, hi_rng1, hi_rng2, hi_enum, hi_zip, hi_items, wipe_cons, wipe_nil, List.length_set, List.set_cons_zero, List.set_cons_succ, bindT, setMany, setSl, if_true, if_false, decide_true, decide_false, Bool.not_true, Bool.not_false, isTy, tup_0, lst_0, tup_1, lst_1, tup_2, lst_2, tup_3, lst_3, tup_4, lst_4, tup_5, lst_5, tup_6, lst_6, tup_7, lst_7, tup_8, lst_8, tup_9, lst_9, tup_10, lst_10, tup_11, lst_11, tup_12, lst_12, hρ, r7, List.map_id]) (by rw [sz]; omega) (fun x hx => ⟨_, rfl, ?_, fun _ => ?_⟩)
                  · have e18 : cal 16 [x, .int 1, .int 8] = some (.sh (.bl (wrd 1 8 x))) := hW x m' (hk x hx) 1 8
                    rw [e_not, e_call, e_cons, e_var, rd_eq (by rw [len_wipe, hρ]; decide)]
                    simp (config := {implicitDefEqProofs := false, decide := true}) only [e_var, e_cI, e_cS, e_cB, e_cN, e_neg, e_glb, e_bin, e_cmp, e_chain, e_and, e_or, e_not, e_ite, e_idx, e_slc, e_rev, e_call, e_glist, e_bi1, e_biR, e_max2, e_isi, e_isi2, e_sset, e_lset, e_join, e_index, e_get, e_split, e_tupE, e_lstE, e_dicK, e_dicT, e_dic1, e_dic1T, e_rng1, e_rng2, e_enum, e_zip, e_items, e_nil, e_cons, W_s, W_b, W_l, W_p, W_c, W_i, W_it, two_ss, dOf_s, d_sh, d_ol, d_ok, d_ot, asB_bl, asI_i, cons_ss, rd_0, rd_s, sh_sh, nd_sh, nd_ol, and_t, and_f, or_t, or_f, bl_s, dsl_s, ite_t, ite_f, slc_s, max_i, o_addI, o_subI, c_lt, c_le, c_gt, c_ge, c_eq, c_ne, c_in, c_nin, eq_ii, eq_ss, is_nn, ix_tup, ix_lst, ix_scr, ix_str, len_str, len_lst, len_tup, len_scr, wd_lst, wd_tup, wd_str, Option.map_some, Option.bind_some, List.map_cons, List.map_nil, rd_ne, rd_eq, rd_hid, hid_sh, hi_var, hi_cS, hi_glb, hi_bin, hi_ite, hi_idx, hi_slc, hi_rev, hi_call, hi_glist, hi_bi1, hi_biR, hi_sset, hi_join, hi_tupE, hi_lstE, hi_lc, hi_rng1, hi_rng2, hi_enum, hi_zip, hi_items, wipe_cons, wipe_nil, List.length_set, List.set_cons_zero, List.set_cons_succ, bindT, setMany, setSl, if_true, if_false, decide_true, decide_false, Bool.not_true, Bool.not_false, isTy, tup_0, lst_0, tup_1, lst_1, tup_2, lst_2, tup_3, lst_3, tup_4, lst_4, tup_5, lst_5, tup_6, lst_6, tup_7, lst_7, tup_8, lst_8, tup_9, lst_9, tup_10, lst_10, tup_11, lst_11, tup_12, lst_12, id, e18]
                  · rw [e_var, rd_eq (by rw [len_wipe, hρ]; decide)]
                    simp (config := {implicitDefEqProofs := false, decide := true}) only [e_var, e_cI, e_cS, e_cB, e_cN, e_neg, e_glb, e_bin, e_cmp, e_chain, e_and, e_or, e_not, e_ite, e_idx, e_slc, e_rev, e_call, e_glist, e_bi1, e_biR, e_max2, e_isi, e_isi2, e_sset, e_lset, e_join, e_index, e_get, e_split, e_tupE, e_lstE, e_dicK, e_dicT, e_dic1, e_dic1T, e_rng1, e_rng2, e_enum, e_zip, e_items, e_nil, e_cons, W_s, W_b, W_l, W_p, W_c, W_i, W_it, two_ss, dOf_s, d_sh, d_ol, d_ok, d_ot, asB_bl, asI_i, cons_ss, rd_0, rd_s, sh_sh, nd_sh, nd_ol, and_t, and_f, or_t, or_f, bl_s, dsl_s, ite_t, ite_f, slc_s, max_i, o_addI, o_subI, c_lt, c_le, c_gt, c_ge, c_eq, c_ne, c_in, c_nin, eq_ii, eq_ss, is_nn, ix_tup, ix_lst, ix_scr, ix_str, len_str, len_lst, len_tup, len_scr, wd_lst, wd_tup, wd_str, Option.map_some, Option.bind_some, List.map_cons, List.map_nil, rd_ne, rd_eq, rd_hid, hid_sh, hi_var, hi_cS, hi_glb, hi_bin, hi_ite, hi_idx, hi_slc, hi_rev, hi_call, hi_glist, hi_bi1, hi_biR, hi_sset, hi_join, hi_tupE, hi_lstE, hi_lc, hi_rng1, hi_rng2, hi_enum, hi_zip, hi_items, wipe_cons, wipe_nil, List.length_set, List.set_cons_zero, List.set_cons_succ, bindT, setMany, setSl, if_true, if_false, decide_true, decide_false, Bool.not_true, Bool.not_false, isTy, tup_0, lst_0, tup_1, lst_1, tup_2, lst_2, tup_3, lst_3, tup_4, lst_4, tup_5, lst_5, tup_6, lst_6, tup_7, lst_7, tup_8, lst_8, tup_9, lst_9, tup_10, lst_10, tup_11, lst_11, tup_12, lst_12, id]
                rw [e_and, e_cmp, e, hd]
                simp (config := {implicitDefEqProofs := false, decide := true}) only [e_var, e_cI, e_cS, e_cB, e_cN, e_neg, e_glb, e_bin, e_cmp, e_chain, e_and, e_or, e_not, e_ite, e_idx, e_slc, e_rev, e_call, e_glist, e_bi1, e_biR, e_max2, e_isi, e_isi2, e_sset, e_lset, e_join, e_index, e_get, e_split, e_tupE, e_lstE, e_dicK, e_dicT, e_dic1, e_dic1T, e_rng1, e_rng2, e_enum, e_zip, e_items, e_nil, e_cons, W_s, W_b, W_l, W_p, W_c, W_i, W_it, two_ss, dOf_s, d_sh, d_ol, d_ok, d_ot, asB_bl, asI_i, cons_ss, rd_0, rd_s, sh_sh, nd_sh, nd_ol, and_t, and_f, or_t, or_f, bl_s, dsl_s, ite_t, ite_f, slc_s, max_i, o_addI, o_subI, c_lt, c_le, c_gt, c_ge, c_eq, c_ne, c_in, c_nin, eq_ii, eq_ss, is_nn, ix_tup, ix_lst, ix_scr, ix_str, len_str, len_lst, len_tup, len_scr, wd_lst, wd_tup, wd_str, Option.map_some, Option.bind_some, List.map_cons, List.map_nil, rd_ne, rd_eq, rd_hid, hid_sh, hi_var, hi_cS, hi_glb, hi_bin, hi_ite, hi_idx, hi_slc, hi_rev, hi_call, hi_glist, hi_bi1, hi_biR, hi_sset, hi_join, hi_tupE, hi_lstE, hi_lc, hi_rng1, hi_rng2, hi_enum, hi_zip, hi_items, wipe_cons, wipe_nil, List.length_set, List.set_cons_zero, List.set_cons_succ, bindT, setMany, setSl, if_true, if_false, decide_true, decide_false, Bool.not_true, Bool.not_false, isTy, tup_0, lst_0, tup_1, lst_1, tup_2, lst_2, tup_3, lst_3, tup_4, lst_4, tup_5, lst_5, tup_6, lst_6, tup_7, lst_7, tup_8, lst_8, tup_9, lst_9, tup_10, lst_10, tup_11, lst_11, tup_12, lst_12, hρ, r12, List.map_id]
                rw [eq_nil (n := m') (fun x hx => hk x (List.mem_filter.mp hx).1) (by omega), all_not_any]
                rfl
            · refine wp_seq (wp_ite (t := false) (by simp (config := {implicitDefEqProofs := false, decide := true}) only [e_var, e_cI, e_cS, e_cB, e_cN, e_neg, e_glb, e_bin, e_cmp, e_chain, e_and, e_or, e_not, e_ite, e_idx, e_slc, e_rev, e_call, e_glist, e_bi1, e_biR, e_max2, e_isi, e_isi2, e_sset, e_lset, e_join, e_index, e_get, e_split, e_tupE, e_lstE, e_dicK, e_dicT, e_dic1, e_dic1T, e_rng1, e_rng2, e_enum, e_zip, e_items, e_nil, e_cons, W_s, W_b, W_l, W_p, W_c, W_i, W_it, two_ss, dOf_s, d_sh, d_ol, d_ok, d_ot, asB_bl, asI_i, cons_ss, rd_0, rd_s, sh_sh, nd_sh, nd_ol, and_t, and_f, or_t, or_f, bl_s, dsl_s, ite_t, ite_f, slc_s, max_i, o_addI, o_subI, c_lt, c_le, c_gt, c_ge, c_eq, c_ne, c_in, c_nin, eq_ii, eq_ss, is_nn, ix_tup, ix_lst, ix_scr, ix_str, len_str, len_lst, len_tup, len_scr, wd_lst, wd_tup, wd_str, Option.map_some, Option.bind_some, List.map_cons, List.map_nil, rd_ne, rd_eq, rd_hid, hid_sh, hi_var, hi_cS, hi_glb, hi_bin, hi_ite, hi_idx, hi_slc, hi_rev, hi_call, hi_glist, hi_bi1, hi_biR, hi_sset, hi_join, hi_tupE, hi_lstE, hi_lc, hi_rng1, hi_rng2, hi_enum, hi_zip, hi_items, wipe_cons, wipe_nil, List.length_set, List.set_cons_zero, List.set_cons_succ, bindT, setMany, setSl, if_true, if_false, decide_true, decide_false, Bool.not_true, Bool.not_false, isTy, tup_0, lst_0, tup_1, lst_1, tup_2, lst_2, tup_3, lst_3, tup_4, lst_4, tup_5, lst_5, tup_6, lst_6, tup_7, lst_7, tup_8, lst_8, tup_9, lst_9, tup_10, lst_10, tup_11, lst_11, tup_12, lst_12, hρ, r7, hLs v 12 gv.g gv.w, hB]) (fun h => by cases h) (fun _ => wp_skip (wp_skip ⟨by simp (config := {implicitDefEqProofs := false, decide := true}) only [rd_ne, rd_eq, rd_hid, hid_sh, wipe_cons, wipe_nil, List.length_set, d_sh, d_ol, if_true, if_false, hρ], by simp (config := {implicitDefEqProofs := false, decide := true}) only [rd_ne, rd_eq, rd_hid, hid_sh, wipe_cons, wipe_nil, List.length_set, d_sh, d_ol, if_true, if_false, hρ, r0], by simp (config := {implicitDefEqProofs := false, decide := true}) only [rd_ne, rd_eq, rd_hid, hid_sh, wipe_cons, wipe_nil, List.length_set, d_sh, d_ol, if_true, if_false, hρ, rV], by simp (config := {implicitDefEqProofs := false, decide := true}) only [rd_ne, rd_eq, rd_hid, hid_sh, wipe_cons, wipe_nil, List.length_set, d_sh, d_ol, if_true, if_false, hρ, r8]⟩)))
      · rintro ρ ⟨hρ, r0, rV, r8⟩
        refine wp_seq (wp_ite (t := false) ?_ (fun h => by cases h) (fun _ => wp_skip (wp_skip ⟨hρ, r0, rV⟩)))
        rw [e_cmp, e_join, letters_lc1 ok r8 (i := 13) (by rw [hρ]; decide) (by decide)]
        simp (config := {implicitDefEqProofs := false, decide := true}) only [e_var, e_cI, e_cS, e_cB, e_cN, e_neg, e_glb, e_bin, e_cmp, e_chain, e_and, e_or, e_not, e_ite, e_idx, e_slc, e_rev, e_call, e_glist, e_bi1, e_biR, e_max2, e_isi, e_isi2, e_sset, e_lset, e_join, e_index, e_get, e_split, e_tupE, e_lstE, e_dicK, e_dicT, e_dic1, e_dic1T, e_rng1, e_rng2, e_enum, e_zip, e_items, e_nil, e_cons, W_s, W_b, W_l, W_p, W_c, W_i, W_it, two_ss, dOf_s, d_sh, d_ol, d_ok, d_ot, asB_bl, asI_i, cons_ss, rd_0, rd_s, sh_sh, nd_sh, nd_ol, and_t, and_f, or_t, or_f, bl_s, dsl_s, ite_t, ite_f, slc_s, max_i, o_addI, o_subI, c_lt, c_le, c_gt, c_ge, c_eq, c_ne, c_in, c_nin, eq_ii, eq_ss, is_nn, ix_tup, ix_lst, ix_scr, ix_str, len_str, len_lst, len_tup, len_scr, wd_lst, wd_tup, wd_str, Option.map_some, Option.bind_some, List.map_cons, List.map_nil, rd_ne, rd_eq, rd_hid, hid_sh, hi_var, hi_cS, hi_glb, hi_bin, hi_ite, hi_idx, hi_slc, hi_rev, hi_call, hi_glist, hi_bi1, hi_biR, hi_sset, hi_join, hi_tupE, hi_lstE, hi_lc, hi_rng1, hi_rng2, hi_enum, hi_zip, hi_items, wipe_cons, wipe_nil, List.length_set, List.set_cons_zero, List.set_cons_succ, bindT, setMany, setSl, if_true, if_false, decide_true, decide_false, Bool.not_true, Bool.not_false, isTy, tup_0, lst_0, tup_1, lst_1, tup_2, lst_2, tup_3, lst_3, tup_4, lst_4, tup_5, lst_5, tup_6, lst_6, tup_7, lst_7, tup_8, lst_8, tup_9, lst_9, tup_10, lst_10, tup_11, lst_11, tup_12, lst_12, hρ, r8, hI ns ok, join_signs (cs := ns.map ini) (by rw [List.length_map]; omega)]
  · rintro ρ hρ
    refine wp_seq (wp_ret (s := .sh (.bl true)) ?_ rfl)
    simp (config := {implicitDefEqProofs := false, decide := true}) only [e_var, e_cI, e_cS, e_cB, e_cN, e_neg, e_glb, e_bin, e_cmp, e_chain, e_and, e_or, e_not, e_ite, e_idx, e_slc, e_rev, e_call, e_glist, e_bi1, e_biR, e_max2, e_isi, e_isi2, e_sset, e_lset, e_join, e_index, e_get, e_split, e_tupE, e_lstE, e_dicK, e_dicT, e_dic1, e_dic1T, e_rng1, e_rng2, e_enum, e_zip, e_items, e_nil, e_cons, W_s, W_b, W_l, W_p, W_c, W_i, W_it, two_ss, dOf_s, d_sh, d_ol, d_ok, d_ot, asB_bl, asI_i, cons_ss, rd_0, rd_s, sh_sh, nd_sh, nd_ol, and_t, and_f, or_t, or_f, bl_s, dsl_s, ite_t, ite_f, slc_s, max_i, o_addI, o_subI, c_lt, c_le, c_gt, c_ge, c_eq, c_ne, c_in, c_nin, eq_ii, eq_ss, is_nn, ix_tup, ix_lst, ix_scr, ix_str, len_str, len_lst, len_tup, len_scr, wd_lst, wd_tup, wd_str, Option.map_some, Option.bind_some, List.map_cons, List.map_nil, rd_ne, rd_eq, rd_hid, hid_sh, hi_var, hi_cS, hi_glb, hi_bin, hi_ite, hi_idx, hi_slc, hi_rev, hi_call, hi_glist, hi_bi1, hi_biR, hi_sset, hi_join, hi_tupE, hi_lstE, hi_lc, hi_rng1, hi_rng2, hi_enum, hi_zip, hi_items, wipe_cons, wipe_nil, List.length_set, List.set_cons_zero, List.set_cons_succ, bindT, setMany, setSl, if_true, if_false, decide_true, decide_false, Bool.not_true, Bool.not_false, isTy, tup_0, lst_0, tup_1, lst_1, tup_2, lst_2, tup_3, lst_3, tup_4, lst_4, tup_5, lst_5, tup_6, lst_6, tup_7, lst_7, tup_8, lst_8, tup_9, lst_9, tup_10, lst_10, tup_11, lst_11, tup_12, lst_12, z1]

def fnL : List (Nat × Str) := [(0, "is_word"), (1, "is_name"), (2, "is_list"), (3, "is_keys"), (4, "initials"), (5, "_law_cell"), (6, "_law_digits"), (7, "_law_same_bool"), (8, "_law_paths"), (9, "_law_other_value"), (10, "_law_moved_item"), (11, "_law_change_at"), (12, "_law_mutated"), (13, "_law_any_value"), (14, "_law_names"), (15, "_law_keys"), (16, "_law_is_word"), (17, "law")]
def fnA (i : Nat) : Str := (lk fnL i).getD ""
def gnL : List (Nat × Str) := [(0, "LETTERS"), (1, "MOST")]
def gnA (i : Nat) : Str := (lk gnL i).getD ""
def topS (i : Nat) : Stmt := PySem.Challenge.pw_listjumps_k01_name_list_and_key_values.main.body.getD i (.Pass ⟨0, 0, 0, 0⟩)
theorem sc_is_word : scB ["value", "low", "high", "sign"] ["value", "low", "high"] (defScope (topS 2)) = true := by decide +kernel
theorem lo_is_word : chkS fnA gnA ["value", "low", "high", "sign"] (defScope (topS 2)) d_is_word.body (.l (defBody (topS 2))) = true := by decide +kernel
theorem sc_is_name : scB ["value"] ["value"] (defScope (topS 3)) = true := by decide +kernel
theorem lo_is_name : chkS fnA gnA ["value"] (defScope (topS 3)) d_is_name.body (.l (defBody (topS 3))) = true := by decide +kernel
theorem sc_is_list : scB ["value", "name"] ["value"] (defScope (topS 4)) = true := by decide +kernel
theorem lo_is_list : chkS fnA gnA ["value", "name"] (defScope (topS 4)) d_is_list.body (.l (defBody (topS 4))) = true := by decide +kernel
theorem sc_is_keys : scB ["value"] ["value"] (defScope (topS 5)) = true := by decide +kernel
theorem lo_is_keys : chkS fnA gnA ["value"] (defScope (topS 5)) d_is_keys.body (.l (defBody (topS 5))) = true := by decide +kernel
theorem sc_initials : scB ["names", "name"] ["names"] (defScope (topS 6)) = true := by decide +kernel
theorem lo_initials : chkS fnA gnA ["names", "name"] (defScope (topS 6)) d_initials.body (.l (defBody (topS 6))) = true := by decide +kernel
theorem sc__law_cell : scB ["script", "index"] ["script", "index"] (defScope (topS 8)) = true := by decide +kernel
theorem lo__law_cell : chkS fnA gnA ["script", "index"] (defScope (topS 8)) d__law_cell.body (.l (defBody (topS 8))) = true := by decide +kernel
theorem sc__law_digits : scB ["script", "index", "count", "base", "primes", "cell", "rest", "digits", "k", "mixed"] ["script", "index", "count", "base"] (defScope (topS 9)) = true := by decide +kernel
theorem lo__law_digits : chkS fnA gnA ["script", "index", "count", "base", "primes", "cell", "rest", "digits", "k", "mixed"] (defScope (topS 9)) d__law_digits.body (.l (defBody (topS 9))) = true := by decide +kernel
theorem sc__law_same_bool : scB ["result", "expected"] ["result", "expected"] (defScope (topS 10)) = true := by decide +kernel
theorem lo__law_same_bool : chkS fnA gnA ["result", "expected"] (defScope (topS 10)) d__law_same_bool.body (.l (defBody (topS 10))) = true := by decide +kernel
theorem sc__law_paths : scB ["value", "paths", "index", "part", "trail"] ["value"] (defScope (topS 11)) = true := by decide +kernel
theorem lo__law_paths : chkS fnA gnA ["value", "paths", "index", "part", "trail"] (defScope (topS 11)) d__law_paths.body (.l (defBody (topS 11))) = true := by decide +kernel
theorem sc__law_other_value : scB ["value", "digits", "options"] ["value", "digits"] (defScope (topS 12)) = true := by decide +kernel
theorem lo__law_other_value : chkS fnA gnA ["value", "digits", "options"] (defScope (topS 12)) d__law_other_value.body (.l (defBody (topS 12))) = true := by decide +kernel
theorem sc__law_moved_item : scB ["items", "index", "digits", "target", "rest"] ["items", "index", "digits"] (defScope (topS 13)) = true := by decide +kernel
theorem lo__law_moved_item : chkS fnA gnA ["items", "index", "digits", "target", "rest"] (defScope (topS 13)) d__law_moved_item.body (.l (defBody (topS 13))) = true := by decide +kernel
theorem sc__law_change_at : scB ["value", "trail", "digits", "items"] ["value", "trail", "digits"] (defScope (topS 14)) = true := by decide +kernel
theorem lo__law_change_at : chkS fnA gnA ["value", "trail", "digits", "items"] (defScope (topS 14)) d__law_change_at.body (.l (defBody (topS 14))) = true := by decide +kernel
theorem sc__law_mutated : scB ["value", "digits", "paths"] ["value", "digits"] (defScope (topS 15)) = true := by decide +kernel
theorem lo__law_mutated : chkS fnA gnA ["value", "digits", "paths"] (defScope (topS 15)) d__law_mutated.body (.l (defBody (topS 15))) = true := by decide +kernel
theorem sc__law_any_value : scB ["digits", "depth", "choice", "number", "parts", "k"] ["digits", "depth"] (defScope (topS 16)) = true := by decide +kernel
theorem lo__law_any_value : chkS fnA gnA ["digits", "depth", "choice", "number", "parts", "k"] (defScope (topS 16)) d__law_any_value.body (.l (defBody (topS 16))) = true := by decide +kernel
theorem sc__law_names : scB ["digits", "most", "names", "digit", "many", "kinds", "letter", "part"] ["digits", "most"] (defScope (topS 17)) = true := by decide +kernel
theorem lo__law_names : chkS fnA gnA ["digits", "most", "names", "digit", "many", "kinds", "letter", "part"] (defScope (topS 17)) d__law_names.body (.l (defBody (topS 17))) = true := by decide +kernel
theorem sc__law_keys : scB ["digits", "most", "keys", "digit"] ["digits", "most"] (defScope (topS 18)) = true := by decide +kernel
theorem lo__law_keys : chkS fnA gnA ["digits", "most", "keys", "digit"] (defScope (topS 18)) d__law_keys.body (.l (defBody (topS 18))) = true := by decide +kernel
theorem sc__law_is_word : scB ["value", "low", "high", "sign"] ["value", "low", "high"] (defScope (topS 19)) = true := by decide +kernel
theorem lo__law_is_word : chkS fnA gnA ["value", "low", "high", "sign"] (defScope (topS 19)) d__law_is_word.body (.l (defBody (topS 19))) = true := by decide +kernel
theorem sc_law : scB ["script", "values", "index", "digits", "at", "some", "k", "value", "names", "keys", "row", "mutated", "due", "name"] ["script"] (defScope (topS 20)) = true := by decide +kernel
theorem lo_law : chkS fnA gnA ["script", "values", "index", "digits", "at", "some", "k", "value", "names", "keys", "row", "mutated", "due", "name"] (defScope (topS 20)) d_law.body (.l (defBody (topS 20))) = true := by decide +kernel
end LJ
open PySem PySem.W PyProof.Rows
set_option maxHeartbeats 0 in
theorem PySem.Challenge.cw_listjumps_k01_name_list_and_key_values_holds : PySem.Challenge.rw_listjumps_k01_name_list_and_key_values.Holds := by
  w_on; o_law; k_head; (case hw => w_witness2)
  k_fill
  refine L2.walk_of (l := PySem.Challenge.rw_listjumps_k01_name_list_and_key_values) (n := 63) (k := 4 * LJ.RANK + 1) (x := "script") (CX := fun _ => L2.CX0) (sp := fun w => LJ.spLaw _) rfl (by decide) rfl ⟨rfl, by decide, by decide⟩ (fun w h Y => PySem.W.kIn_of Y) ?F (fun _ _ a ns hl _ hS => ⟨a, ns, rfl, hS, hl, fun _ => rfl⟩) (fun _ _ _ _ _ h => h)
  case F =>
    intro w mg fa h KX G hmg
    refine' LJ.law_end (fn := LJ.fnA) (gn := LJ.gnA) (gs := LJ.GS) (T := LJ.T) (f := 17) (d := LJ.d_law) (st := LJ.topS 20) KX G hmg rfl ?ljN ?ljG ?ljT ?ljL ?ljB LJ.law_ok
    case ljN => refine LJ.nb_mk ?_ ?_ ?_ ?_ ?_ ?_ ?_ ?_ ?_ ?_ ?_ ?_ ?_ ?_ ?_ ?_ ?_ <;> k_is
    case ljG =>
      refine' ⟨LJ.glob_str ?ljg0 (LJ.strG_of (by decide +kernel)), trivial⟩
      (case ljg0 => k_is)
    case ljT =>
      refine' ⟨Or.inl ⟨by decide, _, _, _, ?ljt0⟩, Or.inl ⟨by decide, _, _, _, ?ljt1⟩, Or.inl ⟨by decide, _, _, _, ?ljt2⟩, Or.inl ⟨by decide, _, _, _, ?ljt3⟩, Or.inl ⟨by decide, _, _, _, ?ljt4⟩, Or.inl ⟨by decide, _, _, _, ?ljt5⟩, Or.inl ⟨by decide, _, _, _, ?ljt6⟩, Or.inl ⟨by decide, _, _, _, ?ljt7⟩, Or.inl ⟨by decide, _, _, _, ?ljt8⟩, Or.inl ⟨by decide, _, _, _, ?ljt9⟩, Or.inl ⟨by decide, _, _, _, ?ljt10⟩, Or.inl ⟨by decide, _, _, _, ?ljt11⟩, Or.inl ⟨by decide, _, _, _, ?ljt12⟩, Or.inl ⟨by decide, _, _, _, ?ljt13⟩, Or.inl ⟨by decide, _, _, _, ?ljt14⟩, Or.inl ⟨by decide, _, _, _, ?ljt15⟩, Or.inl ⟨by decide, _, _, _, ?ljt16⟩, trivial⟩
      (case ljt0 => refine' LJ.ok1_mk ?lja ?ljl ?ljc ?ljk (fun _ _ _ _ _ _ us hl => match us, hl with | [_, _, _], _ => rfl) LJ.sc_is_word LJ.lo_is_word rfl rfl; (case lja => k_is); (case ljl => k_is); (case ljc => k_is); (case ljk => k_is))
      (case ljt1 => refine' LJ.ok1_mk ?lja ?ljl ?ljc ?ljk (fun _ _ _ _ _ _ us hl => match us, hl with | [_], _ => rfl) LJ.sc_is_name LJ.lo_is_name rfl rfl; (case lja => k_is); (case ljl => k_is); (case ljc => k_is); (case ljk => k_is))
      (case ljt2 => refine' LJ.ok1_mk ?lja ?ljl ?ljc ?ljk (fun _ _ _ _ _ _ us hl => match us, hl with | [_], _ => rfl) LJ.sc_is_list LJ.lo_is_list rfl rfl; (case lja => k_is); (case ljl => k_is); (case ljc => k_is); (case ljk => k_is))
      (case ljt3 => refine' LJ.ok1_mk ?lja ?ljl ?ljc ?ljk (fun _ _ _ _ _ _ us hl => match us, hl with | [_], _ => rfl) LJ.sc_is_keys LJ.lo_is_keys rfl rfl; (case lja => k_is); (case ljl => k_is); (case ljc => k_is); (case ljk => k_is))
      (case ljt4 => refine' LJ.ok1_mk ?lja ?ljl ?ljc ?ljk (fun _ _ _ _ _ _ us hl => match us, hl with | [_], _ => rfl) LJ.sc_initials LJ.lo_initials rfl rfl; (case lja => k_is); (case ljl => k_is); (case ljc => k_is); (case ljk => k_is))
      (case ljt5 => refine' LJ.ok1_mk ?lja ?ljl ?ljc ?ljk (fun _ _ _ _ _ _ us hl => match us, hl with | [_, _], _ => rfl) LJ.sc__law_cell LJ.lo__law_cell rfl rfl; (case lja => k_is); (case ljl => k_is); (case ljc => k_is); (case ljk => k_is))
      (case ljt6 => refine' LJ.ok1_mk ?lja ?ljl ?ljc ?ljk (fun _ _ _ _ _ _ us hl => match us, hl with | [_, _, _, _], _ => rfl) LJ.sc__law_digits LJ.lo__law_digits rfl rfl; (case lja => k_is); (case ljl => k_is); (case ljc => k_is); (case ljk => k_is))
      (case ljt7 => refine' LJ.ok1_mk ?lja ?ljl ?ljc ?ljk (fun _ _ _ _ _ _ us hl => match us, hl with | [_, _], _ => rfl) LJ.sc__law_same_bool LJ.lo__law_same_bool rfl rfl; (case lja => k_is); (case ljl => k_is); (case ljc => k_is); (case ljk => k_is))
      (case ljt8 => refine' LJ.ok1_mk ?lja ?ljl ?ljc ?ljk (fun _ _ _ _ _ _ us hl => match us, hl with | [_], _ => rfl) LJ.sc__law_paths LJ.lo__law_paths rfl rfl; (case lja => k_is); (case ljl => k_is); (case ljc => k_is); (case ljk => k_is))
      (case ljt9 => refine' LJ.ok1_mk ?lja ?ljl ?ljc ?ljk (fun _ _ _ _ _ _ us hl => match us, hl with | [_, _], _ => rfl) LJ.sc__law_other_value LJ.lo__law_other_value rfl rfl; (case lja => k_is); (case ljl => k_is); (case ljc => k_is); (case ljk => k_is))
      (case ljt10 => refine' LJ.ok1_mk ?lja ?ljl ?ljc ?ljk (fun _ _ _ _ _ _ us hl => match us, hl with | [_, _, _], _ => rfl) LJ.sc__law_moved_item LJ.lo__law_moved_item rfl rfl; (case lja => k_is); (case ljl => k_is); (case ljc => k_is); (case ljk => k_is))
      (case ljt11 => refine' LJ.ok1_mk ?lja ?ljl ?ljc ?ljk (fun _ _ _ _ _ _ us hl => match us, hl with | [_, _, _], _ => rfl) LJ.sc__law_change_at LJ.lo__law_change_at rfl rfl; (case lja => k_is); (case ljl => k_is); (case ljc => k_is); (case ljk => k_is))
      (case ljt12 => refine' LJ.ok1_mk ?lja ?ljl ?ljc ?ljk (fun _ _ _ _ _ _ us hl => match us, hl with | [_, _], _ => rfl) LJ.sc__law_mutated LJ.lo__law_mutated rfl rfl; (case lja => k_is); (case ljl => k_is); (case ljc => k_is); (case ljk => k_is))
      (case ljt13 => refine' LJ.ok1_mk ?lja ?ljl ?ljc ?ljk (fun _ _ _ _ _ _ us hl => match us, hl with | [_, _], _ => rfl) LJ.sc__law_any_value LJ.lo__law_any_value rfl rfl; (case lja => k_is); (case ljl => k_is); (case ljc => k_is); (case ljk => k_is))
      (case ljt14 => refine' LJ.ok1_mk ?lja ?ljl ?ljc ?ljk (fun _ _ _ _ _ _ us hl => match us, hl with | [_, _], _ => rfl) LJ.sc__law_names LJ.lo__law_names rfl rfl; (case lja => k_is); (case ljl => k_is); (case ljc => k_is); (case ljk => k_is))
      (case ljt15 => refine' LJ.ok1_mk ?lja ?ljl ?ljc ?ljk (fun _ _ _ _ _ _ us hl => match us, hl with | [_, _], _ => rfl) LJ.sc__law_keys LJ.lo__law_keys rfl rfl; (case lja => k_is); (case ljl => k_is); (case ljc => k_is); (case ljk => k_is))
      (case ljt16 => refine' LJ.ok1_mk ?lja ?ljl ?ljc ?ljk (fun _ _ _ _ _ _ us hl => match us, hl with | [_, _, _], _ => rfl) LJ.sc__law_is_word LJ.lo__law_is_word rfl rfl; (case lja => k_is); (case ljl => k_is); (case ljc => k_is); (case ljk => k_is))
    case ljL => refine' LJ.ok1_mk ?lja ?ljl ?ljc ?ljk (fun _ _ _ _ _ _ us hl => match us, hl with | [_], _ => rfl) LJ.sc_law LJ.lo_law rfl rfl; (case lja => k_is); (case ljl => k_is); (case ljc => k_is); (case ljk => k_is)
    case ljB => exact fun _ _ _ _ _ _ _ _ => rfl
