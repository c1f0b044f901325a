/- An evaluator of the model's code on values, and the proof that it tells what the code does, part 4; no condition. -/
import Derived.Test.YtfniojpjlachoaaVmc
namespace Go.VK
open AVal

/-! What the code does, as a tree: what it asks, what it calls, which loops it enters -/
inductive Sy (R : Type) where
  | ret (r : R)
  | fail (why : Nat)
  | if_ (b : Bool) (t e : Sy R)
  | call (f : Nat) (args : List AVal) (objs : List VObj) (k : List AVal × List VObj → Sy R)
  | loop (h : Nat) (s : St) (k : Out × St → Sy R)
  | next (s : St) (k : Out × St → Sy R)
def Sy.y {R : Type} (t : Sy R) : Sy R := .if_ true t (.fail 8)
def Sy.den {R : Type} (C : Oracle) (L : Nat → St → Option (Out × St)) (I : St → Option (Out × St)) : Sy R → Option R
  | .ret r => some r
  | .fail _ => none
  | .if_ b t e => bif b then t.den C L I else e.den C L I
  | .call f a o k => (C f a o).bind fun r => (k r).den C L I
  | .loop h s k => (L h s).bind fun r => (k r).den C L I
  | .next s k => (I s).bind fun r => (k r).den C L I
def xeffK {R : Type} (Φ : Ctx) (p : St) (o : Oper) (k : Eff → Sy R) : Sy R :=
  match veff Φ p o with
  | some e => k e
  | none =>
    match o.op with
    | .call c =>
      (match vsend Φ p c with
       | none => .fail 1
       | some x => .if_ x.cond (.call x.f x.args x.objs fun r =>
             match callEff Φ o x r.1 r.2 with
             | some e => k e
             | none => .fail 2) (.fail 3))
    | _ => .fail 4
def xrunOp {R : Type} (Φ : Ctx) (o : Oper) (i : Nat) (s : St) (k : St → Done → Sy R) : Sy R :=
  match o.op with
  | .extract (.tmp t) j =>
    (match s.tmp t, o.dst with
     | .tup vs, some d => bif Nat.blt j vs.length && noUnd (vs.getD j .und) then k (s.set d (vs.getD j .und)) { i, calm := true, made := [], ment := (vs.getD j .und).keys, hit := false } else .fail 5
     | _, _ => .fail 6)
  | _ =>
    let p := s.part o.op
    let made := keysMade Φ o
    let M := made ++ p.objs.map (·.1)
    xeffK Φ p o fun e =>
      .if_ e.cond (bif okEff p M e && ((o.dst.isNone || e.v.isSome) && made.all fun K => Nat.blt K passBase && (s.obj K).isNone) then
        k (s.join M o.dst e) { i, calm := e.calm && (subM made e.ka && (subM made e.ki && subM made e.kr)), made, ment := M, hit := hitIn (AVal.dead e.ka e.ki e.kr) M e.calm s.objs s.objs }
        else .fail 7) (.fail 8)
def xskipOp {R : Type} (o : Oper) (i : Nat) (s : St) (k : St → Done → Sy R) : Sy R :=
  k (match o.dst with | some d => s.set d (.tup []) | none => s) { i, calm := true, made := [], ment := [], hit := false }
/-- 'gs': the guards that are known already -/
def xop {R : Type} (Φ : Ctx) (ops : Array Oper) (gs : List Nat) (o : Oper) (i : Nat) (s : St) (k : List Nat → St → Done → Sy R) : Sy R :=
  match o.guard with
  | none => xrunOp Φ o i s (k gs)
  | some (j, want) =>
    match dstOf ops j with
    | none => .fail 9
    | some g =>
      match s.tmp g with
      | .bool b => bif mem g gs then
          (bif b then (bif want then xrunOp Φ o i (s.set g (.bool true)) (k gs) else xskipOp o i (s.set g (.bool true)) (k gs))
           else (bif want then xskipOp o i (s.set g (.bool false)) (k gs) else xrunOp Φ o i (s.set g (.bool false)) (k gs)))
        else .if_ b (bif want then xrunOp Φ o i (s.set g (.bool true)) (k (g :: gs)) else xskipOp o i (s.set g (.bool true)) (k (g :: gs)))
                   (bif want then xskipOp o i (s.set g (.bool false)) (k (g :: gs)) else xrunOp Φ o i (s.set g (.bool false)) (k (g :: gs)))
      | .tup [] => xskipOp o i s (k gs)
      | _ => .fail 10
def xops {R : Type} (Φ : Ctx) (ops : Array Oper) : List Oper → Nat → List Nat → St → List Done → (St → List Done → Sy R) → Sy R
  | [], _, _, s, ds, k => k s ds
  | o :: r, i, gs, s, ds, k => xop Φ ops gs o i s fun gs s' d => xops Φ ops r (i + 1) gs s' (d :: ds) k
def xregion {R : Type} (Φ : Ctx) (ops : Array Oper) (draw : Bool) (s : St) (k : St → Sy R) : Sy R :=
  xops Φ ops ops.toList 0 [] (s.forget (makers Φ ops.toList)) [] fun s' ds =>
    bif draw then (bif edgesOk ops.toList 0 && orderOk ops (ancs ops.toList []) ds then k s' else .fail 11) else k s'
def xexec (Φ : Ctx) (fn : FnI) (np : Nat) : Code → Nat → {R : Type} → St → (Out → St → Sy R) → Sy R
  | .skip, _, _, s, k => k .normal s
  | .region _ ops draw, _, _, s, k => xregion Φ ops draw s (k .normal)
  | .seq a b, h, _, s, k => xexec Φ fn np a h s fun o s' => match o with
    | .normal => xexec Φ fn np b (h + loops a) s' k
    | o => k o s'
  | .cond c a b, h, _, s, k => match s.ev Φ 0 c with
    | some (.bool x) => .if_ x (xexec Φ fn np a h s k) (xexec Φ fn np b (h + loops a) s k)
    | _ => .fail 12
  | .block id a, h, _, s, k => xexec Φ fn np a h s fun o s' => match o with
    | .exit j => bif Nat.beq j id then k .normal s' else k (.exit j) s'
    | o => k o s'
  | .loop _, h, _, s, k => .loop h (norm (fn.loops.getD h default).live (fn.loops.getD h default).own np s) fun r => k r.1 r.2
  | .exit id, _, _, s, k => k (.exit id) s
  | .scope a, h, _, s, k => xexec Φ fn np a h s k
  | .label _, _, _, s, k => k .normal s
  | .ret, _, _, s, k => k .ret s
  | _, _, _, _, _ => .fail 13
/-- a loop's body; where it ends, the next round -/
def xbody (Φ : Ctx) (fn : FnI) (np : Nat) (a : Code) (h : Nat) (s : St) : Sy (Out × St) :=
  xexec Φ fn np a (h + 1) s fun o s' => match o with
    | .normal => .next (norm (fn.loops.getD h default).live (fn.loops.getD h default).own np s') .ret
    | o => .ret (o, normExit fn np (fn.loops.getD h default) o s')
/-- a function's body, and what it gives back -/
def xcall (Φ : Ctx) (fn : FnI) (args : List AVal) (objs : List VObj) : Sy (List AVal × List VObj) :=
  bif Nat.ble args.length fn.nt then (xexec Φ fn objs.length fn.body 0 { env := numFrom 0 (args.map shift), objs := numFrom passBase objs }
    fun o s => match o with
      | .exit _ => .fail 14
      | _ => match vret Φ fn objs.length s with | some r => .ret r | none => .fail 15) else .fail 16

/-! It tells what the evaluator computes -/
section
variable {Φ : Ctx} {C : Oracle} {L : Nat → St → Option (Out × St)} {I : St → Option (Out × St)} {R : Type}
theorem den_effK (p : St) (o : Oper) (k : Eff → Sy R) : (xeffK Φ p o k).den C L I = veffK Φ C p o fun e => (k e).den C L I := by
  unfold xeffK veffK
  cases veff Φ p o with
  | some e => rfl
  | none =>
    cases o.op with
    | call c =>
      dsimp only
      cases vsend Φ p c with
      | none => rfl
      | some x =>
        simp only [Sy.den]
        cases x.cond with
        | false => rfl
        | true =>
          simp only [cond_true]
          congr 1
          funext r
          obtain ⟨rs, os⟩ := r
          dsimp only
          cases callEff Φ o x rs os <;> rfl
    | _ => rfl
theorem den_runOp (o : Oper) (i : Nat) (s : St) (k : St → Done → Sy R) : (xrunOp Φ o i s k).den C L I = runOp Φ C o i s fun s d => (k s d).den C L I := by
  have key : ∀ (p : St) (M made : List Nat), (xeffK Φ p o fun e => Sy.if_ e.cond (bif okEff p M e && ((o.dst.isNone || e.v.isSome) && made.all fun K => Nat.blt K passBase && (s.obj K).isNone) then
        k (s.join M o.dst e) { i, calm := e.calm && (subM made e.ka && (subM made e.ki && subM made e.kr)), made, ment := M, hit := hitIn (AVal.dead e.ka e.ki e.kr) M e.calm s.objs s.objs }
        else .fail 7) (.fail 8)).den C L I = veffK Φ C p o fun e => bif e.cond && (okEff p M e && ((o.dst.isNone || e.v.isSome) && made.all fun K => Nat.blt K passBase && (s.obj K).isNone)) then
        (k (s.join M o.dst e) { i, calm := e.calm && (subM made e.ka && (subM made e.ki && subM made e.kr)), made, ment := M, hit := hitIn (AVal.dead e.ka e.ki e.kr) M e.calm s.objs s.objs }).den C L I
      else none := by
    intro p M made
    rw [den_effK]
    congr 1
    funext e
    simp only [Sy.den]
    cases e.cond with
    | false => simp
    | true => cases (okEff p M e && ((o.dst.isNone || e.v.isSome) && made.all fun K => Nat.blt K passBase && (s.obj K).isNone)) <;> rfl
  unfold xrunOp runOp
  cases o.op with
  | extract x j =>
    cases x with
    | tmp t =>
      dsimp only
      cases s.tmp t with
      | tup vs =>
        cases o.dst with
        | none => rfl
        | some d => dsimp only; cases (Nat.blt j vs.length && noUnd (vs.getD j .und)) <;> rfl
      | _ => rfl
    | _ => exact key _ _ _
  | _ => exact key _ _ _
theorem den_skipOp (o : Oper) (i : Nat) (s : St) (k : St → Done → Sy R) : (xskipOp o i s k).den C L I = skipOp o i s fun s d => (k s d).den C L I := rfl
theorem den_op (ops : Array Oper) (gs : List Nat) (o : Oper) (i : Nat) (s : St) (k : List Nat → St → Done → Sy R) (k' : St → Done → Option R) (hk : ∀ gs s d, (k gs s d).den C L I = k' s d) : (xop Φ ops gs o i s k).den C L I = vop Φ C ops o i s k' := by
  have hk' : ∀ gs, (fun s d => (k gs s d).den C L I) = k' := fun gs => by funext s d; exact hk gs s d
  unfold xop vop
  cases o.guard with
  | none => simp only [den_runOp, hk']
  | some x =>
    obtain ⟨j, want⟩ := x
    dsimp only
    cases dstOf ops j with
    | none => rfl
    | some g =>
      dsimp only
      cases s.tmp g with
      | bool b =>
        dsimp only
        cases mem g gs with
        | true => cases b <;> cases want <;> simp only [cond_true, cond_false, den_runOp, den_skipOp, hk']
        | false => cases b <;> cases want <;> simp only [Sy.den, cond_true, cond_false, den_runOp, den_skipOp, hk']
      | tup vs => cases vs <;> first | rfl | simp only [den_skipOp, hk']
      | _ => rfl
theorem den_ops (ops : Array Oper) : ∀ (l : List Oper) (i : Nat) (gs : List Nat) (s : St) (ds : List Done) (k : St → List Done → Sy R), (xops Φ ops l i gs s ds k).den C L I = vops Φ C ops l i s ds fun s d => (k s d).den C L I
  | [], i, gs, s, ds, k => rfl
  | o :: r, i, gs, s, ds, k => by
    simp only [xops, vops]
    exact den_op ops gs o i s _ _ fun gs s d => den_ops ops r _ gs _ _ _
theorem den_region (ops : Array Oper) (draw : Bool) (s : St) (k : St → Sy R) : (xregion Φ ops draw s k).den C L I = vregion Φ C ops draw s fun s => (k s).den C L I := by
  unfold xregion vregion
  rw [den_ops]
  congr 1
  funext s' ds
  cases draw with
  | false => rfl
  | true => cases (edgesOk ops.toList 0 && orderOk ops (ancs ops.toList []) ds) <;> rfl
/-- what the loops do -/
def LoopOK (Φ : Ctx) (C : Oracle) (fn : FnI) (np n : Nat) (L : Nat → St → Option (Out × St)) : Code → Nat → Prop
  | .seq a b, h => LoopOK Φ C fn np n L a h ∧ LoopOK Φ C fn np n L b (h + loops a)
  | .cond _ a b, h => LoopOK Φ C fn np n L a h ∧ LoopOK Φ C fn np n L b (h + loops a)
  | .block _ a, h => LoopOK Φ C fn np n L a h
  | .scope a, h => LoopOK Φ C fn np n L a h
  | .loop a, h => (∀ s, L h (norm (fn.loops.getD h default).live (fn.loops.getD h default).own np s) = iter (fun s k => vexec Φ C fn np n a (h + 1) s k) fn np (fn.loops.getD h default) n s) ∧ LoopOK Φ C fn np n L a (h + 1)
  | _, _ => True
theorem den_exec {fn : FnI} {np n : Nat} : ∀ (c : Code) (h : Nat) (s : St) (k : Out → St → Sy R), LoopOK Φ C fn np n L c h → (xexec Φ fn np c h s k).den C L I = vexec Φ C fn np n c h s fun o s => (k o s).den C L I
  | .skip, h, s, k, _ => by simp only [xexec, vexec]
  | .region _ ops draw, h, s, k, _ => by simp only [xexec, vexec]; exact den_region ..
  | .seq a b, h, s, k, hL => by
    simp only [xexec, vexec]
    rw [den_exec a h s _ hL.1]
    congr 1
    funext o s'
    cases o <;> first | rfl | exact den_exec b _ _ _ hL.2
  | .cond c a b, h, s, k, hL => by
    simp only [xexec, vexec]
    cases s.ev Φ 0 c with
    | none => rfl
    | some v =>
      cases v with
      | bool x =>
        simp only [Sy.den]
        rw [den_exec a h s _ hL.1, den_exec b _ s _ hL.2]
      | _ => rfl
  | .block id a, h, s, k, hL => by
    simp only [xexec, vexec]
    rw [den_exec a h s _ hL]
    congr 1
    funext o s'
    cases o with
    | exit j => dsimp only; cases Nat.beq j id <;> rfl
    | _ => rfl
  | .loop a, h, s, k, hL => by
    simp only [xexec, vexec, Sy.den]
    rw [hL.1 s]
  | .exit id, h, s, k, _ => by simp only [xexec, vexec]
  | .scope a, h, s, k, hL => by simp only [xexec, vexec]; exact den_exec a h s k hL
  | .label _, h, s, k, _ => by simp only [xexec, vexec]
  | .ret, h, s, k, _ => by simp only [xexec, vexec]
  | .rangeFunc _ _ _ _, h, s, k, _ => rfl
  | .goto _, h, s, k, _ => rfl
  | .refuse _, h, s, k, _ => rfl
end
end Go.VK

namespace Go.VK
open AVal
/-- the loop with a number -/
def loopAt : Code → Nat → Nat → Option Code
  | .seq a b, h, j => bif Nat.blt j (h + loops a) then loopAt a h j else loopAt b (h + loops a) j
  | .cond _ a b, h, j => bif Nat.blt j (h + loops a) then loopAt a h j else loopAt b (h + loops a) j
  | .block _ a, h, j => loopAt a h j
  | .scope a, h, j => loopAt a h j
  | .loop a, h, j => bif Nat.beq j h then some a else loopAt a (h + 1) j
  | _, _, _ => none
/-- a loop, from a state that is tidy already -/
def iter2 (body : St → (Out → St → Option (Out × St)) → Option (Out × St)) (fn : FnI) (np : Nat) (h : LoopHint) : Nat → St → Option (Out × St)
  | 0, _ => none
  | n + 1, s => body s fun o s' => match o with
    | .normal => iter2 body fn np h n (norm h.live h.own np s')
    | o => some (o, normExit fn np h o s')
theorem iter_iter2 (body : St → (Out → St → Option (Out × St)) → Option (Out × St)) (fn : FnI) (np : Nat) (h : LoopHint) : ∀ (n : Nat) (s : St), iter body fn np h n s = iter2 body fn np h n (norm h.live h.own np s)
  | 0, s => rfl
  | n + 1, s => by
    simp only [iter, iter2]
    congr 1
    funext o s'
    cases o <;> first | rfl | exact iter_iter2 body fn np h n s'
/-- m rounds of a loop, with n rounds for each loop in it -/
def lit (Φ : Ctx) (C : Oracle) (fn : FnI) (np n h m : Nat) (s : St) : Option (Out × St) :=
  match loopAt fn.body 0 h with
  | some a => iter2 (fun s k => vexec Φ C fn np n a (h + 1) s k) fn np (fn.loops.getD h default) m s
  | none => none
section
variable {Φ : Ctx} {C : Oracle} {fn : FnI} {np n : Nat} {R : Type}
theorem loopOK_of : ∀ (c : Code) (h : Nat), (∀ j, h ≤ j → j < h + loops c → loopAt fn.body 0 j = loopAt c h j) → LoopOK Φ C fn np n (fun h s => lit Φ C fn np n h n s) c h
  | .seq a b, h, H => by
    refine ⟨loopOK_of a h fun j h1 h2 => ?_, loopOK_of b _ fun j h1 h2 => ?_⟩
    · rw [H j h1 (by simp only [loops]; omega)]; simp only [loopAt]; rw [Nat.blt_eq.mpr (by omega)]; rfl
    · rw [H j (by omega) (by simp only [loops]; omega)]; simp only [loopAt]
      rw [show Nat.blt j (h + loops a) = false from by cases hb : Nat.blt j (h + loops a) with | false => rfl | true => have := Nat.blt_eq.mp hb; omega]; rfl
  | .cond _ a b, h, H => by
    refine ⟨loopOK_of a h fun j h1 h2 => ?_, loopOK_of b _ fun j h1 h2 => ?_⟩
    · rw [H j h1 (by simp only [loops]; omega)]; simp only [loopAt]; rw [Nat.blt_eq.mpr (by omega)]; rfl
    · rw [H j (by omega) (by simp only [loops]; omega)]; simp only [loopAt]
      rw [show Nat.blt j (h + loops a) = false from by cases hb : Nat.blt j (h + loops a) with | false => rfl | true => have := Nat.blt_eq.mp hb; omega]; rfl
  | .block _ a, h, H => loopOK_of a h fun j h1 h2 => by rw [H j h1 (by simpa only [loops] using h2)]; rfl
  | .scope a, h, H => loopOK_of a h fun j h1 h2 => by rw [H j h1 (by simpa only [loops] using h2)]; rfl
  | .loop a, h, H => by
    refine ⟨fun s => ?_, loopOK_of a (h + 1) fun j h1 h2 => ?_⟩
    · have := H h (Nat.le_refl _) (by simp only [loops]; omega)
      simp only [lit, this, loopAt, Nat.beq_refl, cond_true, iter_iter2]
    · rw [H j (by omega) (by simp only [loops]; omega)]
      simp only [loopAt, beq_ne (show j ≠ h by omega), cond_false]
  | .skip, _, _ => trivial
  | .region _ _ _, _, _ => trivial
  | .rangeFunc _ _ _ _, _, _ => trivial
  | .exit _, _, _ => trivial
  | .label _, _, _ => trivial
  | .goto _, _, _ => trivial
  | .ret, _, _ => trivial
  | .refuse _, _, _ => trivial
theorem LoopOK.sub {L : Nat → St → Option (Out × St)} {h : Nat} {a : Code} : ∀ (c : Code) (h0 : Nat), LoopOK Φ C fn np n L c h0 → loopAt c h0 h = some a → LoopOK Φ C fn np n L a (h + 1)
  | .seq x y, h0, H, e => by
    simp only [loopAt, Bool.cond_eq_ite] at e
    split at e
    · exact LoopOK.sub x _ H.1 e
    · exact LoopOK.sub y _ H.2 e
  | .cond _ x y, h0, H, e => by
    simp only [loopAt, Bool.cond_eq_ite] at e
    split at e
    · exact LoopOK.sub x _ H.1 e
    · exact LoopOK.sub y _ H.2 e
  | .block _ x, h0, H, e => LoopOK.sub x h0 H e
  | .scope x, h0, H, e => LoopOK.sub x h0 H e
  | .loop x, h0, H, e => by
    simp only [loopAt, Bool.cond_eq_ite] at e
    split at e
    · rename_i hb
      cases e
      rw [Nat.eq_of_beq_eq_true hb]
      exact H.2
    · exact LoopOK.sub x _ H.2 e
  | .skip, _, _, e => by simp [loopAt] at e
  | .region _ _ _, _, _, e => by simp [loopAt] at e
  | .rangeFunc _ _ _ _, _, _, e => by simp [loopAt] at e
  | .exit _, _, _, e => by simp [loopAt] at e
  | .label _, _, _, e => by simp [loopAt] at e
  | .goto _, _, _, e => by simp [loopAt] at e
  | .ret, _, _, e => by simp [loopAt] at e
  | .refuse _, _, _, e => by simp [loopAt] at e
theorem loopOK_body : LoopOK Φ C fn np n (fun h s => lit Φ C fn np n h n s) fn.body 0 := loopOK_of fn.body 0 fun _ _ _ => rfl
/-- one round more -/
theorem lit_den {h : Nat} {a : Code} (ha : loopAt fn.body 0 h = some a) (m : Nat) (s : St) :
    lit Φ C fn np n h (m + 1) s = (xbody Φ fn np a h s).den C (fun h s => lit Φ C fn np n h n s) (lit Φ C fn np n h m) := by
  have hI : lit Φ C fn np n h m = iter2 (fun s k => vexec Φ C fn np n a (h + 1) s k) fn np (fn.loops.getD h default) m := by funext s; simp only [lit, ha]
  unfold xbody
  rw [den_exec a (h + 1) _ _ (LoopOK.sub _ _ loopOK_body ha)]
  simp only [lit, ha, iter2]
  congr 1
  funext o s'
  cases o with
  | normal =>
    simp only [Sy.den]
    rw [hI]
    cases iter2 (fun s k => vexec Φ C fn np n a (h + 1) s k) fn np (fn.loops.getD h default) m (norm (fn.loops.getD h default).live (fn.loops.getD h default).own np s') <;> rfl
  | _ => rfl
theorem vcall_den {k f : Nat} {args : List AVal} {objs : List VObj} (hf : lk Φ.fns f = some fn) (I : St → Option (Out × St)) :
    vcall Φ (k + 1) f args objs = (xcall Φ fn args objs).den (vcall Φ k) (fun h s => lit Φ (vcall Φ k) fn objs.length k h k s) I := by
  simp only [vcall, hf, xcall]
  cases Nat.ble args.length fn.nt with
  | false => rfl
  | true =>
    simp only [Bool.not_true, cond_false, cond_true]
    rw [den_exec _ _ _ _ loopOK_body]
    congr 1
    funext o s
    cases o with
    | exit _ => rfl
    | _ => dsimp only; cases vret Φ fn objs.length s <;> rfl

/-! Without fuel -/
/-- the call gives back r, with fuel enough -/
def Ev (Φ : Ctx) (f : Nat) (args : List AVal) (objs : List VObj) (r : List AVal × List VObj) : Prop := ∃ k0, ∀ k, k0 ≤ k → vcall Φ k f args objs = some r
/-- the loop ends so -/
def LEv (Φ : Ctx) (fn : FnI) (np h : Nat) (s : St) (r : Out × St) : Prop := ∃ k0, ∀ k m, k0 ≤ k → k0 ≤ m → lit Φ (vcall Φ k) fn np k h m s = some r
def Sy.to (Φ : Ctx) (fn : FnI) (np : Nat) (J : St → Out × St → Prop) : Sy R → R → Prop
  | .ret r', r => r' = r
  | .fail _, _ => False
  | .if_ b t e, r => (b = true → t.to Φ fn np J r) ∧ (b = false → e.to Φ fn np J r)
  | .call f a o k, r => ∃ x, Ev Φ f a o x ∧ (k x).to Φ fn np J r
  | .loop h s k, r => ∃ x, LEv Φ fn np h s x ∧ (k x).to Φ fn np J r
  | .next s k, r => ∃ x, J s x ∧ (k x).to Φ fn np J r
@[simp] theorem to_y {J : St → Out × St → Prop} (t : Sy R) (r : R) : t.y.to Φ fn np J r = t.to Φ fn np J r := by simp [Sy.y, Sy.to]
theorem to_den {J : St → Out × St → Prop} {I : Nat → Nat → St → Option (Out × St)} (hJ : ∀ s x, J s x → ∃ k0, ∀ k m, k0 ≤ k → k0 ≤ m → I k m s = some x) :
    ∀ (t : Sy R) (r : R), t.to Φ fn np J r → ∃ k0, ∀ k m, k0 ≤ k → k0 ≤ m → t.den (vcall Φ k) (fun h s => lit Φ (vcall Φ k) fn np k h k s) (I k m) = some r
  | .ret r', r, h => ⟨0, fun k m _ _ => by simp only [Sy.to] at h; subst h; rfl⟩
  | .fail _, _, h => by simp [Sy.to] at h
  | .if_ b t e, r, h => by
    simp only [Sy.to] at h
    cases b with
    | true => obtain ⟨k0, H⟩ := to_den hJ t r (h.1 rfl); exact ⟨k0, fun k m h1 h2 => by simp only [Sy.den, cond_true]; exact H k m h1 h2⟩
    | false => obtain ⟨k0, H⟩ := to_den hJ e r (h.2 rfl); exact ⟨k0, fun k m h1 h2 => by simp only [Sy.den, cond_false]; exact H k m h1 h2⟩
  | .call f a o k', r, h => by
    simp only [Sy.to] at h
    obtain ⟨x, ⟨k1, H1⟩, h2⟩ := h
    obtain ⟨k2, H2⟩ := to_den hJ (k' x) r h2
    exact ⟨max k1 k2, fun k m h1 h2 => by simp only [Sy.den]; rw [H1 k (by omega)]; exact H2 k m (by omega) (by omega)⟩
  | .loop hh s k', r, h => by
    simp only [Sy.to] at h
    obtain ⟨x, ⟨k1, H1⟩, h2⟩ := h
    obtain ⟨k2, H2⟩ := to_den hJ (k' x) r h2
    exact ⟨max k1 k2, fun k m h1 h2 => by simp only [Sy.den]; rw [H1 k k (by omega) (by omega)]; exact H2 k m (by omega) (by omega)⟩
  | .next s k', r, h => by
    simp only [Sy.to] at h
    obtain ⟨x, h1, h2⟩ := h
    obtain ⟨k1, H1⟩ := hJ s x h1
    obtain ⟨k2, H2⟩ := to_den hJ (k' x) r h2
    exact ⟨max k1 k2, fun k m h1 h2 => by simp only [Sy.den]; rw [H1 k m (by omega) (by omega)]; exact H2 k m (by omega) (by omega)⟩
/-- a function's call, from its tree -/
theorem ev_of {f : Nat} {args : List AVal} {objs : List VObj} {r : List AVal × List VObj} {t : Sy (List AVal × List VObj)} (hf : lk Φ.fns f = some fn) (ht : xcall Φ fn args objs = t) (h : t.to Φ fn objs.length (fun _ _ => False) r) : Ev Φ f args objs r := by
  obtain ⟨k0, H⟩ := to_den (I := fun _ _ _ => none) (fun s x h => h.elim) t r h
  refine ⟨k0 + 1, fun k hk => ?_⟩
  obtain ⟨k, rfl⟩ : ∃ j, k = j + 1 := ⟨k - 1, by omega⟩
  rw [vcall_den hf (fun _ => none), ht]
  exact H k k (by omega) (by omega)
/-- a loop, from its body's tree -/
theorem lev_of {h : Nat} {a : Code} {s : St} {r : Out × St} {t : Sy (Out × St)} (ha : loopAt fn.body 0 h = some a) (ht : xbody Φ fn np a h s = t) (H : t.to Φ fn np (LEv Φ fn np h) r) : LEv Φ fn np h s r := by
  obtain ⟨k0, H⟩ := to_den (I := fun k m => lit Φ (vcall Φ k) fn np k h m) (fun s x h => h) t r H
  refine ⟨k0 + 1, fun k m hk hm => ?_⟩
  obtain ⟨m, rfl⟩ : ∃ j, m = j + 1 := ⟨m - 1, by omega⟩
  rw [lit_den ha, ht]
  exact H k m (by omega) (by omega)
end
end Go.VK

namespace Go.VK
open AVal

/-! Shapes: what a value looks like, and the data that it leaves open -/
inductive Kd where | b | i | s | l | v
inductive Lf where
  | b (x : Bool) | i (x : Int) | s (x : ByteArray) | l (x : List AVal) | v (x : AVal)
def Kd.Ty : Kd → Type | .b => Bool | .i => Int | .s => ByteArray | .l => List AVal | .v => AVal
def TyK : List Kd → Type
  | [] => Unit
  | [k] => k.Ty
  | k :: m :: r => k.Ty × TyK (m :: r)
def Kd.lf : (k : Kd) → k.Ty → Lf | .b, x => .b x | .i, x => .i x | .s, x => .s x | .l, x => .l x | .v, x => .v x
def Kd.of : (k : Kd) → Lf → Option k.Ty
  | .b, .b x => some x | .i, .i x => some x | .s, .s x => some x | .l, .l x => some x | .v, .v x => some x | _, _ => none
def lfs : (ks : List Kd) → TyK ks → List Lf
  | [], _ => []
  | [k], x => [k.lf x]
  | k :: m :: r, x => k.lf x.1 :: lfs (m :: r) x.2
def ofLfs : (ks : List Kd) → List Lf → Option (TyK ks)
  | [], ls => (match ls with | [] => some () | _ :: _ => none)
  | [k], ls => (match ls with | [] => none | x :: r => (match r with | [] => k.of x | _ :: _ => none))
  | k :: m :: r, ls => (match ls with | [] => none | x :: xs => (match k.of x with | some a => (match ofLfs (m :: r) xs with | some b => some (a, b) | none => none) | none => none))
theorem Kd.of_eq {k : Kd} {x : Lf} {a : k.Ty} (h : k.of x = some a) : k.lf a = x := by
  cases k <;> cases x <;> (simp only [Kd.of] at h; cases h) <;> rfl
theorem lfs_of : ∀ (ks : List Kd) (ls : List Lf) (x : TyK ks), ofLfs ks ls = some x → lfs ks x = ls
  | [], ls, x, h => by
    cases ls with
    | nil => rfl
    | cons _ _ => unfold ofLfs at h; cases h
  | [k], ls, x, h => by
    cases ls with
    | nil => unfold ofLfs at h; cases h
    | cons y r =>
      cases r with
      | nil => unfold ofLfs at h; unfold lfs; rw [Kd.of_eq (a := x) h]
      | cons _ _ => unfold ofLfs at h; cases h
  | k :: m :: r, ls, x, h => by
    cases ls with
    | nil => unfold ofLfs at h; cases h
    | cons y ys =>
      unfold ofLfs at h
      cases h1 : k.of y with
      | none => simp only [h1] at h; cases h
      | some a =>
        cases h2 : ofLfs (m :: r) ys with
        | none => simp only [h1, h2] at h; cases h
        | some b =>
          simp only [h1, h2] at h
          cases h
          show k.lf a :: lfs (m :: r) b = y :: ys
          rw [Kd.of_eq h1, lfs_of (m :: r) ys b h2]

def eqN : List Nat → List Nat → Bool
  | [], [] => true
  | a :: r, b :: q => Nat.beq a b && eqN r q
  | _, _ => false
theorem eqN_eq : ∀ {p q : List Nat}, eqN p q = true → p = q
  | [], [], _ => rfl
  | a :: r, b :: q, h => by
    simp only [eqN, Bool.and_eq_true] at h
    rw [Nat.eq_of_beq_eq_true h.1, eqN_eq h.2]
  | [], _ :: _, h => by simp [eqN] at h
  | _ :: _, [], h => by simp [eqN] at h
def eqO : Option Nat → Option Nat → Bool
  | none, none => true
  | some a, some b => Nat.beq a b
  | _, _ => false
theorem eqO_eq {p q : Option Nat} (h : eqO p q = true) : p = q := by
  cases p <;> cases q <;> simp [eqO] at h ⊢; exact h
inductive Pt where
  | bool | int (k : IntKind) | str | ro (t : Bool) (sz : Nat) | own (sz : Nat)
  | und | nilp | nils (sz : Nat) | ptr (K : Nat) (p : List (Option Nat)) (off : Option Nat) | ref (K : Nat) (p : List (Option Nat))
  | rop (off : Option Nat)
  | agg (ps : List Pt) | tup (ps : List Pt) | clo (f : Nat) (ps : List Pt)
def kindsP : List (Option Nat) → List Kd
  | [] => []
  | some _ :: r => kindsP r
  | none :: r => .i :: kindsP r
mutual
def Pt.kinds : Pt → List Kd
  | .bool => [.b] | .int _ => [.i] | .str => [.s] | .ro _ _ => [.l] | .own _ => [.l] | .rop _ => [.v]
  | .ptr _ p _ => kindsP p | .ref _ p => kindsP p
  | .agg ps => kindsL ps | .tup ps => kindsL ps | .clo _ ps => kindsL ps
  | _ => []
def kindsL : List Pt → List Kd
  | [] => []
  | p :: ps => p.kinds ++ kindsL ps
end
def hdB : List Lf → Bool | .b x :: _ => x | _ => false
def hdI : List Lf → Int | .i x :: _ => x | _ => 0
def hdS : List Lf → ByteArray | .s x :: _ => x | _ => ByteArray.empty
def hdV : List Lf → AVal | .v x :: _ => x | _ => .und
def hdL : List Lf → List AVal | .l x :: _ => x | _ => []
/-- a path, whose open steps are data -/
def encP : List (Option Nat) → List Lf → List Nat × List Lf
  | [], r => ([], r)
  | some n :: p, r => match encP p r with | (q, z) => (n :: q, z)
  | none :: p, r => match encP p r.tail with | (q, z) => ((hdI r).toNat :: q, z)
def decP : List (Option Nat) → List Nat → Option (List Lf)
  | [], [] => some []
  | some n :: p, m :: q => bif Nat.beq n m then decP p q else none
  | none :: p, m :: q => (match decP p q with | some r => some (.i (m : Int) :: r) | none => none)
  | _, _ => none
theorem encP_of : ∀ {p : List (Option Nat)} {q : List Nat} {ls : List Lf}, decP p q = some ls → ∀ r, encP p (ls ++ r) = (q, r)
  | [], [], ls, h, r => by simp only [decP, Option.some.injEq] at h; subst h; rfl
  | [], _ :: _, ls, h, r => by simp [decP] at h
  | some _ :: _, [], ls, h, r => by simp [decP] at h
  | none :: _, [], ls, h, r => by simp [decP] at h
  | some n :: p, m :: q, ls, h, r => by
    simp only [decP, Bool.cond_eq_ite] at h
    split at h
    · rename_i hb
      simp only [encP, encP_of h, Nat.eq_of_beq_eq_true hb]
    · cases h
  | none :: p, m :: q, ls, h, r => by
    simp only [decP] at h
    split at h
    · rename_i z hz
      simp only [Option.some.injEq] at h
      subst h
      simp only [List.cons_append, encP, List.tail_cons, encP_of hz, hdI, Int.toNat_natCast]
    · cases h
mutual
def Pt.enc : Pt → List Lf → AVal × List Lf
  | .bool, r => (.bool (hdB r), r.tail)
  | .int k, r => (.int k (hdI r), r.tail)
  | .str, r => (.str (hdS r), r.tail)
  | .ro t sz, r => (.ro t sz (hdL r), r.tail)
  | .own sz, r => (.own sz (hdL r), r.tail)
  | .und, r => (.und, r)
  | .nilp, r => (.nilp, r)
  | .nils sz, r => (.nils sz, r)
  | .ptr K p off, r => match encP p r with | (q, z) => (.ptr K q off, z)
  | .ref K p, r => match encP p r with | (q, z) => (.ref K q, z)
  | .rop o, r => (.rop (hdV r) o, r.tail)
  | .agg ps, r => match encL ps r with | (vs, q) => (.agg vs, q)
  | .tup ps, r => match encL ps r with | (vs, q) => (.tup vs, q)
  | .clo f ps, r => match encL ps r with | (vs, q) => (.clo f vs, q)
def encL : List Pt → List Lf → List AVal × List Lf
  | [], r => ([], r)
  | p :: ps, r => match p.enc r with | (v, q) => match encL ps q with | (vs, z) => (v :: vs, z)
end
mutual
def Pt.dec : Pt → AVal → Option (List Lf)
  | .bool, .bool x => some [.b x]
  | .int k, .int j n => bif decide (k = j) then some [.i n] else none
  | .str, .str x => some [.s x]
  | .ro t sz, .ro u z xs => bif (t == u) && Nat.beq sz z then some [.l xs] else none
  | .own sz, .own z xs => bif Nat.beq sz z then some [.l xs] else none
  | .und, .und => some []
  | .nilp, .nilp => some []
  | .nils sz, .nils z => bif Nat.beq sz z then some [] else none
  | .ptr K p o, .ptr J q u => bif Nat.beq K J && eqO o u then decP p q else none
  | .ref K p, .ref J q => bif Nat.beq K J then decP p q else none
  | .rop o, .rop x u => bif eqO o u then some [.v x] else none
  | .agg ps, .agg vs => decL ps vs
  | .tup ps, .tup vs => decL ps vs
  | .clo f ps, .clo g vs => bif Nat.beq f g then decL ps vs else none
  | _, _ => none
def decL : List Pt → List AVal → Option (List Lf)
  | [], [] => some []
  | p :: ps, v :: vs => (match p.dec v, decL ps vs with | some a, some b => some (a ++ b) | _, _ => none)
  | _, _ => none
end
theorem bif_some {α : Type} {c : Bool} {a b : α} (h : (bif c then some a else none) = some b) : c = true ∧ a = b := by cases c <;> simp at h ⊢; exact h
theorem bif_opt {α : Type} {c : Bool} {a : Option α} {b : α} (h : (bif c then a else none) = some b) : c = true ∧ a = some b := by cases c <;> simp at h ⊢; exact h
mutual
theorem Pt.enc_of : ∀ {p : Pt} {v : AVal} {ls : List Lf}, p.dec v = some ls → ∀ r, p.enc (ls ++ r) = (v, r)
  | .bool, v, ls, h, r => by cases v <;> simp [Pt.dec] at h; subst h; rfl
  | .int k, v, ls, h, r => by
    cases v <;> simp only [Pt.dec, reduceCtorEq] at h
    obtain ⟨h1, rfl⟩ := bif_some h
    cases of_decide_eq_true h1; rfl
  | .str, v, ls, h, r => by cases v <;> simp [Pt.dec] at h; subst h; rfl
  | .ro t sz, v, ls, h, r => by
    cases v <;> simp only [Pt.dec, reduceCtorEq] at h
    obtain ⟨h1, rfl⟩ := bif_some h
    simp only [Bool.and_eq_true, beq_iff_eq] at h1
    obtain ⟨rfl, h1⟩ := h1
    rw [← Nat.eq_of_beq_eq_true h1]; rfl
  | .own sz, v, ls, h, r => by
    cases v <;> simp only [Pt.dec, reduceCtorEq] at h
    obtain ⟨h1, rfl⟩ := bif_some h
    rw [← Nat.eq_of_beq_eq_true h1]; rfl
  | .und, v, ls, h, r => by cases v <;> simp [Pt.dec] at h; subst h; rfl
  | .nilp, v, ls, h, r => by cases v <;> simp [Pt.dec] at h; subst h; rfl
  | .nils sz, v, ls, h, r => by
    cases v <;> simp only [Pt.dec, reduceCtorEq] at h
    obtain ⟨h1, rfl⟩ := bif_some h
    rw [← Nat.eq_of_beq_eq_true h1]; rfl
  | .ptr K p o, v, ls, h, r => by
    cases v <;> simp only [Pt.dec, reduceCtorEq] at h
    obtain ⟨h1, h⟩ := bif_opt h
    simp only [Bool.and_eq_true] at h1
    rw [← Nat.eq_of_beq_eq_true h1.1, ← eqO_eq h1.2]
    simp only [Pt.enc, encP_of h r]
  | .ref K p, v, ls, h, r => by
    cases v <;> simp only [Pt.dec, reduceCtorEq] at h
    obtain ⟨h1, h⟩ := bif_opt h
    rw [← Nat.eq_of_beq_eq_true h1]
    simp only [Pt.enc, encP_of h r]
  | .rop o, v, ls, h, r => by
    cases v <;> simp only [Pt.dec, reduceCtorEq] at h
    obtain ⟨h1, rfl⟩ := bif_some h
    rw [← eqO_eq h1]; rfl
  | .agg ps, v, ls, h, r => by
    cases v <;> simp only [Pt.dec, reduceCtorEq] at h
    simp only [Pt.enc, encL_of h r]
  | .tup ps, v, ls, h, r => by
    cases v <;> simp only [Pt.dec, reduceCtorEq] at h
    simp only [Pt.enc, encL_of h r]
  | .clo f ps, v, ls, h, r => by
    cases v <;> simp only [Pt.dec, reduceCtorEq] at h
    obtain ⟨h1, h⟩ := bif_opt h
    rw [← Nat.eq_of_beq_eq_true h1]
    simp only [Pt.enc, encL_of h r]
theorem encL_of : ∀ {ps : List Pt} {vs : List AVal} {ls : List Lf}, decL ps vs = some ls → ∀ r, encL ps (ls ++ r) = (vs, r)
  | [], [], ls, h, r => by simp only [decL, Option.some.injEq] at h; subst h; rfl
  | [], _ :: _, ls, h, r => by simp [decL] at h
  | _ :: _, [], ls, h, r => by simp [decL] at h
  | p :: ps, v :: vs, ls, h, r => by
    simp only [decL] at h
    split at h
    · rename_i a b h1 h2
      cases h
      simp only [encL, List.append_assoc, Pt.enc_of h1, encL_of h2]
    · cases h
end
/-! What is handed over, and what comes back -/
def kindsO : List (Bool × Pt) → List Kd
  | [] => []
  | (_, p) :: r => p.kinds ++ kindsO r
def encO : List (Bool × Pt) → List Lf → List VObj × List Lf
  | [], r => ([], r)
  | (b, p) :: ps, r => match p.enc r with | (v, q) => match encO ps q with | (vs, z) => ({ box := b, c := v } :: vs, z)
def decO : List (Bool × Pt) → List VObj → Option (List Lf)
  | [], [] => some []
  | (b, p) :: ps, o :: os => bif b == o.box then (match p.dec o.c, decO ps os with | some x, some y => some (x ++ y) | _, _ => none) else none
  | _, _ => none
theorem encO_of : ∀ {ps : List (Bool × Pt)} {vs : List VObj} {ls : List Lf}, decO ps vs = some ls → ∀ r, encO ps (ls ++ r) = (vs, r)
  | [], [], ls, h, r => by simp only [decO, Option.some.injEq] at h; subst h; rfl
  | [], _ :: _, ls, h, r => by simp [decO] at h
  | _ :: _, [], ls, h, r => by simp [decO] at h
  | (b, p) :: ps, o :: os, ls, h, r => by
    simp only [decO] at h
    obtain ⟨hb, h⟩ := bif_opt h
    have hb : b = o.box := by simpa using hb
    split at h
    · rename_i x y h1 h2
      cases h
      simp only [encO, List.append_assoc, Pt.enc_of h1, encO_of h2, hb]
    · cases h
structure IOP where
  vs : List Pt
  os : List (Bool × Pt) := []
def IOP.kinds (S : IOP) : List Kd := kindsL S.vs ++ kindsO S.os
def IOP.enc (S : IOP) (x : TyK S.kinds) : List AVal × List VObj :=
  match encL S.vs (lfs S.kinds x) with | (vs, r) => (vs, (encO S.os r).1)
def IOP.dec (S : IOP) (x : List AVal × List VObj) : Option (TyK S.kinds) :=
  match decL S.vs x.1, decO S.os x.2 with | some a, some b => ofLfs S.kinds (a ++ b) | _, _ => none
theorem IOP.enc_of {S : IOP} {x : List AVal × List VObj} {y : TyK S.kinds} (h : S.dec x = some y) : S.enc y = x := by
  simp only [IOP.dec] at h
  split at h
  · rename_i a b h1 h2
    simp only [IOP.enc, lfs_of _ _ _ h, encL_of h1]
    have := encO_of h2 []
    rw [List.append_nil] at this
    rw [this]
  · cases h
/-! States -/
def kindsE : List (Nat × Pt) → List Kd
  | [] => []
  | (_, p) :: r => p.kinds ++ kindsE r
def encE : List (Nat × Pt) → List Lf → List (Nat × AVal) × List Lf
  | [], r => ([], r)
  | (t, p) :: ps, r => match p.enc r with | (v, q) => match encE ps q with | (vs, z) => ((t, v) :: vs, z)
def decE : List (Nat × Pt) → List (Nat × AVal) → Option (List Lf)
  | [], [] => some []
  | (t, p) :: ps, (u, v) :: vs => bif Nat.beq t u then (match p.dec v, decE ps vs with | some x, some y => some (x ++ y) | _, _ => none) else none
  | _, _ => none
theorem encE_of : ∀ {ps : List (Nat × Pt)} {vs : List (Nat × AVal)} {ls : List Lf}, decE ps vs = some ls → ∀ r, encE ps (ls ++ r) = (vs, r)
  | [], [], ls, h, r => by simp only [decE, Option.some.injEq] at h; subst h; rfl
  | [], _ :: _, ls, h, r => by simp [decE] at h
  | _ :: _, [], ls, h, r => by simp [decE] at h
  | (t, p) :: ps, (u, v) :: os, ls, h, r => by
    simp only [decE] at h
    obtain ⟨hb, h⟩ := bif_opt h
    have hb := Nat.eq_of_beq_eq_true hb
    split at h
    · rename_i x y h1 h2
      cases h
      simp only [encE, List.append_assoc, Pt.enc_of h1, encE_of h2, hb]
    · cases h
def kindsS : List (Nat × Bool × Pt) → List Kd
  | [] => []
  | (_, _, p) :: r => p.kinds ++ kindsS r
def encS : List (Nat × Bool × Pt) → List Lf → List (Nat × VObj) × List Lf
  | [], r => ([], r)
  | (t, b, p) :: ps, r => match p.enc r with | (v, q) => match encS ps q with | (vs, z) => ((t, { box := b, c := v }) :: vs, z)
def decS : List (Nat × Bool × Pt) → List (Nat × VObj) → Option (List Lf)
  | [], [] => some []
  | (t, b, p) :: ps, (u, o) :: vs => bif Nat.beq t u && (b == o.box) then (match p.dec o.c, decS ps vs with | some x, some y => some (x ++ y) | _, _ => none) else none
  | _, _ => none
theorem encS_of : ∀ {ps : List (Nat × Bool × Pt)} {vs : List (Nat × VObj)} {ls : List Lf}, decS ps vs = some ls → ∀ r, encS ps (ls ++ r) = (vs, r)
  | [], [], ls, h, r => by simp only [decS, Option.some.injEq] at h; subst h; rfl
  | [], _ :: _, ls, h, r => by simp [decS] at h
  | _ :: _, [], ls, h, r => by simp [decS] at h
  | (t, b, p) :: ps, (u, o) :: os, ls, h, r => by
    simp only [decS] at h
    obtain ⟨hb, h⟩ := bif_opt h
    simp only [Bool.and_eq_true, beq_iff_eq] at hb
    have hu := Nat.eq_of_beq_eq_true hb.1
    split at h
    · rename_i x y h1 h2
      cases h
      simp only [encS, List.append_assoc, Pt.enc_of h1, encS_of h2, hu, hb.2]
    · cases h
structure SP where
  env : List (Nat × Pt)
  objs : List (Nat × Bool × Pt) := []
def SP.kinds (S : SP) : List Kd := kindsE S.env ++ kindsS S.objs
def SP.enc (S : SP) (x : TyK S.kinds) : St :=
  match encE S.env (lfs S.kinds x) with | (e, r) => { env := e, objs := (encS S.objs r).1 }
def nilQ : List Nat → Bool | [] => true | _ => false
def SP.dec (S : SP) (s : St) : Option (TyK S.kinds) :=
  bif nilQ s.ka && (nilQ s.ki && nilQ s.kr) then (match decE S.env s.env, decS S.objs s.objs with | some a, some b => ofLfs S.kinds (a ++ b) | _, _ => none) else none
theorem SP.enc_of {S : SP} {s : St} {y : TyK S.kinds} (h : S.dec s = some y) : S.enc y = s := by
  simp only [SP.dec] at h
  have hb := bif_opt h
  clear h
  obtain ⟨h0, hd⟩ := hb
  obtain ⟨env, objs, ka, ki, kr⟩ := s
  simp only [Bool.and_eq_true] at h0 hd
  obtain ⟨q1, q2, q3⟩ := h0
  cases ka <;> cases ki <;> cases kr <;> simp [nilQ] at q1 q2 q3
  cases h1 : decE S.env env with
  | none => simp only [h1] at hd; cases hd
  | some a =>
    cases h2 : decS S.objs objs with
    | none => simp only [h1, h2] at hd; cases hd
    | some b =>
      simp only [h1, h2] at hd
      simp only [SP.enc, lfs_of _ _ _ hd, encE_of h1]
      have := encS_of h2 []
      rw [List.append_nil] at this
      rw [this]
/-! Ends of loops -/
structure Ex where
  out : Out
  st : SP
def eqOut : Out → Out → Bool
  | .normal, .normal => true
  | .exit a, .exit b => Nat.beq a b
  | .ret, .ret => true
  | _, _ => false
theorem eqOut_eq {a b : Out} (h : eqOut a b = true) : a = b := by
  cases a <;> cases b <;> simp [eqOut] at h ⊢; exact h
def Ex.dec (e : Ex) (x : Out × St) : Option (TyK e.st.kinds) := bif eqOut e.out x.1 then e.st.dec x.2 else none
def Ex.enc (e : Ex) (y : TyK e.st.kinds) : Out × St := (e.out, e.st.enc y)
theorem Ex.enc_of {e : Ex} {x : Out × St} {y : TyK e.st.kinds} (h : e.dec x = some y) : e.enc y = x := by
  obtain ⟨h1, h2⟩ := bif_opt h
  simp only [Ex.enc, SP.enc_of h2, eqOut_eq h1]
def TyX : List Ex → Type
  | [] => Empty
  | [e] => TyK e.st.kinds
  | e :: f :: r => TyK e.st.kinds ⊕ TyX (f :: r)
def decX : (X : List Ex) → Out × St → Option (TyX X)
  | [], _ => none
  | [e], x => e.dec x
  | e :: f :: r, x => match e.dec x with
    | some a => some (.inl a)
    | none => (match decX (f :: r) x with | some b => some (.inr b) | none => none)
/-- what follows the loop, for each end -/
def elimX {R : Type} : (X : List Ex) → (Out × St → Option R) → TyX X → Option R
  | [], _, _ => none
  | [e], k, y => k (e.enc y)
  | e :: f :: r, k, y => Sum.elim (fun a => k (e.enc a)) (elimX (f :: r) k) y
theorem elimX_of {R : Type} {k : Out × St → Option R} {r : R} : ∀ {X : List Ex} {x : Out × St} {y : TyX X}, decX X x = some y → elimX X k y = some r → k x = some r
  | [], x, y, h, _ => by simp [decX] at h
  | [e], x, y, h, h2 => by
    simp only [decX] at h
    simp only [elimX, Ex.enc_of h] at h2
    exact h2
  | e :: f :: q, x, y, h, h2 => by
    simp only [decX] at h
    split at h
    · rename_i a h1
      cases h
      simp only [elimX, Sum.elim_inl, Ex.enc_of h1] at h2
      exact h2
    · split at h
      · rename_i b h3
        cases h
        simp only [elimX, Sum.elim_inr] at h2
        exact elimX_of h3 h2
      · cases h
/-- a value that has a name in what follows -/
def Bnd {α β : Type} (v : α) (k : α → β) : β := k v
theorem bnd_eq {α β : Type} (v : α) (k : α → β) : Bnd v k = k v := rfl
end Go.VK

namespace Go.VK
open AVal

/-! Functions and loops, by what is open in their shapes -/
structure Sig where
  i : IOP
  o : IOP
open Classical in
noncomputable def FnV (Φ : Ctx) (f : Nat) (S : Sig) (x : TyK S.i.kinds) : Option (TyK S.o.kinds) :=
  if h : ∃ r, Ev Φ f (S.i.enc x).1 (S.i.enc x).2 r then S.o.dec h.choose else none
open Classical in
noncomputable def LpV (Φ : Ctx) (fn : FnI) (np h : Nat) (X : List Ex) (S : SP) (x : TyK S.kinds) : Option (TyX X) :=
  if h : ∃ r, LEv Φ fn np h (S.enc x) r then decX X h.choose else none
section
variable {Φ : Ctx} {fn : FnI} {np : Nat}
theorem Ev.det {f : Nat} {a : List AVal} {o : List VObj} {r q : List AVal × List VObj} (h : Ev Φ f a o r) (k : Ev Φ f a o q) : r = q := by
  obtain ⟨k0, h⟩ := h
  obtain ⟨k1, k⟩ := k
  have := (h (max k0 k1) (by omega)).symm.trans (k (max k0 k1) (by omega))
  exact Option.some.inj this
theorem LEv.det {h : Nat} {s : St} {r q : Out × St} (a : LEv Φ fn np h s r) (b : LEv Φ fn np h s q) : r = q := by
  obtain ⟨k0, a⟩ := a
  obtain ⟨k1, b⟩ := b
  have := (a (max k0 k1) (max k0 k1) (by omega) (by omega)).symm.trans (b (max k0 k1) (max k0 k1) (by omega) (by omega))
  exact Option.some.inj this
theorem fn_ev {f : Nat} {S : Sig} {x : TyK S.i.kinds} {y : TyK S.o.kinds} (h : FnV Φ f S x = some y) : Ev Φ f (S.i.enc x).1 (S.i.enc x).2 (S.o.enc y) := by
  unfold FnV at h
  split at h
  · rename_i g
    rw [IOP.enc_of h]; exact g.choose_spec
  · cases h
theorem fn_intro {f : Nat} {S : Sig} {x : TyK S.i.kinds} {y : TyK S.o.kinds} {r : List AVal × List VObj} (h : Ev Φ f (S.i.enc x).1 (S.i.enc x).2 r) (hd : S.o.dec r = some y) : FnV Φ f S x = some y := by
  unfold FnV
  have g : ∃ r, Ev Φ f (S.i.enc x).1 (S.i.enc x).2 r := ⟨r, h⟩
  rw [dif_pos g, g.choose_spec.det h, hd]
theorem lp_some {h : Nat} {X : List Ex} {S : SP} {x : TyK S.kinds} {y : TyX X} (a : LpV Φ fn np h X S x = some y) : ∃ r, LEv Φ fn np h (S.enc x) r ∧ decX X r = some y := by
  unfold LpV at a
  split at a
  · rename_i g
    exact ⟨_, g.choose_spec, a⟩
  · cases a
theorem lp_intro {h : Nat} {X : List Ex} {S : SP} {x : TyK S.kinds} {y : TyX X} {r : Out × St} (a : LEv Φ fn np h (S.enc x) r) (hd : decX X r = some y) : LpV Φ fn np h X S x = some y := by
  unfold LpV
  have g : ∃ r, LEv Φ fn np h (S.enc x) r := ⟨r, a⟩
  rw [dif_pos g, g.choose_spec.det a, hd]
end
noncomputable def CC {T : Type} (Φ : Ctx) : List (Nat × Sig) → Nat → List AVal → List VObj → (List AVal × List VObj → Option T) → Option T
  | [], _, _, _, _ => none
  | (g, S) :: l, f, a, o, k => bif Nat.beq g f then (match S.i.dec (a, o) with
    | some x => (FnV Φ g S x).bind fun y => k (S.o.enc y)
    | none => CC Φ l f a o k) else CC Φ l f a o k
structure LSig where
  h : Nat
  X : List Ex
  Ss : List SP
noncomputable def lookS {T : Type} (Φ : Ctx) (fn : FnI) (np h : Nat) (X : List Ex) : List SP → St → (TyX X → Option T) → Option T
  | [], _, _ => none
  | S :: l, s, k => match S.dec s with | some x => (LpV Φ fn np h X S x).bind k | none => lookS Φ fn np h X l s k
noncomputable def nextS (Φ : Ctx) (fn : FnI) (np h : Nat) (X : List Ex) : List SP → St → Option (TyX X)
  | [], _ => none
  | S :: l, s => match S.dec s with | some x => LpV Φ fn np h X S x | none => nextS Φ fn np h X l s
noncomputable def LL {T : Type} (Φ : Ctx) (fn : FnI) (np : Nat) : List LSig → Nat → St → (Out × St → Option T) → Option T
  | [], _, _, _ => none
  | S :: l, h, s, k => bif Nat.beq S.h h then lookS Φ fn np h S.X S.Ss s (elimX S.X k) else LL Φ fn np l h s k
noncomputable def Sy.val {T : Type} (C : Nat → List AVal → List VObj → (List AVal × List VObj → Option T) → Option T) (L : Nat → St → (Out × St → Option T) → Option T) (t : Sy (Option T)) : Option T :=
  Sy.rec (motive := fun _ => Option T) (fun r => r) (fun _ => none) (fun b _ _ x y => bif b then x else y) (fun f a o _ k => C f a o k) (fun h s _ k => L h s k) (fun _ _ _ => none) t
section
variable {Φ : Ctx} {fn : FnI} {np : Nat} {R T : Type}
theorem cc_some : ∀ {l : List (Nat × Sig)} {f : Nat} {a : List AVal} {o : List VObj} {k : List AVal × List VObj → Option T} {y : T}, CC Φ l f a o k = some y → ∃ x, Ev Φ f a o x ∧ k x = some y
  | [], f, a, o, k, y, h => by simp [CC] at h
  | (g, S) :: l, f, a, o, k, y, h => by
    simp only [CC, Bool.cond_eq_ite] at h
    split at h
    · rename_i hb
      have hb := Nat.eq_of_beq_eq_true hb
      subst hb
      split at h
      · rename_i x hx
        obtain ⟨z, h1, h2⟩ := Option.bind_eq_some_iff.1 h
        have := fn_ev h1
        rw [IOP.enc_of hx] at this
        exact ⟨_, this, h2⟩
      · exact cc_some h
    · exact cc_some h
theorem lookS_some {h : Nat} {X : List Ex} {k : TyX X → Option T} {y : T} : ∀ {l : List SP} {s : St}, lookS Φ fn np h X l s k = some y → ∃ x z, LEv Φ fn np h s x ∧ decX X x = some z ∧ k z = some y
  | [], s, a => by simp [lookS] at a
  | S :: l, s, a => by
    simp only [lookS] at a
    split at a
    · rename_i x hx
      obtain ⟨z, h1, h2⟩ := Option.bind_eq_some_iff.1 a
      obtain ⟨r, h3, h4⟩ := lp_some h1
      rw [SP.enc_of hx] at h3
      exact ⟨r, z, h3, h4, h2⟩
    · exact lookS_some a
theorem nextS_some {h : Nat} {X : List Ex} {y : TyX X} : ∀ {l : List SP} {s : St}, nextS Φ fn np h X l s = some y → ∃ x, LEv Φ fn np h s x ∧ decX X x = some y
  | [], s, a => by simp [nextS] at a
  | S :: l, s, a => by
    simp only [nextS] at a
    split at a
    · rename_i x hx
      obtain ⟨r, h3, h4⟩ := lp_some a
      rw [SP.enc_of hx] at h3
      exact ⟨r, h3, h4⟩
    · exact nextS_some a
theorem ll_some : ∀ {l : List LSig} {h : Nat} {s : St} {k : Out × St → Option T} {y : T}, LL Φ fn np l h s k = some y → ∃ x, LEv Φ fn np h s x ∧ k x = some y
  | [], h, s, k, y, a => by simp [LL] at a
  | S :: l, h, s, k, y, a => by
    simp only [LL, Bool.cond_eq_ite] at a
    split at a
    · obtain ⟨x, z, h1, h2, h3⟩ := lookS_some a
      exact ⟨x, h1, elimX_of h2 h3⟩
    · exact ll_some a
variable (Φ fn np) in
def RelV (C : Nat → List AVal → List VObj → (List AVal × List VObj → Option T) → Option T) (L : Nat → St → (Out × St → Option T) → Option T) (J : St → Out × St → Prop) (D : R → T → Prop) (t : Sy (Option T)) (u : Sy R) : Prop :=
  ∀ y, t.val C L = some y → ∃ r, D r y ∧ u.to Φ fn np J r
variable {C : Nat → List AVal → List VObj → (List AVal × List VObj → Option T) → Option T} {L : Nat → St → (Out × St → Option T) → Option T} {J : St → Out × St → Prop} {D : R → T → Prop}
theorem rel_fail (n : Nat) (u : Sy R) : RelV Φ fn np C L J D (.fail n) u := fun y h => by cases h
theorem rel_if {b : Bool} {t e : Sy (Option T)} {t' e' : Sy R} (h1 : RelV Φ fn np C L J D t t') (h2 : RelV Φ fn np C L J D e e') : RelV Φ fn np C L J D (.if_ b t e) (.if_ b t' e') := fun y h => by
  cases b with
  | true => obtain ⟨r, g1, g2⟩ := h1 y h; exact ⟨r, g1, fun _ => g2, fun h => (by cases h)⟩
  | false => obtain ⟨r, g1, g2⟩ := h2 y h; exact ⟨r, g1, fun h => (by cases h), fun _ => g2⟩
theorem rel_call (hC : ∀ f a o k y, C f a o k = some y → ∃ x, Ev Φ f a o x ∧ k x = some y) {f : Nat} {a : List AVal} {o : List VObj} {k : List AVal × List VObj → Sy (Option T)} {k' : List AVal × List VObj → Sy R} (h : ∀ x, RelV Φ fn np C L J D (k x) (k' x)) : RelV Φ fn np C L J D (.call f a o k) (.call f a o k') := fun y g => by
  obtain ⟨x, h1, h2⟩ := hC f a o _ y g
  obtain ⟨r, h3, h4⟩ := h x y h2
  exact ⟨r, h3, x, h1, h4⟩
theorem rel_loop (hL : ∀ h s k y, L h s k = some y → ∃ x, LEv Φ fn np h s x ∧ k x = some y) {h : Nat} {s : St} {k : Out × St → Sy (Option T)} {k' : Out × St → Sy R} (H : ∀ x, RelV Φ fn np C L J D (k x) (k' x)) : RelV Φ fn np C L J D (.loop h s k) (.loop h s k') := fun y g => by
  obtain ⟨x, h1, h2⟩ := hL h s _ y g
  obtain ⟨r, h3, h4⟩ := H x y h2
  exact ⟨r, h3, x, h1, h4⟩
theorem rel_bif {b : Bool} {t e : Sy (Option T)} {t' e' : Sy R} (h1 : RelV Φ fn np C L J D t t') (h2 : RelV Φ fn np C L J D e e') : RelV Φ fn np C L J D (bif b then t else e) (bif b then t' else e') := by cases b; exact h2; exact h1
variable (hC : ∀ f a o k y, C f a o k = some y → ∃ x, Ev Φ f a o x ∧ k x = some y) (hL : ∀ h s k y, L h s k = some y → ∃ x, LEv Φ fn np h s x ∧ k x = some y)
include hC in
theorem rel_effK (p : St) (o : Oper) {k : Eff → Sy (Option T)} {k' : Eff → Sy R} (h : ∀ e, RelV Φ fn np C L J D (k e) (k' e)) : RelV Φ fn np C L J D (xeffK Φ p o k) (xeffK Φ p o k') := by
  unfold xeffK
  cases veff Φ p o with
  | some e => exact h e
  | none =>
    cases o.op with
    | call c =>
      dsimp only
      cases vsend Φ p c with
      | none => exact rel_fail _ _
      | some x =>
        refine rel_if (rel_call hC fun r => ?_) (rel_fail _ _)
        try dsimp only
        cases callEff Φ o x r.1 r.2 with
        | none => exact rel_fail _ _
        | some e => exact h e
    | _ => exact rel_fail _ _
include hC in
theorem rel_runOp (o : Oper) (i : Nat) (s : St) {k : St → Done → Sy (Option T)} {k' : St → Done → Sy R} (h : ∀ s d, RelV Φ fn np C L J D (k s d) (k' s d)) : RelV Φ fn np C L J D (xrunOp Φ o i s k) (xrunOp Φ o i s k') := by
  unfold xrunOp
  split
  · split
    · exact rel_bif (h _ _) (rel_fail _ _)
    · exact rel_fail _ _
  · exact rel_effK hC _ _ fun e => rel_if (rel_bif (h _ _) (rel_fail _ _)) (rel_fail _ _)
include hC in
theorem rel_op (ops : Array Oper) (gs : List Nat) (o : Oper) (i : Nat) (s : St) {k : List Nat → St → Done → Sy (Option T)} {k' : List Nat → St → Done → Sy R} (h : ∀ g s d, RelV Φ fn np C L J D (k g s d) (k' g s d)) : RelV Φ fn np C L J D (xop Φ ops gs o i s k) (xop Φ ops gs o i s k') := by
  have hr := fun g s => rel_runOp (R := R) (fn := fn) (np := np) (L := L) (J := J) (D := D) hC o i s (h g)
  have hs : ∀ g s, RelV Φ fn np C L J D (xskipOp o i s (k g)) (xskipOp o i s (k' g)) := fun g s => h _ _ _
  unfold xop
  split
  · exact hr _ _
  · split
    · exact rel_fail _ _
    · split
      all_goals
        first
        | exact rel_bif (rel_bif (rel_bif (hr _ _) (hs _ _)) (rel_bif (hs _ _) (hr _ _))) (rel_if (rel_bif (hr _ _) (hs _ _)) (rel_bif (hs _ _) (hr _ _)))
        | exact hs _ _
        | exact rel_fail _ _
include hC in
theorem rel_ops (ops : Array Oper) : ∀ (l : List Oper) (i : Nat) (gs : List Nat) (s : St) (ds : List Done) {k : St → List Done → Sy (Option T)} {k' : St → List Done → Sy R}, (∀ s d, RelV Φ fn np C L J D (k s d) (k' s d)) → RelV Φ fn np C L J D (xops Φ ops l i gs s ds k) (xops Φ ops l i gs s ds k')
  | [], i, gs, s, ds, k, k', h => h _ _
  | o :: r, i, gs, s, ds, k, k', h => by
    simp only [xops]
    exact rel_op hC ops gs o i s fun g s d => rel_ops ops r _ _ _ _ h
include hC in
theorem rel_region (ops : Array Oper) (draw : Bool) (s : St) {k : St → Sy (Option T)} {k' : St → Sy R} (h : ∀ s, RelV Φ fn np C L J D (k s) (k' s)) : RelV Φ fn np C L J D (xregion Φ ops draw s k) (xregion Φ ops draw s k') := by
  unfold xregion
  exact rel_ops hC ops _ _ _ _ _ fun s d => rel_bif (rel_bif (h _) (rel_fail _ _)) (h _)
include hC hL in
theorem rel_exec : ∀ (c : Code) (h : Nat) (s : St) {k : Out → St → Sy (Option T)} {k' : Out → St → Sy R}, (∀ o s, RelV Φ fn np C L J D (k o s) (k' o s)) → RelV Φ fn np C L J D (xexec Φ fn np c h s k) (xexec Φ fn np c h s k')
  | .skip, h, s, k, k', H => by simp only [xexec]; exact H _ _
  | .region _ ops draw, h, s, k, k', H => by simp only [xexec]; exact rel_region hC ops draw s fun s => H _ _
  | .seq a b, h, s, k, k', H => by
    simp only [xexec]
    refine rel_exec a h s fun o s' => ?_
    cases o with
    | normal => exact rel_exec b _ _ H
    | _ => exact H _ _
  | .cond c a b, h, s, k, k', H => by
    simp only [xexec]
    split
    · exact rel_if (rel_exec a _ _ H) (rel_exec b _ _ H)
    · exact rel_fail _ _
  | .block id a, h, s, k, k', H => by
    simp only [xexec]
    refine rel_exec a h s fun o s' => ?_
    cases o with
    | exit j => exact rel_bif (H _ _) (H _ _)
    | _ => exact H _ _
  | .loop a, h, s, k, k', H => by
    simp only [xexec]
    exact rel_loop hL fun x => H _ _
  | .exit id, h, s, k, k', H => by simp only [xexec]; exact H _ _
  | .scope a, h, s, k, k', H => by simp only [xexec]; exact rel_exec a h s H
  | .label _, h, s, k, k', H => by simp only [xexec]; exact H _ _
  | .ret, h, s, k, k', H => by simp only [xexec]; exact H _ _
  | .rangeFunc _ _ _ _, h, s, k, k', H => by simp only [xexec]; exact rel_fail _ _
  | .goto _, h, s, k, k', H => by simp only [xexec]; exact rel_fail _ _
  | .refuse _, h, s, k, k', H => by simp only [xexec]; exact rel_fail _ _
end
def xcallT (Φ : Ctx) (fn : FnI) (S : Sig) (x : List AVal × List VObj) : Sy (Option (TyK S.o.kinds)) :=
  bif Nat.ble x.1.length fn.nt then (xexec Φ fn x.2.length fn.body 0 { env := numFrom 0 (x.1.map shift), objs := numFrom passBase x.2 }
    fun o s => match o with
      | .exit _ => .fail 14
      | _ => match vret Φ fn x.2.length s with | some r => .ret (S.o.dec r) | none => .fail 15) else .fail 16
noncomputable def xbodyT (Φ : Ctx) (fn : FnI) (np h : Nat) (X : List Ex) (Ss : List SP) (s : St) : Sy (Option (TyX X)) :=
  xexec Φ fn np ((loopAt fn.body 0 h).getD .skip) (h + 1) s fun o s' => match o with
    | .normal => .ret (nextS Φ fn np h X Ss (norm (fn.loops.getD h default).live (fn.loops.getD h default).own np s'))
    | o => .ret (decX X (o, normExit fn np (fn.loops.getD h default) o s'))
section
variable {Φ : Ctx} {fn : FnI} {np : Nat}
/-- a function's answer, from its body's -/
theorem fn_of {cs : List (Nat × Sig)} {ls : List LSig} {f : Nat} {S : Sig} {x : TyK S.i.kinds} {y : TyK S.o.kinds} (hf : lk Φ.fns f = some fn) (hp : S.i.os.length = np)
    (h : (xcallT Φ fn S (S.i.enc x)).val (CC Φ cs) (LL Φ fn np ls) = some y) : FnV Φ f S x = some y := by
  have hlen : (S.i.enc x).2.length = np := by
    rw [← hp]
    have : ∀ (ps : List (Bool × Pt)) (r : List Lf), (encO ps r).1.length = ps.length := by
      intro ps
      induction ps with
      | nil => intro r; rfl
      | cons p ps ih => intro r; simp [encO, ih]
    exact this _ _
  have key : RelV Φ fn np (CC Φ cs) (LL Φ fn np ls) (fun _ _ => False) (fun r y => S.o.dec r = some y) (xcallT Φ fn S (S.i.enc x)) (xcall Φ fn (S.i.enc x).1 (S.i.enc x).2) := by
    unfold xcallT xcall
    rw [hlen]
    refine rel_bif (rel_exec (fun f a o k y => cc_some) (fun h s k y => ll_some) _ _ _ fun o s => ?_) (rel_fail _ _)
    have hret : RelV Φ fn np (CC Φ cs) (LL Φ fn np ls) (fun _ _ => False) (fun r y => S.o.dec r = some y) (match vret Φ fn np s with | some r => .ret (S.o.dec r) | none => .fail 15) (match vret Φ fn np s with | some r => .ret r | none => .fail 15) := by
      cases vret Φ fn np s with
      | none => exact rel_fail _ _
      | some r => exact fun y h => ⟨r, h, rfl⟩
    cases o with
    | exit _ => exact rel_fail _ _
    | _ => exact hret
  obtain ⟨r, h1, h2⟩ := key y h
  rw [← hlen] at h2
  exact fn_intro (ev_of hf rfl h2) h1
/-- a loop's end, from its body's -/
theorem lp_of {cs : List (Nat × Sig)} {ls : List LSig} {h : Nat} {X : List Ex} {Ss : List SP} {S : SP} {x : TyK S.kinds} {y : TyX X} (ha : (loopAt fn.body 0 h).isSome = true)
    (H : (xbodyT Φ fn np h X Ss (S.enc x)).val (CC Φ cs) (LL Φ fn np ls) = some y) : LpV Φ fn np h X S x = some y := by
  obtain ⟨a, ha⟩ := Option.isSome_iff_exists.1 ha
  have key : RelV Φ fn np (CC Φ cs) (LL Φ fn np ls) (LEv Φ fn np h) (fun r y => decX X r = some y) (xbodyT Φ fn np h X Ss (S.enc x)) (xbody Φ fn np a h (S.enc x)) := by
    unfold xbodyT xbody
    rw [ha]
    refine rel_exec (fun f a o k y => cc_some) (fun h s k y => ll_some) _ _ _ fun o s => ?_
    cases o with
    | normal =>
      intro y g
      obtain ⟨r, h1, h2⟩ := nextS_some (show nextS Φ fn np h X Ss _ = some y from g)
      exact ⟨r, h2, r, h1, rfl⟩
    | _ => exact fun y g => ⟨_, g, rfl⟩
  obtain ⟨r, h1, h2⟩ := key y H
  exact lp_intro (lev_of ha rfl h2) h1
end
end Go.VK

namespace Go.VK
open AVal
section
variable {Φ : Ctx} {t : Nat} {x : AVal}
def strQ (Φ : Ctx) (t : Nat) : Bool := match Φ.ti t with | some T => !T.agg && (match T.cts with | [.str] => true | _ => false) | none => false
def boolQ (Φ : Ctx) (t : Nat) : Bool := match Φ.ti t with | some T => !T.agg && (match T.cts with | [.bool] => true | _ => false) | none => false
def intQ (Φ : Ctx) (t : Nat) (k : IntKind) : Bool := match Φ.ti t with | some T => !T.agg && (match T.cts with | [.int j] => decide (k = j) | _ => false) | none => false
def sliceQ (Φ : Ctx) (t sz e : Nat) : Bool := match Φ.ti t with | some T => !T.agg && ((match T.cts with | [.slice z] => Nat.beq z sz | _ => false) && eqO T.elem (some e)) | none => false
def structQ (Φ : Ctx) (t : Nat) (us : List Nat) : Bool := match Φ.ti t with | some T => T.agg && eqN (T.offs.map (·.2)) us | none => false
theorem Fits.str' (h : Fits Φ t x) (hq : strQ Φ t = true) : ∃ s, x = .str s ∧ s.size ≤ maxLen := by
  unfold strQ at hq
  cases h with
  | str h1 h2 h3 h4 => exact ⟨_, rfl, h4⟩
  | struct h1 h2 h3 h4 => rw [h1] at hq; simp [h2] at hq
  | _ h1 h2 h3 => rw [h1] at hq; simp [h2, h3] at hq
theorem Fits.bool' (h : Fits Φ t x) (hq : boolQ Φ t = true) : ∃ b, x = .bool b := by
  unfold boolQ at hq
  cases h with
  | bool h1 h2 h3 => exact ⟨_, rfl⟩
  | struct h1 h2 h3 h4 => rw [h1] at hq; simp [h2] at hq
  | _ h1 h2 h3 => rw [h1] at hq; simp [h2, h3] at hq
theorem Fits.int' {k : IntKind} (h : Fits Φ t x) (hq : intQ Φ t k = true) : ∃ n, x = .int k n ∧ (Lit.int k n).wf = true := by
  unfold intQ at hq
  cases h with
  | int h1 h2 h3 h4 =>
    rw [h1] at hq
    simp only [h2, h3, Bool.not_false, Bool.true_and, decide_eq_true_eq] at hq
    subst hq
    exact ⟨_, rfl, h4⟩
  | struct h1 h2 h3 h4 => rw [h1] at hq; simp [h2] at hq
  | _ h1 h2 h3 => rw [h1] at hq; simp [h2, h3] at hq
theorem Fits.slice' {sz e : Nat} (h : Fits Φ t x) (hq : sliceQ Φ t sz e = true) : ∃ xs, x = .ro false sz xs ∧ xs.length ≤ maxLen ∧ ∀ y ∈ xs, Fits Φ e y := by
  unfold sliceQ at hq
  cases h with
  | slice h1 h2 h3 h4 h5 h6 =>
    rw [h1] at hq
    simp only [h2, h3, h4, Bool.not_false, Bool.true_and, Bool.and_eq_true] at hq
    rw [Nat.eq_of_beq_eq_true hq.1]
    have := eqO_eq hq.2
    cases this
    exact ⟨_, rfl, h5, h6⟩
  | struct h1 h2 h3 h4 => rw [h1] at hq; simp [h2] at hq
  | _ h1 h2 h3 => rw [h1] at hq; simp [h2, h3] at hq
theorem fitsL_of : ∀ {us : List Nat} {fs : List AVal}, fs.length = us.length → (∀ (i u : Nat) (y : AVal), us[i]? = some u → fs[i]? = some y → Fits Φ u y) → FitsL Φ us fs
  | [], [], _, _ => .nil
  | [], _ :: _, h, _ => by simp at h
  | _ :: _, [], h, _ => by simp at h
  | u :: us, f :: fs, h, H => .cons (H 0 u f rfl rfl) (fitsL_of (by simpa using h) fun i u y a b => H (i + 1) u y (by simpa using a) (by simpa using b))
theorem Fits.struct' {us : List Nat} (h : Fits Φ t x) (hq : structQ Φ t us = true) : ∃ fs : List AVal, x = .agg (fs.flatMap AVal.cells) ∧ FitsL Φ us fs := by
  unfold structQ at hq
  cases h with
  | struct h1 h2 h3 h4 =>
    rw [h1] at hq
    simp only [Bool.and_eq_true] at hq
    have := eqN_eq hq.2
    subst this
    refine ⟨_, rfl, fitsL_of (by simpa using h3) fun i u y a b => ?_⟩
    rw [List.getElem?_map] at a
    simp only [Option.map_eq_some_iff] at a
    obtain ⟨⟨o, u'⟩, a1, rfl⟩ := a
    exact h4 i o u' y a1 b
  | _ h1 h2 h3 => rw [h1] at hq; simp [h2] at hq
theorem FitsL.cons' {ts : List Nat} {xs : List AVal} (h : FitsL Φ (t :: ts) xs) : ∃ x r, xs = x :: r ∧ Fits Φ t x ∧ FitsL Φ ts r := by
  cases h with | cons h1 h2 => exact ⟨_, _, rfl, h1, h2⟩
theorem FitsL.nil' {xs : List AVal} (h : FitsL Φ [] xs) : xs = [] := by cases h; rfl
/-- a law's answer, for the row -/
theorem law_of {f : Nat} {S : Sig} {a : TyK S.i.kinds} {y : TyK S.o.kinds} {xs : List AVal} (h : FnV Φ f S a = some y) (h1 : S.i.enc a = (xs, [])) (h2 : S.o.enc y = ([.bool true], [])) : ∃ k, vcall Φ k f xs [] = some ([.bool true], []) := by
  obtain ⟨k, hk⟩ := fn_ev h
  rw [h1, h2] at hk
  exact ⟨k, hk k (Nat.le_refl _)⟩
end
end Go.VK

