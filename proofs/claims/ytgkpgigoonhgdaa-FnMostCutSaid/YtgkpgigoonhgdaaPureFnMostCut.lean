/- The maximum flow equals the capacity of one cut; no cut has less capacity, and no flow is greater. -/
import Derived.Test.YtgkpgigoonhgdaaPFnMostCutx
import Derived.Test.YtgkpgigoonhgdaaMBase
import Derived.Test.YtgkpgigoonhgdaaMDraw
import Derived.Test.YtgkpgigoonhgdaaMLists
import Derived.Test.YtgkpgigoonhgdaaMNet
import Derived.Test.YtgkpgigoonhgdaaMCut
import Derived.Test.YtgkpgigoonhgdaaMDist
import Derived.Test.YtgkpgigoonhgdaaQFnMostCutAll0
namespace Go.Proofs.Ytgkpgigoonhgdaa.Pure
open Go.RowKit Go.Proofs.Ytgkpgigoonhgdaa.PFnMostCut Go.Proofs.YtgkpgigoonhgdaaW.PrintWords Go.Proofs.YtgkpgigoonhgdaaW.PrintLast Go.Proofs.YtgkpgigoonhgdaaW.PrintMore Go.Proofs.Ytgkpgigoonhgdaa.MBase Go.Proofs.Ytgkpgigoonhgdaa.MDraw Go.Proofs.Ytgkpgigoonhgdaa.MLists Go.Proofs.Ytgkpgigoonhgdaa.MNet Go.Proofs.Ytgkpgigoonhgdaa.MCut Go.Proofs.Ytgkpgigoonhgdaa.MDist Go.Proofs.Ytgkpgigoonhgdaa.QFnMostCut
set_option linter.unusedVariables false
set_option linter.unusedSimpArgs false

theorem sameBools_l0 (xs : List Bool) (hx : xs.length ≤ 1099511627776) (d : Nat) : ∀ i : Int,0 ≤ i → i + d = xs.length → Ev (fun k=>laws_sameBools.l0 k xs xs i) true:=by
  induction d with
  | zero => intro i h0 h; exact Ev.step (f := fun _ => some true) (fun k => by rw [laws_sameBools.l0, if_neg (by omega)]) (Ev.now _)
  | succ d ih =>
    intro i h0 h
    refine Ev.step (fun k=>by rw [laws_sameBools.l0,if_pos (by omega),if_pos h0,if_pos (by omega),bne_self_eq_false,if_neg (by simp),w64 (by omega) (by omega)]) (ih (i + 1) (by omega) (by omega))

theorem sameBools_same (xs : List Bool) (hx : xs.length ≤ 1099511627776) : Ev (fun k=>laws_sameBools.f k xs xs) true :=
  Ev.congr (fun k=>by unfold laws_sameBools.f;rw [if_pos rfl]) (sameBools_l0 xs hx xs.length 0 (by omega) (by omega))

theorem drawCut_l0 (b : List Int) (hb : b.length ≤ maxLen) (n : Int) (n15 : n ≤ 1500) (l : List S67) (m : Nat) : ∀ (j : Nat) (side : List Bool) (i h : Int),(j : Int) + m = n → side.length = j → 2 ≤ j → 0 ≤ i → side.getD 0 false = true → side.getD 1 false = false →
    ∃ s : List Bool,(s.length : Int) = n ∧ s.getD 0 false = true ∧ s.getD 1 false = false ∧ Ev (fun k=>spec_DrawCut.l0 k side j b i h n l) (n,l,s):=by
  induction m with
  | zero =>
    intro j side i h hj hs _ _ z0 z1
    exact ⟨side,by omega,z0,z1,Ev.step (f:=fun _=>some (n,l,side)) (fun k=>by rw [spec_DrawCut.l0,if_neg (by omega)]) (Ev.now _)⟩
  | succ m ih =>
    intro j side i h hj hs h2 hi z0 z1
    obtain ⟨x,i1,h1,e,_,_,_,hi1⟩:=below_ok b hb i h hi 2
    have hw : wrap64 ((j : Int) + 1) = ((j + 1 : Nat) : Int):=by rw [w64 (by omega) (by omega)];omega
    have keep : ∀ (t : Bool) (q : Nat),q < j → (side ++ [t]).getD q false = side.getD q false:=fun t q hq=>by
      rw [List.getD_eq_getElem?_getD,List.getD_eq_getElem?_getD,List.getElem?_append_left (by omega)]
    obtain ⟨s,q1,q2,q3,q4⟩:=ih (j + 1) (side ++ [(x == 0)]) i1 h1 (by omega) (by rw [List.length_append,List.length_singleton];omega) (by omega) hi1 (by rw [keep _ 0 (by omega)];exact z0) (by rw [keep _ 1 (by omega)];exact z1)
    have eo : spec_l01Once.f b i h 2 = some ((x == 0),i1,h1):=by unfold spec_l01Once.f;rw [e];rfl
    have hc : side.length < 140737488355328:=by omega
    have hlt : (j : Int) < n:=by omega
    exact ⟨s,q1,q2,q3,Ev.step (fun k=>by rw [spec_DrawCut.l0,if_pos hlt,eo,Option.bind_some,if_pos hc,hw]) q4⟩

theorem cut_small {n : Int} {l : List Arc} (hn : NetOk n l) (hl : l.length ≤ 18) (s : Nat → Bool) : cutS l s l.length ≤ 360:=by
  have h:=sumTo_bound (n:=l.length) (f:=fun i=>if s (at_ l i).u.toNat = true ∧ s (at_ l i).v.toNat = false then (at_ l i).r else 0) (B:=20) (by omega) (fun i hi=>by
    have b:=(hn.2 i hi).2.2.2.2.2
    split <;> omega)
  unfold cutS
  omega

theorem FnMostCut : laws_FnMostCut.Pure:=by
  intro b hb _ _
  by_cases hbig : (b.length : Int) > 1048576
  · exact ⟨0,by unfold laws_FnMostCut.f laws_big.f;rw [Option.bind_some,if_pos (decide_eq_true hbig)]⟩
  obtain ⟨h0,e0⟩:=new_ev b
  obtain ⟨n,L,i1,h1,hn,hL,hi1,e1⟩:=right06_ev b hb 0 h0 (Int.le_refl _)
  have n2:=hn.1.1
  have n15:=hn.1.2.1
  have hL2 : L.length ≤ 1048576:=by omega
  have hLa : (arcs L).length ≤ 18:=by rw [arcs_len];exact hL
  -- the drawn cut
  obtain ⟨side,sl,s0,s1,ec⟩:=drawCut_l0 b hb n n15 L (n - 2).toNat 2 [true,false] i1 h1 (by omega) rfl (Nat.le_refl _) hi1 rfl rfl
  have hcut : Ev (fun k=>spec_DrawCut.f k b) (n,L,side):=Ev.bind e0 (Ev.bind e1 ec)
  -- the drawn flow
  obtain ⟨x,i2,h2,e2,x0,x1,_,hi2⟩:=below_ok b hb i1 h1 hi1 9
  have hx:=x1 (by omega)
  obtain ⟨f,e3,pf⟩:=pushed_ev hn hL2 x x0 (by omega)
  have hpush : Ev (fun k=>spec_DrawPushed.f k b) (n,L,f):=Ev.bind e0 (Ev.bind e1 (Ev.congr (fun k=>by dsimp only;rw [e2,Option.bind_some]) (Ev.bind e3 (Ev.now _))))
  -- the greatest flow
  obtain ⟨full,e4,pfull⟩:=pushed_ev hn hL2 1000 (by omega) (by omega)
  have hfull : Ev (fun k=>spec_DrawMost.f k b) full:=Ev.bind e0 (Ev.bind e1 (Ev.bind e4 (Ev.now _)))
  obtain ⟨m,r,emost,hM⟩:=iMostFlow n L hL2
  obtain ⟨R,erch,hR⟩:=iReachedBy n L full hL2
  have hF:=pfull.1
  obtain ⟨hRl,hRch⟩ : R.length = n.toNat ∧ Rch (arcs L) full (fun x=>R.getD x false):=by
    rcases hR with ⟨p1,_⟩|⟨_,p2,p3⟩
    · exact absurd hF p1
    · exact ⟨p2,p3⟩
  obtain ⟨g,hg,hrl,hrch,hr1,hm⟩ : ∃ g,FlowOk n (arcs L) g ∧ r.length = n.toNat ∧ Rch (arcs L) g (fun x=>r.getD x false) ∧ r.getD 1 false = false ∧ m = - exc (arcs L) g (arcs L).length 0:=by
    rcases hM with ⟨p,_⟩|⟨_,p⟩
    · exact absurd hn p
    · exact p
  have hcr : - exc (arcs L) g (arcs L).length 0 = cutS (arcs L) (fun x=>r.getD x false) (arcs L).length:=closed_size hg _ hrch.zero hr1 hrch.closed
  have hmc : m = cutS (arcs L) (fun x=>r.getD x false) (arcs L).length:=hm.trans hcr
  have hms : m ≤ cutS (arcs L) (fun x=>side.getD x false) (arcs L).length:=by rw [hm];exact size_le_cut hg _ s0 s1
  have hmf : - exc (arcs L) f (arcs L).length 0 ≤ m:=by rw [hmc];exact size_le_cut pf.1 _ hrch.zero hr1
  have hmz : 0 ≤ m:=by
    obtain ⟨z1,z2⟩:=zero_flow hn
    have:=size_le_cut z1 (fun x=>r.getD x false) hrch.zero hr1
    omega
  have hR1 : R.getD 1 false = false:=by
    rcases pfull.2.2 with h|⟨s,h1,h2⟩
    · have h3:=size_le_cut hF (fun x=>r.getD x false) hrch.zero hr1
      have h4:=cut_small hn hLa (fun x=>r.getD x false)
      omega
    · exact (hRch.unique h1 1).trans h2
  have hM2 : MostIs n (arcs L) (- exc (arcs L) full (arcs L).length 0) R:=.inr ⟨hn,full,hF,hRl,hRch,hR1,rfl⟩
  obtain ⟨um,ur⟩:=hM.unique hM2
  rw [← ur] at erch
  -- what the law asks
  have cr : CutOk n (arcs L) r:=⟨hn,by omega,hrch.zero,hr1⟩
  have cs : CutOk n (arcs L) side:=⟨hn,sl,s0,s1⟩
  have q1 : cutRoom n (arcs L) r = m:=by unfold cutRoom;rw [if_pos (boolP_true cr),hmc];rfl
  have q2 : cutRoom n (arcs L) side ≥ m:=by unfold cutRoom;rw [if_pos (boolP_true cs)];exact hms
  have q3 : flowSize n (arcs L) f ≤ m:=by unfold flowSize;rw [if_pos (boolP_true pf.1)];exact hmf
  have q4 : flowSize n (arcs L) full = m:=by unfold flowSize;rw [if_pos (boolP_true hF)];exact um.symm
  have q5 : stopped n (arcs L) full r = true:=by unfold stopped;rw [boolP_true hF,boolP_true cr,q4,q1];simp
  have o1:=iCutOk n L r hL2
  rw [boolP_true cr] at o1
  have o2:=iCutRoom n L r hL2
  rw [q1] at o2
  have o3:=iCutOk n L side hL2
  rw [boolP_true cs] at o3
  have o4:=iCutRoom n L side hL2
  have o5:=sFlowSize n L f hL2
  have o6:=iStopped n L full r hL2
  rw [q5] at o6
  have hr15 : r.length ≤ 1500:=by omega
  have cap : ∀ xs : List Bool,(xs.length : Int) ≤ 1500 → ([] : List Bool).length + xs.length < 140737488355328:=fun xs h=>by rw [List.length_nil];omega
  have cr':=cap r (by omega)
  have cs':=cap side (by omega)
  have hfl : full.length ≤ 18:=by have:=hF.2.1;omega
  have cf : ([] : List Int).length + full.length < 17592186044416:=by rw [List.length_nil];omega
  have esame:=sameBools_same r (by omega)
  have hmz' : m ≥ 0:=hmz
  refine Ev.rounds (Ev.congr (fun k=>by unfold laws_FnMostCut.f laws_big.f;rw [Option.bind_some,if_neg (by rw [decide_eq_false hbig];simp)]) (Ev.bind hcut ?_))
  refine Ev.bind hpush ?_
  refine Ev.bind emost ?_
  refine Ev.bind hfull ?_
  refine Ev.congr (fun k=>by rw [if_pos hmz',Option.bind_some,if_pos cr',List.nil_append]) (Ev.bind o1 ?_)
  refine Ev.congr (fun k=>by rw [if_pos rfl,Option.bind_some,if_pos cr',List.nil_append]) (Ev.bind o2 ?_)
  refine Ev.congr (fun k=>by rw [if_pos rfl,Option.bind_some,if_pos cs',List.nil_append]) (Ev.bind o3 ?_)
  refine Ev.congr (fun k=>by rw [if_pos rfl,Option.bind_some,if_pos cs',List.nil_append]) (Ev.bind o4 ?_)
  refine Ev.congr (fun k=>by rw [if_pos q2]) (Ev.bind o5 ?_)
  refine Ev.congr (fun k=>by rw [if_pos q3,Option.bind_some,if_pos cf,Option.bind_some,if_pos cr',List.nil_append,List.nil_append]) (Ev.bind o6 ?_)
  refine Ev.congr (fun k=>by rw [if_pos rfl,Option.bind_some,if_pos cf,List.nil_append]) (Ev.bind erch ?_)
  refine Ev.bind esame ?_
  exact Ev.of_eq fun k=>rfl

end Go.Proofs.Ytgkpgigoonhgdaa.Pure
