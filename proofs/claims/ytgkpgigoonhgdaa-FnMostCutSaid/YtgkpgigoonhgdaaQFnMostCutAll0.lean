/- What the functions that the law FnMostCut reaches compute: DrawCur, Arcs, ArcAt, DrawNet, ReachedA, MostIs, NetOkS, PushedS, DrawPushed, NetOkI, ExcessI, FlowOkI, FlowSizeI, L06Out, FlowOkS, FlowSizeS, StepsOf, RowsH, ReachI, PushStep, MostFlowI, CutOkI, CutRoomI, StoppedI, ReachedByI. -/
import Derived.Test.YtgkpgigoonhgdaaPFnMostCutx
import Derived.Test.YtgkpgigoonhgdaaMBase
import Derived.Test.YtgkpgigoonhgdaaMDraw
import Derived.Test.YtgkpgigoonhgdaaMLists
import Derived.Test.YtgkpgigoonhgdaaMNet
import Derived.Test.YtgkpgigoonhgdaaMCut
import Derived.Test.YtgkpgigoonhgdaaMDist
namespace Go.Proofs.Ytgkpgigoonhgdaa.QFnMostCut
open Go.RowKit Go.Proofs.Ytgkpgigoonhgdaa.PFnMostCut Go.Proofs.YtgkpgigoonhgdaaW.PrintWords Go.Proofs.YtgkpgigoonhgdaaW.PrintLast Go.Proofs.YtgkpgigoonhgdaaW.PrintMore Go.Proofs.Ytgkpgigoonhgdaa.MBase Go.Proofs.Ytgkpgigoonhgdaa.MDraw Go.Proofs.Ytgkpgigoonhgdaa.MLists Go.Proofs.Ytgkpgigoonhgdaa.MNet Go.Proofs.Ytgkpgigoonhgdaa.MCut Go.Proofs.Ytgkpgigoonhgdaa.MDist
set_option linter.unusedVariables false
set_option linter.unusedSimpArgs false

/-! the cursor of a draw: each number that it gives lies below what was asked -/
theorem new_l0 (b : List Int) (m : Nat) : ∀ (j : Nat) (h : Int),j + m = 4000 → ∃ h',Ev (fun k=>spec_l01New.l0 k b h j) (b,0,h'):=by
  induction m with
  | zero =>
    intro j h hj
    refine ⟨h,Ev.step (f:=fun _=>some (b,0,h)) (fun k=>?_) (Ev.now _)⟩
    by_cases hl : (j : Int) < b.length
    · rw [spec_l01New.l0,if_pos hl,if_neg (by omega)]
    · rw [spec_l01New.l0,if_neg hl]
  | succ m ih =>
    intro j h hj
    by_cases hl : (j : Int) < b.length
    · obtain ⟨h',e⟩:=ih (j + 1) (bits .and .i64 (wrap64 ((wrap64 ((wrap64 (h * 131)) + (wrap64 (rd b (j : Int))))) + 7)) 1073741823) (by omega)
      have hw3 : wrap64 ((j : Int) + 1) = ((j + 1 : Nat) : Int):=by rw [w64 (by omega) (by omega)];omega
      exact ⟨h',Ev.step (fun k=>by rw [spec_l01New.l0,if_pos hl,if_pos (by omega),if_pos (by omega),hw3]) e⟩
    · exact ⟨h,Ev.step (f:=fun _=>some (b,0,h)) (fun k=>by rw [spec_l01New.l0,if_neg hl]) (Ev.now _)⟩

theorem new_ev (b : List Int) : ∃ h,Ev (fun k=>spec_l01New.f k b) (b,0,h):=new_l0 b 4000 0 _ (by omega)

theorem byte_ok (b : List Int) (hb : b.length ≤ maxLen) (i h : Int) (hi : 0 ≤ i) : ∃ x i' h',spec_l01Byte.f b i h = some (x,i',h') ∧ 0 ≤ x ∧ x ≤ 255 ∧ 0 ≤ i':=by
  unfold spec_l01Byte.f
  unfold maxLen at hb
  by_cases hl : i < b.length
  · rw [if_pos hl,if_pos hi]
    exact ⟨_,_,_,rfl,(and255 _).1,(and255 _).2,by rw [w64 (by omega) (by omega)];omega⟩
  · rw [if_neg hl]
    exact ⟨_,_,_,rfl,(and255 _).1,(and255 _).2,hi⟩

theorem below_ok (b : List Int) (hb : b.length ≤ maxLen) (i h : Int) (hi : 0 ≤ i) (n : Int) : ∃ x i' h',spec_l01Below.f b i h n = some (x,i',h') ∧ 0 ≤ x ∧ (0 < n → x < n) ∧ (n ≤ 0 → x = 0) ∧ 0 ≤ i':=by
  unfold spec_l01Below.f
  by_cases h0 : n ≤ 0
  · rw [if_pos h0]
    exact ⟨0,i,h,rfl,Int.le_refl _,fun hh=>by omega,fun _=>rfl,hi⟩
  have hn : ¬ n = 0:=by omega
  by_cases h1 : n ≤ 256
  · obtain ⟨x,i',h',e,x0,x1,hi'⟩:=byte_ok b hb i h hi
    have t:=tmod_lt x0 (show 0 < n by omega)
    exact ⟨Int.tmod x n,i',h',by rw [if_neg h0,if_pos h1,e,Option.bind_some,if_neg hn],t.1,fun _=>t.2,fun hh=>by omega,hi'⟩
  · obtain ⟨x,i1,h1',e1,x0,x1,hi1⟩:=byte_ok b hb i h hi
    obtain ⟨y,i2,h2',e2,y0,y1,hi2⟩:=byte_ok b hb i1 h1' hi1
    obtain ⟨z,i3,h3',e3,z0,z1,hi3⟩:=byte_ok b hb i2 h2' hi2
    obtain ⟨u,i4,h4',e4,u0,u1,hi4⟩:=byte_ok b hb i3 h3' hi3
    have hv : 0 ≤ wrap64 ((wrap64 ((wrap64 ((wrap64 (x * 16777216)) + (wrap64 (y * 65536)))) + (wrap64 (z * 256)))) + u):=by
      rw [w64 (x:=x * 16777216) (by omega) (by omega),w64 (x:=y * 65536) (by omega) (by omega),w64 (x:=z * 256) (by omega) (by omega),w64 (x:=x * 16777216 + y * 65536) (by omega) (by omega),w64 (x:=x * 16777216 + y * 65536 + z * 256) (by omega) (by omega),w64 (by omega) (by omega)]
      omega
    have t:=tmod_lt hv (show 0 < n by omega)
    exact ⟨_,i4,h4',by rw [if_neg h0,if_neg h1,e1,Option.bind_some,e2,Option.bind_some,e3,Option.bind_some,e4,Option.bind_some,if_neg hn],t.1,fun _=>t.2,fun hh=>by omega,hi4⟩

/-! the arcs of a list of structs, as plain data -/
def arcs (l : List S67) : List Arc:=l.map fun a=>⟨a.f0,a.f1,a.f2,a.f3⟩

/-! the arcs of a list of structs -/
theorem arcs_len (l : List S67) : (arcs l).length = l.length:=by unfold arcs;rw [List.length_map]
theorem at_f (l : List S67) (i : Int) : (rd_T67 l i).f0 = (at_ (arcs l) i.toNat).u ∧ (rd_T67 l i).f1 = (at_ (arcs l) i.toNat).v ∧ (rd_T67 l i).f2 = (at_ (arcs l) i.toNat).r ∧ (rd_T67 l i).f3 = (at_ (arcs l) i.toNat).c:=by
  unfold rd_T67 at_ arcs
  rw [List.getD_eq_getElem?_getD,List.getD_eq_getElem?_getD,List.getElem?_map]
  cases l[i.toNat]? with
  | none => exact ⟨rfl, rfl, rfl, rfl⟩
  | some a => exact ⟨rfl, rfl, rfl, rfl⟩
theorem at_0 (l : List S67) (i : Int) : (rd_T67 l i).f0 = (at_ (arcs l) i.toNat).u:=(at_f l i).1
theorem at_1 (l : List S67) (i : Int) : (rd_T67 l i).f1 = (at_ (arcs l) i.toNat).v:=(at_f l i).2.1
theorem at_2 (l : List S67) (i : Int) : (rd_T67 l i).f2 = (at_ (arcs l) i.toNat).r:=(at_f l i).2.2.1
theorem at_3 (l : List S67) (i : Int) : (rd_T67 l i).f3 = (at_ (arcs l) i.toNat).c:=(at_f l i).2.2.2

/-! spec.l06Right: a right net of a few nodes -/
theorem net_of {n : Int} {l : List S67} (h0 : 2 ≤ n) (h1 : n ≤ 1500) (hl : l.length ≤ 3200) (hm : ∀ a,a ∈ l → ArcOk n ⟨a.f0,a.f1,a.f2,a.f3⟩) : NetOk n (arcs l):=by
  refine ⟨⟨h0,h1,by rw [arcs_len];exact hl⟩,fun i hi=>?_⟩
  rw [arcs_len] at hi
  have:=hm _ (List.getElem_mem hi)
  unfold at_ arcs
  rw [List.getD_eq_getElem?_getD,List.getElem?_map,List.getElem?_eq_getElem hi]
  exact this

/-- the five draws of an arc -/
theorem arc_draw (b : List Int) (hb : b.length ≤ maxLen) (n : Int) (n0 : 3 ≤ n) (i h : Int) (hi : 0 ≤ i) : ∃ u v r c s i' h' : Int,0 ≤ u ∧ u < n ∧ 0 ≤ v ∧ v < n ∧ 0 ≤ r ∧ r < 5 ∧ 0 ≤ c ∧ c < 10 ∧ 0 ≤ i' ∧
    ∀ {α : Type} (F : Int → Int → Int → Int → Int × Int × Int → Option α),((spec_l01Below.f b i h n).bind fun b1=>((spec_l01Below.f b b1.2.1 b1.2.2 n).bind fun b2=>((spec_l01Below.f b b2.2.1 b2.2.2 5).bind fun b3=>((spec_l01Below.f b b3.2.1 b3.2.2 10).bind fun b4=>((spec_l01Below.f b b4.2.1 b4.2.2 5).bind fun b5=>F b1.1 b2.1 b3.1 b4.1 b5))))) = F u v r c (s,i',h'):=by
  obtain ⟨u,i2,h2,e2,u0,u1,_,hi2⟩:=below_ok b hb i h hi n
  obtain ⟨v,i3,h3,e3,v0,v1,_,hi3⟩:=below_ok b hb i2 h2 hi2 n
  obtain ⟨r,i4,h4,e4,r0,r1,_,hi4⟩:=below_ok b hb i3 h3 hi3 5
  obtain ⟨c,i5,h5,e5,c0,c1,_,hi5⟩:=below_ok b hb i4 h4 hi4 10
  obtain ⟨s,i6,h6,e6,s0,s1,_,hi6⟩:=below_ok b hb i5 h5 hi5 5
  refine ⟨u,v,r,c,s,i6,h6,u0,u1 (by clear e2 e3 e4 e5 e6;omega),v0,v1 (by clear e2 e3 e4 e5 e6;omega),r0,r1 (by decide),c0,c1 (by decide),hi6,fun F=>?_⟩
  rw [e2,Option.bind_some,e3,Option.bind_some,e4,Option.bind_some,e5,Option.bind_some,e6,Option.bind_some]

/-- what the loop's end is asked -/
def Right06 (b : List Int) (n : Int) (g : Nat → Option (Int × List S67 × Int × Int)) : Prop:=∃ (l' : List S67) (i' h' : Int),l'.length ≤ 18 ∧ (∀ a,a ∈ l' → ArcOk n ⟨a.f0,a.f1,a.f2,a.f3⟩) ∧ 0 ≤ i' ∧ Ev g (n,l',i',h')

theorem Right06.step {b : List Int} {n : Int} {g g' : Nat → Option (Int × List S67 × Int × Int)} (h : Right06 b n g') (e : ∀ k,g (k + 1) = g' k) : Right06 b n g:=by
  obtain ⟨l',i',h',q1,q2,q3,q4⟩:=h
  exact ⟨l',i',h',q1,q2,q3,Ev.step e q4⟩

theorem right06_arc {b : List Int} {n : Int} (n0 : 3 ≤ n) {u v r c s : Int} (u0 : 0 ≤ u) (hu : u < n) (v0 : 0 ≤ v) (hv : v < n) {l : List S67} (hl : l.length ≤ 18) {g : Nat → Option (Int × List S67 × Int × Int)} (N : Nat → List S67 → Option (Int × List S67 × Int × Int))
    (skip : Right06 b n (fun k=>N k l)) (put : ∀ u v : Int,0 ≤ u → u < n → 0 ≤ v → v < n → u ≠ v → Right06 b n (fun k=>N k (l ++ [⟨u,v,r,c⟩])))
    (go : ∀ k,g (k + 1) = (if s = 0 then (if 0 = v then (N k l) else (if l.length < 4398046511104 then (N k (l ++ [⟨0,v,r,c⟩])) else (none))) else (if s = 1 then (if u = 1 then (N k l) else (if l.length < 4398046511104 then (N k (l ++ [⟨u,1,r,c⟩])) else (none))) else (if u = v then (N k l) else (if l.length < 4398046511104 then (N k (l ++ [⟨u,v,r,c⟩])) else (none)))))) : Right06 b n g:=by
  have hcap : l.length < 4398046511104:=by omega
  by_cases cs : s = 0
  · by_cases cv : 0 = v
    · exact skip.step fun k=>by rw [go,if_pos cs,if_pos cv]
    · exact (put 0 v (by omega) (by omega) v0 hv cv).step fun k=>by rw [go,if_pos cs,if_neg cv,if_pos hcap]
  · by_cases ct : s = 1
    · by_cases cu : u = 1
      · exact skip.step fun k=>by rw [go,if_neg cs,if_pos ct,if_pos cu]
      · exact (put u 1 u0 hu (by omega) (by omega) cu).step fun k=>by rw [go,if_neg cs,if_pos ct,if_neg cu,if_pos hcap]
    · by_cases cu : u = v
      · exact skip.step fun k=>by rw [go,if_neg cs,if_neg ct,if_pos cu]
      · exact (put u v u0 hu v0 hv cu).step fun k=>by rw [go,if_neg cs,if_neg ct,if_neg cu,if_pos hcap]

theorem right06_l0 (b : List Int) (hb : b.length ≤ maxLen) (n : Int) (n0 : 3 ≤ n) (m : Nat) : ∀ (j : Nat) (l : List S67) (i h : Int),j + m = 18 → l.length ≤ j → (∀ a,a ∈ l → ArcOk n ⟨a.f0,a.f1,a.f2,a.f3⟩) → 0 ≤ i → Right06 b n (fun k=>spec_l06Right.l0 k j b i h n l):=by
  induction m with
  | zero =>
    intro j l i h hj hl ha hi
    obtain ⟨x,i1,h1,e,x0,x1,_,hi1⟩:=below_ok b hb i h hi 14
    have hx:=x1 (by decide)
    have hw : wrap64 (4 + x) = 4 + x:=w64 (by clear e;omega) (by clear e;omega)
    have hlt : ¬ (j : Int) < 4 + x:=by clear e;omega
    exact ⟨l,i1,h1,by omega,ha,hi1,Ev.step (f:=fun _=>some (n,l,i1,h1)) (fun k=>by rw [spec_l06Right.l0,e,Option.bind_some,hw,if_neg hlt]) (Ev.now _)⟩
  | succ m ih =>
    intro j l i h hj hl ha hi
    have hl18 : l.length ≤ 18:=by omega
    have hj1 : j + 1 + m = 18:=by omega
    have hl1 : l.length ≤ j + 1:=by omega
    have hlp : ∀ a : S67,(l ++ [a]).length ≤ j + 1:=fun a=>by rw [List.length_append,List.length_singleton];omega
    have hw2 : wrap64 ((j : Int) + 1) = ((j + 1 : Nat) : Int):=by rw [w64 (by omega) (by omega)];omega
    obtain ⟨x,i1,h1,e,x0,x1,_,hi1⟩:=below_ok b hb i h hi 14
    have hx:=x1 (by decide)
    have hw : wrap64 (4 + x) = 4 + x:=by clear e hw2;exact w64 (by omega) (by omega)
    by_cases hlt : (j : Int) < 4 + x
    · obtain ⟨u,v,r,c,s,i6,h6,u0,hu,v0,hv,r0,hr,c0,hc,hi6,hd⟩:=arc_draw b hb n n0 i1 h1 hi1
      refine right06_arc (s:=s) (r:=r) (c:=c) n0 u0 hu v0 hv (l:=l) hl18 (fun k l=>spec_l06Right.l0 k ((j + 1 : Nat) : Int) b i6 h6 n l) (ih (j + 1) l i6 h6 hj1 hl1 ha hi6) (fun u v a0 a1 b0 b1 hne=>ih (j + 1) (l ++ [⟨u,v,r,c⟩]) i6 h6 hj1 (hlp _) (fun a hm=>?_) hi6) (fun k=>?_)
      · rcases List.mem_append.1 hm with hm|hm
        · exact ha a hm
        · rw [List.mem_singleton.1 hm]
          exact ⟨a0,a1,b0,b1,hne,r0,by show r ≤ 20;clear hw hw2 e hd;omega,c0,by show c ≤ 100;clear hw hw2 e hd;omega⟩
      · rw [spec_l06Right.l0,e,Option.bind_some,hw,if_pos hlt,hw2]
        exact hd (fun u v r c t=>if t.1 = 0 then (if 0 = v then (spec_l06Right.l0 k ((j + 1 : Nat) : Int) b t.2.1 t.2.2 n l) else (if l.length < 4398046511104 then (spec_l06Right.l0 k ((j + 1 : Nat) : Int) b t.2.1 t.2.2 n (l ++ [⟨0,v,r,c⟩])) else (none))) else (if t.1 = 1 then (if u = 1 then (spec_l06Right.l0 k ((j + 1 : Nat) : Int) b t.2.1 t.2.2 n l) else (if l.length < 4398046511104 then (spec_l06Right.l0 k ((j + 1 : Nat) : Int) b t.2.1 t.2.2 n (l ++ [⟨u,1,r,c⟩])) else (none))) else (if u = v then (spec_l06Right.l0 k ((j + 1 : Nat) : Int) b t.2.1 t.2.2 n l) else (if l.length < 4398046511104 then (spec_l06Right.l0 k ((j + 1 : Nat) : Int) b t.2.1 t.2.2 n (l ++ [⟨u,v,r,c⟩])) else (none)))))
    · exact ⟨l,i1,h1,hl18,ha,hi1,Ev.step (f:=fun _=>some (n,l,i1,h1)) (fun k=>by rw [spec_l06Right.l0,e,Option.bind_some,hw,if_neg hlt]) (Ev.now _)⟩

theorem right06_ev (b : List Int) (hb : b.length ≤ maxLen) (i hh : Int) (hi : 0 ≤ i) : ∃ (n : Int) (l : List S67) (i' h' : Int),NetOk n (arcs l) ∧ l.length ≤ 18 ∧ 0 ≤ i' ∧ Ev (fun k=>spec_l06Right.f k b i hh) (n,l,i',h'):=by
  obtain ⟨x,i1,h1,e,x0,x1,_,hi1⟩:=below_ok b hb i hh hi 6
  have hx:=x1 (by omega)
  have hw : wrap64 (3 + x) = 3 + x:=w64 (by omega) (by omega)
  obtain ⟨l,i',h',q1,q2,q3,q4⟩:=right06_l0 b hb (3 + x) (by omega) 18 0 [] i1 h1 (by omega) (Nat.le_refl _) (fun a ha=>by cases ha) hi1
  rw [show ((0 : Nat) : Int) = 0 from rfl] at q4
  exact ⟨3 + x,l,i',h',net_of (by omega) (by omega) (by omega) q2,q1,q3,Ev.congr (fun k=>by unfold spec_l06Right.f;rw [e,Option.bind_some,hw]) q4⟩

/-! what ReachedBy answers -/
def ReachIs (n : Int) (l : List Arc) (f : List Int) (r : List Bool) : Prop:=(¬ FlowOk n l f ∧ r = []) ∨ (FlowOk n l f ∧ r.length = n.toNat ∧ Rch l f (fun x=>r.getD x false))

theorem ReachIs.unique {n : Int} {l : List Arc} {f : List Int} {r s : List Bool} (p : ReachIs n l f r) (q : ReachIs n l f s) : r = s:=by
  rcases p with ⟨p1,p2⟩|⟨p1,p2,p3⟩
  · rcases q with ⟨q1,q2⟩|⟨q1,q2,q3⟩
    · rw [p2,q2]
    · exact absurd q1 p1
  · rcases q with ⟨q1,q2⟩|⟨q1,q2,q3⟩
    · exact absurd p1 q1
    · refine list_eq (by rw [p2,q2]) (fun j hj=>?_)
      have hj2 : j < s.length:=by rw [q2,← p2];exact hj
      have e : r.getD j false = s.getD j false:=p3.unique q3 j
      rw [List.getD_eq_getElem?_getD,List.getD_eq_getElem?_getD,List.getElem?_eq_getElem hj,List.getElem?_eq_getElem hj2] at e
      rw [List.getElem?_eq_getElem hj,List.getElem?_eq_getElem hj2]
      simpa using e

theorem ReachIs.len {n : Int} {l : List Arc} {f : List Int} {r : List Bool} (p : ReachIs n l f r) : r.length ≤ 1500:=by
  rcases p with ⟨_,p2⟩|⟨p1,p2,_⟩
  · rw [p2];simp
  · have:=p1.1.1.2.1;omega

/-! what MostFlow answers; a push along a way that was noted -/
def MostIs (n : Int) (l : List Arc) (m : Int) (r : List Bool) : Prop:=(¬ NetOk n l ∧ m = -1 ∧ r = []) ∨ (NetOk n l ∧ ∃ f,FlowOk n l f ∧ r.length = n.toNat ∧ Rch l f (fun x=>r.getD x false) ∧ r.getD 1 false = false ∧ m = - exc l f l.length 0)

theorem MostIs.unique {n : Int} {l : List Arc} {m m' : Int} {r s : List Bool} (p : MostIs n l m r) (q : MostIs n l m' s) : m = m' ∧ r = s:=by
  rcases p with ⟨p1,p2,p3⟩|⟨p1,f,p2,p3,p4,p5,p6⟩
  · rcases q with ⟨q1,q2,q3⟩|⟨q1,_⟩
    · exact ⟨by omega,by rw [p3,q3]⟩
    · exact absurd q1 p1
  · rcases q with ⟨q1,_⟩|⟨q1,g,q2,q3,q4,q5,q6⟩
    · exact absurd p1 q1
    · obtain ⟨h1,h2⟩:=max_same p2 q2 p4 q4 p5 q5
      refine ⟨by omega,list_eq (by rw [p3,q3]) (fun j hj=>?_)⟩
      have hj2 : j < s.length:=by rw [q3,← p3];exact hj
      have e : r.getD j false = s.getD j false:=h1 j
      rw [List.getD_eq_getElem?_getD,List.getD_eq_getElem?_getD,List.getElem?_eq_getElem hj,List.getElem?_eq_getElem hj2] at e
      rw [List.getElem?_eq_getElem hj,List.getElem?_eq_getElem hj2]
      simpa using e

/-- no flow is greater than 64000 -/
theorem size_bound {n : Int} {l : List Arc} {f : List Int} (h : FlowOk n l f) : -64000 ≤ exc l f l.length 0 ∧ exc l f l.length 0 ≤ 64000:=exc_bound h.1 h.2.2.1 l.length (Nat.le_refl _) 0

/-- the flow that nothing goes through -/
theorem zero_flow {n : Int} {l : List Arc} (h : NetOk n l) : FlowOk n l (List.replicate l.length 0) ∧ exc l (List.replicate l.length 0) l.length 0 = 0:=by
  have hz : ∀ i : Nat,(List.replicate l.length (0 : Int)).getD i 0 = 0:=fun i=>by
    rw [List.getD_eq_getElem?_getD,List.getElem?_replicate];split <;> rfl
  have he : ∀ x : Int,exc l (List.replicate l.length 0) l.length x = 0:=fun x=>by
    unfold exc
    exact (sumTo_congr (g:=fun _=>0) (fun i _=>by rw [hz];split <;> split <;> rfl)).trans (sumTo_zero l.length)
  exact ⟨⟨h,by simp,fun i hi=>by rw [hz];have:=(h.2 i hi).2.2.2.2.2;omega,fun x _ _=>he x⟩,he 0⟩

/-! spec.NetOk -/
theorem l01In_eq (x a b : Int) : spec_l01In.f x a b = some (decide (a ≤ x ∧ x ≤ b)):=by
  unfold spec_l01In.f
  by_cases h : x ≥ a
  · rw [if_pos h];congr 1;rw [decide_eq_decide];omega
  · rw [if_neg h,decide_eq_false (by omega)]

theorem spec_arcs (n : Int) (l : List S67) (h2 : 2 ≤ n) (hn : n ≤ 1500) (hl : l.length ≤ 3200) (d : Nat) : ∀ i : Int,0 ≤ i → i + d = l.length →
    Ev (fun k=>spec_NetOk.l0 k i n l) (boolP (∀ j : Nat,i ≤ j → j < l.length → ArcOk n (at_ (arcs l) j))):=by
  induction d with
  | zero =>
    intro i h0 h1
    rw [boolP_true (fun j a b=>by omega)]
    exact Ev.step (f:=fun _=>some true) (fun k=>by rw [spec_NetOk.l0,if_neg (by omega)]) (Ev.now _)
  | succ d ih =>
    intro i h0 h1
    have hi : ((i.toNat : Nat) : Int) = i:=by omega
    have bad : ¬ ArcOk n (at_ (arcs l) i.toNat) → boolP (∀ j : Nat,i ≤ j → j < l.length → ArcOk n (at_ (arcs l) j)) = false:=fun hb=>boolP_false (fun h=>hb (h i.toNat (by omega) (by omega)))
    have hw : wrap64 (n - 1) = n - 1:=w64 (by omega) (by omega)
    have head : ∀ k,spec_NetOk.l0 (k + 1) i n l = if ArcOk n (at_ (arcs l) i.toNat) then spec_NetOk.l0 k (i + 1) n l else some false:=fun k=>by
      rw [spec_NetOk.l0,if_pos (by omega),if_pos h0,at_0,at_1,at_2,at_3,hw,l01In_eq,l01In_eq,l01In_eq,l01In_eq,w64 (x:=i + 1) (by omega) (by omega)]
      simp only [Option.bind_some,decide_eq_true_eq]
      by_cases c1 : 0 ≤ (at_ (arcs l) i.toNat).u ∧ (at_ (arcs l) i.toNat).u ≤ n - 1
      · rw [if_pos c1]
        by_cases c2 : 0 ≤ (at_ (arcs l) i.toNat).v ∧ (at_ (arcs l) i.toNat).v ≤ n - 1
        · rw [if_pos c2]
          by_cases c3 : (at_ (arcs l) i.toNat).u = (at_ (arcs l) i.toNat).v
          · rw [if_pos c3,if_neg (by unfold ArcOk;omega)]
          · rw [if_neg c3]
            by_cases c4 : 0 ≤ (at_ (arcs l) i.toNat).r ∧ (at_ (arcs l) i.toNat).r ≤ 20
            · rw [if_pos c4]
              by_cases c5 : 0 ≤ (at_ (arcs l) i.toNat).c ∧ (at_ (arcs l) i.toNat).c ≤ 100
              · rw [if_pos c5,if_pos (by unfold ArcOk;omega)]
              · rw [if_neg c5,if_neg (by unfold ArcOk;omega)]
            · rw [if_neg c4,if_neg (by unfold ArcOk;omega)]
        · rw [if_neg c2,if_neg (by unfold ArcOk;omega)]
      · rw [if_neg c1,if_neg (by unfold ArcOk;omega)]
    by_cases ha : ArcOk n (at_ (arcs l) i.toNat)
    · have e : boolP (∀ j : Nat,i ≤ j → j < l.length → ArcOk n (at_ (arcs l) j)) = boolP (∀ j : Nat,i + 1 ≤ j → j < l.length → ArcOk n (at_ (arcs l) j)):=by
        rw [Bool.eq_iff_iff,boolP_iff,boolP_iff]
        constructor
        · intro h j a b;exact h j (by omega) b
        · intro h j a b
          by_cases hj : j = i.toNat
          · rw [hj];exact ha
          · exact h j (by omega) b
      rw [e]
      exact Ev.step (fun k=>by rw [head,if_pos ha]) (ih (i + 1) (by omega) (by omega))
    · rw [bad ha]
      exact Ev.step (f:=fun _=>some false) (fun k=>by rw [head,if_neg ha]) (Ev.now _)

theorem sNetOk (n : Int) (l : List S67) (hlen : l.length ≤ 1048576) : Ev (fun k=>spec_NetOk.f k n l) (boolP (NetOk n (arcs l))):=by
  have bad : ∀ hn : ¬ NetOk n (arcs l),Ev (fun k=>spec_NetOk.j0 k true n l) (boolP (NetOk n (arcs l))):=fun hn=>by
    rw [boolP_false hn]
    exact Ev.step (f:=fun _=>some false) (fun k=>by rw [spec_NetOk.j0,if_pos rfl]) (Ev.now _)
  refine Ev.congr (f:=fun k=>if 2 ≤ n ∧ n ≤ 1500 then spec_NetOk.j0 k (decide ((l.length : Int) > 3200)) n l else spec_NetOk.j0 k true n l) (fun k=>by unfold spec_NetOk.f;rw [l01In_eq,Option.bind_some];simp only [decide_eq_true_eq]) ?_
  by_cases h1 : 2 ≤ n ∧ n ≤ 1500
  · simp only [if_pos h1]
    by_cases h2 : (l.length : Int) > 3200
    · rw [decide_eq_true h2]
      exact bad (fun hh=>by have:=hh.1;rw [arcs_len] at this;omega)
    · rw [decide_eq_false h2]
      have e : boolP (NetOk n (arcs l)) = boolP (∀ j : Nat,(0 : Int) ≤ j → j < l.length → ArcOk n (at_ (arcs l) j)):=by
        rw [Bool.eq_iff_iff,boolP_iff,boolP_iff]
        constructor
        · intro h j a b;exact h.2 j (by rw [arcs_len];exact b)
        · intro h;exact ⟨⟨h1.1,h1.2,by rw [arcs_len];omega⟩,fun i hi=>h i (by omega) (by rw [arcs_len] at hi;exact hi)⟩
      rw [e]
      exact Ev.step (fun k=>by rw [spec_NetOk.j0,if_neg (by simp)]) (spec_arcs n l h1.1 h1.2 (by omega) l.length 0 (by omega) (by omega))
  · simp only [if_neg h1]
    exact bad (fun hh=>h1 ⟨hh.1.1,hh.1.2.1⟩)

/-! spec.l06Pushed: one unit after the other along ways with the fewest arcs -/
def code (i : Nat) (b : Bool) : Int:=if b = true then -(i : Int) - 1 else (i : Int) + 1
def ByP (by_ : List Int) (v : Int) (i : Nat) (b : Bool) : Prop:=0 ≤ v ∧ by_.getD v.toNat 0 = code i b

structure BfsP (N : Nat) (l : List Arc) (f : List Int) (h : Nat) (by_ : List Int) (seen : List Bool) (Q : List Int) : Prop extends Bfs N l f (ByP by_) h seen Q where
  blen : by_.length = N
  cnt : unseen N seen + Q.length = N

theorem BfsP.len_le {N : Nat} {l : List Arc} {f : List Int} {h : Nat} {by_ : List Int} {seen : List Bool} {Q : List Int} (q : BfsP N l f h by_ seen Q) : Q.length ≤ N:=by
  have:=(unseen_bound N seen).1
  have:=q.cnt
  omega

/-- a step to an unseen node is noted -/
theorem BfsP.note {N : Nat} {l : List Arc} {f : List Int} {h : Nat} {by_ : List Int} {seen : List Bool} {Q : List Int} (q : BfsP N l f h by_ seen Q) (hh : h < Q.length) {i : Nat} {b : Bool} (hi : i < l.length) (hf : sFrom l i b = Q.getD h 0) (hr : 0 < sRoom l f i b) (y0 : 0 ≤ sTo l i b) (y1 : sTo l i b < N) (hs : seen.getD (sTo l i b).toNat false = false) :
    BfsP N l f h (by_.set (sTo l i b).toNat (code i b)) (seen.set (sTo l i b).toNat true) (Q ++ [sTo l i b]):=by
  have hbs : ∀ x : Nat,(by_.set (sTo l i b).toNat (code i b)).getD x 0 = if x = (sTo l i b).toNat then code i b else by_.getD x 0:=fun x=>getD_set _ _ _ _ _ (by rw [q.blen];omega)
  have q2:=q.toBfs.put (By':=ByP (by_.set (sTo l i b).toNat (code i b))) hh hi hf hr y0 y1 hs ⟨y0,by rw [hbs,if_pos rfl]⟩ (fun v' j' c' hne hB=>⟨hB.1,by rw [hbs,if_neg (by have:=hB.1;omega)];exact hB.2⟩)
  have hcnt:=unseen_set q.len (y:=(sTo l i b).toNat) (by omega) hs
  have hcq:=q.cnt
  exact ⟨q2,by rw [List.length_set];exact q.blen,by rw [hcnt];simp;omega⟩

section
variable {n : Int} {l : List S67} {f : List Int} {G : List Int → Prop} {size kk : Int}

/-- what is known while the arcs are scanned from the queue's element h -/
structure ScanP (N : Nat) (l : List Arc) (f : List Int) (h : Nat) (v : Int) (i : Nat) (by_ : List Int) (seen : List Bool) (Q : List Int) : Prop extends BfsP N l f h by_ seen Q where
  hh : h < Q.length
  hv : Q.getD h 0 = v
  dn : ∀ j b,j < i → j < l.length → sFrom l j b = v → 0 < sRoom l f j b → seen.getD (sTo l j b).toNat false = true

theorem pushed_l2 (hn : NetOk n (arcs l)) (hl : l.length ≤ 1048576) (hf : f.length = l.length) (h : Nat) (v : Int)
    (next : ∀ by_ seen Q,ScanP n.toNat (arcs l) f h v l.length by_ seen Q → ∃ r,Ev (fun k=>spec_l06Pushed.l1 k size f kk by_ seen Q ((h + 1 : Nat) : Int) n l) r ∧ G r) (d : Nat) :
    ∀ (i : Nat) (by_ : List Int) (seen : List Bool) (Q : List Int),i + d = l.length → ScanP n.toNat (arcs l) f h v i by_ seen Q → ∃ r,Ev (fun k=>spec_l06Pushed.l2 k size f kk by_ seen Q h v i n l) r ∧ G r:=by
  have fin : ∀ xs : List Bool,∀ x : Nat,xs.getD x false = true ∨ xs.getD x false = false:=fun xs x=>by cases xs.getD x false <;> simp
  have n15:=hn.1.2.1
  have n2:=hn.1.1
  induction d with
  | zero =>
    intro i by_ seen Q hi q
    obtain rfl : i = l.length:=by omega
    have hql:=q.len_le
    have hhq:=q.hh
    have hw : wrap64 ((h : Int) + 1) = ((h + 1 : Nat) : Int):=by rw [w64 (by omega) (by omega)];omega
    obtain ⟨r,h1,h2⟩:=next by_ seen Q q
    exact ⟨r,Ev.step (fun k=>by rw [spec_l06Pushed.l2,if_neg (by omega),hw]) h1,h2⟩
  | succ d ih =>
    intro i by_ seen Q hi q
    have hil : i < l.length:=by omega
    have hia : i < (arcs l).length:=by rw [arcs_len];exact hil
    have hw : wrap64 ((i : Int) + 1) = ((i + 1 : Nat) : Int):=by rw [w64 (by omega) (by omega)];omega
    have hw2 : wrap64 (-(i : Int)) = -(i : Int):=w64 (by omega) (by omega)
    have hw3 : wrap64 (-(i : Int) - 1) = -(i : Int) - 1:=w64 (by omega) (by omega)
    obtain ⟨a1,a2,a3,a4,a5,_⟩:=hn.2 i hia
    have e0:=at_0 l (i : Int)
    have e1:=at_1 l (i : Int)
    have e2:=at_2 l (i : Int)
    have e3:=at_3 l (i : Int)
    have ef : rd f (i : Int) = f.getD i 0:=by unfold rd;rw [Int.toNat_natCast]
    rw [Int.toNat_natCast] at e0 e1 e2 e3
    -- behind the first test
    have second : ∀ (by_ : List Int) (seen : List Bool) (Q : List Int) (m1 m2 : Nat),m1 = n.toNat → m2 = n.toNat → ScanP n.toNat (arcs l) f h v i by_ seen Q → (sFrom (arcs l) i false = v → 0 < sRoom (arcs l) f i false → seen.getD (sTo (arcs l) i false).toNat false = true) →
        ∃ r,Ev (fun k=>if (at_ (arcs l) i).v = v then (if 0 ≤ (at_ (arcs l) i).u then (if (at_ (arcs l) i).u < (m1 : Int) then (if seen.getD (at_ (arcs l) i).u.toNat false = true then (spec_l06Pushed.l2 k size f kk by_ seen Q h v ((i + 1 : Nat) : Int) n l) else (if 0 ≤ (i : Int) then (if (i : Int) < (f.length : Int) then (if f.getD i 0 > 0 then (if (at_ (arcs l) i).u < (m2 : Int) then (if Q.length < 17592186044416 then (spec_l06Pushed.l2 k size f kk (by_.set (at_ (arcs l) i).u.toNat (-(i : Int) - 1)) (seen.set (at_ (arcs l) i).u.toNat true) (Q ++ [(at_ (arcs l) i).u]) h v ((i + 1 : Nat) : Int) n l) else (none)) else (none)) else (spec_l06Pushed.l2 k size f kk by_ seen Q h v ((i + 1 : Nat) : Int) n l)) else (none)) else (none))) else (none)) else (none)) else (spec_l06Pushed.l2 k size f kk by_ seen Q h v ((i + 1 : Nat) : Int) n l)) r ∧ G r:=fun by_ seen Q m1 m2 hm1 hm2 q h6=>by
      have hql:=q.len_le
      have go (h7 : sFrom (arcs l) i true = v → 0 < sRoom (arcs l) f i true → seen.getD (sTo (arcs l) i true).toNat false = true) : ∃ r,Ev (fun k=>spec_l06Pushed.l2 k size f kk by_ seen Q h v ((i + 1 : Nat) : Int) n l) r ∧ G r:=ih (i + 1) by_ seen Q (by omega) { q with
       dn:=fun j b hj hjl hjf hjr=>by
        by_cases e : j = i
        · subst e;cases b
          · exact h6 hjf hjr
          · exact h7 hjf hjr
        · exact q.dn j b (by omega) hjl hjf hjr }
      by_cases cv : (at_ (arcs l) i).v = v
      · by_cases cu : seen.getD (at_ (arcs l) i).u.toNat false = true
        · obtain ⟨r,h1,h2⟩:=go (fun _ _=>cu)
          exact ⟨r,Ev.congr (fun k=>by rw [if_pos cv,if_pos a1,if_pos (by omega),if_pos cu]) h1,h2⟩
        · by_cases cf : f.getD i 0 > 0
          · have cu' : seen.getD (at_ (arcs l) i).u.toNat false = false:=(fin seen _).resolve_left cu
            have mk:=q.toBfsP.note q.hh (i:=i) (b:=true) hia (by rw [q.hv];exact cv) cf (by show 0 ≤ (at_ (arcs l) i).u;exact a1) (by show (at_ (arcs l) i).u < _;omega) cu'
            have mk' : BfsP n.toNat (arcs l) f h (by_.set (at_ (arcs l) i).u.toNat (-(i : Int) - 1)) (seen.set (at_ (arcs l) i).u.toNat true) (Q ++ [(at_ (arcs l) i).u]):=mk
            have hset : ∀ x : Nat,(seen.set (at_ (arcs l) i).u.toNat true).getD x false = if x = (at_ (arcs l) i).u.toNat then true else seen.getD x false:=fun x=>getD_set _ _ _ _ _ (by rw [q.len];omega)
            obtain ⟨r,h1,h2⟩:=ih (i + 1) _ _ _ (by omega) { mk' with
             hh:=by simp;have:=q.hh;omega,hv:=by rw [getD_app,if_pos q.hh];exact q.hv,dn:=fun j b hj hjl hjf hjr=>by
              rw [hset]
              split
              · rfl
              · rename_i hne
                by_cases e : j = i
                · subst e;cases b
                  · exact h6 hjf hjr
                  · exact absurd rfl hne
                · exact q.dn j b (by omega) hjl hjf hjr }
            exact ⟨r,Ev.congr (fun k=>by rw [if_pos cv,if_pos a1,if_pos (by omega),if_neg cu,if_pos (by omega),if_pos (by omega),if_pos cf,if_pos (by omega),if_pos (by omega)]) h1,h2⟩
          · obtain ⟨r,h1,h2⟩:=go (fun _ h=>absurd h cf)
            exact ⟨r,Ev.congr (fun k=>by rw [if_pos cv,if_pos a1,if_pos (by omega),if_neg cu,if_pos (by omega),if_pos (by omega),if_neg cf]) h1,h2⟩
      · obtain ⟨r,h1,h2⟩:=go (fun h=>absurd h cv)
        exact ⟨r,Ev.congr (fun k=>by rw [if_neg cv]) h1,h2⟩
    have hql:=q.len_le
    -- the first test
    have first : ∀ t : Bool,(t = true → (at_ (arcs l) i).u = v ∧ seen.getD (at_ (arcs l) i).v.toNat false = false ∧ f.getD i 0 < (at_ (arcs l) i).r) → (t = false → (at_ (arcs l) i).u = v → f.getD i 0 < (at_ (arcs l) i).r → seen.getD (at_ (arcs l) i).v.toNat false = true) →
        ∃ r,Ev (fun k=>spec_l06Pushed.j3 k size f kk by_ seen Q h v i t n l (at_ (arcs l) i).u (at_ (arcs l) i).v (at_ (arcs l) i).r (at_ (arcs l) i).c) r ∧ G r:=fun t ht1 ht2=>by
      cases t with
      | true =>
        obtain ⟨cu,cv,cf⟩:=ht1 rfl
        have mk:=q.toBfsP.note q.hh (i:=i) (b:=false) hia (by rw [q.hv];exact cu) (by show 0 < (at_ (arcs l) i).r - f.getD i 0;omega) (by show 0 ≤ (at_ (arcs l) i).v;exact a3) (by show (at_ (arcs l) i).v < _;omega) cv
        have mk' : BfsP n.toNat (arcs l) f h (by_.set (at_ (arcs l) i).v.toNat ((i : Int) + 1)) (seen.set (at_ (arcs l) i).v.toNat true) (Q ++ [(at_ (arcs l) i).v]):=mk
        have hset : ∀ x : Nat,(seen.set (at_ (arcs l) i).v.toNat true).getD x false = if x = (at_ (arcs l) i).v.toNat then true else seen.getD x false:=fun x=>getD_set _ _ _ _ _ (by rw [q.len];omega)
        obtain ⟨r,h1,h2⟩:=second _ _ _ seen.length by_.length q.len q.blen { mk' with
         hh:=by simp;have:=q.hh;omega,hv:=by rw [getD_app,if_pos q.hh];exact q.hv,dn:=fun j b hj hjl hjf hjr=>by
          rw [hset]
          split
          · rfl
          · exact q.dn j b hj hjl hjf hjr } (fun _ _=>by show (seen.set (at_ (arcs l) i).v.toNat true).getD (at_ (arcs l) i).v.toNat false = true;rw [hset,if_pos rfl])
        refine ⟨r,Ev.step (fun k=>?_) h1,h2⟩
        rw [spec_l06Pushed.j3,if_pos rfl,if_pos a3,if_pos (by rw [q.len];omega),Option.bind_some,if_pos (by rw [q.blen];omega),hw,Option.bind_some,if_pos (by omega),Option.bind_some,ef,hw2,hw3]
        rfl
      | false =>
        obtain ⟨r,h1,h2⟩:=second by_ seen Q seen.length by_.length q.len q.blen q (fun hu hr=>ht2 rfl hu (by have hr' : 0 < (at_ (arcs l) i).r - f.getD i 0:=hr;omega))
        refine ⟨r,Ev.step (fun k=>?_) h1,h2⟩
        rw [spec_l06Pushed.j3,if_neg (by simp),ef,hw,hw2,hw3]
        rfl
    by_cases cu : (at_ (arcs l) i).u = v
    · by_cases cv : seen.getD (at_ (arcs l) i).v.toNat false = true
      · obtain ⟨r,h1,h2⟩:=first false (fun h=>(by cases h)) (fun _ _ _=>cv)
        exact ⟨r,Ev.step (fun k=>by rw [spec_l06Pushed.l2,if_pos (by omega),if_pos (by omega),if_pos (by omega),e0,e1,e2,e3,if_pos cu,if_pos a3,if_pos (by rw [q.len];omega)];show (if seen.getD (at_ (arcs l) i).v.toNat false = true then _ else _) = _;rw [if_pos cv]) h1,h2⟩
      · have cv' : seen.getD (at_ (arcs l) i).v.toNat false = false:=(fin seen _).resolve_left cv
        obtain ⟨r,h1,h2⟩:=first (decide (f.getD i 0 < (at_ (arcs l) i).r)) (fun h=>⟨cu,cv',of_decide_eq_true h⟩) (fun h _ h3=>absurd h3 (of_decide_eq_false h))
        exact ⟨r,Ev.step (fun k=>by rw [spec_l06Pushed.l2,if_pos (by omega),if_pos (by omega),if_pos (by omega),e0,e1,e2,e3,if_pos cu,if_pos a3,if_pos (by rw [q.len];omega)];show (if seen.getD (at_ (arcs l) i).v.toNat false = true then _ else _) = _;rw [if_neg cv,ef]) h1,h2⟩
    · obtain ⟨r,h1,h2⟩:=first false (fun h=>(by cases h)) (fun _ h _=>absurd h cu)
      exact ⟨r,Ev.step (fun k=>by rw [spec_l06Pushed.l2,if_pos (by omega),if_pos (by omega),if_pos (by omega),e0,e1,e2,e3,if_neg cu]) h1,h2⟩

/-- the walk back: each noted step is pushed -/
theorem pushed_l3 (hl : l.length ≤ 1048576) (hn : NetOk n (arcs l)) (by_ : List Int) (hb : by_.length = n.toNat) (r : List Int) (p : List (Nat × Bool)) : ∀ (g : List Int) (v B : Int),g.length = l.length → 0 ≤ B → B + p.length ≤ 1000000 → (∀ j : Nat,-B ≤ g.getD j 0 ∧ g.getD j 0 ≤ B) → PathL (arcs l) p v → Follow (arcs l) (ByP by_) p v →
    Ev (fun k=>spec_l06Pushed.l0 k size (pushAll g p 1) (wrap64 (kk + 1)) n l) r → Ev (fun k=>spec_l06Pushed.l3 k size g kk by_ v n l) r:=by
  induction p with
  | nil =>
    intro g v B hg _ _ _ hp hfo hr
    have h0 : v = 0:=hp
    exact Ev.step (fun k=>by rw [spec_l06Pushed.l3,if_pos h0];rfl) hr
  | cons s p ih =>
    intro g v B hg hB0 hB hgB hp hfo hr
    obtain ⟨i,b⟩:=s
    obtain ⟨hi,hto,hp'⟩:=hp
    obtain ⟨h0,hby,hfo'⟩:=hfo
    have hil : i < l.length:=by rw [← arcs_len];exact hi
    have hen:=Go.Proofs.Ytgkpgigoonhgdaa.MDist.ends_ok hn hi b
    unfold Go.Proofs.Ytgkpgigoonhgdaa.MDist.tw Go.Proofs.Ytgkpgigoonhgdaa.MDist.fr at hen
    rw [hto] at hen
    have hgi:=hgB i
    have hbv : rd by_ v = code i b:=hby.2
    have e0:=at_0 l (i : Int)
    have e1:=at_1 l (i : Int)
    rw [Int.toNat_natCast] at e0 e1
    have eg : rd g (i : Int) = g.getD i 0:=by unfold rd;rw [Int.toNat_natCast]
    have hlen : ((List.length ((i,b) :: p) : Nat) : Int) = p.length + 1:=by simp
    have hrec:=ih (push g i b 1) (sFrom (arcs l) i b) (B + 1) (by rw [push_len];exact hg) (by omega) (by omega) (fun j=>by
      rw [push_get (by omega)]
      have:=hgB j
      split
      · cases b
        · simp only [Bool.false_eq_true,if_false];omega
        · simp only [if_true];omega
      · omega) hp' hfo' hr
    have hvl : v < (by_.length : Int):=by rw [hb];omega
    cases b
    · have hc : code i false = (i : Int) + 1:=rfl
      have hw : wrap64 ((i : Int) + 1 - 1) = (i : Int):=by rw [w64 (by omega) (by omega)];omega
      have hw2 : wrap64 (g.getD i 0 + 1) = g.getD i 0 + 1:=w64 (by omega) (by omega)
      refine Ev.step (fun k=>?_) hrec
      rw [spec_l06Pushed.l3,if_neg h0,if_pos hby.1,if_pos hvl,hbv,hc,if_pos (by omega),hw,if_pos (by omega),if_pos (by omega),if_pos (by omega),eg,hw2,e0,Int.toNat_natCast]
      rfl
    · have hc : code i true = -(i : Int) - 1:=rfl
      have hw : wrap64 (-(-(i : Int) - 1)) = (i : Int) + 1:=by rw [w64 (by omega) (by omega)];omega
      have hw1 : wrap64 ((i : Int) + 1 - 1) = (i : Int):=by rw [w64 (by omega) (by omega)];omega
      have hw2 : wrap64 (g.getD i 0 - 1) = g.getD i 0 - 1:=w64 (by omega) (by omega)
      refine Ev.step (fun k=>?_) hrec
      rw [spec_l06Pushed.l3,if_neg h0,if_pos hby.1,if_pos hvl,hbv,hc,if_neg (by omega),hw,hw1,if_pos (by omega),if_pos (by omega),if_pos (by omega),eg,hw2,e1,Int.toNat_natCast]
      rfl

/-- what l06Pushed answers -/
def PushedIs (n : Int) (l : List Arc) (size : Int) (f : List Int) : Prop:=FlowOk n l f ∧ - exc l f l.length 0 ≤ size ∧ (- exc l f l.length 0 = size ∨ ∃ s,Rch l f s ∧ s 1 = false)

theorem pushed_l1 (hn : NetOk n (arcs l)) (hl : l.length ≤ 1048576) (hF : FlowOk n (arcs l) f) (hlt : - exc (arcs l) f (arcs l).length 0 < size)
    (again : ∀ g,FlowOk n (arcs l) g → exc (arcs l) g (arcs l).length 0 = exc (arcs l) f (arcs l).length 0 - 1 → ∃ r,Ev (fun k=>spec_l06Pushed.l0 k size g (wrap64 (kk + 1)) n l) r ∧ PushedIs n (arcs l) size r) (m : Nat) :
    ∀ (h : Nat) (by_ : List Int) (seen : List Bool) (Q : List Int),h + m = n.toNat → BfsP n.toNat (arcs l) f h by_ seen Q → ∃ r,Ev (fun k=>spec_l06Pushed.l1 k size f kk by_ seen Q h n l) r ∧ PushedIs n (arcs l) size r:=by
  have n15:=hn.1.2.1
  have n2:=hn.1.1
  have hf : f.length = l.length:=by have:=hF.2.1;rw [arcs_len] at this;exact this
  have stop : ∀ (h : Nat) (by_ : List Int) (seen : List Bool) (Q : List Int),Q.length ≤ h → BfsP n.toNat (arcs l) f h by_ seen Q → ∃ r,Ev (fun k=>spec_l06Pushed.l1 k size f kk by_ seen Q h n l) r ∧ PushedIs n (arcs l) size r:=fun h by_ seen Q hq q=>by
    have hr:=q.toBfs.reach hq (fun i hi=>⟨(hn.2 i hi).1,(hn.2 i hi).2.2.1⟩)
    have e : rdOf false seen 1 = seen.getD 1 false:=rfl
    by_cases c : seen.getD 1 false = true
    · obtain ⟨p,p1,p2,p3,p4,p5⟩:=q.toBfs.way c
      have hql:=q.len_le
      obtain ⟨g1,g2⟩:=push_flow hF p p1 p3 1 (by omega) (fun s hs=>by have:=p5 s hs;omega)
      obtain ⟨r,h1,h2⟩:=again _ g1 g2
      refine ⟨r,Ev.step (fun k=>by rw [spec_l06Pushed.l1,if_neg (by omega),if_pos (by rw [q.len];omega),e,if_pos c]) (pushed_l3 hl hn by_ q.blen r p f 1 20 hf (by omega) (by omega) (fun j=>?_) p1 p2 h1),h2⟩
      by_cases hj : j < (arcs l).length
      · have a:=hF.2.2.1 j hj
        have b:=(hn.2 j hj).2.2.2.2.2
        omega
      · rw [arcs_len] at hj
        rw [List.getD_eq_getElem?_getD,List.getElem?_eq_none (by omega)]
        simp
    · have c' : seen.getD 1 false = false:=by cases hx : seen.getD 1 false with
        | true => exact absurd hx c
        | false => rfl
      exact ⟨f,Ev.step (f:=fun _=>some f) (fun k=>by rw [spec_l06Pushed.l1,if_neg (by omega),if_pos (by rw [q.len];omega),e,if_neg c]) (Ev.now _),hF,by omega,.inr ⟨_,hr,c'⟩⟩
  induction m with
  | zero =>
    intro h by_ seen Q hh q
    exact stop h by_ seen Q (by have:=q.len_le;omega) q
  | succ m ih =>
    intro h by_ seen Q hh q
    by_cases hq : h < Q.length
    · have e1 : rd Q (h : Int) = Q.getD h 0:=by unfold rd;rw [Int.toNat_natCast]
      obtain ⟨r,h1,h2⟩:=pushed_l2 (G:=PushedIs n (arcs l) size) (size:=size) (kk:=kk) hn hl hf h (Q.getD h 0) (fun by_ seen Q q=>ih (h + 1) by_ seen Q (by omega) { q.toBfsP with
       done:=fun a ha haq i b hi hfr hro=>by
        by_cases e : a = h
        · subst e
          exact q.dn i b (by rw [← arcs_len];exact hi) hi (by rw [hfr];exact q.hv) hro
        · exact q.done a (Nat.lt_of_le_of_ne (Nat.le_of_lt_succ ha) e) haq i b hi hfr hro }) l.length 0 by_ seen Q (Nat.zero_add _) { q with hh:=hq,hv:=rfl,dn:=fun j b hj=>absurd hj (by omega) }
      rw [show ((0 : Nat) : Int) = 0 from rfl] at h1
      exact ⟨r,Ev.step (fun k=>by rw [spec_l06Pushed.l1,if_pos (by omega),if_pos (by omega),e1]) h1,h2⟩
    · exact stop h by_ seen Q (by omega) q

theorem pushed_l0 (hn : NetOk n (arcs l)) (hl : l.length ≤ 1048576) (hsz : size ≤ 1000000000) (m : Nat) : ∀ (i : Nat) (g : List Int),i ≤ 64000 → i + m = 64000 → FlowOk n (arcs l) g → - exc (arcs l) g (arcs l).length 0 = i → (i : Int) ≤ size → ∃ r,Ev (fun k=>spec_l06Pushed.l0 k size g i n l) r ∧ PushedIs n (arcs l) size r:=by
  have n15:=hn.1.2.1
  have n2:=hn.1.1
  have hrep : ∀ x : Nat,(List.replicate n.toNat false).getD x false = false:=fun x=>by
    rw [List.getD_eq_getElem?_getD,List.getElem?_replicate];split <;> rfl
  have h0 : ∀ x : Nat,((List.replicate n.toNat false).set 0 true).getD x false = if x = 0 then true else false:=fun x=>by
    rw [getD_set _ _ _ _ _ (by simp;omega),hrep]
  have q0 : ∀ g,BfsP n.toNat (arcs l) g 0 (List.replicate n.toNat 0) ((List.replicate n.toNat false).set 0 true) [0]:=fun g=>by
    refine ⟨⟨by simp,fun a ha=>?_,fun a b ha hb _=>?_,fun x hx=>?_,⟨by simp,rfl⟩,fun a h1 h2=>?_,fun a ha=>by omega⟩,by simp,?_⟩
    · obtain rfl : a = 0:=by simp at ha;omega
      refine ⟨Int.le_refl _,?_,by rw [h0];rfl⟩
      show (0 : Int) < _
      omega
    · simp at ha hb;omega
    · rw [h0] at hx
      by_cases e : x = 0
      · exact ⟨0,by simp,by rw [e];rfl⟩
      · rw [if_neg e] at hx;cases hx
    · simp at h2;omega
    · have hu:=unseen_set (N:=n.toNat) (seen:=List.replicate n.toNat false) (by simp) (y:=0) (by omega) (hrep 0)
      have hz : unseen n.toNat (List.replicate n.toNat false) = n.toNat:=by
        unfold unseen
        have : sumTo n.toNat (fun i=>if (List.replicate n.toNat false).getD i false = true then (0 : Int) else 1) = sumTo n.toNat (fun _=>1):=sumTo_congr (fun i _=>by rw [hrep];rfl)
        rw [this]
        generalize n.toNat = N
        induction N with
        | zero => rfl
        | succ N ih => rw [sumTo, ih]; omega
      rw [hu,hz]
      simp
  have one : ∀ (i : Nat) (g : List Int),i ≤ 64000 → FlowOk n (arcs l) g → - exc (arcs l) g (arcs l).length 0 = i → (i : Int) ≤ size → (∀ g',FlowOk n (arcs l) g' → exc (arcs l) g' (arcs l).length 0 = exc (arcs l) g (arcs l).length 0 - 1 → (i : Int) < size → ∃ r,Ev (fun k=>spec_l06Pushed.l0 k size g' (wrap64 ((i : Int) + 1)) n l) r ∧ PushedIs n (arcs l) size r) → ∃ r,Ev (fun k=>spec_l06Pushed.l0 k size g i n l) r ∧ PushedIs n (arcs l) size r:=fun i g hi hF he hs again=>by
    by_cases c : (i : Int) < size
    · obtain ⟨r,h1,h2⟩:=pushed_l1 (kk:=(i : Int)) hn hl hF (by omega) (fun g' a b=>again g' a b c) n.toNat 0 _ _ _ (Nat.zero_add _) (q0 g)
      rw [show ((0 : Nat) : Int) = 0 from rfl] at h1
      exact ⟨r,Ev.step (fun k=>by rw [spec_l06Pushed.l0,if_pos c,if_pos (by omega),if_pos (by omega),if_pos (by omega),Option.bind_some,if_pos (by simp;omega)];rfl) h1,h2⟩
    · exact ⟨g,Ev.step (f:=fun _=>some g) (fun k=>by rw [spec_l06Pushed.l0,if_neg c]) (Ev.now _),hF,by omega,.inl (by omega)⟩
  induction m with
  | zero =>
    intro i g hi hm hF he hs
    refine one i g hi hF he hs (fun g' hF' he' hlt=>?_)
    have:=(size_bound hF').1
    omega
  | succ m ih =>
    intro i g hi hm hF he hs
    refine one i g hi hF he hs (fun g' hF' he' hlt=>?_)
    have hw : wrap64 ((i : Int) + 1) = ((i + 1 : Nat) : Int):=by rw [w64 (by omega) (by omega)];omega
    rw [hw]
    exact ih (i + 1) g' (by omega) (by omega) hF' (by omega) (by omega)

theorem pushed_ev (hn : NetOk n (arcs l)) (hl : l.length ≤ 1048576) (size : Int) (h0 : 0 ≤ size) (hsz : size ≤ 1000000000) : ∃ r,Ev (fun k=>spec_l06Pushed.f k n l size) r ∧ PushedIs n (arcs l) size r:=by
  obtain ⟨z1,z2⟩:=zero_flow hn
  rw [arcs_len] at z1 z2
  obtain ⟨r,h1,h2⟩:=pushed_l0 (size:=size) hn hl hsz 64000 0 (List.replicate l.length 0) (by omega) (by omega) z1 (by rw [arcs_len];omega) (by omega)
  rw [show ((0 : Nat) : Int) = 0 from rfl] at h1
  exact ⟨r,Ev.congr (fun k=>by unfold spec_l06Pushed.f;rw [if_pos (by omega),Int.toNat_natCast,if_pos (by omega)]) h1,h2⟩
end

/-! spec.DrawPushed: a right net and a flow of it -/
/-! impl.NetOk -/
theorem impl_arcs (n : Int) (l : List S67) (hl : l.length ≤ 3200) (d : Nat) : ∀ i : Int,0 ≤ i → i + d = l.length →
    Ev (fun k=>impl_NetOk.l0 k l (l.length : Int) i n l) (boolP (∀ j : Nat,i ≤ j → j < l.length → ArcOk n (at_ (arcs l) j))):=by
  induction d with
  | zero =>
    intro i h0 h1
    rw [boolP_true (fun j a b=>by omega)]
    exact Ev.step (f:=fun _=>some true) (fun k=>by rw [impl_NetOk.l0,if_neg (by omega)]) (Ev.now _)
  | succ d ih =>
    intro i h0 h1
    have hi : ((i.toNat : Nat) : Int) = i:=by omega
    have bad : ¬ ArcOk n (at_ (arcs l) i.toNat) → boolP (∀ j : Nat,i ≤ j → j < l.length → ArcOk n (at_ (arcs l) j)) = false:=fun hb=>boolP_false (fun h=>hb (h i.toNat (by omega) (by omega)))
    have head : ∀ k,impl_NetOk.l0 (k + 1 + 1) l (l.length : Int) i n l = if ArcOk n (at_ (arcs l) i.toNat) then impl_NetOk.l0 k l (l.length : Int) (i + 1) n l else some false:=fun k=>by
      rw [impl_NetOk.l0,if_pos (by omega),if_pos h0,if_pos (by omega),at_0,at_1,at_2,at_3]
      simp only [impl_NetOk.j2]
      rw [w64 (x:=i + 1) (by omega) (by omega)]
      by_cases c1 : (at_ (arcs l) i.toNat).u < 0
      · rw [if_pos c1,if_pos trivial,if_neg (by unfold ArcOk;omega)]
      rw [if_neg c1]
      by_cases c2 : (at_ (arcs l) i.toNat).u ≥ n
      · rw [if_pos c2,if_pos trivial,if_neg (by unfold ArcOk;omega)]
      rw [if_neg c2]
      by_cases c3 : (at_ (arcs l) i.toNat).v < 0
      · rw [if_pos c3,if_pos trivial,if_neg (by unfold ArcOk;omega)]
      rw [if_neg c3]
      by_cases c4 : (at_ (arcs l) i.toNat).v ≥ n
      · rw [if_pos c4,if_pos trivial,if_neg (by unfold ArcOk;omega)]
      rw [if_neg c4]
      by_cases c5 : (at_ (arcs l) i.toNat).u = (at_ (arcs l) i.toNat).v
      · rw [if_pos (beq_iff_eq.mpr c5),if_neg (by unfold ArcOk;omega)]
      rw [if_neg (by simpa using c5)]
      by_cases c6 : (at_ (arcs l) i.toNat).r < 0
      · rw [if_pos c6,if_neg (by unfold ArcOk;omega)]
      rw [if_neg c6]
      by_cases c7 : (at_ (arcs l) i.toNat).r > 20
      · rw [if_pos c7,if_neg (by unfold ArcOk;omega)]
      rw [if_neg c7]
      by_cases c8 : (at_ (arcs l) i.toNat).c < 0
      · rw [if_pos c8,if_neg (by unfold ArcOk;omega)]
      rw [if_neg c8]
      by_cases c9 : (at_ (arcs l) i.toNat).c > 100
      · rw [if_pos c9,if_neg (by unfold ArcOk;omega)]
      rw [if_neg c9,if_pos (by unfold ArcOk;omega)]
    by_cases ha : ArcOk n (at_ (arcs l) i.toNat)
    · have e : boolP (∀ j : Nat,i ≤ j → j < l.length → ArcOk n (at_ (arcs l) j)) = boolP (∀ j : Nat,i + 1 ≤ j → j < l.length → ArcOk n (at_ (arcs l) j)):=by
        rw [Bool.eq_iff_iff,boolP_iff,boolP_iff]
        constructor
        · intro h j a b;exact h j (by omega) b
        · intro h j a b
          by_cases hj : j = i.toNat
          · rw [hj];exact ha
          · exact h j (by omega) b
      rw [e]
      exact Ev.step (g:=fun k=>impl_NetOk.l0 k l (l.length : Int) i n l) (f:=fun k=>impl_NetOk.l0 (k + 1) l (l.length : Int) i n l) (fun k=>rfl) (Ev.step (fun k=>by rw [head,if_pos ha]) (ih (i + 1) (by omega) (by omega)))
    · rw [bad ha]
      exact Ev.step (g:=fun k=>impl_NetOk.l0 k l (l.length : Int) i n l) (f:=fun k=>impl_NetOk.l0 (k + 1) l (l.length : Int) i n l) (fun k=>rfl) (Ev.step (f:=fun _=>some false) (fun k=>by rw [head,if_neg ha]) (Ev.now _))

theorem iNetOk (n : Int) (l : List S67) (hlen : l.length ≤ 1048576) : Ev (fun k=>impl_NetOk.f k n l) (boolP (NetOk n (arcs l))):=by
  have bad : ∀ hn : ¬ NetOk n (arcs l),Ev (fun k=>impl_NetOk.j0 k true n l) (boolP (NetOk n (arcs l))):=fun hn=>by
    rw [boolP_false hn]
    exact Ev.step (f:=fun _=>some false) (fun k=>by rw [impl_NetOk.j0,if_pos rfl]) (Ev.now _)
  by_cases h1 : n < 2
  · exact Ev.congr (fun k=>by unfold impl_NetOk.f;rw [if_pos h1]) (bad (fun hh=>by have:=hh.1;omega))
  by_cases h2 : n > 1500
  · exact Ev.congr (fun k=>by unfold impl_NetOk.f;rw [if_neg h1,if_pos h2]) (bad (fun hh=>by have:=hh.1;omega))
  refine Ev.congr (fun k=>by unfold impl_NetOk.f;rw [if_neg h1,if_neg h2]) ?_
  by_cases h3 : (l.length : Int) > 3200
  · rw [decide_eq_true h3]
    exact bad (fun hh=>by have:=hh.1;rw [arcs_len] at this;omega)
  · rw [decide_eq_false h3]
    have e : boolP (NetOk n (arcs l)) = boolP (∀ j : Nat,(0 : Int) ≤ j → j < l.length → ArcOk n (at_ (arcs l) j)):=by
      rw [Bool.eq_iff_iff,boolP_iff,boolP_iff]
      constructor
      · intro h j a b;exact h.2 j (by rw [arcs_len];exact b)
      · intro h;exact ⟨⟨by omega,by omega,by rw [arcs_len];omega⟩,fun i hi=>h i (by omega) (by rw [arcs_len] at hi;exact hi)⟩
    rw [e]
    exact Ev.step (fun k=>by rw [impl_NetOk.j0,if_neg (by simp)]) (impl_arcs n l (by omega) l.length 0 (by omega) (by omega))

/-! impl.excess -/
theorem excess_l0 {n : Int} {l : List S67} {f : List Int} (hn : NetOk n (arcs l)) (hf : f.length = l.length) (hr : InRoom (arcs l) f) (hm : l.length ≤ 1048576) (d : Nat) : ∀ (i : Nat) (ys : List Int),i + d = l.length →
    ys.length = n.toNat → (∀ x : Nat,(x : Int) < n → ys.getD x 0 = exc (arcs l) f i x) →
    ∃ zs,Ev (fun k=>impl_excess.l0 k f ys l (l.length : Int) i) zs ∧ zs.length = n.toNat ∧ ∀ x : Nat,(x : Int) < n → zs.getD x 0 = exc (arcs l) f l.length x:=by
  induction d with
  | zero =>
    intro i ys h1 hl hy
    obtain rfl : i = l.length:=h1
    exact ⟨ys,Ev.step (f:=fun _=>some ys) (fun k=>by rw [impl_excess.l0,if_neg nlt_i]) (Ev.now _),hl,hy⟩
  | succ d ih =>
    intro i ys h1 hl hy
    have hi : i < l.length:=by omega
    have hia : i < (arcs l).length:=by rw [arcs_len];exact hi
    have hif : i < f.length:=by rw [hf];exact hi
    obtain ⟨a1,a2,a3,a4,a5,a6,a7,a8,a9⟩:=hn.2 i hia
    have w1:=w64e (exc_bound hn hr i (Nat.le_of_lt hia) (at_ (arcs l) i).v) (hr i hia) a7
    have w2:=w64e (exc_bound hn hr i (Nat.le_of_lt hia) (at_ (arcs l) i).u) (hr i hia) a7
    obtain ⟨p1,p2,p3⟩:=put_step (G:=fun x=>exc (arcs l) f i x) (G':=fun x=>exc (arcs l) f (i + 1) x) (F:=f.getD i 0) a1 a2 a3 a4 a5 hl hy (fun x=>rfl)
    obtain ⟨zs,hz,hzl,hzx⟩:=ih (i + 1) _ (by omega) (by rw [List.length_set,List.length_set];exact hl) p3
    refine ⟨zs,Ev.step (fun k=>?_) hz,hzl,hzx⟩
    have ti : ((i : Int)).toNat = i:=Int.toNat_natCast i
    have e0 : (rd_T67 l (i : Int)).f0 = (at_ (arcs l) i).u:=by rw [at_0,ti]
    have e1 : (rd_T67 l (i : Int)).f1 = (at_ (arcs l) i).v:=by rw [at_1,ti]
    have ef : rd f (i : Int) = f.getD i 0:=by unfold rd;rw [ti]
    have p1' : rd ys (at_ (arcs l) i).v = exc (arcs l) f i (at_ (arcs l) i).v:=p1
    have p2' : rd (ys.set (at_ (arcs l) i).v.toNat (exc (arcs l) f i (at_ (arcs l) i).v + f.getD i 0)) (at_ (arcs l) i).u = exc (arcs l) f i (at_ (arcs l) i).u:=p2
    rw [impl_excess.l0,if_pos (lt_i hi),if_pos (ge_i i),if_pos (lt_i hi),e0,e1,ef,if_pos a3,if_pos (lt_len a4 hl a3),if_pos (lt_i hif),p1',w1.1,Option.bind_some,if_pos a1,if_pos (lt_len a2 hl a1),p2',w2.2.1,next_i hi hm]

theorem excess_ev {n : Int} {l : List S67} {f : List Int} (hn : NetOk n (arcs l)) (hf : f.length = l.length) (hr : InRoom (arcs l) f) :
    ∃ zs,Ev (fun k=>impl_excess.f k n l f) zs ∧ zs.length = n.toNat ∧ ∀ x : Nat,(x : Int) < n → zs.getD x 0 = exc (arcs l) f l.length x:=by
  have g1 : 0 ≤ n:=by have:=hn.1.1;omega
  have g2 : n.toNat ≤ 35184372088832:=by have:=hn.1.2.1;omega
  have hm : l.length ≤ 1048576:=by have:=hn.1.2.2;rw [arcs_len] at this;omega
  obtain ⟨zs,hz,h1,h2⟩:=excess_l0 hn hf hr hm l.length 0 (List.replicate n.toNat 0) (Nat.zero_add _) (by simp) (fun x hx=>by
    rw [List.getD_eq_getElem?_getD,List.getElem?_replicate]
    split <;> rfl)
  rw [show ((0 : Nat) : Int) = 0 from rfl] at hz
  exact ⟨zs,Ev.congr (fun k=>by unfold impl_excess.f;rw [if_pos g1,if_pos g2]) hz,h1,h2⟩

/-! impl.FlowOk -/
theorem impl_nodes {n : Int} (zs : List Int) (e : Nat → Int) (hz : zs.length = n.toNat) (hn : 2 ≤ n) (hn2 : n ≤ 1500) (he : ∀ x : Nat,(x : Int) < n → zs.getD x 0 = e x) (d : Nat) : ∀ i : Nat,i + d = n.toNat →
    Ev (fun k=>impl_FlowOk.l1 k zs (zs.length : Int) i) (boolP (∀ x : Nat,i ≤ x → 2 ≤ x → (x : Int) < n → e x = 0)):=by
  induction d with
  | zero =>
    intro i h
    rw [boolP_true (fun x a b c=>by omega)]
    exact Ev.step (f:=fun _=>some true) (fun k=>by rw [impl_FlowOk.l1,if_neg (by omega)]) (Ev.now _)
  | succ d ih =>
    intro i h
    have ei : rd zs (i : Int) = e i:=by unfold rd;rw [Int.toNat_natCast];exact he i (by omega)
    have hw : wrap64 ((i : Int) + 1) = ((i + 1 : Nat) : Int):=by rw [w64 (by omega) (by omega)];omega
    by_cases hgo : 2 ≤ i ∧ e i ≠ 0
    · rw [boolP_false (fun hh=>hgo.2 (hh i (Nat.le_refl _) hgo.1 (by omega)))]
      exact Ev.step (f:=fun _=>some false) (fun k=>by rw [impl_FlowOk.l1,if_pos (by omega),if_pos (by omega),if_pos (by omega),if_pos (by omega),ei,if_neg hgo.2]) (Ev.now _)
    · have e2 : boolP (∀ x : Nat,i ≤ x → 2 ≤ x → (x : Int) < n → e x = 0) = boolP (∀ x : Nat,i + 1 ≤ x → 2 ≤ x → (x : Int) < n → e x = 0):=by
        rw [Bool.eq_iff_iff,boolP_iff,boolP_iff]
        constructor
        · intro hh x a b c;exact hh x (by omega) b c
        · intro hh x a b c
          by_cases hx : x = i
          · subst hx
            exact Decidable.byContradiction fun hne=>hgo ⟨b,hne⟩
          · exact hh x (by omega) b c
      rw [e2]
      refine Ev.step (f:=fun k=>impl_FlowOk.l1 k zs (zs.length : Int) ((i + 1 : Nat) : Int)) (fun k=>?_) (ih (i + 1) (by omega))
      rw [impl_FlowOk.l1,if_pos (by omega),if_pos (by omega),if_pos (by omega),hw]
      by_cases h1 : (i : Int) > 1
      · have : e i = 0:=Decidable.byContradiction fun hne=>hgo ⟨by omega,hne⟩
        rw [if_pos h1,ei,if_pos this]
      · rw [if_neg h1]

theorem impl_ranges {n : Int} {l : List S67} {f : List Int} (hn : NetOk n (arcs l)) (hf : f.length = l.length) (hm : l.length ≤ 1048576) (d : Nat) : ∀ i : Nat,i + d = l.length → (∀ j,j < i → 0 ≤ f.getD j 0 ∧ f.getD j 0 ≤ (at_ (arcs l) j).r) →
    Ev (fun k=>impl_FlowOk.l0 k f l (l.length : Int) i n l) (boolP (FlowOk n (arcs l) f)):=by
  have hal:=arcs_len l
  induction d with
  | zero =>
    intro i h hj
    have hr : InRoom (arcs l) f:=fun j hjl=>hj j (by omega)
    obtain ⟨zs,hz,hzl,hzx⟩:=excess_ev hn hf hr
    refine Ev.step (fun k=>by rw [impl_FlowOk.l0,if_neg (by omega)]) (Ev.bind hz ?_)
    have e : boolP (FlowOk n (arcs l) f) = boolP (∀ x : Nat,0 ≤ x → 2 ≤ x → (x : Int) < n → exc (arcs l) f l.length x = 0):=by
      rw [Bool.eq_iff_iff,boolP_iff,boolP_iff]
      constructor
      · intro hh x _ b c
        have:=hh.2.2.2 x b c
        rwa [hal] at this
      · intro hh
        refine ⟨hn,by omega,hr,fun x b c=>?_⟩
        rw [hal]
        exact hh x (Nat.zero_le _) b c
    rw [e]
    have h0:=impl_nodes zs (fun x=>exc (arcs l) f l.length x) hzl hn.1.1 hn.1.2.1 hzx n.toNat 0 (by omega)
    rw [show ((0 : Nat) : Int) = 0 from rfl] at h0
    exact h0
  | succ d ih =>
    intro i h hj
    have hi : i < l.length:=by omega
    have hia : i < (arcs l).length:=by rw [arcs_len];exact hi
    have hif : i < f.length:=by rw [hf];exact hi
    have ti : ((i : Int)).toNat = i:=Int.toNat_natCast i
    by_cases c1 : f.getD i 0 < 0
    · rw [boolP_false (fun hh : FlowOk n (arcs l) f=>absurd (hh.2.2.1 i hia).1 (Int.not_le.mpr c1))]
      exact Ev.step (f:=fun _=>some false) (fun k=>by
        have ef : rd f (i : Int) = f.getD i 0:=by unfold rd;rw [ti]
        rw [impl_FlowOk.l0,if_pos (lt_i hi),if_pos (ge_i i),if_pos (lt_i hi),if_pos (lt_i hif),ef,if_pos c1]) (Ev.now _)
    · by_cases c2 : f.getD i 0 > (at_ (arcs l) i).r
      · rw [boolP_false (fun hh : FlowOk n (arcs l) f=>absurd (hh.2.2.1 i hia).2 (Int.not_le.mpr c2))]
        exact Ev.step (f:=fun _=>some false) (fun k=>by
          have e2 : (rd_T67 l (i : Int)).f2 = (at_ (arcs l) i).r:=by rw [at_2,ti]
          have ef : rd f (i : Int) = f.getD i 0:=by unfold rd;rw [ti]
          rw [impl_FlowOk.l0,if_pos (lt_i hi),if_pos (ge_i i),if_pos (lt_i hi),if_pos (lt_i hif),ef,e2,if_neg c1,if_pos c2]) (Ev.now _)
      · refine Ev.step (fun k=>?_) (ih (i + 1) (by omega) (fun j hj2=>?_))
        · have e2 : (rd_T67 l (i : Int)).f2 = (at_ (arcs l) i).r:=by rw [at_2,ti]
          have ef : rd f (i : Int) = f.getD i 0:=by unfold rd;rw [ti]
          rw [impl_FlowOk.l0,if_pos (lt_i hi),if_pos (ge_i i),if_pos (lt_i hi),if_pos (lt_i hif),ef,e2,if_neg c1,if_neg c2,next_i hi hm]
        · rcases Nat.lt_or_ge j i with hji|hji
          · exact hj j hji
          · obtain rfl : j = i:=by omega
            exact ⟨Int.not_lt.mp c1,Int.not_lt.mp c2⟩

theorem iFlowOk (n : Int) (l : List S67) (f : List Int) (hlen : l.length ≤ 1048576) : Ev (fun k=>impl_FlowOk.f k n l f) (boolP (FlowOk n (arcs l) f)):=by
  have bad : ∀ hn : ¬ FlowOk n (arcs l) f,Ev (fun k=>impl_FlowOk.j0 k f true n l) (boolP (FlowOk n (arcs l) f)):=fun hn=>by
    rw [boolP_false hn]
    exact Ev.step (f:=fun _=>some false) (fun k=>by rw [impl_FlowOk.j0,if_pos rfl]) (Ev.now _)
  refine Ev.bind (iNetOk n l hlen) ?_
  by_cases hn : NetOk n (arcs l)
  · refine Ev.congr (fun k=>by rw [if_pos (boolP_true hn)]) ?_
    by_cases hf : f.length = l.length
    · refine Ev.step (fun k=>by rw [impl_FlowOk.j0,if_neg (by simp [hf])]) ?_
      have h0:=impl_ranges hn hf hlen l.length 0 (Nat.zero_add _) (fun j hj=>absurd hj (by omega))
      rw [show ((0 : Nat) : Int) = 0 from rfl] at h0
      exact h0
    · have : ((f.length : Int) != (l.length : Int)) = true:=by simp;omega
      simp only [this]
      exact bad (fun hh=>hf (by have:=hh.2.1;rw [arcs_len] at this;exact this))
  · refine Ev.congr (fun k=>by rw [if_neg (by rw [boolP_false hn];simp)]) (bad (fun hh=>hn hh.1))

/-! impl.FlowSize -/
theorem iFlowSize (n : Int) (l : List S67) (f : List Int) (hlen : l.length ≤ 1048576) : Ev (fun k=>impl_FlowSize.f k n l f) (flowSize n (arcs l) f):=by
  refine Ev.bind (iFlowOk n l f hlen) ?_
  unfold flowSize
  by_cases hn : FlowOk n (arcs l) f
  · rw [if_pos (boolP_true hn)]
    obtain ⟨zs,hz,hzl,hzx⟩:=excess_ev hn.1 (by have:=hn.2.1;rw [arcs_len] at this;exact this) hn.2.2.1
    have g0 : (0 : Int) < (zs.length : Int):=by have h1:=hn.1.1;omega
    have g1 : ((0 : Nat) : Int) < n:=by have h1:=hn.1.1;omega
    refine Ev.congr (fun k=>by rw [if_pos (boolP_true hn)]) (Ev.bind hz ?_)
    have e : rd zs 0 = exc (arcs l) f l.length 0:=hzx 0 g1
    have b:=exc_bound hn.1 hn.2.2.1 l.length (by rw [arcs_len];exact Nat.le_refl _) 0
    exact Ev.of_eq fun k=>by rw [if_pos g0,e,w64n b,arcs_len]
  · rw [if_neg (by rw [boolP_false hn];simp)]
    exact Ev.of_eq fun k=>by rw [if_neg (by rw [boolP_false hn];simp)]

/-! spec.l06Out -/
theorem l06Out_l0 {n : Int} {l : List S67} {f : List Int} (hn : NetOk n (arcs l)) (hf : f.length = l.length) (hr : InRoom (arcs l) f) (hm : l.length ≤ 1048576) (d : Nat) : ∀ (i : Nat) (ys : List Int),i + d = l.length →
    ys.length = n.toNat → (∀ x : Nat,(x : Int) < n → ys.getD x 0 = - exc (arcs l) f i x) →
    ∃ zs,Ev (fun k=>spec_l06Out.l0 k f ys i n l) zs ∧ zs.length = n.toNat ∧ ∀ x : Nat,(x : Int) < n → zs.getD x 0 = - exc (arcs l) f l.length x:=by
  induction d with
  | zero =>
    intro i ys h1 hl hy
    obtain rfl : i = l.length:=h1
    exact ⟨ys,Ev.step (f:=fun _=>some ys) (fun k=>by rw [spec_l06Out.l0,if_neg (by rw [hf];exact nlt_i)]) (Ev.now _),hl,hy⟩
  | succ d ih =>
    intro i ys h1 hl hy
    have hi : i < l.length:=by omega
    have hia : i < (arcs l).length:=by rw [arcs_len];exact hi
    have hif : i < f.length:=by rw [hf];exact hi
    obtain ⟨a1,a2,a3,a4,a5,a6,a7,a8,a9⟩:=hn.2 i hia
    have w1:=w64e (exc_bound hn hr i (Nat.le_of_lt hia) (at_ (arcs l) i).v) (hr i hia) a7
    have w2:=w64e (exc_bound hn hr i (Nat.le_of_lt hia) (at_ (arcs l) i).u) (hr i hia) a7
    have hstep : ∀ x : Nat,- exc (arcs l) f (i + 1) x = - exc (arcs l) f i x + ((if (at_ (arcs l) i).u = (x : Int) then f.getD i 0 else 0) - (if (at_ (arcs l) i).v = (x : Int) then f.getD i 0 else 0)):=fun x=>by
      rw [exc_succ]
      generalize exc (arcs l) f i x = E
      generalize (if (at_ (arcs l) i).u = (x : Int) then f.getD i 0 else 0) = A
      generalize (if (at_ (arcs l) i).v = (x : Int) then f.getD i 0 else 0) = B
      omega
    obtain ⟨p1,p2,p3⟩:=put_step (G:=fun x=>- exc (arcs l) f i x) (G':=fun x=>- exc (arcs l) f (i + 1) x) (F:=f.getD i 0) a3 a4 a1 a2 (fun h=>a5 h.symm) hl hy hstep
    obtain ⟨zs,hz,hzl,hzx⟩:=ih (i + 1) _ (by omega) (by rw [List.length_set,List.length_set];exact hl) p3
    refine ⟨zs,Ev.step (fun k=>?_) hz,hzl,hzx⟩
    have ti : ((i : Int)).toNat = i:=Int.toNat_natCast i
    have e0 : (rd_T67 l (i : Int)).f0 = (at_ (arcs l) i).u:=by rw [at_0,ti]
    have e1 : (rd_T67 l (i : Int)).f1 = (at_ (arcs l) i).v:=by rw [at_1,ti]
    have ef : rd f (i : Int) = f.getD i 0:=by unfold rd;rw [ti]
    have p1' : rd ys (at_ (arcs l) i).u = - exc (arcs l) f i (at_ (arcs l) i).u:=p1
    have p2' : rd (ys.set (at_ (arcs l) i).u.toNat (- exc (arcs l) f i (at_ (arcs l) i).u + f.getD i 0)) (at_ (arcs l) i).v = - exc (arcs l) f i (at_ (arcs l) i).v:=p2
    rw [spec_l06Out.l0,if_pos (lt_i hif),if_pos (ge_i i),if_pos (lt_i hi),e0,e1,ef,if_pos a1,if_pos (lt_len a2 hl a1),p1',w2.2.2.1,Option.bind_some,if_pos a3,if_pos (lt_len a4 hl a3),p2',w1.2.2.2,next_i hi hm]

theorem l06Out_ev {n : Int} {l : List S67} {f : List Int} (hn : NetOk n (arcs l)) (hf : f.length = l.length) (hr : InRoom (arcs l) f) :
    ∃ zs,Ev (fun k=>spec_l06Out.f k n l f) zs ∧ zs.length = n.toNat ∧ ∀ x : Nat,(x : Int) < n → zs.getD x 0 = - exc (arcs l) f l.length x:=by
  have g1 : 0 ≤ n:=by have:=hn.1.1;omega
  have g2 : n.toNat ≤ 35184372088832:=by have:=hn.1.2.1;omega
  have hm : l.length ≤ 1048576:=by have:=hn.1.2.2;rw [arcs_len] at this;omega
  obtain ⟨zs,hz,h1,h2⟩:=l06Out_l0 hn hf hr hm l.length 0 (List.replicate n.toNat 0) (Nat.zero_add _) (by simp) (fun x hx=>by
    rw [List.getD_eq_getElem?_getD,List.getElem?_replicate]
    split <;> rfl)
  rw [show ((0 : Nat) : Int) = 0 from rfl] at hz
  exact ⟨zs,Ev.congr (fun k=>by unfold spec_l06Out.f;rw [if_pos g1,if_pos g2]) hz,h1,h2⟩

/-! spec.FlowOk -/
theorem spec_nodes {n : Int} (l : List S67) (zs : List Int) (e : Nat → Int) (hz : zs.length = n.toNat) (hn : 2 ≤ n) (hn2 : n ≤ 1500) (he : ∀ x : Nat,(x : Int) < n → zs.getD x 0 = - e x) (d : Nat) : ∀ i : Nat,2 ≤ i → i + d = n.toNat →
    Ev (fun k=>spec_FlowOk.l1 k zs i n l) (boolP (∀ x : Nat,i ≤ x → 2 ≤ x → (x : Int) < n → e x = 0)):=by
  induction d with
  | zero =>
    intro i hi2 h
    rw [boolP_true (fun x a b c=>by omega)]
    exact Ev.step (f:=fun _=>some true) (fun k=>by rw [spec_FlowOk.l1,if_neg (by omega)]) (Ev.now _)
  | succ d ih =>
    intro i hi2 h
    have ei : rd zs (i : Int) = - e i:=by unfold rd;rw [Int.toNat_natCast];exact he i (by omega)
    have hw : wrap64 ((i : Int) + 1) = ((i + 1 : Nat) : Int):=by rw [w64 (by omega) (by omega)];omega
    by_cases hgo : e i ≠ 0
    · rw [boolP_false (fun hh=>hgo (hh i (Nat.le_refl _) hi2 (by omega)))]
      exact Ev.step (f:=fun _=>some false) (fun k=>by rw [spec_FlowOk.l1,if_pos (by omega),if_pos (by omega),if_pos (by omega),ei,if_neg (by omega)]) (Ev.now _)
    · have e2 : boolP (∀ x : Nat,i ≤ x → 2 ≤ x → (x : Int) < n → e x = 0) = boolP (∀ x : Nat,i + 1 ≤ x → 2 ≤ x → (x : Int) < n → e x = 0):=by
        rw [Bool.eq_iff_iff,boolP_iff,boolP_iff]
        constructor
        · intro hh x a b c;exact hh x (by omega) b c
        · intro hh x a b c
          by_cases hx : x = i
          · subst hx
            exact Decidable.not_not.mp hgo
          · exact hh x (by omega) b c
      rw [e2]
      exact Ev.step (fun k=>by rw [spec_FlowOk.l1,if_pos (by omega),if_pos (by omega),if_pos (by omega),ei,if_pos (by omega),hw]) (ih (i + 1) (by omega) (by omega))

theorem spec_ranges {n : Int} {l : List S67} {f : List Int} (hn : NetOk n (arcs l)) (hf : f.length = l.length) (hm : l.length ≤ 1048576) (d : Nat) : ∀ i : Nat,i + d = l.length → (∀ j,j < i → 0 ≤ f.getD j 0 ∧ f.getD j 0 ≤ (at_ (arcs l) j).r) →
    Ev (fun k=>spec_FlowOk.l0 k f i n l) (boolP (FlowOk n (arcs l) f)):=by
  have hal:=arcs_len l
  induction d with
  | zero =>
    intro i h hj
    have hr : InRoom (arcs l) f:=fun j hjl=>hj j (by omega)
    obtain ⟨zs,hz,hzl,hzx⟩:=l06Out_ev hn hf hr
    refine Ev.step (fun k=>by rw [spec_FlowOk.l0,if_neg (by omega)]) (Ev.bind hz ?_)
    have e : boolP (FlowOk n (arcs l) f) = boolP (∀ x : Nat,2 ≤ x → 2 ≤ x → (x : Int) < n → exc (arcs l) f l.length x = 0):=by
      rw [Bool.eq_iff_iff,boolP_iff,boolP_iff]
      constructor
      · intro hh x _ b c
        have:=hh.2.2.2 x b c
        rwa [hal] at this
      · intro hh
        refine ⟨hn,by omega,hr,fun x b c=>?_⟩
        rw [hal]
        exact hh x b b c
    rw [e]
    have h0:=spec_nodes l zs (fun x=>exc (arcs l) f l.length x) hzl hn.1.1 hn.1.2.1 hzx (n.toNat - 2) 2 (by omega) (by have:=hn.1;omega)
    rw [show ((2 : Nat) : Int) = 2 from rfl] at h0
    exact h0
  | succ d ih =>
    intro i h hj
    have hi : i < l.length:=by omega
    have hia : i < (arcs l).length:=by rw [arcs_len];exact hi
    have hif : i < f.length:=by rw [hf];exact hi
    have ti : ((i : Int)).toNat = i:=Int.toNat_natCast i
    by_cases c1 : 0 ≤ f.getD i 0 ∧ f.getD i 0 ≤ (at_ (arcs l) i).r
    · refine Ev.step (fun k=>?_) (ih (i + 1) (by omega) (fun j hj2=>?_))
      · have e2 : (rd_T67 l (i : Int)).f2 = (at_ (arcs l) i).r:=by rw [at_2,ti]
        have ef : rd f (i : Int) = f.getD i 0:=by unfold rd;rw [ti]
        rw [spec_FlowOk.l0,if_pos (lt_i hif),if_pos (ge_i i),if_pos (lt_i hi),ef,e2,l01In_eq,Option.bind_some,if_pos (decide_eq_true c1),next_i hi hm]
      · rcases Nat.lt_or_ge j i with hji|hji
        · exact hj j hji
        · obtain rfl : j = i:=by omega
          exact c1
    · rw [boolP_false (fun hh : FlowOk n (arcs l) f=>c1 (hh.2.2.1 i hia))]
      exact Ev.step (f:=fun _=>some false) (fun k=>by
        have e2 : (rd_T67 l (i : Int)).f2 = (at_ (arcs l) i).r:=by rw [at_2,ti]
        have ef : rd f (i : Int) = f.getD i 0:=by unfold rd;rw [ti]
        rw [spec_FlowOk.l0,if_pos (lt_i hif),if_pos (ge_i i),if_pos (lt_i hi),ef,e2,l01In_eq,Option.bind_some,if_neg (by rw [decide_eq_false c1];simp)]) (Ev.now _)

theorem sFlowOk (n : Int) (l : List S67) (f : List Int) (hlen : l.length ≤ 1048576) : Ev (fun k=>spec_FlowOk.f k n l f) (boolP (FlowOk n (arcs l) f)):=by
  have bad : ∀ hn : ¬ FlowOk n (arcs l) f,Ev (fun k=>spec_FlowOk.j0 k f true n l) (boolP (FlowOk n (arcs l) f)):=fun hn=>by
    rw [boolP_false hn]
    exact Ev.step (f:=fun _=>some false) (fun k=>by rw [spec_FlowOk.j0,if_pos rfl]) (Ev.now _)
  refine Ev.bind (sNetOk n l hlen) ?_
  by_cases hn : NetOk n (arcs l)
  · refine Ev.congr (fun k=>by rw [if_pos (boolP_true hn)]) ?_
    by_cases hf : f.length = l.length
    · refine Ev.step (fun k=>by rw [spec_FlowOk.j0,if_neg (by simp [hf])]) ?_
      have h0:=spec_ranges hn hf hlen l.length 0 (Nat.zero_add _) (fun j hj=>absurd hj (by omega))
      rw [show ((0 : Nat) : Int) = 0 from rfl] at h0
      exact h0
    · have : ((f.length : Int) != (l.length : Int)) = true:=by simp;omega
      simp only [this]
      exact bad (fun hh=>hf (by have:=hh.2.1;rw [arcs_len] at this;exact this))
  · refine Ev.congr (fun k=>by rw [if_neg (by rw [boolP_false hn];simp)]) (bad (fun hh=>hn hh.1))

/-! spec.FlowSize -/
theorem sFlowSize (n : Int) (l : List S67) (f : List Int) (hlen : l.length ≤ 1048576) : Ev (fun k=>spec_FlowSize.f k n l f) (flowSize n (arcs l) f):=by
  refine Ev.bind (sFlowOk n l f hlen) ?_
  unfold flowSize
  by_cases hn : FlowOk n (arcs l) f
  · rw [if_pos (boolP_true hn)]
    obtain ⟨zs,hz,hzl,hzx⟩:=l06Out_ev hn.1 (by have:=hn.2.1;rw [arcs_len] at this;exact this) hn.2.2.1
    have g0 : (0 : Int) < (zs.length : Int):=by have h1:=hn.1.1;omega
    have g1 : ((0 : Nat) : Int) < n:=by have h1:=hn.1.1;omega
    refine Ev.congr (fun k=>by rw [if_pos (boolP_true hn)]) (Ev.bind hz ?_)
    have e : rd zs 0 = - exc (arcs l) f l.length 0:=hzx 0 g1
    exact Ev.of_eq fun k=>by rw [if_pos g0,e,arcs_len]
  · rw [if_neg (by rw [boolP_false hn];simp)]
    exact Ev.of_eq fun k=>by rw [if_neg (by rw [boolP_false hn];simp)]

/-! impl.stepsOf: the steps that leave each node, and those that enter it -/
def toS (s : Nat × Bool) : S79:=⟨s.1,s.2⟩
def outL (l : List Arc) (u : Int) : Nat → List (Nat × Bool)
  | 0 => []
  | m + 1 => outL l u m ++ ((if (at_ l m).u = u then [(m, false)] else []) ++ (if (at_ l m).v = u then [(m, true)] else []))
def inL (l : List Arc) (u : Int) : Nat → List (Nat × Bool)
  | 0 => []
  | m + 1 => inL l u m ++ ((if (at_ l m).v = u then [(m, false)] else []) ++ (if (at_ l m).u = u then [(m, true)] else []))

theorem outL_len (l : List Arc) (u : Int) (m : Nat) : (outL l u m).length ≤ 2 * m:=by
  induction m with
  | zero => exact Nat.le_refl _
  | succ m ih => rw [outL, List.length_append, List.length_append]; split <;> split <;> simp <;> omega
theorem inL_len (l : List Arc) (u : Int) (m : Nat) : (inL l u m).length ≤ 2 * m:=by
  induction m with
  | zero => exact Nat.le_refl _
  | succ m ih => rw [inL, List.length_append, List.length_append]; split <;> split <;> simp <;> omega

theorem mem_outL (l : List Arc) (u : Int) (m : Nat) (i : Nat) (b : Bool) : (i,b) ∈ outL l u m ↔ i < m ∧ sFrom l i b = u:=by
  induction m with
  | zero => simp [outL]
  | succ m ih =>
    rw [outL,List.mem_append,List.mem_append,ih]
    have e1 : (i,b) ∈ (if (at_ l m).u = u then [(m,false)] else ([] : List (Nat × Bool))) ↔ (at_ l m).u = u ∧ i = m ∧ b = false:=by split <;> simp [*]
    have e2 : (i,b) ∈ (if (at_ l m).v = u then [(m,true)] else ([] : List (Nat × Bool))) ↔ (at_ l m).v = u ∧ i = m ∧ b = true:=by split <;> simp [*]
    rw [e1,e2]
    constructor
    · rintro (⟨h1,h2⟩|⟨h1,rfl,rfl⟩|⟨h1,rfl,rfl⟩)
      · exact ⟨by omega,h2⟩
      · exact ⟨by omega,h1⟩
      · exact ⟨by omega,h1⟩
    · rintro ⟨h1,h2⟩
      by_cases h : i < m
      · exact .inl ⟨h,h2⟩
      · obtain rfl : i = m:=by omega
        cases b
        · exact .inr (.inl ⟨h2,rfl,rfl⟩)
        · exact .inr (.inr ⟨h2,rfl,rfl⟩)

theorem ends_ev (n : Int) (l : List S67) (i : Nat) (b : Bool) (hi : i < l.length) : impl_step_ends.f (i : Int) b n l = some (sFrom (arcs l) i b,sTo (arcs l) i b):=by
  have h0:=at_0 l (i : Int)
  have h1:=at_1 l (i : Int)
  rw [Int.toNat_natCast] at h0 h1
  unfold impl_step_ends.f
  rw [if_pos (by omega),if_pos (by omega),h0,h1]
  cases b
  · rw [if_neg (by simp)];rfl
  · rw [if_pos rfl];rfl

theorem room_ev (n : Int) (l : List S67) (f : List Int) (i : Nat) (b : Bool) (hi : i < l.length) (hf : f.length = l.length) (hw : -1000 ≤ sRoom (arcs l) f i b ∧ sRoom (arcs l) f i b ≤ 1000) : impl_step_room.f (i : Int) b n l f = some (sRoom (arcs l) f i b):=by
  have h2:=at_2 l (i : Int)
  have ef : rd f (i : Int) = f.getD i 0:=by unfold rd;rw [Int.toNat_natCast]
  rw [Int.toNat_natCast] at h2
  unfold impl_step_room.f
  unfold sRoom at hw ⊢
  cases b
  · simp only [Bool.false_eq_true,if_false] at hw ⊢
    rw [if_pos (by omega),if_pos (by omega),if_pos (by omega),h2,ef,w64 (by omega) (by omega)]
  · simp only [if_true] at hw ⊢
    rw [if_pos (by omega),if_pos (by omega),ef]

/-- the rows behind i arcs -/
structure Rows2 (l : List Arc) (N : Nat) (i : Nat) (L E : List (List S79)) : Prop where
  l1 : L.length = N
  l2 : E.length = N
  g1 : ∀ u : Nat,u < N → L.getD u [] = (outL l u i).map toS
  g2 : ∀ u : Nat,u < N → E.getD u [] = (inL l u i).map toS

theorem stepsOf_l0 {n : Int} {l : List S67} (hn : NetOk n (arcs l)) (hl : l.length ≤ 1048576) (d : Nat) : ∀ (i : Nat) (L E : List (List S79)),i + d = l.length → Rows2 (arcs l) n.toNat i L E → ∃ L' E',Ev (fun k=>impl_stepsOf.l0 k L E (l.length : Int) i n l) (L',E') ∧ Rows2 (arcs l) n.toNat l.length L' E':=by
  induction d with
  | zero =>
    intro i L E hi R
    obtain rfl : i = l.length:=by omega
    exact ⟨L,E,Ev.step (f:=fun _=>some (L,E)) (fun k=>by rw [impl_stepsOf.l0,if_neg (by omega)]) (Ev.now _),R⟩
  | succ d ih =>
    intro i L E hi R
    have hil : i < l.length:=by omega
    have ha:=hn.2 i (by rw [arcs_len];exact hil)
    obtain ⟨a1,a2,a3,a4,a5,_⟩:=ha
    have hw : wrap64 ((i : Int) + 1) = ((i + 1 : Nat) : Int):=by rw [w64 (by omega) (by omega)];omega
    have n2:=hn.1.1
    generalize hU : (at_ (arcs l) i).u = U at *
    generalize hV : (at_ (arcs l) i).v = V at *
    have hUt : ((U.toNat : Nat) : Int) = U:=by omega
    have hVt : ((V.toNat : Nat) : Int) = V:=by omega
    have lo:=fun u=>outL_len (arcs l) u i
    have li:=fun u=>inL_len (arcs l) u i
    -- the rows behind both steps
    have R' : Rows2 (arcs l) n.toNat (i + 1) ((L.set U.toNat (L.getD U.toNat [] ++ [toS (i,false)])).set V.toNat ((L.set U.toNat (L.getD U.toNat [] ++ [toS (i,false)])).getD V.toNat [] ++ [toS (i,true)])) ((E.set V.toNat (E.getD V.toNat [] ++ [toS (i,false)])).set U.toNat ((E.set V.toNat (E.getD V.toNat [] ++ [toS (i,false)])).getD U.toNat [] ++ [toS (i,true)])):=by
      refine ⟨by simp [R.l1],by simp [R.l2],fun u hu=>?_,fun u hu=>?_⟩
      · rw [getD_set _ _ _ _ _ (by simp [R.l1];omega),getD_set _ _ _ _ _ (by rw [R.l1];omega),getD_set _ _ _ _ _ (by rw [R.l1];omega)]
        rw [outL,hU,hV,List.map_append,List.map_append,← R.g1 u hu]
        by_cases c1 : u = V.toNat
        · subst c1
          rw [if_pos rfl,if_neg (by omega),if_neg (show ¬ U = ((V.toNat : Nat) : Int) by omega),if_pos (show V = ((V.toNat : Nat) : Int) by omega)]
          rfl
        · rw [if_neg c1,if_neg (show ¬ V = (u : Int) by omega)]
          by_cases c2 : u = U.toNat
          · subst c2
            rw [if_pos rfl,if_pos (show U = ((U.toNat : Nat) : Int) by omega)]
            simp
          · rw [if_neg c2,if_neg (show ¬ U = (u : Int) by omega)]
            simp
      · rw [getD_set _ _ _ _ _ (by simp [R.l2];omega),getD_set _ _ _ _ _ (by rw [R.l2];omega),getD_set _ _ _ _ _ (by rw [R.l2];omega)]
        rw [inL,hU,hV,List.map_append,List.map_append,← R.g2 u hu]
        by_cases c1 : u = U.toNat
        · subst c1
          rw [if_pos rfl,if_neg (by omega),if_neg (show ¬ V = ((U.toNat : Nat) : Int) by omega),if_pos (show U = ((U.toNat : Nat) : Int) by omega)]
          rfl
        · rw [if_neg c1,if_neg (show ¬ U = (u : Int) by omega)]
          by_cases c2 : u = V.toNat
          · subst c2
            rw [if_pos rfl,if_pos (show V = ((V.toNat : Nat) : Int) by omega)]
            simp
          · rw [if_neg c2,if_neg (show ¬ V = (u : Int) by omega)]
            simp
    obtain ⟨L',E',h1,h2⟩:=ih (i + 1) _ _ (by omega) R'
    refine ⟨L',E',?_,h2⟩
    have lL : ∀ u : Nat,u < n.toNat → (L.getD u []).length ≤ 2097152:=fun u hu=>by rw [R.g1 u hu,List.length_map];have:=lo u;omega
    have lE : ∀ u : Nat,u < n.toNat → (E.getD u []).length ≤ 2097152:=fun u hu=>by rw [R.g2 u hu,List.length_map];have:=li u;omega
    have ef:=ends_ev n l i false hil
    have et:=ends_ev n l i true hil
    have f1 : sFrom (arcs l) i false = U:=hU
    have f2 : sTo (arcs l) i false = V:=hV
    have f3 : sFrom (arcs l) i true = V:=hV
    have f4 : sTo (arcs l) i true = U:=hU
    rw [f1,f2] at ef
    rw [f3,f4] at et
    have rL : ∀ (X : List (List S79)) (z : Int),rd_L4 X z = X.getD z.toNat []:=fun X z=>rfl
    have w1 : wrap64 ((0 : Int) + 1) = 1:=by rw [w64 (by omega) (by omega)];rfl
    have w2 : wrap64 ((1 : Int) + 1) = 2:=by rw [w64 (by omega) (by omega)];rfl
    have p0 : rd_T79 [(⟨(i : Int),false⟩ : S79),(⟨(i : Int),true⟩ : S79)] 0 = ⟨(i : Int),false⟩:=rfl
    have p1 : rd_T79 [(⟨(i : Int),false⟩ : S79),(⟨(i : Int),true⟩ : S79)] 1 = ⟨(i : Int),true⟩:=rfl
    have pl : (([(⟨(i : Int),false⟩ : S79),(⟨(i : Int),true⟩ : S79)] : List S79).length : Int) = 2:=rfl
    refine Ev.step (fun k=>by rw [impl_stepsOf.l0,if_pos (by omega),Option.bind_some,pl]) ?_
    refine Ev.step (fun k=>by conv=>lhs;rw [impl_stepsOf.l1,if_pos (by omega),if_pos (by omega),pl,if_pos (by omega),p0];dsimp only;rw [ef,Option.bind_some];dsimp only;rw [if_pos a1,if_pos (by rw [R.l1];omega),rL,if_pos (by have:=lL U.toNat (by omega);omega),if_pos a3,if_pos (by rw [R.l2];omega),rL,if_pos (by have:=lE V.toNat (by omega);omega),w1]) ?_
    refine Ev.step (fun k=>by conv=>lhs;rw [impl_stepsOf.l1,if_pos (by omega),if_pos (by omega),pl,if_pos (by omega),p1];dsimp only;rw [et,Option.bind_some];dsimp only;rw [if_pos a3,if_pos (by rw [List.length_set,R.l1];omega),rL,if_pos (by rw [getD_set _ _ _ _ _ (by rw [R.l1];omega),if_neg (by omega)];have:=lL V.toNat (by omega);omega),if_pos a1,if_pos (by rw [List.length_set,R.l2];omega),rL,if_pos (by rw [getD_set _ _ _ _ _ (by rw [R.l2];omega),if_neg (by omega)];have:=lE U.toNat (by omega);omega),w2]) ?_
    exact Ev.step (fun k=>by rw [impl_stepsOf.l1,if_neg (by omega),hw];rfl) h1

theorem stepsOf_ev {n : Int} {l : List S67} (hn : NetOk n (arcs l)) (hl : l.length ≤ 1048576) : ∃ L E,Ev (fun k=>impl_stepsOf.f k n l) (L,E) ∧ Rows2 (arcs l) n.toNat l.length L E:=by
  have n2:=hn.1.1
  have n3:=hn.1.2.1
  obtain ⟨L,E,h1,h2⟩:=stepsOf_l0 hn hl l.length 0 (List.replicate n.toNat []) (List.replicate n.toNat []) (Nat.zero_add _) ⟨by simp,by simp,fun u hu=>by
    rw [List.getD_eq_getElem?_getD,List.getElem?_replicate,if_pos hu];rfl,fun u hu=>by
    rw [List.getD_eq_getElem?_getD,List.getElem?_replicate,if_pos hu];rfl⟩
  rw [show ((0 : Nat) : Int) = 0 from rfl] at h1
  exact ⟨L,E,Ev.congr (fun k=>by unfold impl_stepsOf.f;rw [if_pos (by omega),if_pos (by omega)]) h1,h2⟩

/-! reading the rows of steps -/
theorem rdOf_eq (xs : List Bool) (i : Int) : rdOf false xs i = xs.getD i.toNat false:=rfl

theorem room_bound {n : Int} {l : List Arc} {f : List Int} (hn : NetOk n l) (hr : InRoom l f) {i : Nat} (hi : i < l.length) (b : Bool) : -1000 ≤ sRoom l f i b ∧ sRoom l f i b ≤ 1000:=by
  have a:=hr i hi
  have c:=(hn.2 i hi).2.2.2.2.2
  unfold sRoom
  cases b
  · simp only [Bool.false_eq_true,if_false];omega
  · simp only [if_true];omega

theorem toS_get (row : List (Nat × Bool)) (j : Nat) (hj : j < row.length) : rd_T79 (row.map toS) (j : Int) = ⟨((row.getD j (0,false)).1 : Int),(row.getD j (0,false)).2⟩:=by
  unfold rd_T79
  rw [Int.toNat_natCast,List.getD_eq_getElem?_getD,List.getD_eq_getElem?_getD,List.getElem?_map,List.getElem?_eq_getElem hj]
  rfl

theorem row_mem {row : List (Nat × Bool)} {j : Nat} (hj : j < row.length) : row.getD j (0,false) ∈ row:=by
  rw [List.getD_eq_getElem?_getD,List.getElem?_eq_getElem hj]
  exact List.getElem_mem hj

theorem row_take {row : List (Nat × Bool)} {j : Nat} (hj : j < row.length) {s : Nat × Bool} (h : s ∈ row.take (j + 1)) : s ∈ row.take j ∨ s = row.getD j (0,false):=by
  rw [List.take_add_one,List.getElem?_eq_getElem hj,List.mem_append] at h
  rw [List.getD_eq_getElem?_getD,List.getElem?_eq_getElem hj]
  rcases h with h|h
  · exact .inl h
  · exact .inr (by simpa using h)

/-! impl.reach: the search by a queue -/
def ByI (bys : List S79) (v : Int) (i : Nat) (b : Bool) : Prop:=0 ≤ v ∧ bys.getD v.toNat z79 = ⟨i,b⟩

structure BfsI (N : Nat) (l : List Arc) (f : List Int) (h : Nat) (bys : List S79) (seen : List Bool) (Q : List Int) : Prop extends Bfs N l f (ByI bys) h seen Q where
  blen : bys.length = N
  cnt : unseen N seen + Q.length = N

theorem BfsI.len_le {N : Nat} {l : List Arc} {f : List Int} {h : Nat} {bys : List S79} {seen : List Bool} {Q : List Int} (q : BfsI N l f h bys seen Q) : Q.length ≤ N:=by
  have:=(unseen_bound N seen).1
  have:=q.cnt
  omega

section
variable {n : Int} {l : List S67} {f : List Int} {L E : List (List S79)} {G : List S79 × List Bool → Prop}
theorem reach_l1 (hn : NetOk n (arcs l)) (hl : l.length ≤ 1048576) (hf : f.length = l.length) (hr : InRoom (arcs l) f) (h : Nat) (v : Int)
    (next : ∀ bys seen Q,BfsI n.toNat (arcs l) f (h + 1) bys seen Q → ∃ r,Ev (fun k=>impl_reach.l0 k L f bys seen Q ((h + 1 : Nat) : Int) n l) r ∧ G r) (m : Nat) :
    ∀ (j : Nat) (bys : List S79) (seen : List Bool) (Q : List Int),j + m = (outL (arcs l) v l.length).length → h < Q.length → Q.getD h 0 = v → BfsI n.toNat (arcs l) f h bys seen Q → (∀ s,s ∈ (outL (arcs l) v l.length).take j → 0 < sRoom (arcs l) f s.1 s.2 → seen.getD (sTo (arcs l) s.1 s.2).toNat false = true) →
    ∃ r,Ev (fun k=>impl_reach.l1 k L f bys seen Q h ((outL (arcs l) v l.length).map toS) ((outL (arcs l) v l.length).length : Int) j n l) r ∧ G r:=by
  have hol:=outL_len (arcs l) v l.length
  have n15:=hn.1.2.1
  induction m with
  | zero =>
    intro j bys seen Q hj hh hv q hs
    rw [List.take_of_length_le (by omega)] at hs
    have hql:=q.len_le
    have hw : wrap64 ((h : Int) + 1) = ((h + 1 : Nat) : Int):=by rw [w64 (by omega) (by omega)];omega
    obtain ⟨r,h1,h2⟩:=next bys seen Q { q with
     done:=fun a ha haq i b hi hfr hro=>by
      by_cases e : a = h
      · subst e
        have hil : i < l.length:=by rw [arcs_len] at hi;exact hi
        have hmem : (i,b) ∈ outL (arcs l) v l.length:=(mem_outL (arcs l) v l.length i b).2 ⟨hil,hfr.trans hv⟩
        exact hs (i,b) hmem hro
      · exact q.done a (Nat.lt_of_le_of_ne (Nat.le_of_lt_succ ha) e) haq i b hi hfr hro }
    exact ⟨r,Ev.step (fun k=>by rw [impl_reach.l1,if_neg (by omega),hw]) h1,h2⟩
  | succ m ih =>
    intro j bys seen Q hj hh hv q hs
    have hjl : j < (outL (arcs l) v l.length).length:=by omega
    have hj1 : j + 1 + m = (outL (arcs l) v l.length).length:=by omega
    have hql:=q.len_le
    have hw : wrap64 ((j : Int) + 1) = ((j + 1 : Nat) : Int):=by rw [w64 (by omega) (by omega)];omega
    have hml : ((outL (arcs l) v l.length).map toS).length = (outL (arcs l) v l.length).length:=List.length_map ..
    have hA : (j : Int) < ((outL (arcs l) v l.length).length : Int):=Int.ofNat_lt.2 hjl
    have hB : (0 : Int) ≤ (j : Int):=Int.natCast_nonneg j
    have hC : (j : Int) < (((outL (arcs l) v l.length).map toS).length : Int):=by rw [hml];exact hA
    have hSl : (seen.length : Int) = n.toNat:=by rw [q.len]
    have hBl : (bys.length : Int) = n.toNat:=by rw [q.blen]
    have hQl : Q.length < 17592186044416:=by omega
    obtain ⟨s,hib⟩ : ∃ s,s = (outL (arcs l) v l.length).getD j (0,false):=⟨_,rfl⟩
    have hmj : s ∈ outL (arcs l) v l.length:=by rw [hib];exact row_mem hjl
    have hg:=toS_get _ j hjl
    rw [← hib] at hg
    have hsplit : ∀ s',s' ∈ (outL (arcs l) v l.length).take (j + 1) → s' ∈ (outL (arcs l) v l.length).take j ∨ s' = s:=fun s' h'=>by rw [hib];exact row_take hjl h'
    clear hib
    obtain ⟨i,b⟩:=s
    obtain ⟨hi,hfr'⟩:=(mem_outL (arcs l) v l.length i b).1 hmj
    have hia : i < (arcs l).length:=by rw [arcs_len];exact hi
    obtain ⟨_,e2,_,e4,_,_,_⟩:=Go.Proofs.Ytgkpgigoonhgdaa.MDist.ends_ok hn hia b
    have hu0 : 0 ≤ sTo (arcs l) i b:=by rw [← e2];exact Int.natCast_nonneg _
    have hu1 : sTo (arcs l) i b < (n.toNat : Int):=by rw [← e2];exact Int.ofNat_lt.2 e4
    have het:=ends_ev n l i b hi
    have hro:=room_ev n l f i b hi hf (room_bound hn hr hia b)
    obtain ⟨u,hu⟩ : ∃ u,Aside0 (u = sTo (arcs l) i b):=⟨_,⟨rfl⟩⟩
    obtain ⟨rm,hrm⟩ : ∃ rm,Aside0 (rm = sRoom (arcs l) f i b):=⟨_,⟨rfl⟩⟩
    clear e2 e4
    rw [← hu.out] at hu0 hu1 het
    rw [← hrm.out] at hro
    have hfr:=Aside0.mk hfr'
    have hb2:=Aside0.mk hg
    clear hfr' hg
    have hsu : u < (seen.length : Int):=by omega
    have hbu : u < (bys.length : Int):=by omega
    have hun : u.toNat < n.toNat:=by omega
    by_cases c1 : seen.getD u.toNat false = true
    · obtain ⟨r,h1,h2⟩:=ih (j + 1) bys seen Q hj1 hh hv q (fun s' hm hrm'=>by
        rcases hsplit s' hm with e|e
        · exact hs s' e hrm'
        · subst e;show seen.getD (sTo (arcs l) i b).toNat false = true;rw [← hu.out];exact c1)
      exact ⟨r,Ev.step (fun k=>by rw [impl_reach.l1,if_pos hA,if_pos hB,if_pos hC,hb2.out];dsimp only;rw [het,Option.bind_some];dsimp only;rw [if_pos hu0,if_pos hsu,rdOf_eq,if_pos c1,hw]) h1,h2⟩
    · have c1' : seen.getD u.toNat false = false:=by cases hx : seen.getD u.toNat false with
        | true => exact absurd hx c1
        | false => rfl
      by_cases c2 : rm > 0
      · have hbs : ∀ x : Nat,(bys.set u.toNat (⟨(i : Int),b⟩ : S79)).getD x z79 = if x = u.toNat then (⟨(i : Int),b⟩ : S79) else bys.getD x z79:=fun x=>getD_set _ _ _ _ _ (by rw [q.blen];exact hun)
        have q2:=q.toBfs.put (By':=ByI (bys.set u.toNat (⟨(i : Int),b⟩ : S79))) hh hia (hfr.out.trans hv.symm) (by rw [← hrm.out];exact c2) (by rw [← hu.out];exact hu0) (by rw [← hu.out];exact hu1) (by rw [← hu.out];exact c1') (by rw [← hu.out];exact ⟨hu0,by rw [hbs,if_pos rfl]⟩) (fun v' j' c' hne hB'=>⟨hB'.1,by
          rw [← hu.out] at hne
          have h0:=hB'.1
          rw [hbs,if_neg (by omega)];exact hB'.2⟩)
        rw [← hu.out] at q2
        have hset : ∀ x : Nat,(seen.set u.toNat true).getD x false = if x = u.toNat then true else seen.getD x false:=fun x=>getD_set _ _ _ _ _ (by rw [q.len];exact hun)
        have hcnt:=unseen_set q.len (y:=u.toNat) hun c1'
        have hcq:=q.cnt
        have hcnt2 : unseen n.toNat (seen.set u.toNat true) + ((Q ++ [u]).length : Int) = n.toNat:=by rw [hcnt,List.length_append];simp only [List.length_cons,List.length_nil];omega
        obtain ⟨r,h1,h2⟩:=ih (j + 1) _ _ (Q ++ [u]) hj1 (by rw [List.length_append];omega) (by rw [getD_app,if_pos hh];exact hv) ⟨q2,by rw [List.length_set];exact q.blen,hcnt2⟩ (fun s' hm hrm'=>by
          rw [hset]
          rcases hsplit s' hm with e|e
          · split
            · rfl
            · exact hs s' e hrm'
          · subst e;rw [if_pos (by show (sTo (arcs l) i b).toNat = u.toNat;rw [← hu.out])])
        exact ⟨r,Ev.step (fun k=>by rw [impl_reach.l1,if_pos hA,if_pos hB,if_pos hC,hb2.out];dsimp only;rw [het,Option.bind_some];dsimp only;rw [if_pos hu0,if_pos hsu,rdOf_eq,if_neg c1,hro,Option.bind_some,if_pos c2,if_pos hbu,if_pos hQl,hw]) h1,h2⟩
      · obtain ⟨r,h1,h2⟩:=ih (j + 1) bys seen Q hj1 hh hv q (fun s' hm hrm'=>by
          rcases hsplit s' hm with e|e
          · exact hs s' e hrm'
          · subst e;exact absurd (by rw [hrm.out];exact hrm') c2)
        exact ⟨r,Ev.step (fun k=>by rw [impl_reach.l1,if_pos hA,if_pos hB,if_pos hC,hb2.out];dsimp only;rw [het,Option.bind_some];dsimp only;rw [if_pos hu0,if_pos hsu,rdOf_eq,if_neg c1,hro,Option.bind_some,if_neg c2,hw]) h1,h2⟩

theorem reach_l0 (hn : NetOk n (arcs l)) (hl : l.length ≤ 1048576) (hf : f.length = l.length) (hr : InRoom (arcs l) f) (R : Rows2 (arcs l) n.toNat l.length L E) (m : Nat) : ∀ (h : Nat) (bys : List S79) (seen : List Bool) (Q : List Int),h + m = n.toNat → BfsI n.toNat (arcs l) f h bys seen Q → ∃ r,Ev (fun k=>impl_reach.l0 k L f bys seen Q h n l) r ∧ ∃ Q',BfsI n.toNat (arcs l) f Q'.length r.1 r.2 Q':=by
  have stop : ∀ (h : Nat) (bys : List S79) (seen : List Bool) (Q : List Int),Q.length ≤ h → BfsI n.toNat (arcs l) f h bys seen Q → ∃ r,Ev (fun k=>impl_reach.l0 k L f bys seen Q h n l) r ∧ ∃ Q',BfsI n.toNat (arcs l) f Q'.length r.1 r.2 Q':=fun h bys seen Q hq q =>
    ⟨(bys,seen),Ev.step (f:=fun _=>some (bys,seen)) (fun k=>by rw [impl_reach.l0,if_neg (by omega)]) (Ev.now _),Q,{ q with done:=fun a ha haq=>q.done a (by omega) haq }⟩
  induction m with
  | zero =>
    intro h bys seen Q hh q
    exact stop h bys seen Q (by have:=q.len_le;omega) q
  | succ m ih =>
    intro h bys seen Q hh q
    by_cases hq : h < Q.length
    · have hin:=q.inQ h hq
      have er : rd_L4 L (rd Q (h : Int)) = (outL (arcs l) (Q.getD h 0) l.length).map toS:=by
        have e1 : rd Q (h : Int) = Q.getD h 0:=by unfold rd;rw [Int.toNat_natCast]
        rw [e1]
        show L.getD (Q.getD h 0).toNat [] = _
        rw [R.g1 _ (by omega),show (((Q.getD h 0).toNat : Nat) : Int) = Q.getD h 0 by omega]
      have e1 : rd Q (h : Int) = Q.getD h 0:=by unfold rd;rw [Int.toNat_natCast]
      obtain ⟨r,h1,h2⟩:=reach_l1 (L:=L) (G:=fun r=>∃ Q',BfsI n.toNat (arcs l) f Q'.length r.1 r.2 Q') hn hl hf hr h (Q.getD h 0) (fun bys seen Q q=>ih (h + 1) bys seen Q (by omega) q) (outL (arcs l) (Q.getD h 0) l.length).length 0 bys seen Q (Nat.zero_add _) hq rfl q (fun s hs=>by simp at hs)
      rw [show ((0 : Nat) : Int) = 0 from rfl] at h1
      exact ⟨r,Ev.step (fun k=>by rw [impl_reach.l0,if_pos (by omega),if_pos (by omega),if_pos (by rw [e1];exact hin.1),if_pos (by rw [e1,R.l1];exact hin.2.1),er,List.length_map]) h1,h2⟩
    · exact stop h bys seen Q (by omega) q

theorem reach_ev (hn : NetOk n (arcs l)) (hl : l.length ≤ 1048576) (hf : f.length = l.length) (hr : InRoom (arcs l) f) (R : Rows2 (arcs l) n.toNat l.length L E) : ∃ bys seen,Ev (fun k=>impl_reach.f k n l L f) (bys,seen) ∧ ∃ Q,BfsI n.toNat (arcs l) f Q.length bys seen Q:=by
  have n2:=hn.1.1
  have n3:=hn.1.2.1
  have hrep : ∀ x : Nat,(List.replicate n.toNat false).getD x false = false:=fun x=>by
    rw [List.getD_eq_getElem?_getD,List.getElem?_replicate];split <;> rfl
  have h0 : ∀ x : Nat,((List.replicate n.toNat false).set 0 true).getD x false = if x = 0 then true else false:=fun x=>by
    rw [getD_set _ _ _ _ _ (by simp;omega),hrep]
  have q0 : BfsI n.toNat (arcs l) f 0 (List.replicate n.toNat z79) ((List.replicate n.toNat false).set 0 true) [0]:=by
    refine ⟨⟨by simp,fun a ha=>?_,fun a b ha hb _=>?_,fun x hx=>?_,⟨by simp,rfl⟩,fun a h1 h2=>?_,fun a ha=>by omega⟩,by simp,?_⟩
    · obtain rfl : a = 0:=by simp at ha;omega
      refine ⟨Int.le_refl _,?_,by rw [h0];rfl⟩
      show (0 : Int) < _
      omega
    · simp at ha hb;omega
    · rw [h0] at hx
      by_cases e : x = 0
      · exact ⟨0,by simp,by rw [e];rfl⟩
      · rw [if_neg e] at hx;cases hx
    · simp at h2;omega
    · have hu:=unseen_set (N:=n.toNat) (seen:=List.replicate n.toNat false) (by simp) (y:=0) (by omega) (hrep 0)
      have hz : unseen n.toNat (List.replicate n.toNat false) = n.toNat:=by
        unfold unseen
        have : sumTo n.toNat (fun i=>if (List.replicate n.toNat false).getD i false = true then (0 : Int) else 1) = sumTo n.toNat (fun _=>1):=sumTo_congr (fun i _=>by rw [hrep];rfl)
        rw [this]
        generalize n.toNat = N
        induction N with
        | zero => rfl
        | succ N ih => rw [sumTo, ih]; omega
      rw [hu,hz]
      simp
  obtain ⟨r,h1,Q,h2⟩:=reach_l0 (L:=L) (E:=E) hn hl hf hr R n.toNat 0 _ _ _ (Nat.zero_add _) q0
  rw [show ((0 : Nat) : Int) = 0 from rfl] at h1
  obtain ⟨bys,seen⟩:=r
  refine ⟨bys,seen,Ev.congr (fun k=>by unfold impl_reach.f;rw [if_pos (by omega),if_pos (by omega),if_pos (by omega),Option.bind_some,if_pos (by simp;omega)];rfl) h1,Q,h2⟩
end

/-! impl.pushed -/
theorem pushed_step (l : List S67) (g : List Int) (i : Nat) (b : Bool) (D : Int) (hi : i < l.length) (hg : g.length = l.length) (hD : 0 ≤ D ∧ D ≤ 20) (hB : -1000000 ≤ g.getD i 0 ∧ g.getD i 0 ≤ 1000000) : impl_pushed.f g (i : Int) b D = some (push g i b D):=by
  have eg : rd g (i : Int) = g.getD i 0:=by unfold rd;rw [Int.toNat_natCast]
  have w1 : wrap64 (-D) = -D:=w64 (by omega) (by omega)
  have w2 : wrap64 (g.getD i 0 + -D) = g.getD i 0 + -D:=w64 (by omega) (by omega)
  have w3 : wrap64 (g.getD i 0 + D) = g.getD i 0 + D:=w64 (by omega) (by omega)
  unfold impl_pushed.f
  cases b
  · rw [if_neg (by simp),if_pos (by omega),if_pos (by omega),eg,w3,Int.toNat_natCast]
    rfl
  · rw [if_pos rfl,if_pos (by omega),if_pos (by omega),eg,w1,w2,Int.toNat_natCast]
    rfl

/-! impl.MostFlow -/
theorem room_pos {n : Int} {l : List Arc} {f : List Int} (hn : NetOk n l) (hr : InRoom l f) {i : Nat} (hi : i < l.length) (b : Bool) : sRoom l f i b ≤ 20:=by
  have h1:=hr i hi
  have h2:=(hn.2 i hi).2.2.2.2.2
  cases b
  · show (at_ l i).r - f.getD i 0 ≤ 20;omega
  · show f.getD i 0 ≤ 20;omega

section
variable {n : Int} {l : List S67} {f : List Int} {L E : List (List S79)}

/-- the step that was noted at a node of the way -/
theorem note_at {bys : List S79} (hb : bys.length = n.toNat) (hn : NetOk n (arcs l)) {v : Int} {i : Nat} {b : Bool} (hi : i < (arcs l).length) (hto : sTo (arcs l) i b = v) (hby : ByI bys v i b) : 0 ≤ v ∧ v < (bys.length : Int) ∧ rd_T79 bys v = ⟨(i : Int),b⟩:=by
  have hen:=Go.Proofs.Ytgkpgigoonhgdaa.MDist.ends_ok hn hi b
  unfold Go.Proofs.Ytgkpgigoonhgdaa.MDist.tw Go.Proofs.Ytgkpgigoonhgdaa.MDist.fr at hen
  rw [hto] at hen
  refine ⟨hby.1,by rw [hb];omega,?_⟩
  unfold rd_T79
  exact hby.2

/-- the least room along the way -/
theorem most_l1 (hn : NetOk n (arcs l)) (hl : l.length ≤ 1048576) (hf : f.length = l.length) (hr : InRoom (arcs l) f) {bys : List S79} (hb : bys.length = n.toNat) (p : List (Nat × Bool)) : ∀ (v x : Int),0 < x → x ≤ 20 → PathL (arcs l) p v → Follow (arcs l) (ByI bys) p v → (∀ s,s ∈ p → 0 < sRoom (arcs l) f s.1 s.2) →
    ∃ D,0 < D ∧ D ≤ x ∧ (∀ s,s ∈ p → D ≤ sRoom (arcs l) f s.1 s.2) ∧ (∀ r,Ev (fun k=>impl_MostFlow.l2 k L f bys D 1 n l) r → Ev (fun k=>impl_MostFlow.l1 k L f bys x v n l) r):=by
  induction p with
  | nil =>
    intro v x h0 h1 hp hfo _
    have hv : v = 0:=hp
    exact ⟨x,h0,Int.le_refl _,fun s hs=>(by cases hs),fun r h=>Ev.step (fun k=>by rw [impl_MostFlow.l1,if_pos hv]) h⟩
  | cons s p ih =>
    intro v x h0 h1 hp hfo hro
    obtain ⟨i,b⟩:=s
    obtain ⟨hi,hto,hp'⟩:=hp
    obtain ⟨hv0,hby,hfo'⟩:=hfo
    have hil : i < l.length:=by rw [← arcs_len];exact hi
    obtain ⟨v0,v1,v2⟩:=note_at hb hn hi hto hby
    have hrm : 0 < sRoom (arcs l) f i b:=hro (i,b) (List.mem_cons_self ..)
    have hrb:=room_pos hn hr hi b
    have he:=ends_ev n l i b hil
    have hro2:=room_ev n l f i b hil hf (by omega)
    have hmn : 0 < mn x (sRoom (arcs l) f i b) ∧ mn x (sRoom (arcs l) f i b) ≤ x ∧ mn x (sRoom (arcs l) f i b) ≤ sRoom (arcs l) f i b:=by unfold mn;split <;> omega
    obtain ⟨D,d1,d2,d3,d4⟩:=ih (sFrom (arcs l) i b) (mn x (sRoom (arcs l) f i b)) hmn.1 (by omega) hp' hfo' (fun s hs=>hro s (List.mem_cons_of_mem _ hs))
    refine ⟨D,d1,by omega,fun s hs=>?_,fun r h=>Ev.step (fun k=>?_) (d4 r h)⟩
    · rcases List.mem_cons.1 hs with e|e
      · rw [e];show D ≤ sRoom (arcs l) f i b;omega
      · exact d3 s e
    · rw [impl_MostFlow.l1,if_neg hv0,if_pos v0,if_pos v1,v2]
      dsimp only
      rw [hro2,Option.bind_some,he,Option.bind_some]

/-- so much is pushed along the way -/
theorem most_l2 {r : Int × List Bool} (hn : NetOk n (arcs l)) (hl : l.length ≤ 1048576) {bys : List S79} (hb : bys.length = n.toNat) {D : Int} (hD : 0 ≤ D ∧ D ≤ 20) (p : List (Nat × Bool)) : ∀ (g : List Int) (v B : Int),g.length = l.length → 0 ≤ B → B + 20 * p.length ≤ 1000000 → (∀ j : Nat,-B ≤ g.getD j 0 ∧ g.getD j 0 ≤ B) → PathL (arcs l) p v → Follow (arcs l) (ByI bys) p v →
    Ev (fun k=>impl_MostFlow.l0 k L (pushAll g p D) n l) r → Ev (fun k=>impl_MostFlow.l2 k L g bys D v n l) r:=by
  induction p with
  | nil =>
    intro g v B hg _ _ _ hp hfo hr
    have hv : v = 0:=hp
    exact Ev.step (fun k=>by rw [impl_MostFlow.l2,if_pos hv];rfl) hr
  | cons s p ih =>
    intro g v B hg hB0 hB hgB hp hfo hr
    obtain ⟨i,b⟩:=s
    obtain ⟨hi,hto,hp'⟩:=hp
    obtain ⟨hv0,hby,hfo'⟩:=hfo
    have hil : i < l.length:=by rw [← arcs_len];exact hi
    obtain ⟨v0,v1,v2⟩:=note_at hb hn hi hto hby
    have hgi:=hgB i
    have hlen : ((List.length ((i,b) :: p) : Nat) : Int) = p.length + 1:=by simp
    have he:=ends_ev n l i b hil
    have hps:=pushed_step l g i b D hil hg hD (by omega)
    have hrec:=ih (push g i b D) (sFrom (arcs l) i b) (B + 20) (by rw [push_len];exact hg) (by omega) (by omega) (fun j=>by
      rw [push_get (by omega)]
      have:=hgB j
      split
      · cases b
        · simp only [Bool.false_eq_true,if_false];omega
        · simp only [if_true];omega
      · omega) hp' hfo' hr
    refine Ev.step (fun k=>?_) hrec
    rw [impl_MostFlow.l2,if_neg hv0,if_pos v0,if_pos v1,v2]
    dsimp only
    rw [hps,Option.bind_some,he,Option.bind_some]

theorem most_l0 (hn : NetOk n (arcs l)) (hl : l.length ≤ 1048576) (R : Rows2 (arcs l) n.toNat l.length L E) (m : Nat) : ∀ f,FlowOk n (arcs l) f → 64000 + exc (arcs l) f (arcs l).length 0 ≤ m → ∃ x s,Ev (fun k=>impl_MostFlow.l0 k L f n l) (x,s) ∧ MostIs n (arcs l) x s:=by
  have n15:=hn.1.2.1
  have n2:=hn.1.1
  have one : ∀ f,FlowOk n (arcs l) f → (∀ g,FlowOk n (arcs l) g → exc (arcs l) g (arcs l).length 0 < exc (arcs l) f (arcs l).length 0 → ∃ x s,Ev (fun k=>impl_MostFlow.l0 k L g n l) (x,s) ∧ MostIs n (arcs l) x s) → ∃ x s,Ev (fun k=>impl_MostFlow.l0 k L f n l) (x,s) ∧ MostIs n (arcs l) x s:=fun f hF again=>by
    have hf : f.length = l.length:=by have:=hF.2.1;rw [arcs_len] at this;exact this
    obtain ⟨bys,seen,h2,Q,q⟩:=reach_ev (L:=L) (E:=E) hn hl hf hF.2.2.1 R
    have hql:=q.len_le
    have e : rdOf false seen 1 = seen.getD 1 false:=rfl
    have hsl : (1 : Int) < (seen.length : Int):=by rw [q.len];omega
    by_cases c : seen.getD 1 false = true
    · obtain ⟨p,p1,p2,p3,p4,p5⟩:=q.toBfs.way c
      have p1' : PathL (arcs l) p 1:=p1
      have p2' : Follow (arcs l) (ByI bys) p 1:=p2
      have main : ∀ D,0 < D → D ≤ 20 → (∀ s,s ∈ p → D ≤ sRoom (arcs l) f s.1 s.2) → FlowOk n (arcs l) (pushAll f p D) ∧ exc (arcs l) (pushAll f p D) (arcs l).length 0 = exc (arcs l) f (arcs l).length 0 - D:=fun D d0 _ d2=>push_flow hF p p1' p3 D (by omega) d2
      have hl2 : ∀ D r,0 < D → D ≤ 20 → Ev (fun k=>impl_MostFlow.l0 k L (pushAll f p D) n l) r → Ev (fun k=>impl_MostFlow.l2 k L f bys D 1 n l) r:=fun D r d0 d1 hr=>most_l2 (r:=r) hn hl q.blen ⟨by omega,d1⟩ p f 1 20 hf (by omega) (by omega) (fun j=>by
        by_cases hj : j < (arcs l).length
        · have a:=hF.2.2.1 j hj
          have b:=(hn.2 j hj).2.2.2.2.2
          omega
        · rw [arcs_len] at hj
          rw [List.getD_eq_getElem?_getD,List.getElem?_eq_none (by omega)]
          simp) p1' p2' hr
      obtain ⟨D,d0,d1,d2,d3⟩ : ∃ D,0 < D ∧ D ≤ 20 ∧ (∀ s,s ∈ p → D ≤ sRoom (arcs l) f s.1 s.2) ∧ ∀ r,Ev (fun k=>impl_MostFlow.l2 k L f bys D 1 n l) r → Ev (fun k=>impl_MostFlow.l1 k L f bys 20 1 n l) r:=most_l1 hn hl hf hF.2.2.1 q.blen p 1 20 (by omega) (by omega) p1' p2' p5
      obtain ⟨g1,g2⟩:=main D d0 d1 d2
      obtain ⟨x,s,h3,h4⟩:=again _ g1 (by omega)
      exact ⟨x,s,Ev.step (fun k=>by rw [impl_MostFlow.l0]) (Ev.bind h2 (Ev.congr (fun k=>by rw [if_pos hsl,e,if_pos c]) (d3 _ (hl2 D _ d0 d1 h3)))),h4⟩
    · have c' : seen.getD 1 false = false:=by cases hx : seen.getD 1 false with
        | true => exact absurd hx c
        | false => rfl
      obtain ⟨zs,hz,hzl,hzx⟩:=excess_ev hn hf hF.2.2.1
      have g0 : (0 : Int) < (zs.length : Int):=by omega
      have g1 : ((0 : Nat) : Int) < n:=by omega
      have ez : rd zs 0 = exc (arcs l) f l.length 0:=hzx 0 g1
      have b:=exc_bound hn hF.2.2.1 l.length (by rw [arcs_len];exact Nat.le_refl _) 0
      refine ⟨- exc (arcs l) f (arcs l).length 0,seen,?_,.inr ⟨hn,f,hF,q.len,q.toBfs.reach (Nat.le_refl _) (fun i hi=>⟨(hn.2 i hi).1,(hn.2 i hi).2.2.1⟩),c',rfl⟩⟩
      refine Ev.step (fun k=>by rw [impl_MostFlow.l0]) ?_
      refine Ev.bind h2 ?_
      refine Ev.congr (fun k=>by rw [if_pos hsl,e,if_neg c]) (Ev.bind hz ?_)
      exact Ev.of_eq fun k=>by rw [if_pos g0,ez,w64n b,arcs_len]
  induction m with
  | zero =>
    intro f hF hm
    refine one f hF (fun g hG hlt=>?_)
    have:=size_bound hG
    omega
  | succ m ih =>
    intro f hF hm
    exact one f hF (fun g hG hlt=>ih g hG (by omega))
end

theorem iMostFlow (n : Int) (l : List S67) (hl : l.length ≤ 1048576) : ∃ m r,Ev (fun k=>impl_MostFlow.f k n l) (m,r) ∧ MostIs n (arcs l) m r:=by
  have hN:=iNetOk n l hl
  by_cases h : NetOk n (arcs l)
  · rw [boolP_true h] at hN
    obtain ⟨L,E,h1,R⟩:=stepsOf_ev h hl
    obtain ⟨z1,z2⟩:=zero_flow h
    rw [arcs_len] at z1 z2
    obtain ⟨x,s,h2,h3⟩:=most_l0 (L:=L) (E:=E) h hl R 64000 (List.replicate l.length 0) z1 (by rw [arcs_len,z2];omega)
    refine ⟨x,s,?_,h3⟩
    refine Ev.bind hN ?_
    refine Ev.congr (fun k=>by rw [if_pos rfl]) (Ev.bind h1 ?_)
    exact Ev.congr (fun k=>by rw [if_pos (by omega),if_pos (by omega),Int.toNat_natCast]) h2
  · rw [boolP_false h] at hN
    exact ⟨-1,[],Ev.bind hN (Ev.of_eq fun k=>by rw [if_neg (by simp)]),.inl ⟨h,rfl,rfl⟩⟩

/-! impl.CutOk -/
theorem iCutOk (n : Int) (l : List S67) (s : List Bool) (hlen : l.length ≤ 1048576) : Ev (fun k=>impl_CutOk.f k n l s) (boolP (CutOk n (arcs l) s)):=by
  refine Ev.bind (iNetOk n l hlen) ?_
  by_cases hn' : ¬ (NetOk n (arcs l))
  · have hn:=hn'
    rw [boolP_false (fun hh : CutOk n (arcs l) s=>hn hh.1)]
    exact Ev.of_eq fun k=>by rw [if_neg (by rw [boolP_false hn];simp)]
  have hn:=Classical.not_not.mp hn'
  have h1:=hn.1
  refine Ev.congr (fun k=>by rw [if_pos (boolP_true hn)]) ?_
  by_cases h2' : ¬ ((s.length : Int) = n)
  · have h2:=h2'
    rw [boolP_false (fun hh : CutOk n (arcs l) s=>h2 hh.2.1)]
    exact Ev.of_eq fun k=>by rw [if_neg h2]
  have h2:=Decidable.not_not.mp h2'
  have e0 : rdOf false s 0 = s.getD 0 false:=rfl
  have e1 : rdOf false s 1 = s.getD 1 false:=rfl
  refine Ev.of_eq fun k=>?_
  rw [if_pos h2,if_pos (by omega),e0,e1]
  cases h3 : s.getD 0 false with
  | false => rw [if_neg (by simp), boolP_false (fun hh : CutOk n (arcs l) s => by have := hh.2.2.1; rw [h3] at this; cases this)]
  | true =>
    rw [if_pos rfl,if_pos (by omega)]
    cases h4 : s.getD 1 false with
    | false => rw [boolP_true (show CutOk n (arcs l) s from ⟨hn, h2, h3, h4⟩)]; rfl
    | true => rw [boolP_false (fun hh : CutOk n (arcs l) s => by have := hh.2.2.2; rw [h4] at this; cases this)]; rfl

/-! impl.CutRoom -/
theorem iCut_l0 {n : Int} {l : List S67} {s : List Bool} (hn : NetOk n (arcs l)) (hs : s.length = n.toNat) (hm : l.length ≤ 1048576) (d : Nat) : ∀ i : Nat,i + d = l.length →
    Ev (fun k=>impl_CutRoom.l0 k s (cutTo (arcs l) s i) l (l.length : Int) i) (cutTo (arcs l) s l.length):=by
  induction d with
  | zero =>
    intro i h
    obtain rfl : i = l.length:=h
    exact Ev.step (f:=fun _=>some _) (fun k=>by rw [impl_CutRoom.l0,if_neg nlt_i]) (Ev.now _)
  | succ d ih =>
    intro i h
    have hi : i < l.length:=by omega
    have hia : i < (arcs l).length:=by rw [arcs_len];exact hi
    obtain ⟨a1,a2,a3,a4,a5,a6,a7,a8,a9⟩:=hn.2 i hia
    have hih:=ih (i + 1) (by omega)
    refine Ev.step (fun k=>?_) hih
    have ti : ((i : Int)).toNat = i:=Int.toNat_natCast i
    have e0 : (rd_T67 l (i : Int)).f0 = (at_ (arcs l) i).u:=by rw [at_0,ti]
    have e1 : (rd_T67 l (i : Int)).f1 = (at_ (arcs l) i).v:=by rw [at_1,ti]
    have e2 : (rd_T67 l (i : Int)).f2 = (at_ (arcs l) i).r:=by rw [at_2,ti]
    have ru : rdOf false s (at_ (arcs l) i).u = s.getD (at_ (arcs l) i).u.toNat false:=rfl
    have rv : rdOf false s (at_ (arcs l) i).v = s.getD (at_ (arcs l) i).v.toNat false:=rfl
    rw [impl_CutRoom.l0,if_pos (lt_i hi),if_pos (ge_i i),if_pos (lt_i hi),e0,e1,e2,if_pos a1,if_pos (lt_len a2 hs a1),ru,rv,next_i hi hm]
    have b2:=cut_bound s hn (i + 1) hia
    have e : cutTo (arcs l) s (i + 1) = cutTo (arcs l) s i + (if s.getD (at_ (arcs l) i).u.toNat false = true ∧ s.getD (at_ (arcs l) i).v.toNat false = false then (at_ (arcs l) i).r else 0):=rfl
    cases h1 : s.getD (at_ (arcs l) i).u.toNat false with
    | false =>
      rw [h1,if_neg (by simp)] at e
      rw [if_neg (by simp),e,Int.add_zero]
    | true =>
      rw [if_pos rfl,if_pos a3,if_pos (lt_len a4 hs a3)]
      cases h2 : s.getD (at_ (arcs l) i).v.toNat false with
      | true =>
        rw [h1,h2,if_neg (by simp)] at e
        rw [if_pos rfl,e,Int.add_zero]
      | false =>
        rw [h1,h2,if_pos ⟨rfl,rfl⟩] at e
        rw [if_neg (by simp),← e,w64s b2.1 b2.2 lt64]

theorem iCutRoom (n : Int) (l : List S67) (s : List Bool) (hlen : l.length ≤ 1048576) : Ev (fun k=>impl_CutRoom.f k n l s) (cutRoom n (arcs l) s):=by
  refine Ev.bind (iCutOk n l s hlen) ?_
  unfold cutRoom
  by_cases hn : CutOk n (arcs l) s
  · rw [if_pos (boolP_true hn),arcs_len]
    have h0:=iCut_l0 (s:=s) hn.1 (by have:=hn.2.1;omega) (by have:=hn.1.1.2.2;rw [arcs_len] at this;omega) l.length 0 (Nat.zero_add _)
    rw [show cutTo (arcs l) s 0 = 0 from rfl,show ((0 : Nat) : Int) = 0 from rfl] at h0
    exact Ev.congr (fun k=>by rw [if_pos (boolP_true hn)]) h0
  · rw [if_neg (by rw [boolP_false hn];simp)]
    exact Ev.of_eq fun k=>by rw [if_neg (by rw [boolP_false hn];simp)]

/-! impl.Stopped -/
theorem iStopped (n : Int) (l : List S67) (f : List Int) (s : List Bool) (hlen : l.length ≤ 1048576) : Ev (fun k=>impl_Stopped.f k n l f s) (stopped n (arcs l) f s):=by
  refine Ev.bind (iFlowOk n l f hlen) ?_
  unfold stopped
  cases h1 : boolP (FlowOk n (arcs l) f) with
  | false => exact Ev.of_eq fun k => by rw [if_neg (by simp)]; rfl
  | true =>
    refine Ev.congr (fun k=>by rw [if_pos rfl]) (Ev.bind (iCutOk n l s hlen) ?_)
    cases h2 : boolP (CutOk n (arcs l) s) with
    | false => exact Ev.of_eq fun k => by rw [if_neg (by simp)]; rfl
    | true =>
      rw [Bool.true_and,Bool.true_and]
      refine Ev.congr (fun k=>by rw [if_pos rfl]) (Ev.bind (iFlowSize n l f hlen) ?_)
      refine Ev.bind (iCutRoom n l s hlen) ?_
      exact Ev.of_eq fun k=>rfl

/-! impl.ReachedBy -/
theorem iReachedBy (n : Int) (l : List S67) (f : List Int) (hl : l.length ≤ 1048576) : ∃ r,Ev (fun k=>impl_ReachedBy.f k n l f) r ∧ ReachIs n (arcs l) f r:=by
  have hF:=iFlowOk n l f hl
  by_cases h : FlowOk n (arcs l) f
  · rw [boolP_true h] at hF
    have hf : f.length = l.length:=by have:=h.2.1;rw [arcs_len] at this;exact this
    obtain ⟨L,E,h1,R⟩:=stepsOf_ev h.1 hl
    obtain ⟨bys,seen,h2,Q,q⟩:=reach_ev (L:=L) (E:=E) h.1 hl hf h.2.2.1 R
    refine ⟨seen,?_,.inr ⟨h,q.len,q.toBfs.reach (Nat.le_refl _) (fun i hi=>?_)⟩⟩
    · refine Ev.bind hF ?_
      refine Ev.congr (fun k=>by rw [if_pos rfl]) (Ev.bind h1 ?_)
      refine Ev.bind h2 ?_
      exact Ev.of_eq fun k=>rfl
    · have:=h.1.2 i hi
      exact ⟨this.1,this.2.2.1⟩
  · rw [boolP_false h] at hF
    exact ⟨[],Ev.bind hF (Ev.of_eq fun k=>by rw [if_neg (by simp)]),.inl ⟨h,rfl⟩⟩

end Go.Proofs.Ytgkpgigoonhgdaa.QFnMostCut
