/- FnTampered: the walk.. -/
import Derived.Test.YtpcmapfabndggaaGreatTamperedBWi4
set_option maxRecDepth 20000
set_option linter.unusedSimpArgs false
set_option linter.unusedVariables false
set_option linter.unnecessarySimpa false
namespace Go.Proofs.YtpcmapfabndggaaGreat
open Go Go.RowKit
open Enc (rd ow)
open Arg (argv)
open Ret (retv)
open Go.Proofs.Tryz
theorem Qya (fu:Nat) {w0:World} (r1:Request) (x5:Plan) {At:List Value} {F3:List Nat} (Br:rd w0 F3 At r1) {Av:List Value} {F7:List Nat} (Bd:rd w0 F7 Av x5) {r:Int}
    (h:Qqt fu r1 x5=some r) :
    Calls Tryz.prog 23 #[.agg At.toArray,.agg Av.toArray] w0 λe w=>e=.returned (I r)∧Ext [] w0 w:=by
 refine en (vs:=[_,_]) func23 z ntmps23 z λa k m=>?_;obtain ⟨v9,Cb,Aj,Ck,Af,Cp,rfl,rfl,Ab,Ac,Ae⟩:=Br;obtain ⟨Ai,Bw,Ag,Cq,rfl,rfl,Aa,Ad⟩:=Bd;unfold Qqt at h;refine wr (Qbk (cs:=(cR r1 v9 Aj Af)) m k z z z z z z λAs Bk a k m e Al=>Qbk (cs:=[Ai,Ag]) m k z z z z z z λAu Ax a k m e Ak=>pN 1 k z λa k=>nn (wp_seq (wr (sv k z (rL Qe6 m 1 Al 0 k z) λa k=>oE h λCs Bj h=>?_))));refine cC k m call48 z (Qi4 fu _ (Qag (m.r Ab) (m.r Ac) (m.r Ae)) Bj) λBy e a k m=>pN 1 k z λa k=>nn (cI h k z (λAz h=>?_) λAz h=>?_)
 · refine wr (pN 1 k z λa k=>nn (wp_ret (Qad ?_)));refine fS h k m z z
 refine wp_skip (Qaa ?_);refine Qcw (λa w=>K 38 [(2,pt As),(3,pt Au)] a∧St [] w0 w [([As],Bk),([Au],Ax)]∧Qq4 fu r1 x5=some r) ?_ ?_
 · rintro a Cl ⟨k,m,h⟩;unfold Qq4 at h;refine wr (sv k z (rL Q2j m 1 Ak 0 k z) λa k=>oE h λDe Bo h=>sC k call67 z (Qzj fu _ (Qwn (m.r Aa) (m.r Ad)) Bo) λCi Co hR=>?_);obtain ⟨Cv,Bq,rfl,e,Ar,Bb⟩:=hR;refine ⟨_,z,λa k=>?_⟩;have m:=m.nw e Bb Ar;refine pN 1 k z λa k=>nn (wr (pN 1 k z λa k=>oE h λCd Ay h=>sC k call68 z (Qhp fu _ (m.v Ar 0 z) Ay) λCz Cg hR=>?_));obtain ⟨Cr,rfl,e,Bh,Ap⟩:=hR;refine ⟨_,z,λa k=>?_⟩;have m:=m.mut 0 z e _ (λb hb=>⟨Bh b hb,Enc.rd_lt (Enc.ow_rd Ap) b hb⟩) (Enc.ow_nd Ap);refine nn (wp_seq (wr (pN 1 k z λa k=>sv k z (rL Qe6 m 1 Al 0 k z) λa k=>oE h λCw Bi h=>sC k call57 z (Qtf fu _ (Qag (m.r Ab) (m.r Ac) (m.r Ae)) Bi) λCy Ch hR=>?_)));obtain ⟨Cx,Bs,rfl,e,Aq,Aw⟩:=hR;refine ⟨_,z,λa k=>?_⟩;have m:=m.nw e Aw Aq;refine sv k z (Qa5 (α:=Int) (Enc.ow_rd Aq) k underlying49 z z) λa k=>oE h λCe Be h=>sC k call70 z (Qv9 fu _  Be) λBz Dd hR=>?_;obtain ⟨Cc,Bl,rfl,e,Am,Bm⟩:=hR;refine ⟨_,z,λa k=>?_⟩;have m:=m.nw e Bm Am
   refine oE h λCj Bp h=>cC k m call69 z (Quf fu _ _ (m.q Ap 2 z) (m.q Am 0 z) Bp) λCa e a k m=>pN 1 k z λa k=>nn (cI h k z (λBa h=>?_) λBa h=>?_)
   · refine wr (pN 1 k z λa k=>nn (wp_ret (Qad ?_)));refine fS h k m z z
   refine wp_skip (Qaa ?_);refine wp_seq (wr (sv k z (rL Qe6 m 3 Al 0 k z) λa k=>sv k z (rL Q2j m 4 Ak 0 k z) λa k=>oE h λDb Bf h=>cC k m call71 z (Qwb fu _ _ (Qag (m.r Ab) (m.r Ac) (m.r Ae)) (Qwn (m.r Aa) (m.r Ad)) Bf) λCu e a k m=>pN 1 k z λa k=>nn (wr (pN 2 k z λa k=>nn ?_))));refine cI h k z (λBv h=>?_) λBv h=>?_
   · refine wr (pN 2 k z λa k=>nn (wp_ret (Qad ?_)));refine fS h k m z z
   refine wp_skip (Qaa ?_);refine wr (sv k z (rL Qe6 m 3 Al 0 k z) λa k=>sv k z (rL Q2j m 4 Ak 0 k z) λa k=>oE h λDa Bn h=>cC k m call72 z (Qyl fu _ _ (Qag (m.r Ab) (m.r Ac) (m.r Ae)) (Qwn (m.r Aa) (m.r Ad)) Bn) λCn e a k m=>pN 1 k z λa k=>nn (wp_ret (fS h k m z z)))
 refine wr (sv k z (rL Q2j m 0 Ak 0 k z) λa k=>oE h λBu Bg h=>cC k m call64 z (Q3h fu _ (Qwn (m.r Aa) (m.r Ad)) Bg) λCt e a k m=>pN 2 k z λa k=>Qam (!Bu) (λAh=>?_) (λAh=>?_))
 · have h:=Qa0 Ah h;refine rB k 13 z Ah λk=>pN 4 k z λa k=>nn (wp_cond_true (k.ev z) (wr (pN 1 k z λa k=>nn (wp_ret (Qad ?_)))));refine fS h k m z z
 have h:=Qaz Ah h;refine rB k 13 z Ah λk=>fl Qji Qw2 m 0 Ak k z z λa k=>oE h λDc Bc h=>cC k m call65 z (Qj9 fu _ _ (m.r Aa) ⟨66,[],z,call66,λw Bx Cf r e Ao hx=>by obtain ⟨_,_,rfl,Ao⟩:=Ao; have m:=m.step e; exact Q1l fu _ Ao hx⟩ Bc) λCm e a k m=>pN 1 k z λa k=>nn (cI h k z (λBt h=>?_) λBt h=>?_)
 · refine wr (pN 1 k z λa k=>nn (wp_ret (Qad ?_)));refine fS h k m z z
 refine wp_skip (Qaa ?_);exact ⟨k.keep [2,3] z,m.sl [1,0] z,h⟩
theorem Qrj (fu:Nat) {w0:World} (r1:Request) (x5:Plan) {Ad:List Value} {F3:List Nat} (Am:rd w0 F3 Ad r1) {Aj:List Value} {F7:List Nat} (Ao:rd w0 F7 Aj x5) {r:Bool}
    (h:Qhj fu r1 x5=some r) :
    Calls Tryz.prog 12 #[.agg Ad.toArray,.agg Aj.toArray] w0 λe w=>e=.returned (.bool (r))∧Ext [] w0 w:=by
 refine en (vs:=[_,_]) func12 z ntmps12 z λa k m=>?_;obtain ⟨v9,Az,Ak,Ay,Ah,Au,rfl,rfl,Ae,Aa,Af⟩:=Am;obtain ⟨Ag,As,Ai,Aw,rfl,rfl,Ac,Ab⟩:=Ao;unfold Qhj at h;refine wr (Qbk (cs:=(cR r1 v9 Ak Ah)) m k z z z z z z λBb Ax a k m e Aq=>Qbk (cs:=[Ag,Ai]) m k z z z z z z λAt Ar a k m e Ap=>pN 1 k z λa k=>nn (wr (sv k z (rL Qe6 m 1 Aq 0 k z) λa k=>sv k z (rL Q2j m 0 Ap 0 k z) λa k=>oE h λBa Al h=>?_)));refine cC k m call23 z (Qya fu _ _ (Qag (m.r Ae) (m.r Aa) (m.r Af)) (Qwn (m.r Ac) (m.r Ab)) Al) λAv e a k m=>pN 2 k z λa k=>nn (wp_ret (fS h k m z z))
end Go.Proofs.YtpcmapfabndggaaGreat
