
import Derived.Test.YtfccnpibdkkboaaGreatFwB
set_option linter.unusedVariables false
set_option linter.unusedSimpArgs false
set_option linter.unusedSectionVars false
set_option linter.unnecessarySimpa false
section
namespace Go.Fw
variable [iZ]
inductive D where
 |b (v:Bool)
 |i (v:Int)
 |f (v:Nat)
 |s (v:List UInt8)
 |r (v:List (List AV))
def D.R : D->List (List AV) | .r v=>v|_=>[]
def AV.D : AV->D
 | .p (.bool v)=>.b v
 | .p (.int _ n)=>.i n
 | .p (.float _ n)=>.f n
 | .str l=>.s l
 | .sl rows _=>.r rows
 |_=>.b false
def uJ : AV:=.p undef
def aoN : AV->List Nat->AV
 |a,[]=>a
 | .agg l,j::p=>aoN (l.getD j uJ) p
 | .kS l,j::p=>aoN (l.getD j uJ) p
 |_,_=>uJ
theorem ng {a b:Int}(h0 : -9223372036854775808<=a+b)(h1:a+b<9223372036854775808):eG .i64 a b=a+b:=by
 have e:IntKind.wrap .i64 (a+b)=if (a+b) % 18446744073709551616>=9223372036854775808 then (a+b) % 18446744073709551616-18446744073709551616 else (a+b) % 18446744073709551616:=by
  show (if (true&&decide ((a+b) % 2 ^ 64>=2 ^ (64-1)))=true then (a+b) % 2 ^ 64-2 ^ 64 else (a+b) % 2 ^ 64)=_
  simp
 unfold eG
 rw [e]
 split<;>omega
theorem tH {a b:Int}(h0 : -9223372036854775808<=a-b)(h1:a-b<9223372036854775808):jg .i64 a b=a-b:=by
 have e:IntKind.wrap .i64 (a-b)=if (a-b) % 18446744073709551616>=9223372036854775808 then (a-b) % 18446744073709551616-18446744073709551616 else (a-b) % 18446744073709551616:=by
  show (if (true&&decide ((a-b) % 2 ^ 64>=2 ^ (64-1)))=true then (a-b) % 2 ^ 64-2 ^ 64 else (a-b) % 2 ^ 64)=_
  simp
 unfold jg
 rw [e]
 split<;>omega
end Go.Fw
end
section
namespace Go.Fw
variable [iZ]
end Go.Fw
end
section
namespace Go.Fw
variable [iZ]
def EG : List Nat->AV->AV->AV
 |[],_,y=>y
 |j::p,.agg l,y=>.agg (l.set j (EG p (l.getD j uJ) y))
 |j::p,.kS l,y=>.kS (l.set j (EG p (l.getD j uJ) y))
 |_::_,a,_=>a
def Nj (p:List Nat)(r:AV):List (List AV):=(aoN r p).D.R
def EH (k:pI):AH:=fun b=>if b=0 then some k else none
def Y0 (P:Program)(f:FuncId)(args:List AV)(r:AV)(p:List Nat)(sz:Nat):Prop:=
 ∀(w:World) (fix:Nat->Nat->Prop) (vs:List Value),(∀c o,fix c o->c<w.heap.size)->ZR w fix->iT w (iq fix) args vs->
  match P.funcs[f]? with
  |none=>False
  |some fn=>fn.body.isNone=false/\fn.name≠ "runtime.NumGoroutine" /\Calls P f vs.toArray w fun e w'=>∃v E',e=.returned v/\Step w.heap.size w (iq fix) w' E'/\
   eH w.heap.size w' E' (EH (.rows sz (Nj p r))) (fun b=>1<=b)/\Rep w' E' (EG p r (.os 0 sz 0 (Nj p r).length)) v
def kOf : AV->Nat
 | .p (.int _ n)=>n.toNat
 |_=>0
def TT : List AV:=[.p (.bool true)]
end Go.Fw
end
section
namespace Go.Fw
variable [iZ]
end Go.Fw
end
section
namespace Go.Fw
variable [iZ]
end Go.Fw
end
section
namespace Go.Fw
variable [iZ]
end Go.Fw
end
section
namespace Go.Fw
variable [iZ]
end Go.Fw
end
section
namespace Go.Fw
variable [iZ]
 mutual
def AV.fz : AV->Bool
  | .p _ | .str _ | .nan=>true
  | .agg cs=>jZ cs
  | .kS cs=>jZ cs
  | .sl rows full=>!full&&Nk rows
  | .vp row _=>jZ row
  | .fn _ x y=>jZ x&&jZ y
  | .wI _ v=>v.fz
  | .os .. | .op .. | .mp _=>false
def jZ : List AV->Bool
  |[]=>true
  |a::r=>a.fz&&jZ r
def Nk : List (List AV)->Bool
  |[]=>true
  |a::r=>jZ a&&Nk r
end
 mutual
theorem oL : ∀{a:AV},a.fz=true->a.clean=true
  | .p _,_=>rfl
  | .str _,_=>rfl
  | .nan,_=>rfl
  | .agg cs,h=>qY (l:=cs) h
  | .kS cs,h=>qY (l:=cs) h
  | .sl rows full,h=>by simp only [AV.fz,ay] at h;exact rZ h.2
  | .vp row _,h=>qY (l:=row) h
  | .fn _ x y,h=>by simp only [AV.fz,ay] at h;simp only [AV.clean,qY h.1,qY h.2,Bool.and_self]
  | .wI _ v,h=>oL (a:=v) h
  | .os ..,h=>by simp [AV.fz] at h
  | .op ..,h=>by simp [AV.fz] at h
  | .mp _,h=>by simp [AV.fz] at h
theorem qY : ∀{l:List AV},jZ l=true->jY l=true
  |[],_=>rfl
  |a::r,h=>by simp only [jZ,ay] at h;simp only [jY,oL h.1,qY h.2,Bool.and_self]
theorem rZ : ∀{l:List (List AV)},Nk l=true->iM l=true
  |[],_=>rfl
  |a::r,h=>by simp only [Nk,ay] at h;simp only [iM,qY h.1,rZ h.2,Bool.and_self]
end
 mutual
theorem qg {ah:AH}:∀{a:AV},a.fz=true->ny ah a=some a
  | .p _,_=>rfl
  | .str _,_=>rfl
  | .nan,_=>rfl
  | .agg cs,h=>by simp only [ny,sV (ah:=ah) (l:=cs) h];rfl
  | .kS cs,h=>by simp only [ny,sV (ah:=ah) (l:=cs) h];rfl
  | .sl rows full,h=>by
   simp only [AV.fz,ay,Bool.not_eq_true'] at h
   simp only [ny,Nl (ah:=ah) h.2,h.1];rfl
  | .vp row _,h=>by simp only [ny,sV (ah:=ah) (l:=row) h];rfl
  | .fn _ x y,h=>by simp only [AV.fz,ay] at h;simp only [ny,sV (ah:=ah) h.1,sV (ah:=ah) h.2];rfl
  | .wI _ v,h=>by simp only [ny,qg (ah:=ah) (a:=v) h];rfl
  | .os ..,h=>by simp [AV.fz] at h
  | .op ..,h=>by simp [AV.fz] at h
  | .mp _,h=>by simp [AV.fz] at h
theorem sV {ah:AH}:∀{l:List AV},jZ l=true->kN ah l=some l
  |[],_=>rfl
  |a::r,h=>by simp only [jZ,ay] at h;simp only [kN,qg (ah:=ah) h.1,sV (ah:=ah) h.2];rfl
theorem Nl {ah:AH}:∀{l:List (List AV)},Nk l=true->uX ah l=some l
  |[],_=>rfl
  |a::r,h=>by simp only [Nk,ay] at h;simp only [uX,sV (ah:=ah) h.1,Nl (ah:=ah) h.2];rfl
end
end Go.Fw
end
section
namespace Go.Fw
variable [iZ]
theorem RD {l:List AV}:jY l=true↔∀x∈l,x.clean=true:=by
 induction l with
 |nil=>simp [jY]
 |cons x l ih=>simp [jY,ih]
theorem O0 {l:List (List AV)}:iM l=true↔∀x∈l,jY x=true:=by
 induction l with
 |nil=>simp [iM]
 |cons x l ih=>simp [iM,ih]
end Go.Fw
end
section
namespace Go.Fw
variable [iZ]
end Go.Fw
end
section
namespace Go.Fw
variable [iZ]
theorem He {ah:AH}:∀{a b:List AV},kN ah (a++b)=(kN ah a).bind fun x=>(kN ah b).map fun y=>x++y
 |[],b=>by simp [kN]
 |x::a,b=>by
  simp only [cu,kN,He (a:=a)]
  cases ny ah x<;>cases kN ah a<;>cases kN ah b<;>rfl
theorem vg {l:List AV}:jZ l=true↔∀x∈l,x.fz=true:=by
 induction l with
 |nil=>simp [jZ]
 |cons x l ih=>simp [jZ,ih]
end Go.Fw
end
section
namespace Go.Fw
variable [iZ]
end Go.Fw
end
section
namespace Go.Fw
variable [iZ]
theorem xg {w:World}{E E':Env}(hf:∀c o,E.fix c o->E'.fix c o){a:AV}{v:Value}(h:Rep w E a v):(∀b∈a.refs,E'.own b=E.own b)->Rep w E' a v:=by
 induction h with
 |p h=>intro _;exact .p h
 |str s l h=>intro _;exact .str s l h
 |nan n hn=>intro _;exact .nan n hn
 |agg cs vs hl hs _ ih=>intro hr;exact .agg cs vs hl hs (fun i c v hc hv=>ih i c v hc hv (fun b hb=>hr b (jG i c hc hb)))
 |kS cs vs hl _ ih=>intro hr;exact .kS cs vs hl (fun i c v hc hv=>ih i c v hc hv (fun b hb=>hr b (jG i c hc hb)))
 |slnil full a=>intro _;exact .slnil full a
 |sl rows full sz c o cap g hcap hfull hsz hfix hcell kE _ ih=>
  intro hr
  exact .sl rows full sz c o cap g hcap hfull hsz (fun i row j x h1 h2=>hf _ _ (hfix i row j x h1 h2)) hcell kE (fun i row j x h1 h2=>ih i row j x h1 h2 (fun b hb=>hr b (uI i row h1 (jG j x h2 hb))))
 |vp row off c o g hfix hcell kE _ ih=>
  intro hr
  exact .vp row off c o g (fun j x h=>hf _ _ (hfix j x h)) hcell kE (fun j x h=>ih j x h (fun b hb=>hr b (jG j x h hb)))
 |lg b sz off a hb=>intro hr;exact .lg b sz off a (by rw [hr b (by simp [AV.refs])];exact hb)
 |os b sz off len c o cap hb hcap hsize=>intro hr;exact .os b sz off len c o cap (by rw [hr b (by simp [AV.refs])];exact hb) hcap hsize
 |op b sz row off c o hb=>intro hr;exact .op b sz row off c o (by rw [hr b (by simp [AV.refs])];exact hb)
 |fn f first captured vs us hl hl' _ _ ih ih'=>
  intro hr
  exact .fn f first captured vs us hl hl' (fun i c v hc hv=>ih i c v hc hv (fun b hb=>hr b (by simp only [AV.refs,aN];exact .inl (jG i c hc hb))))
   (fun i c v hc hv=>ih' i c v hc hv (fun b hb=>hr b (by simp only [AV.refs,aN];exact .inr (jG i c hc hb))))
 |wI t a v _ ih=>intro hr;exact .wI t a v (ih hr)
 |mp b c hb=>intro hr;exact .mp b c (by rw [hr b (by simp [AV.refs])];exact hb)
def pI.vW : pI->List Nat
 | .rows _ rs=>jI rs
 | .map es=>jR (es.map (·.1))++jR (es.map (·.2))
 | .it m _ _=>[m]
 | .tC _ _ rs=>jI rs
theorem rO.env {base:Nat}{w:World}{E E':Env}{b:Nat}{k:pI}(h:rO base w E b k)(hf:∀c o,E.fix c o->E'.fix c o)(hn:∀c o off,E.own b=.at c o->E'.fix c off->E.fix c off)(hb:E'.own b=E.own b)
  (hr:∀x∈k.vW,E'.own x=E.own x):rO base w E' b k:=by
 cases k with
 |rows sz rs=>
  rcases h with ⟨q1,q2⟩|⟨c,o,arr,ty,q1,q2,q3,q4,q5,q6,q7,q8⟩
  .exact .inl ⟨by rw [hb];exact q1,q2⟩
  .refine .inr ⟨c,o,arr,ty,by rw [hb];exact q1,q2,fun off h0=>q3 off (hn c o off q1 h0),q4,q5,q6,q7,fun i row j x hi hj=>?_⟩
   obtain ⟨v,hv,hx⟩:=q8 i row j x hi hj
   exact ⟨v,hv,xg hf hx fun y hy=>hr y (uI i row hi (jG j x hj hy))⟩
 |map es=>
  obtain ⟨c,lG,clock,q1,q2,q3,q4,q5,q6,q7⟩:=h
  refine ⟨c,lG,clock,by rw [hb];exact q1,q2,fun off h0=>q3 off (hn c 0 off q1 h0),q4,q5,fun i e ce hi hc=>?_,q7⟩
  obtain ⟨r1,r2,r3⟩:=q6 i e ce hi hc
  refine ⟨xg hf r1 fun y hy=>hr y ?_,xg hf r2 fun y hy=>hr y ?_,r3⟩
  .exact aN.2 (.inl (jG i e.1 (by simp [hi]) hy))
  .exact aN.2 (.inr (jG i e.2 (by simp [hi]) hy))
 |it m n k=>
  obtain ⟨c,cm,q1,q2,q3,q4,q5⟩:=h
  exact ⟨c,cm,by rw [hb];exact q1,q2,fun off h0=>q3 off (hn c 0 off q1 h0),q4,by rw [hr m (by simp [pI.vW])];exact q5⟩
 |tC ty sz rs=>
  rcases h with ⟨q1,q2⟩|⟨c,o,arr,q1,q2,q3,q4,⟨q5,q6,q7,q8⟩,q9⟩
  .exact .inl ⟨by rw [hb];exact q1,q2⟩
  .refine .inr ⟨c,o,arr,by rw [hb];exact q1,q2,fun off h0=>q3 off (hn c o off q1 h0),q4,⟨q5,q6,q7,fun i row j x hi hj=>?_⟩,q9⟩
   obtain ⟨v,hv,hx⟩:=q8 i row j x hi hj
   exact ⟨v,hv,xg hf hx fun y hy=>hr y (uI i row hi (jG j x hj hy))⟩
def Env.part (E:Env)(nX:AH):Env:=⟨E.fix,fun b=>if (nX b).isSome then E.own b else .free⟩
section
variable {base : Nat} {w:World} {E:Env} {YR nX:AH} {F:Nat->Prop} {nx:Nat}
theorem aar (hh:eH base w E YR F)(hsub:∀b k,nX b=some k->YR b=some k)(hlt:∀b k,nX b=some k->b<nx)(hrefs:∀b k,nX b=some k->∀x∈k.vW,(nX x).isSome=true) :
  eH base w (E.part nX) nX (fun b=>nx<=b):=by
 have own:∀b,(nX b).isSome=true->(E.part nX).own b=E.own b:=fun b hb=>by simp [Env.part,hb]
 refine ⟨fun b k hb=>?_,fun b b' k k' c o c' o' hne h1 h2 h3 h4=>?_,fun b hb=>?_,hh.jO,hh.bs,fun b c o h=>?_⟩
 .exact (hh.blk b k (hsub b k hb)).env (fun _ _ h=>h) (fun _ _ _ _ h=>h) (own b (by simp [hb])) fun x hx=>own x (hrefs b k hb x hx)
 .rw [own b (by simp [h1])] at h3
  rw [own b' (by simp [h2])] at h4
  exact hh.sep b b' k k' c o c' o' hne (hsub _ _ h1) (hsub _ _ h2) h3 h4
 .have:¬(nX b).isSome=true:=fun h=>by
   obtain ⟨k,hk⟩:=Option.isSome_iff_exists.1 h
   have:=hlt b k hk;omega
  simp [Env.part,this]
 .by_cases hb:(nX b).isSome=true
  .rw [own b hb] at h;exact hh.lH b c o h
  .simp [Env.part,hb] at h
theorem abP {a:AV}{v:Value}(h:Rep w E a v)(hr:∀x∈a.refs,(nX x).isSome=true):Rep w (E.part nX) a v:=
 xg (E:=E) (E':=E.part nX) (fun _ _ h=>h) h fun b hb=>by simp [Env.part,hr b hb]
end
theorem Hf : ∀{l:List AV},(∀x∈l,x.clean=true)->jY l=true
 |[],_=>rfl
 |x::r,h=>by simp only [jY,ay];exact ⟨h x (by simp),Hf fun y hy=>h y (by simp [hy])⟩
theorem Np {l:List AV}(h:jY l=true){x:AV}(hx:x∈l):x.clean=true:=by
 obtain ⟨i,hi⟩:=List.getElem?_of_mem hx
 exact kF h i x hi
end Go.Fw
end
section
namespace Go.Fw
variable [iZ]
end Go.Fw
end
