/- What stands on a day hangs on the payments of each day alone; in plain words. -/
import Derived.Test.YtnkejaohnhpbpaaGreatDoorA08
set_option linter.all false
namespace Go.Proofs.YtnkejaohnhpbpaaGreatDoor
section
open Go Go.RowKit
def St.nov(s:St):St:={ s with bM:=[] }
def fundP(p:Pay)(s:St):St:=(s.iV p.aN p.amount).qJ p.aN p.amount
def insP(b:Book)(d:Int)(s:St)(p:Pay):St:=
 if p.day=d∧p.kind≠2 then(if p.kind=1 then fundP p s else if(s.cases p.cas).state=0∧p.aN=b.aN p.cas then(s.iV p.aN p.amount).addHeld p.cas p.amount else fundP p s)else s
def okP(p:Pay)(s:St):Prop:=¬(s.acc 0=0∧s.acc 1=0∧s.acc 2=0)∧(s.cases p.cas).state=0∧0≤wrap64 (s.acc p.aN - p.amount)
instance (p:Pay) (s:St):Decidable (okP p s):=by unfold okP;exact inferInstance
def mvP(b:Book)(p:Pay)(s:St):St:=if okP p s then((s.xA p.aN p.amount).addHeld p.cas p.amount).keep b p.day else s
def mvsP(b:Book)(d:Int)(s:St)(p:Pay):St:=if p.day=d∧p.kind=2 then mvP b p s else s
def dayP(b:Book)(ps:List Pay)(d:Int)(s:St):St:=ps.foldl (mvsP b d) ((ps.foldl (insP b d) (s.iq b d)).keep b d)
def inOn(d:Int)(p:Pay):Bool:=decide (p.day=d∧p.kind≠2)
def mvOn(d:Int)(p:Pay):Bool:=decide (p.day=d∧p.kind=2)
def hit(b:Book)(s:St)(p:Pay):Prop:=p.kind≠1∧(s.cases p.cas).state=0∧p.aN=b.aN p.cas
instance (b:Book) (s:St) (p:Pay):Decidable (hit b s p):=by unfold hit;exact inferInstance
def act(d:Int)(p:Pay):Prop:=p.day=d∧p.kind≠2
instance (d:Int) (p:Pay):Decidable (act d p):=by unfold act;exact inferInstance
theorem St.ext'{s t:St}(h1:∀c,s.cases c=t.cases c)(h2:∀k,s.acc k=t.acc k)(h3:s.tkn=t.tkn)(h4:∀k,s.pd k=t.pd k)(h5:s.bM=t.bM):s=t:=by
 obtain⟨a,b,c,d,e⟩:=s;obtain⟨a',b',c',d',e'⟩:=t;simp only at h1 h2 h3 h4 h5;rw[funext h1,funext h2,h3,funext h4,h5]
structure Alike (b b':Book) (n:Int):Prop where
 cases:∀c,(b.after n).cases c=(b'.after n).cases c
 acc:∀k,(b.after n).acc k=(b'.after n).acc k
 tkn:∀k,(b.after n).tkn k=(b'.after n).tkn k
 pd:∀k,(b.after n).pd k=(b'.after n).pd k
theorem Alike.of{b b':Book}{n:Int}(h:(b.after n).nov=(b'.after n).nov):Alike b b' n:=
 ⟨λc=>congrFun (congrArg St.cases h) c,λk=>congrFun (congrArg St.acc h) k,λk=>congrFun (congrArg St.tkn h) k,λk=>congrFun (congrArg St.pd h) k⟩
end
