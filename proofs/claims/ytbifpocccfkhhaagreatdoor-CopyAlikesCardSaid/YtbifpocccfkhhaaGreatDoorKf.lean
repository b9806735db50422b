/- A part of it. -/
import Derived.Test.YtbifpocccfkhhaaGreatDoorKe
import Derived.KernelRfl
set_option linter.all false
noncomputable section
namespace Go.Proofs.YtbifpocccfkhhaaGreatDoor
open Go Go.Proofs.Tryz
set_option maxRecDepth 20000
abbrev oF(f:Func)(c:F'):Prop:=qeK prog f=some c
theorem oI{f:Func}{c:F'}(h:qeK prog f=some c):oF f c:=h
noncomputable def cmp(f:Func):F':=(qeK prog f).getD ⟨0,[],.skip⟩
def c18:F':=cmp Tryz.f18
theorem ok18:oF Tryz.f18 c18:=oI (by kernel_rfl)
def c19:F':=cmp Tryz.f19
theorem ok19:oF Tryz.f19 c19:=oI (by kernel_rfl)
def c23:F':=⟨8,[.t 4],
 .seq (.reg [.o 2 (.box (.t 0)),
 .o 3 (.box (.t 1)),
 .o 4 (.mv (.c (.bool false)))])
 (.seq (.reg [.j 5 8 2,
 .j 6 8 3,
 .o 7 (.call (.f 68) [(.t 5),(.t 6)]),
 .m 4 7])
 (.ret))⟩
theorem ok23:oF Tryz.f23 c23:=oI (by kernel_rfl)
def c24:F':=⟨28,[.t 4,.t 5],
 .seq (.reg [.o 2 (.box (.t 0)),
 .o 3 (.box (.t 1)),
 .o 4 (.mv (.c (.bool false))),
 .o 5 (.mv (.c (.int .i64 0)))])
 (.seq (.seq (.reg [.j 9 8 2,
 .j 10 8 3,
 .o 11 (.build (.agg [(.sl true []),(.int .i64 0),(.str ⟨⟨[]⟩⟩),(.sl true []),(.sl true []),(.sl true []),(.sl true []),(.sl true []),(.sl true []),(.int .i64 0),(.str ⟨⟨[]⟩⟩),(.sl true []),(.sl true []),(.sl true []),(.sl true []),(.sl true [])]) [(0,0,8,(.t 9)),(1,8,8,(.t 10))]),
 .o 12 (.mv (.c (.int .i64 0)))])
 (.block 0 (.loop (.seq (.reg [.u 13 .lss 12 2])
 (.seq (.cond (.t 13)
 (.skip)
 (.exit 0))
 (.seq (.block 1 (.seq (.reg [.o 14 (.ex (.ixa 2 8 (some 8) (.t 11) (.t 12))),
 .o 7 (.new zS),
 .s 8 7 14])
 (.seq (.reg [.j 15 8 7,
 .o 16 (.call (.f 56) [(.t 15)]),
 .m 8 16])
 (.seq (.reg [.m 17 8,
 .u 18 .neq 17 0])
 (.cond (.t 18)
 (.seq (.reg [.m 19 8,
 .o 4 (.mv (.c (.bool false))),
 .m 5 19])
 (.ret))
 (.skip))))))
 (.reg [.u 20 .add 12 1,
 .m 12 20])))))))
 (.seq (.draw [⟨.j 21 8 2,false,none,false,[],0,0⟩,
 ⟨.o 22 (.call (.f 70) [(.t 21)]),true,none,false,[0],0,0⟩,
 ⟨.o 23 (.bsl 8 [(.t 22)]),false,none,false,[1,0],1,2⟩,
 ⟨.j 24 8 3,false,none,true,[],0,1⟩,
 ⟨.o 25 (.call (.f 70) [(.t 24)]),true,none,false,[3,1,0],1,1⟩,
 ⟨.o 26 (.bsl 8 [(.t 25)]),false,none,false,[4,3,1,0],2,2⟩,
 ⟨.o 27 (.call (.f 69) [(.t 23),(.t 26)]),true,none,false,[2,5,4,3,1,0],2,2⟩,
 ⟨.m 4 27,false,none,false,[6,2,5,4,3,1,0],3,3⟩,
 ⟨.o 5 (.mv (.c (.int .i64 0))),false,none,false,[7,6,2,5,4,3,1,0],3,3⟩] [])
 (.ret)))⟩
theorem ok24:oF Tryz.f24 c24:=oI (by kernel_rfl)
def c27:F':=cmp Tryz.f27
theorem ok27:oF Tryz.f27 c27:=oI (by kernel_rfl)
def c29:F':=cmp Tryz.f29
theorem ok29:oF Tryz.f29 c29:=oI (by kernel_rfl)
def c30:F':=cmp Tryz.f30
theorem ok30:oF Tryz.f30 c30:=oI (by kernel_rfl)
def c31:F':=cmp Tryz.f31
theorem ok31:oF Tryz.f31 c31:=oI (by kernel_rfl)
def c32:F':=cmp Tryz.f32
theorem ok32:oF Tryz.f32 c32:=oI (by kernel_rfl)
def c33:F':=cmp Tryz.f33
theorem ok33:oF Tryz.f33 c33:=oI (by kernel_rfl)
def c53:F':=cmp Tryz.f53
theorem ok53:oF Tryz.f53 c53:=oI (by kernel_rfl)
def c54:F':=cmp Tryz.f54
theorem ok54:oF Tryz.f54 c54:=oI (by kernel_rfl)
def c55:F':=cmp Tryz.f55
theorem ok55:oF Tryz.f55 c55:=oI (by kernel_rfl)
def c56:F':=⟨6,[.t 2],
 .seq (.reg [.o 1 (.box (.t 0)),
 .o 2 (.mv (.c (.int .i64 0)))])
 (.seq (.reg [.j 3 8 1,
 .o 4 (.call (.f 101) [(.t 3)]),
 .o 5 (.call (.f 100) [(.t 4)]),
 .m 2 5])
 (.ret))⟩
theorem ok56:oF Tryz.f56 c56:=oI (by kernel_rfl)
def c57:F':=⟨24,[.t 2],
 .seq (.reg [.o 2 (.mv (.c (.bool false)))])
 (.seq (.seq (.reg [.m 3 0,
 .o 4 (.bin .eql (.t 3) (.c (.str ⟨⟨[]⟩⟩))),
 .m 5 4,
 .v 6 5 false (.mv (.t 0)),
 .v 7 5 false (.len true (.t 6)),
 .v 8 5 false (.bin .gtr (.t 7) (.c (.int .i64 16))),
 .z 9 5 8,
 .m 10 9,
 .v 11 10 false (.mv (.t 0)),
 .v 12 10 false (.idx (.t 11) (.c (.int .i64 0))),
 .v 13 10 false (.call (.f 102) [(.t 12)]),
 .v 14 10 false (.un .not (.t 13)),
 .z 15 10 14,
 .m 16 15,
 .v 17 16 false (.mv (.t 0)),
 .v 18 16 false (.call (.f 103) [(.t 17)]),
 .z 19 16 18])
 (.cond (.t 19)
 (.seq (.reg [.o 2 (.mv (.c (.bool false)))])
 (.ret))
 (.skip)))
 (.seq (.reg [.m 20 0,
 .o 21 (.ex (.ctb (.t 20))),
 .o 22 (.call (.f 104) [(.t 21),(.f 105)]),
 .o 23 (.un .not (.t 22)),
 .m 2 23])
 (.ret)))⟩
theorem ok57:oF Tryz.f57 c57:=oI (by kernel_rfl)
def c58:F':=cmp Tryz.f58
theorem ok58:oF Tryz.f58 c58:=oI (by kernel_rfl)
def c59:F':=cmp Tryz.f59
theorem ok59:oF Tryz.f59 c59:=oI (by kernel_rfl)
def c60:F':=⟨32,[.t 4],
 .seq (.reg [.o 4 (.mv (.c .nilp))])
 (.scope (.seq (.skip)
 (.seq (.block 0 (.loop (.seq (.seq (.reg [.m 7 0,
 .o 8 (.eq .ptr true (.t 7) (.c .nilp))])
 (.cond (.t 8)
 (.skip)
 (.exit 0)))
 (.block 1 (.seq (.seq (.reg [.m 10 0,
 .h 11 10,
 .f 12 1 11,
 .l 13 12,
 .m 14 1,
 .o 15 (.ex (.lkp .str .nilp true (.t 13) (.t 14))),
 .m 9 15,
 .e 16 0 9,
 .e 17 1 9,
 .m 5 16,
 .m 6 17])
 (.seq (.reg [.m 18 6])
 (.cond (.t 18)
 (.seq (.reg [.m 19 5,
 .m 4 19])
 (.ret))
 (.skip))))
 (.seq (.seq (.reg [.m 20 0,
 .h 21 20,
 .f 22 0 21,
 .l 23 22,
 .o 24 (.eq .ptr false (.t 23) (.c .nilp))])
 (.cond (.t 24)
 (.exit 0)
 (.skip)))
 (.reg [.m 25 0,
 .h 26 25,
 .f 27 0 26,
 .l 28 27,
 .h 29 28,
 .f 30 0 29,
 .l 31 30,
 .m 0 31])))))))
 (.seq (.reg [.o 4 (.mv (.c .nilp))])
 (.ret)))))⟩
theorem ok60:oF Tryz.f60 c60:=oI (by kernel_rfl)
def c61:F':=cmp Tryz.f61
theorem ok61:oF Tryz.f61 c61:=oI (by kernel_rfl)
def c62:F':=⟨11,[.cell 4 (some 8)],
 .seq (.reg [.o 3 (.box (.t 1)),
 .o 4 (.new zS)])
 (.seq (.reg [.m 5 0,
 .j 6 8 3,
 .o 7 (.bsl 8 [(.t 6)]),
 .o 8 (.call (.f 111) [(.t 5),(.t 7),(.c .nilp)]),
 .o 9 (.ia 8 (.t 8) (.c (.int .i64 0))),
 .j 10 8 9,
 .s 8 4 10])
 (.ret))⟩
theorem ok62:oF Tryz.f62 c62:=oI (by kernel_rfl)
def c68:F':=⟨10,[.t 4],
 .seq (.reg [.o 2 (.box (.t 0)),
 .o 3 (.box (.t 1)),
 .o 4 (.mv (.c (.bool false)))])
 (.seq (.draw [⟨.j 5 8 2,false,none,false,[],0,0⟩,
 ⟨.o 6 (.call (.f 113) [(.t 5)]),true,none,false,[0],0,0⟩,
 ⟨.j 7 8 3,false,none,true,[],0,1⟩,
 ⟨.o 8 (.call (.f 113) [(.t 7)]),true,none,false,[2,1,0],1,1⟩,
 ⟨.o 9 (.call (.f 118) [(.t 6),(.t 8)]),true,none,false,[3,2,1,0],2,2⟩,
 ⟨.m 4 9,false,none,false,[4,3,2,1,0],3,3⟩] [])
 (.ret))⟩
theorem ok68:oF Tryz.f68 c68:=oI (by kernel_rfl)
def c69:F':=⟨8,[.t 4],
 .seq (.reg [.o 4 (.mv (.c (.bool false)))])
 (.seq (.reg [.m 5 0,
 .m 6 1,
 .o 7 (.call (.f 119) [(.t 5),(.t 6),(.f 120)]),
 .m 4 7])
 (.ret))⟩
theorem ok69:oF Tryz.f69 c69:=oI (by kernel_rfl)
def c70:F':=⟨9,[.cell 2 (some 8)],
 .seq (.reg [.o 1 (.box (.t 0)),
 .o 2 (.new zS)])
 (.seq (.reg [.o 4 (.build (.agg [(.int .i64 0),.nilfn,.nilfn,.nilfn]) [(1,1,1,(.f 128))]),
 .o 5 (.box (.t 4)),
 .m 3 5])
 (.seq (.reg [.m 6 3,
 .j 7 8 1,
 .o 8 (.call (.f 62) [(.t 6),(.t 7)]),
 .s 8 2 8])
 (.ret)))⟩
theorem ok70:oF Tryz.f70 c70:=oI (by kernel_rfl)
def c73:F':=cmp Tryz.f73
theorem ok73:oF Tryz.f73 c73:=oI (by kernel_rfl)
def c74:F':=cmp Tryz.f74
theorem ok74:oF Tryz.f74 c74:=oI (by kernel_rfl)
def c75:F':=cmp Tryz.f75
theorem ok75:oF Tryz.f75 c75:=oI (by kernel_rfl)
def c76:F':=cmp Tryz.f76
theorem ok76:oF Tryz.f76 c76:=oI (by kernel_rfl)
def c77:F':=⟨32,[.t 4],
 .seq (.reg [.o 4 (.mv (.c (.str ⟨⟨[]⟩⟩)))])
 (.seq (.seq (.reg [.m 8 1,
 .m 9 0,
 .o 10 (.call (.t 8) [(.t 9)]),
 .o 11 (.un .not (.t 10))])
 (.cond (.t 11)
 (.seq (.reg [.m 12 0,
 .m 4 12])
 (.ret))
 (.skip)))
 (.seq (.reg [.o 5 (.mv (.c (.int .i64 1)))])
 (.block 0 (.loop (.seq (.block 1 (.seq (.reg [.m 15 5,
 .o 16 (.call (.f 129) [(.t 15)]),
 .m 6 16])
 (.seq (.reg [.m 17 0,
 .m 18 0,
 .o 19 (.len true (.t 18)),
 .m 20 6,
 .o 21 (.len true (.t 20)),
 .o 22 (.bin .sub (.c (.int .i64 16)) (.t 21)),
 .o 23 (.ex (.mm false (.t 19) (.t 22))),
 .o 24 (.slc true 0 (.t 17) none (some (.t 23))),
 .m 25 6,
 .b 26 .add 24 25,
 .m 7 26])
 (.seq (.reg [.m 27 1,
 .m 28 7,
 .o 29 (.call (.t 27) [(.t 28)]),
 .o 30 (.un .not (.t 29))])
 (.cond (.t 30)
 (.seq (.reg [.m 31 7,
 .m 4 31])
 (.ret))
 (.skip))))))
 (.reg [.m 13 5,
 .u 14 .add 13 1,
 .m 5 14]))))))⟩
theorem ok77:oF Tryz.f77 c77:=oI (by kernel_rfl)
def c78:F':=cmp Tryz.f78
theorem ok78:oF Tryz.f78 c78:=oI (by kernel_rfl)
def c79:F':=⟨15,[],
 .seq (.reg [.m 6 1,
 .o 7 (.len false (.t 6)),
 .o 8 (.mv (.c (.int .i64 0)))])
 (.block 0 (.loop (.seq (.reg [.b 9 .lss 8 7])
 (.seq (.cond (.t 9)
 (.skip)
 (.exit 0))
 (.seq (.block 1 (.seq (.reg [.i 10 1 6 8,
 .l 11 10,
 .m 5 11])
 (.reg [.m 12 0,
 .m 13 5,
 .n (.ex (.mup .str (.t 12) (.t 13) (.c (.bool true))))])))
 (.reg [.u 14 .add 8 1,
 .m 8 14]))))))⟩
theorem ok79:oF Tryz.f79 c79:=oI (by kernel_rfl)
def c80:F':=cmp Tryz.f80
theorem ok80:oF Tryz.f80 c80:=oI (by kernel_rfl)
def c81:F':=cmp Tryz.f81
theorem ok81:oF Tryz.f81 c81:=oI (by kernel_rfl)
def c82:F':=cmp Tryz.f82
theorem ok82:oF Tryz.f82 c82:=oI (by kernel_rfl)
def c86:F':=cmp Tryz.f86
theorem ok86:oF Tryz.f86 c86:=oI (by kernel_rfl)
def c87:F':=cmp Tryz.f87
theorem ok87:oF Tryz.f87 c87:=oI (by kernel_rfl)
def c90:F':=⟨6,[.t 2],
 .seq (.reg [.o 1 (.box (.t 0)),
 .o 2 (.mv (.c (.int .i64 0)))])
 (.seq (.reg [.j 3 7 1,
 .o 4 (.call (.f 142) [(.t 3)]),
 .o 5 (.call (.f 100) [(.t 4)]),
 .m 2 5])
 (.ret))⟩
theorem ok90:oF Tryz.f90 c90:=oI (by kernel_rfl)
def c95:F':=cmp Tryz.f95
theorem ok95:oF Tryz.f95 c95:=oI (by kernel_rfl)
def c96:F':=cmp Tryz.f96
theorem ok96:oF Tryz.f96 c96:=oI (by kernel_rfl)
def c97:F':=⟨47,[.cell 8 (some 7)],
 .seq (.reg [.o 5 (.box (.t 1)),
 .o 8 (.new zX)])
 (.seq (.reg [.m 10 0,
 .f 11 6 5,
 .l 12 11,
 .m 13 2,
 .o 14 (.call (.f 134) [(.t 10),(.t 12),(.t 13),(.c (.bool false))]),
 .f 15 6 5,
 .s 1 15 14])
 (.seq (.seq (.reg [.f 16 0 5,
 .l 17 16])
 (.block 0 (.seq (.seq (.reg [.u 19 .eql 17 6,
 .m 18 19])
 (.cond (.t 18)
 (.skip)
 (.seq (.reg [.u 20 .eql 17 7,
 .m 18 20])
 (.cond (.t 18)
 (.skip)
 (.reg [.u 21 .eql 17 8,
 .m 18 21])))))
 (.cond (.t 18)
 (.seq (.seq (.reg [.m 22 0,
 .h 23 22,
 .f 24 2 23,
 .l 25 24,
 .o 26 (.eq .func true (.t 25) (.c .nilfn))])
 (.cond (.t 26)
 (.seq (.draw [⟨.m 27 0,false,none,false,[],0,0⟩,
 ⟨.h 28 27,false,none,false,[0],0,0⟩,
 ⟨.f 29 2 28,false,none,false,[1,0],0,0⟩,
 ⟨.l 30 29,false,none,false,[2,1,0],0,0⟩,
 ⟨.j 31 7 5,false,none,false,[],0,0⟩,
 ⟨.m 32 2,false,none,false,[],0,0⟩,
 ⟨.m 33 3,false,none,false,[],0,0⟩,
 ⟨.o 34 (.call (.t 30) [(.t 31),(.t 32),(.t 33)]),true,none,false,[3,4,5,6,2,1,0],0,0⟩,
 ⟨.s 7 8 34,true,none,false,[7,3,4,5,6,2,1,0],1,1⟩] [])
 (.ret))
 (.skip)))
 (.seq (.reg [.m 35 2,
 .f 36 5 5,
 .l 37 36,
 .o 38 (.call (.f 60) [(.t 35),(.t 37)]),
 .m 9 38])
 (.seq (.reg [.m 39 9,
 .o 40 (.eq .ptr true (.t 39) (.c .nilp))])
 (.cond (.t 40)
 (.reg [.m 41 9,
 .h 42 41,
 .f 43 2 42,
 .l 44 43,
 .f 45 5 5,
 .s 1 45 44])
 (.skip)))))
 (.skip)))))
 (.seq (.reg [.j 46 7 5,
 .s 7 8 46])
 (.ret))))⟩
theorem ok97:oF Tryz.f97 c97:=oI (by kernel_rfl)
def c100:F':=⟨17,[.t 2],
 .seq (.reg [.o 1 (.box (.t 0)),
 .o 2 (.mv (.c (.int .i64 0)))])
 (.seq (.seq (.reg [.j 7 25 1,
 .o 8 (.call (.f 150) [(.t 7)]),
 .m 6 8,
 .e 9 0 6,
 .e 10 1 6,
 .e 11 2 6,
 .m 3 9,
 .m 4 10,
 .m 5 11])
 (.seq (.reg [.m 12 5,
 .o 13 (.un .not (.t 12))])
 (.cond (.t 13)
 (.seq (.reg [.o 2 (.mv (.c (.int .i64 2)))])
 (.ret))
 (.skip))))
 (.seq (.seq (.reg [.j 14 25 1,
 .o 15 (.call (.f 151) [(.t 14)]),
 .o 16 (.un .not (.t 15))])
 (.cond (.t 16)
 (.seq (.reg [.o 2 (.mv (.c (.int .i64 1)))])
 (.ret))
 (.skip)))
 (.seq (.reg [.o 2 (.mv (.c (.int .i64 0)))])
 (.ret))))⟩
theorem ok100:oF Tryz.f100 c100:=oI (by kernel_rfl)
def c101:F':=⟨5,[.cell 2 (some 25)],
 .seq (.reg [.o 1 (.box (.t 0)),
 .o 2 (.new zP)])
 (.seq (.reg [.j 3 8 1,
 .o 4 (.build zP [(0,0,1,(.c (.int .i64 1))),(1,1,8,(.t 3))]),
 .s 25 2 4])
 (.ret))⟩
theorem ok101:oF Tryz.f101 c101:=oI (by kernel_rfl)
def c102:F':=⟨9,[.t 2],
 .seq (.reg [.o 2 (.mv (.c (.bool false)))])
 (.seq (.reg [.m 3 0,
 .o 4 (.bin .geq (.t 3) (.c (.int .u8 97))),
 .m 5 4,
 .v 6 5 true (.mv (.t 0)),
 .v 7 5 true (.bin .leq (.t 6) (.c (.int .u8 122))),
 .y 8 5 7,
 .m 2 8])
 (.ret))⟩
theorem ok102:oF Tryz.f102 c102:=oI (by kernel_rfl)
def c103:F':=⟨6,[.t 2],
 .seq (.reg [.o 2 (.mv (.c (.bool false)))])
 (.seq (.reg [.o 3 (.call (.f 153) []),
 .m 4 0,
 .o 5 (.call (.f 152) [(.t 3),(.t 4)]),
 .m 2 5])
 (.ret))⟩
theorem ok103:oF Tryz.f103 c103:=oI (by kernel_rfl)
def c104:F':=⟨9,[.t 4],
 .seq (.reg [.o 4 (.mv (.c (.bool false)))])
 (.seq (.reg [.m 5 0,
 .m 6 1,
 .o 7 (.call (.f 154) [(.t 5),(.t 6)]),
 .u 8 .geq 7 0,
 .m 4 8])
 (.ret))⟩
theorem ok104:oF Tryz.f104 c104:=oI (by kernel_rfl)
def c105:F':=⟨6,[.t 2],
 .seq (.reg [.o 2 (.mv (.c (.bool false)))])
 (.seq (.reg [.m 3 0,
 .o 4 (.call (.f 106) [(.t 3)]),
 .o 5 (.un .not (.t 4)),
 .m 2 5])
 (.ret))⟩
theorem ok105:oF Tryz.f105 c105:=oI (by kernel_rfl)
def c106:F':=⟨9,[.t 2],
 .seq (.reg [.o 2 (.mv (.c (.bool false)))])
 (.seq (.reg [.m 3 0,
 .o 4 (.call (.f 102) [(.t 3)]),
 .m 5 4,
 .v 6 5 false (.mv (.t 0)),
 .v 7 5 false (.call (.f 155) [(.t 6)]),
 .z 8 5 7,
 .m 2 8])
 (.ret))⟩
theorem ok106:oF Tryz.f106 c106:=oI (by kernel_rfl)
def c107:F':=cmp Tryz.f107
theorem ok107:oF Tryz.f107 c107:=oI (by kernel_rfl)
def c108:F':=cmp Tryz.f108
theorem ok108:oF Tryz.f108 c108:=oI (by kernel_rfl)
def c109:F':=cmp Tryz.f109
theorem ok109:oF Tryz.f109 c109:=oI (by kernel_rfl)
def c111:F':=⟨31,[.t 6],
 .seq (.reg [.o 6 (.mv (.c (.sl true [])))])
 (.seq (.reg [.o 7 (.mv (.c (.sl true [])))])
 (.seq (.seq (.reg [.m 11 1,
 .o 12 (.len false (.t 11)),
 .o 13 (.mv (.c (.int .i64 0)))])
 (.block 0 (.loop (.seq (.reg [.b 14 .lss 13 12])
 (.seq (.cond (.t 14)
 (.skip)
 (.exit 0))
 (.seq (.block 1 (.seq (.reg [.i 15 8 11 13,
 .j 16 8 15,
 .o 9 (.new zS),
 .s 8 9 16])
 (.seq (.reg [.j 17 8 9,
 .o 18 (.bsl 8 [(.t 17)]),
 .m 10 18])
 (.reg [.m 19 7,
 .m 20 0,
 .m 21 10,
 .m 22 0,
 .m 23 2,
 .m 24 10,
 .o 25 (.call (.f 158) [(.t 24)]),
 .o 26 (.call (.f 157) [(.t 22),(.t 23),(.t 25)]),
 .o 27 (.call (.f 156) [(.t 20),(.t 21),(.t 26)]),
 .o 28 (.app 8 168 (.t 19) (.t 27)),
 .m 7 28]))))
 (.reg [.u 29 .add 13 1,
 .m 13 29])))))))
 (.seq (.reg [.m 30 7,
 .m 6 30])
 (.ret))))⟩
theorem ok111:oF Tryz.f111 c111:=oI (by kernel_rfl)
def c113:F':=⟨5,[.cell 2 (some 25)],
 .seq (.reg [.o 1 (.box (.t 0)),
 .o 2 (.new zP)])
 (.seq (.reg [.j 3 8 1,
 .o 4 (.build zP [(0,0,1,(.c (.int .i64 1))),(1,1,8,(.t 3))]),
 .s 25 2 4])
 (.ret))⟩
theorem ok113:oF Tryz.f113 c113:=oI (by kernel_rfl)
def c118:F':=⟨16,[.t 4],
 .seq (.reg [.o 2 (.box (.t 0)),
 .o 3 (.box (.t 1)),
 .o 4 (.mv (.c (.bool false)))])
 (.seq (.reg [.j 5 25 2,
 .o 6 (.call (.f 159) [(.t 5)]),
 .m 7 6,
 .v 8 7 true (.ld (some 25) (.t 3)),
 .v 9 7 true (.call (.f 159) [(.t 8)]),
 .y 10 7 9,
 .m 11 10,
 .v 12 11 true (.ld (some 25) (.t 2)),
 .v 13 11 true (.ld (some 25) (.t 3)),
 .v 14 11 true (.call (.f 164) [(.t 12),(.t 13)]),
 .y 15 11 14,
 .m 4 15])
 (.ret))⟩
theorem ok118:oF Tryz.f118 c118:=oI (by kernel_rfl)
def c119:F':=⟨32,[.t 6],
 .seq (.reg [.o 6 (.mv (.c (.bool false)))])
 (.seq (.seq (.reg [.m 10 0,
 .o 11 (.len false (.t 10)),
 .m 12 1,
 .o 13 (.len false (.t 12)),
 .b 14 .neq 11 13])
 (.cond (.t 14)
 (.seq (.reg [.o 6 (.mv (.c (.bool false)))])
 (.ret))
 (.skip)))
 (.seq (.seq (.reg [.m 15 0,
 .o 16 (.len false (.t 15)),
 .o 17 (.mv (.c (.int .i64 0)))])
 (.block 0 (.loop (.seq (.reg [.b 18 .lss 17 16])
 (.seq (.cond (.t 18)
 (.skip)
 (.exit 0))
 (.seq (.block 1 (.seq (.reg [.m 19 17,
 .i 20 8 15 17,
 .j 21 8 20,
 .o 8 (.new zS),
 .m 7 19,
 .s 8 8 21])
 (.seq (.reg [.m 22 1,
 .m 23 7,
 .i 24 8 22 23,
 .j 25 8 24,
 .o 9 (.new zS),
 .s 8 9 25])
 (.seq (.reg [.m 26 2,
 .j 27 8 8,
 .j 28 8 9,
 .o 29 (.call (.t 26) [(.t 27),(.t 28)]),
 .o 30 (.un .not (.t 29))])
 (.cond (.t 30)
 (.seq (.reg [.o 6 (.mv (.c (.bool false)))])
 (.ret))
 (.skip))))))
 (.reg [.u 31 .add 17 1,
 .m 17 31])))))))
 (.seq (.reg [.o 6 (.mv (.c (.bool true)))])
 (.ret))))⟩
theorem ok119:oF Tryz.f119 c119:=oI (by kernel_rfl)
def c120:F':=⟨63,[.t 4],
 .seq (.reg [.o 2 (.box (.t 0)),
 .o 3 (.box (.t 1)),
 .o 4 (.mv (.c (.bool false)))])
 (.seq (.reg [.f 7 5 2,
 .l 8 7,
 .f 9 5 3,
 .l 10 9,
 .o 11 (.call (.f 121) [(.t 8),(.t 10),(.f 122)]),
 .m 5 11])
 (.seq (.reg [.f 12 6 2,
 .l 13 12,
 .f 14 6 3,
 .l 15 14,
 .o 16 (.call (.f 124) [(.t 13),(.t 15),(.f 125)]),
 .m 6 16])
 (.seq (.reg [.m 17 5,
 .m 18 17,
 .v 19 18 true (.mv (.t 6)),
 .y 20 18 19,
 .m 21 20,
 .v 22 21 true (.fa 0 (.t 2)),
 .v 23 21 true (.ld none (.t 22)),
 .v 24 21 true (.fa 0 (.t 3)),
 .v 25 21 true (.ld none (.t 24)),
 .v 26 21 true (.call (.f 126) [(.t 23),(.t 25)]),
 .y 27 21 26,
 .m 28 27,
 .v 29 28 true (.fa 1 (.t 2)),
 .v 30 28 true (.ld none (.t 29)),
 .v 31 28 true (.fa 1 (.t 3)),
 .v 32 28 true (.ld none (.t 31)),
 .v 33 28 true (.bin .eql (.t 30) (.t 32)),
 .y 34 28 33,
 .m 35 34,
 .v 36 35 true (.fa 2 (.t 2)),
 .v 37 35 true (.ld none (.t 36)),
 .v 38 35 true (.fa 2 (.t 3)),
 .v 39 35 true (.ld none (.t 38)),
 .v 40 35 true (.bin .eql (.t 37) (.t 39)),
 .y 41 35 40,
 .m 42 41,
 .v 43 42 true (.fa 3 (.t 2)),
 .v 44 42 true (.ld none (.t 43)),
 .v 45 42 true (.fa 3 (.t 3)),
 .v 46 42 true (.ld none (.t 45)),
 .v 47 42 true (.call (.f 123) [(.t 44),(.t 46)]),
 .y 48 42 47,
 .m 49 48,
 .v 50 49 true (.fa 4 (.t 2)),
 .v 51 49 true (.ld none (.t 50)),
 .v 52 49 true (.fa 4 (.t 3)),
 .v 53 49 true (.ld none (.t 52)),
 .v 54 49 true (.call (.f 123) [(.t 51),(.t 53)]),
 .y 55 49 54,
 .m 56 55,
 .v 57 56 true (.fa 7 (.t 2)),
 .v 58 56 true (.ld none (.t 57)),
 .v 59 56 true (.fa 7 (.t 3)),
 .v 60 56 true (.ld none (.t 59)),
 .v 61 56 true (.call (.f 69) [(.t 58),(.t 60)]),
 .y 62 56 61,
 .m 4 62])
 (.ret))))⟩
theorem ok120:oF Tryz.f120 c120:=oI (by kernel_rfl)
def c121:F':=⟨32,[.t 6],
 .seq (.reg [.o 6 (.mv (.c (.bool false)))])
 (.seq (.seq (.reg [.m 10 0,
 .o 11 (.len false (.t 10)),
 .m 12 1,
 .o 13 (.len false (.t 12)),
 .b 14 .neq 11 13])
 (.cond (.t 14)
 (.seq (.reg [.o 6 (.mv (.c (.bool false)))])
 (.ret))
 (.skip)))
 (.seq (.seq (.reg [.m 15 0,
 .o 16 (.len false (.t 15)),
 .o 17 (.mv (.c (.int .i64 0)))])
 (.block 0 (.loop (.seq (.reg [.b 18 .lss 17 16])
 (.seq (.cond (.t 18)
 (.skip)
 (.exit 0))
 (.seq (.block 1 (.seq (.reg [.m 19 17,
 .i 20 2 15 17,
 .j 21 2 20,
 .o 8 (.new zE),
 .m 7 19,
 .s 2 8 21])
 (.seq (.reg [.m 22 1,
 .m 23 7,
 .i 24 2 22 23,
 .j 25 2 24,
 .o 9 (.new zE),
 .s 2 9 25])
 (.seq (.reg [.m 26 2,
 .j 27 2 8,
 .j 28 2 9,
 .o 29 (.call (.t 26) [(.t 27),(.t 28)]),
 .o 30 (.un .not (.t 29))])
 (.cond (.t 30)
 (.seq (.reg [.o 6 (.mv (.c (.bool false)))])
 (.ret))
 (.skip))))))
 (.reg [.u 31 .add 17 1,
 .m 17 31])))))))
 (.seq (.reg [.o 6 (.mv (.c (.bool true)))])
 (.ret))))⟩
theorem ok121:oF Tryz.f121 c121:=oI (by kernel_rfl)
def c123:F':=⟨8,[.t 4],
 .seq (.reg [.o 4 (.mv (.c (.bool false)))])
 (.seq (.reg [.m 5 0,
 .m 6 1,
 .o 7 (.call (.f 165) [(.t 5),(.t 6),(.f 166)]),
 .m 4 7])
 (.ret))⟩
theorem ok123:oF Tryz.f123 c123:=oI (by kernel_rfl)
def c124:F':=⟨32,[.t 6],
 .seq (.reg [.o 6 (.mv (.c (.bool false)))])
 (.seq (.seq (.reg [.m 10 0,
 .o 11 (.len false (.t 10)),
 .m 12 1,
 .o 13 (.len false (.t 12)),
 .b 14 .neq 11 13])
 (.cond (.t 14)
 (.seq (.reg [.o 6 (.mv (.c (.bool false)))])
 (.ret))
 (.skip)))
 (.seq (.seq (.reg [.m 15 0,
 .o 16 (.len false (.t 15)),
 .o 17 (.mv (.c (.int .i64 0)))])
 (.block 0 (.loop (.seq (.reg [.b 18 .lss 17 16])
 (.seq (.cond (.t 18)
 (.skip)
 (.exit 0))
 (.seq (.block 1 (.seq (.reg [.m 19 17,
 .i 20 7 15 17,
 .j 21 7 20,
 .o 8 (.new zD),
 .m 7 19,
 .s 7 8 21])
 (.seq (.reg [.m 22 1,
 .m 23 7,
 .i 24 7 22 23,
 .j 25 7 24,
 .o 9 (.new zD),
 .s 7 9 25])
 (.seq (.reg [.m 26 2,
 .j 27 7 8,
 .j 28 7 9,
 .o 29 (.call (.t 26) [(.t 27),(.t 28)]),
 .o 30 (.un .not (.t 29))])
 (.cond (.t 30)
 (.seq (.reg [.o 6 (.mv (.c (.bool false)))])
 (.ret))
 (.skip))))))
 (.reg [.u 31 .add 17 1,
 .m 17 31])))))))
 (.seq (.reg [.o 6 (.mv (.c (.bool true)))])
 (.ret))))⟩
theorem ok124:oF Tryz.f124 c124:=oI (by kernel_rfl)
def c125:F':=⟨52,[.t 4],
 .seq (.reg [.o 2 (.box (.t 0)),
 .o 3 (.box (.t 1)),
 .o 4 (.mv (.c (.bool false)))])
 (.seq (.reg [.f 5 0 2,
 .l 6 5,
 .f 7 0 3,
 .l 8 7,
 .b 9 .eql 6 8,
 .m 10 9,
 .v 11 10 true (.fa 1 (.t 2)),
 .v 12 10 true (.ld none (.t 11)),
 .v 13 10 true (.fa 1 (.t 3)),
 .v 14 10 true (.ld none (.t 13)),
 .v 15 10 true (.eq .bool false (.t 12) (.t 14)),
 .y 16 10 15,
 .m 17 16,
 .v 18 17 true (.fa 2 (.t 2)),
 .v 19 17 true (.ld none (.t 18)),
 .v 20 17 true (.fa 2 (.t 3)),
 .v 21 17 true (.ld none (.t 20)),
 .v 22 17 true (.bin .eql (.t 19) (.t 21)),
 .y 23 17 22,
 .m 24 23,
 .v 25 24 true (.fa 3 (.t 2)),
 .v 26 24 true (.ld none (.t 25)),
 .v 27 24 true (.fa 3 (.t 3)),
 .v 28 24 true (.ld none (.t 27)),
 .v 29 24 true (.call (.f 126) [(.t 26),(.t 28)]),
 .y 30 24 29,
 .m 31 30,
 .v 32 31 true (.fa 4 (.t 2)),
 .v 33 31 true (.ld none (.t 32)),
 .v 34 31 true (.fa 4 (.t 3)),
 .v 35 31 true (.ld none (.t 34)),
 .v 36 31 true (.call (.f 123) [(.t 33),(.t 35)]),
 .y 37 31 36,
 .m 38 37,
 .v 39 38 true (.fa 5 (.t 2)),
 .v 40 38 true (.ld none (.t 39)),
 .v 41 38 true (.fa 5 (.t 3)),
 .v 42 38 true (.ld none (.t 41)),
 .v 43 38 true (.call (.f 127) [(.t 40),(.t 42)]),
 .y 44 38 43,
 .m 45 44,
 .v 46 45 true (.fa 6 (.t 2)),
 .v 47 45 true (.ld none (.t 46)),
 .v 48 45 true (.fa 6 (.t 3)),
 .v 49 45 true (.ld none (.t 48)),
 .v 50 45 true (.call (.f 69) [(.t 47),(.t 49)]),
 .y 51 45 50,
 .m 4 51])
 (.ret))⟩
theorem ok125:oF Tryz.f125 c125:=oI (by kernel_rfl)
def c126:F':=⟨26,[.t 4],
 .seq (.reg [.o 4 (.mv (.c (.bool false)))])
 (.seq (.seq (.reg [.m 6 0,
 .o 7 (.len false (.t 6)),
 .m 8 1,
 .o 9 (.len false (.t 8)),
 .b 10 .neq 7 9])
 (.cond (.t 10)
 (.seq (.reg [.o 4 (.mv (.c (.bool false)))])
 (.ret))
 (.skip)))
 (.seq (.seq (.reg [.m 11 0,
 .o 12 (.len false (.t 11)),
 .o 13 (.mv (.c (.int .i64 0)))])
 (.block 0 (.loop (.seq (.reg [.b 14 .lss 13 12])
 (.seq (.cond (.t 14)
 (.skip)
 (.exit 0))
 (.seq (.block 1 (.seq (.reg [.m 15 13,
 .m 5 15])
 (.seq (.draw [⟨.m 16 0,false,none,false,[],0,0⟩,
 ⟨.m 17 5,false,none,false,[],0,0⟩,
 ⟨.i 18 1 16 17,false,none,false,[0,1],0,0⟩,
 ⟨.l 19 18,false,none,false,[2,0,1],0,0⟩,
 ⟨.m 20 1,false,none,false,[],0,0⟩,
 ⟨.m 21 5,false,none,false,[],0,0⟩,
 ⟨.i 22 1 20 21,false,none,false,[4,5],0,0⟩,
 ⟨.l 23 22,false,none,false,[6,4,5],0,0⟩,
 ⟨.b 24 .neq 19 23,false,none,false,[3,7,2,0,1,6,4,5],0,0⟩] [])
 (.cond (.t 24)
 (.seq (.reg [.o 4 (.mv (.c (.bool false)))])
 (.ret))
 (.skip)))))
 (.reg [.u 25 .add 13 1,
 .m 13 25])))))))
 (.seq (.reg [.o 4 (.mv (.c (.bool true)))])
 (.ret))))⟩
theorem ok126:oF Tryz.f126 c126:=oI (by kernel_rfl)
def c127:F':=⟨26,[.t 4],
 .seq (.reg [.o 4 (.mv (.c (.bool false)))])
 (.seq (.seq (.reg [.m 6 0,
 .o 7 (.len false (.t 6)),
 .m 8 1,
 .o 9 (.len false (.t 8)),
 .b 10 .neq 7 9])
 (.cond (.t 10)
 (.seq (.reg [.o 4 (.mv (.c (.bool false)))])
 (.ret))
 (.skip)))
 (.seq (.seq (.reg [.m 11 0,
 .o 12 (.len false (.t 11)),
 .o 13 (.mv (.c (.int .i64 0)))])
 (.block 0 (.loop (.seq (.reg [.b 14 .lss 13 12])
 (.seq (.cond (.t 14)
 (.skip)
 (.exit 0))
 (.seq (.block 1 (.seq (.reg [.m 15 13,
 .m 5 15])
 (.seq (.draw [⟨.m 16 0,false,none,false,[],0,0⟩,
 ⟨.m 17 5,false,none,false,[],0,0⟩,
 ⟨.i 18 4 16 17,false,none,false,[0,1],0,0⟩,
 ⟨.j 19 4 18,false,none,false,[2,0,1],0,0⟩,
 ⟨.m 20 1,false,none,false,[],0,0⟩,
 ⟨.m 21 5,false,none,false,[],0,0⟩,
 ⟨.i 22 4 20 21,false,none,false,[4,5],0,0⟩,
 ⟨.j 23 4 22,false,none,false,[6,4,5],0,0⟩,
 ⟨.o 24 (.ex (.eqs true 4 [(0,.s),(1,.b),(2,.i),(3,.i)] (.t 19) (.t 23))),false,none,false,[3,7,2,0,1,6,4,5],0,0⟩] [])
 (.cond (.t 24)
 (.seq (.reg [.o 4 (.mv (.c (.bool false)))])
 (.ret))
 (.skip)))))
 (.reg [.u 25 .add 13 1,
 .m 13 25])))))))
 (.seq (.reg [.o 4 (.mv (.c (.bool true)))])
 (.ret))))⟩
theorem ok127:oF Tryz.f127 c127:=oI (by kernel_rfl)
def c128:F':=⟨11,[],
 .reg [.m 2 0,
 .m 3 0,
 .h 4 3,
 .f 5 0 4,
 .l 6 5,
 .o 7 (.call (.f 129) [(.t 6)]),
 .o 8 (.bin .add (.c (.str ⟨⟨[35]⟩⟩)) (.t 7)),
 .h 9 2,
 .f 10 2 9,
 .s 1 10 8]⟩
theorem ok128:oF Tryz.f128 c128:=oI (by kernel_rfl)
def c129:F':=cmp Tryz.f129
theorem ok129:oF Tryz.f129 c129:=oI (by kernel_rfl)
def c130:F':=⟨6,[.t 2],
 .seq (.reg [.o 1 (.box (.t 0)),
 .o 2 (.mv (.c (.int .i64 0)))])
 (.seq (.reg [.j 3 7 1,
 .o 4 (.call (.f 168) [(.t 3)]),
 .o 5 (.call (.f 100) [(.t 4)]),
 .m 2 5])
 (.ret))⟩
theorem ok130:oF Tryz.f130 c130:=oI (by kernel_rfl)
def c131:F':=⟨9,[.t 4],
 .seq (.reg [.o 4 (.mv (.c (.bool false)))])
 (.seq (.reg [.m 5 0,
 .m 6 1,
 .o 7 (.call (.f 169) [(.t 5),(.t 6)]),
 .u 8 .geq 7 0,
 .m 4 8])
 (.ret))⟩
theorem ok131:oF Tryz.f131 c131:=oI (by kernel_rfl)
def c132:F':=cmp Tryz.f132
theorem ok132:oF Tryz.f132 c132:=oI (by kernel_rfl)
def c133:F':=cmp Tryz.f133
theorem ok133:oF Tryz.f133 c133:=oI (by kernel_rfl)
def c134:F':=⟨28,[.t 8],
 .seq (.reg [.o 8 (.mv (.c (.sl true [])))])
 (.seq (.reg [.o 9 (.mv (.c (.sl true [])))])
 (.seq (.seq (.reg [.m 12 1,
 .o 13 (.len false (.t 12)),
 .o 14 (.mv (.c (.int .i64 0)))])
 (.block 0 (.loop (.seq (.reg [.b 15 .lss 14 13])
 (.seq (.cond (.t 15)
 (.skip)
 (.exit 0))
 (.seq (.block 1 (.seq (.reg [.i 16 7 12 14,
 .j 17 7 16,
 .o 11 (.new zX),
 .s 7 11 17])
 (.reg [.m 18 9,
 .m 19 0,
 .j 20 7 11,
 .m 21 2,
 .m 22 3,
 .o 23 (.call (.f 97) [(.t 19),(.t 20),(.t 21),(.t 22)]),
 .o 24 (.bsl 7 [(.t 23)]),
 .o 25 (.app 7 80 (.t 18) (.t 24)),
 .m 9 25])))
 (.reg [.u 26 .add 14 1,
 .m 14 26])))))))
 (.seq (.reg [.m 27 9,
 .m 8 27])
 (.ret))))⟩
theorem ok134:oF Tryz.f134 c134:=oI (by kernel_rfl)
def c136:F':=cmp Tryz.f136
theorem ok136:oF Tryz.f136 c136:=oI (by kernel_rfl)
def c137:F':=cmp Tryz.f137
theorem ok137:oF Tryz.f137 c137:=oI (by kernel_rfl)
def c138:F':=⟨9,[.t 4],
 .seq (.reg [.o 4 (.mv (.c (.bool false)))])
 (.seq (.reg [.m 5 0,
 .m 6 1,
 .o 7 (.call (.f 173) [(.t 5),(.t 6)]),
 .u 8 .geq 7 0,
 .m 4 8])
 (.ret))⟩
theorem ok138:oF Tryz.f138 c138:=oI (by kernel_rfl)
def c139:F':=cmp Tryz.f139
theorem ok139:oF Tryz.f139 c139:=oI (by kernel_rfl)
def c142:F':=⟨5,[.cell 2 (some 25)],
 .seq (.reg [.o 1 (.box (.t 0)),
 .o 2 (.new zP)])
 (.seq (.reg [.j 3 7 1,
 .o 4 (.build zP [(0,0,1,(.c (.int .i64 4))),(4,18,7,(.t 3))]),
 .s 25 2 4])
 (.ret))⟩
theorem ok142:oF Tryz.f142 c142:=oI (by kernel_rfl)
def c146:F':=cmp Tryz.f146
theorem ok146:oF Tryz.f146 c146:=oI (by kernel_rfl)
def c147:F':=cmp Tryz.f147
theorem ok147:oF Tryz.f147 c147:=oI (by kernel_rfl)
def c149:F':=cmp Tryz.f149
theorem ok149:oF Tryz.f149 c149:=oI (by kernel_rfl)
def c150:F':=⟨13,[.cell 2 none,.cell 3 none,.t 4],
 .seq (.reg [.o 1 (.box (.t 0)),
 .o 2 (.new (.int .i64 0)),
 .o 3 (.new (.int .i64 0)),
 .o 4 (.mv (.c (.bool false)))])
 (.seq (.reg [.o 5 (.new .nilfn)])
 (.seq (.reg [.o 6 (.mkf 177 [] [(.t 2),(.t 3),(.t 5)]),
 .s 1 5 6])
 (.seq (.reg [.l 7 5,
 .j 8 25 1,
 .o 9 (.call (.t 7) [(.t 8),(.c (.int .i64 1))]),
 .m 4 9])
 (.seq (.draw [⟨.l 10 2,false,none,false,[],0,0⟩,
 ⟨.l 11 3,false,none,true,[],0,1⟩,
 ⟨.m 12 4,false,none,false,[],0,2⟩,
 ⟨.s 1 2 10,true,none,false,[0],0,0⟩,
 ⟨.s 1 3 11,true,none,false,[1,3,0],1,1⟩,
 ⟨.m 4 12,false,none,false,[2,4,1,3,0],2,2⟩] [])
 (.ret)))))⟩
theorem ok150:oF Tryz.f150 c150:=oI (by kernel_rfl)
noncomputable def c151:F':=⟨35,[.cell 2 none],
 .seq (.reg [.o 1 (.box (.t 0)),
 .o 2 (.new (.bool false))])
 (.seq (.reg [.o 3 (.mv (.c (.bool false)))])
 (.seq (.seq (.reg [.f 5 0 1,
 .l 6 5])
 (.block 0 (.seq (.reg [.u 8 .eql 6 4,
 .m 7 8])
 (.cond (.t 7)
 (.reg [.f 9 18 1,
 .j 10 7 9,
 .o 11 (.call (.f 180) [(.t 10)]),
 .m 3 11])
 (.seq (.reg [.u 13 .eql 6 3,
 .m 12 13])
 (.cond (.t 12)
 (.reg [.f 14 16 1,
 .j 15 2 14,
 .o 16 (.call (.f 181) [(.t 15)]),
 .m 3 16])
 (.seq (.reg [.u 18 .eql 6 2,
 .m 17 18])
 (.cond (.t 17)
 (.reg [.f 19 9 1,
 .j 20 7 19,
 .o 21 (.call (.f 182) [(.t 20)]),
 .m 3 21])
 (.seq (.reg [.u 23 .eql 6 1,
 .m 22 23])
 (.cond (.t 22)
 (.reg [.f 24 1 1,
 .j 25 8 24,
 .o 26 (.call (.f 183) [(.t 25)]),
 .m 3 26])
 (.skip)))))))))))
 (.seq (.seq (.reg [.m 27 3,
 .o 28 (.un .not (.t 27))])
 (.cond (.t 28)
 (.seq (.reg [.n (.sto 1 (.t 2) (.c (.bool false)))])
 (.ret))
 (.skip)))
 (.seq (.seq (.reg [.j 29 25 1,
 .o 30 (.call (.f 179) [(.t 29)])])
 (.block 1 (.rf (.t 30) [31] (rfAt Tryz.f151 0).1 (rfAt Tryz.f151 0).2
 (.reg [.o 4 (.new zP),
 .s 25 4 31])
 (.block 2 (.seq (.reg [.j 32 25 4,
 .o 33 (.call (.f 151) [(.t 32)]),
 .o 34 (.un .not (.t 33))])
 (.cond (.t 34)
 (.seq (.reg [.n (.sto 1 (.t 2) (.c (.bool false)))])
 (.ret))
 (.skip))))
 35 [31,4,32,33,34,2])))
 (.seq (.reg [.n (.sto 1 (.t 2) (.c (.bool true)))])
 (.ret))))))⟩
theorem ok151:oF Tryz.f151 c151:=oI (by kernel_rfl)
def c152:F':=⟨9,[.t 4],
 .seq (.reg [.o 4 (.mv (.c (.bool false)))])
 (.seq (.reg [.m 5 0,
 .m 6 1,
 .o 7 (.call (.f 184) [(.t 5),(.t 6)]),
 .u 8 .geq 7 0,
 .m 4 8])
 (.ret))⟩
theorem ok152:oF Tryz.f152 c152:=oI (by kernel_rfl)
def c153:F':=cmp Tryz.f153
theorem ok153:oF Tryz.f153 c153:=oI (by kernel_rfl)
def c154:F':=⟨19,[.t 4],
 .seq (.reg [.o 4 (.mv (.c (.int .i64 0)))])
 (.seq (.seq (.reg [.m 6 0,
 .o 7 (.len false (.t 6)),
 .o 8 (.mv (.c (.int .i64 0)))])
 (.block 0 (.loop (.seq (.reg [.b 9 .lss 8 7])
 (.seq (.cond (.t 9)
 (.skip)
 (.exit 0))
 (.seq (.block 1 (.seq (.reg [.m 10 8,
 .m 5 10])
 (.seq (.reg [.m 11 1,
 .m 12 0,
 .m 13 5,
 .i 14 1 12 13,
 .l 15 14,
 .o 16 (.call (.t 11) [(.t 15)])])
 (.cond (.t 16)
 (.seq (.reg [.m 17 5,
 .m 4 17])
 (.ret))
 (.skip)))))
 (.reg [.u 18 .add 8 1,
 .m 8 18])))))))
 (.seq (.reg [.o 4 (.mv (.c (.int .i64 (-1))))])
 (.ret)))⟩
theorem ok154:oF Tryz.f154 c154:=oI (by kernel_rfl)
def c155:F':=⟨9,[.t 2],
 .seq (.reg [.o 2 (.mv (.c (.bool false)))])
 (.seq (.reg [.m 3 0,
 .o 4 (.bin .geq (.t 3) (.c (.int .u8 48))),
 .m 5 4,
 .v 6 5 true (.mv (.t 0)),
 .v 7 5 true (.bin .leq (.t 6) (.c (.int .u8 57))),
 .y 8 5 7,
 .m 2 8])
 (.ret))⟩
theorem ok155:oF Tryz.f155 c155:=oI (by kernel_rfl)
def c156:F':=⟨25,[.t 6],
 .seq (.reg [.o 6 (.mv (.c (.sl true [])))])
 (.seq (.reg [.o 7 (.mv (.c (.sl true [])))])
 (.seq (.seq (.reg [.m 10 1,
 .o 11 (.len false (.t 10)),
 .o 12 (.mv (.c (.int .i64 0)))])
 (.block 0 (.loop (.seq (.reg [.b 13 .lss 12 11])
 (.seq (.cond (.t 13)
 (.skip)
 (.exit 0))
 (.seq (.block 1 (.seq (.reg [.i 14 8 10 12,
 .j 15 8 14,
 .o 9 (.new zS),
 .s 8 9 15])
 (.reg [.m 16 7,
 .m 17 0,
 .j 18 8 9,
 .m 19 2,
 .o 20 (.call (.f 186) [(.t 17),(.t 18),(.t 19)]),
 .o 21 (.bsl 8 [(.t 20)]),
 .o 22 (.app 8 168 (.t 16) (.t 21)),
 .m 7 22])))
 (.reg [.u 23 .add 12 1,
 .m 12 23])))))))
 (.seq (.reg [.m 24 7,
 .m 6 24])
 (.ret))))⟩
theorem ok156:oF Tryz.f156 c156:=oI (by kernel_rfl)
noncomputable def c157:F':=⟨63,[.t 6],
 .seq (.reg [.o 3 (.box (.t 0)),
 .o 6 (.mv (.c .nilp))])
 (.seq (.reg [.m 12 1,
 .o 13 (.ex (.wrap 1 (.t 12))),
 .o 14 (.box (.t 13)),
 .o 15 (.ex (.mkm)),
 .o 16 (.build (.agg [.nilp,.nilmap]) [(0,0,1,(.t 14)),(1,1,1,(.t 15))]),
 .o 17 (.box (.t 16)),
 .o 7 (.new .nilp),
 .s 1 7 17])
 (.seq (.seq (.reg [.m 18 2])
 (.block 0 (.rf (.t 18) [19] (rfAt Tryz.f157 0).1 (rfAt Tryz.f157 0).2
 (.reg [.m 8 19])
 (.block 1 (.seq (.seq (.reg [.l 21 7,
 .h 22 21,
 .f 23 1 22,
 .l 24 23,
 .m 25 8,
 .o 26 (.ex (.lkp .str .nilp true (.t 24) (.t 25))),
 .m 20 26,
 .e 27 0 20,
 .e 28 1 20,
 .m 9 27,
 .m 10 28])
 (.seq (.reg [.m 29 10])
 (.cond (.t 29)
 (.exit 1)
 (.skip))))
 (.seq (.reg [.l 30 3,
 .h 31 30,
 .f 32 0 31,
 .l 33 32,
 .m 34 8,
 .m 35 8,
 .o 36 (.build (.agg [(.int .i64 0),(.str ⟨⟨[]⟩⟩),(.str ⟨⟨[]⟩⟩)]) [(0,0,1,(.t 33)),(1,1,1,(.t 34)),(2,2,1,(.t 35))]),
 .o 37 (.box (.t 36)),
 .m 11 37])
 (.seq (.reg [.l 38 3,
 .h 39 38,
 .f 40 0 39,
 .l 41 40,
 .u 42 .add 41 1,
 .h 43 38,
 .f 44 0 43,
 .s 1 44 42])
 (.seq (.reg [.l 45 7,
 .h 46 45,
 .f 47 1 46,
 .l 48 47,
 .m 49 8,
 .m 50 11,
 .n (.ex (.mup .str (.t 48) (.t 49) (.t 50)))])
 (.seq (.reg [.l 51 3,
 .h 52 51,
 .f 53 1 52,
 .l 54 53,
 .o 55 (.eq .func true (.t 54) (.c .nilfn))])
 (.cond (.t 55)
 (.reg [.l 56 3,
 .h 57 56,
 .f 58 1 57,
 .l 59 58,
 .m 60 11,
 .o 61 (.call (.t 59) [(.t 60)])])
 (.skip))))))))
 63 [19,21,22,23,24,25,26,20,27,28,10,29,30,31,32,33,34,35,36,37,39,40,41,38,43,44,42,7,45,46,47,8,48,49,50,51,52,53,54,55,3,56,57,58,11,59,60])))
 (.seq (.reg [.l 62 7,
 .m 6 62])
 (.ret))))⟩
theorem ok157:oF Tryz.f157 c157:=oI (by kernel_rfl)
def c158:F':=⟨4,[.t 2],
 .seq (.reg [.o 1 (.box (.t 0)),
 .o 2 (.mv (.c .nilfn))])
 (.seq (.reg [.o 3 (.mkf 187 [] [(.t 1)]),
 .m 2 3])
 (.ret))⟩
theorem ok158:oF Tryz.f158 c158:=oI (by kernel_rfl)
def c159:F':=⟨11,[.t 2],
 .seq (.reg [.o 1 (.box (.t 0)),
 .o 2 (.mv (.c (.bool false)))])
 (.seq (.reg [.j 3 25 1,
 .o 4 (.call (.f 174) [(.t 3),(.c (.int .i64 2000))]),
 .u 5 .geq 4 0,
 .m 6 5,
 .v 7 6 true (.ld (some 25) (.t 1)),
 .v 8 6 true (.call (.f 188) [(.t 7)]),
 .v 9 6 true (.bin .leq (.t 8) (.c (.int .i64 60))),
 .y 10 6 9,
 .m 2 10])
 (.ret))⟩
theorem ok159:oF Tryz.f159 c159:=oI (by kernel_rfl)
def c164:F':=⟨32,[.t 4],
 .seq (.reg [.o 2 (.box (.t 0)),
 .o 3 (.box (.t 1)),
 .o 4 (.mv (.c (.bool false)))])
 (.seq (.seq (.reg [.j 8 25 2,
 .j 9 25 3,
 .o 10 (.call (.f 195) [(.t 8),(.t 9)]),
 .o 11 (.un .not (.t 10))])
 (.cond (.t 11)
 (.seq (.reg [.o 4 (.mv (.c (.bool false)))])
 (.ret))
 (.skip)))
 (.seq (.reg [.j 12 25 2,
 .o 13 (.call (.f 193) [(.t 12)]),
 .m 5 13])
 (.seq (.reg [.j 14 25 3,
 .o 15 (.call (.f 193) [(.t 14)]),
 .m 6 15])
 (.seq (.seq (.reg [.o 7 (.mv (.c (.int .i64 0)))])
 (.block 0 (.loop (.seq (.seq (.reg [.m 16 7,
 .m 17 5,
 .o 18 (.len false (.t 17)),
 .b 19 .lss 16 18])
 (.cond (.t 19)
 (.skip)
 (.exit 0)))
 (.seq (.block 1 (.seq (.draw [⟨.m 22 5,false,none,false,[],0,0⟩,
 ⟨.m 23 7,false,none,false,[],0,0⟩,
 ⟨.i 24 25 22 23,false,none,false,[0,1],0,0⟩,
 ⟨.j 25 25 24,false,none,false,[2,0,1],0,0⟩,
 ⟨.m 26 6,false,none,false,[],0,0⟩,
 ⟨.m 27 7,false,none,false,[],0,0⟩,
 ⟨.i 28 25 26 27,false,none,false,[4,5],0,0⟩,
 ⟨.j 29 25 28,false,none,false,[6,4,5],0,0⟩,
 ⟨.o 30 (.call (.f 164) [(.t 25),(.t 29)]),true,none,false,[3,7,2,0,1,6,4,5],0,0⟩,
 ⟨.o 31 (.un .not (.t 30)),false,none,false,[8,3,7,2,0,1,6,4,5],1,1⟩] [])
 (.cond (.t 31)
 (.seq (.reg [.o 4 (.mv (.c (.bool false)))])
 (.ret))
 (.skip))))
 (.reg [.m 20 7,
 .u 21 .add 20 1,
 .m 7 21]))))))
 (.seq (.reg [.o 4 (.mv (.c (.bool true)))])
 (.ret))))))⟩
theorem ok164:oF Tryz.f164 c164:=oI (by kernel_rfl)
def c165:F':=⟨32,[.t 6],
 .seq (.reg [.o 6 (.mv (.c (.bool false)))])
 (.seq (.seq (.reg [.m 10 0,
 .o 11 (.len false (.t 10)),
 .m 12 1,
 .o 13 (.len false (.t 12)),
 .b 14 .neq 11 13])
 (.cond (.t 14)
 (.seq (.reg [.o 6 (.mv (.c (.bool false)))])
 (.ret))
 (.skip)))
 (.seq (.seq (.reg [.m 15 0,
 .o 16 (.len false (.t 15)),
 .o 17 (.mv (.c (.int .i64 0)))])
 (.block 0 (.loop (.seq (.reg [.b 18 .lss 17 16])
 (.seq (.cond (.t 18)
 (.skip)
 (.exit 0))
 (.seq (.block 1 (.seq (.reg [.m 19 17,
 .i 20 7 15 17,
 .j 21 7 20,
 .o 8 (.new zX),
 .m 7 19,
 .s 7 8 21])
 (.seq (.reg [.m 22 1,
 .m 23 7,
 .i 24 7 22 23,
 .j 25 7 24,
 .o 9 (.new zX),
 .s 7 9 25])
 (.seq (.reg [.m 26 2,
 .j 27 7 8,
 .j 28 7 9,
 .o 29 (.call (.t 26) [(.t 27),(.t 28)]),
 .o 30 (.un .not (.t 29))])
 (.cond (.t 30)
 (.seq (.reg [.o 6 (.mv (.c (.bool false)))])
 (.ret))
 (.skip))))))
 (.reg [.u 31 .add 17 1,
 .m 17 31])))))))
 (.seq (.reg [.o 6 (.mv (.c (.bool true)))])
 (.ret))))⟩
theorem ok165:oF Tryz.f165 c165:=oI (by kernel_rfl)
def c166:F':=⟨45,[.t 4],
 .seq (.reg [.o 2 (.box (.t 0)),
 .o 3 (.box (.t 1)),
 .o 4 (.mv (.c (.bool false)))])
 (.seq (.reg [.f 5 0 2,
 .l 6 5,
 .f 7 0 3,
 .l 8 7,
 .b 9 .eql 6 8,
 .m 10 9,
 .v 11 10 true (.fa 1 (.t 2)),
 .v 12 10 true (.ld none (.t 11)),
 .v 13 10 true (.fa 1 (.t 3)),
 .v 14 10 true (.ld none (.t 13)),
 .v 15 10 true (.bin .eql (.t 12) (.t 14)),
 .y 16 10 15,
 .m 17 16,
 .v 18 17 true (.fa 2 (.t 2)),
 .v 19 17 true (.ld none (.t 18)),
 .v 20 17 true (.fa 2 (.t 3)),
 .v 21 17 true (.ld none (.t 20)),
 .v 22 17 true (.bin .eql (.t 19) (.t 21)),
 .y 23 17 22,
 .m 24 23,
 .v 25 24 true (.fa 3 (.t 2)),
 .v 26 24 true (.ld (some 2) (.t 25)),
 .v 27 24 true (.fa 3 (.t 3)),
 .v 28 24 true (.ld (some 2) (.t 27)),
 .v 29 24 true (.ex (.eqs false 2 [(0,.i),(1,.i)] (.t 26) (.t 28))),
 .y 30 24 29,
 .m 31 30,
 .v 32 31 true (.fa 5 (.t 2)),
 .v 33 31 true (.ld none (.t 32)),
 .v 34 31 true (.fa 5 (.t 3)),
 .v 35 31 true (.ld none (.t 34)),
 .v 36 31 true (.bin .eql (.t 33) (.t 35)),
 .y 37 31 36,
 .m 38 37,
 .v 39 38 true (.fa 6 (.t 2)),
 .v 40 38 true (.ld none (.t 39)),
 .v 41 38 true (.fa 6 (.t 3)),
 .v 42 38 true (.ld none (.t 41)),
 .v 43 38 true (.call (.f 123) [(.t 40),(.t 42)]),
 .y 44 38 43,
 .m 4 44])
 (.ret))⟩
theorem ok166:oF Tryz.f166 c166:=oI (by kernel_rfl)
def c167:F':=cmp Tryz.f167
theorem ok167:oF Tryz.f167 c167:=oI (by kernel_rfl)
def c168:F':=⟨5,[.cell 2 (some 25)],
 .seq (.reg [.o 1 (.box (.t 0)),
 .o 2 (.new zP)])
 (.seq (.reg [.j 3 7 1,
 .o 4 (.build zP [(0,0,1,(.c (.int .i64 2))),(2,9,7,(.t 3))]),
 .s 25 2 4])
 (.ret))⟩
theorem ok168:oF Tryz.f168 c168:=oI (by kernel_rfl)
def c169:F':=⟨19,[.t 4],
 .seq (.reg [.o 4 (.mv (.c (.int .i64 0)))])
 (.seq (.seq (.reg [.m 6 0,
 .o 7 (.len false (.t 6)),
 .o 8 (.mv (.c (.int .i64 0)))])
 (.block 0 (.loop (.seq (.reg [.b 9 .lss 8 7])
 (.seq (.cond (.t 9)
 (.skip)
 (.exit 0))
 (.seq (.block 1 (.seq (.reg [.m 10 8,
 .m 5 10])
 (.seq (.reg [.m 11 1,
 .m 12 0,
 .m 13 5,
 .i 14 4 12 13,
 .j 15 4 14,
 .o 16 (.call (.t 11) [(.t 15)])])
 (.cond (.t 16)
 (.seq (.reg [.m 17 5,
 .m 4 17])
 (.ret))
 (.skip)))))
 (.reg [.u 18 .add 8 1,
 .m 8 18])))))))
 (.seq (.reg [.o 4 (.mv (.c (.int .i64 (-1))))])
 (.ret)))⟩
theorem ok169:oF Tryz.f169 c169:=oI (by kernel_rfl)
def c170:F':=cmp Tryz.f170
theorem ok170:oF Tryz.f170 c170:=oI (by kernel_rfl)
def c171:F':=cmp Tryz.f171
theorem ok171:oF Tryz.f171 c171:=oI (by kernel_rfl)
def c172:F':=cmp Tryz.f172
theorem ok172:oF Tryz.f172 c172:=oI (by kernel_rfl)
def c173:F':=⟨19,[.t 4],
 .seq (.reg [.o 4 (.mv (.c (.int .i64 0)))])
 (.seq (.seq (.reg [.m 6 0,
 .o 7 (.len false (.t 6)),
 .o 8 (.mv (.c (.int .i64 0)))])
 (.block 0 (.loop (.seq (.reg [.b 9 .lss 8 7])
 (.seq (.cond (.t 9)
 (.skip)
 (.exit 0))
 (.seq (.block 1 (.seq (.reg [.m 10 8,
 .m 5 10])
 (.seq (.reg [.m 11 1,
 .m 12 0,
 .m 13 5,
 .i 14 1 12 13,
 .l 15 14,
 .o 16 (.call (.t 11) [(.t 15)])])
 (.cond (.t 16)
 (.seq (.reg [.m 17 5,
 .m 4 17])
 (.ret))
 (.skip)))))
 (.reg [.u 18 .add 8 1,
 .m 8 18])))))))
 (.seq (.reg [.o 4 (.mv (.c (.int .i64 (-1))))])
 (.ret)))⟩
theorem ok173:oF Tryz.f173 c173:=oI (by kernel_rfl)
def c174:F':=⟨37,[.t 4],
 .seq (.reg [.o 2 (.box (.t 0)),
 .o 4 (.mv (.c (.int .i64 0)))])
 (.seq (.seq (.draw [⟨.j 7 25 2,false,none,false,[],0,0⟩,
 ⟨.o 8 (.call (.f 200) [(.t 7)]),true,none,false,[0],0,0⟩,
 ⟨.j 9 25 2,false,none,true,[],0,1⟩,
 ⟨.o 10 (.call (.f 201) [(.t 9)]),true,none,false,[2,1,0],1,1⟩,
 ⟨.b 11 .add 8 10,false,none,false,[3,2,1,0],2,2⟩,
 ⟨.m 12 1,false,none,false,[],0,2⟩,
 ⟨.b 13 .gtr 11 12,false,none,false,[4,5,3,2,1,0],2,2⟩] [])
 (.cond (.t 13)
 (.seq (.reg [.o 4 (.mv (.c (.int .i64 (-1))))])
 (.ret))
 (.skip)))
 (.seq (.reg [.m 14 1,
 .j 15 25 2,
 .o 16 (.call (.f 200) [(.t 15)]),
 .b 17 .sub 14 16,
 .m 1 17])
 (.seq (.reg [.j 18 25 2,
 .o 19 (.call (.f 193) [(.t 18)]),
 .m 5 19])
 (.seq (.seq (.reg [.o 6 (.mv (.c (.int .i64 0)))])
 (.block 0 (.loop (.seq (.seq (.reg [.m 20 6,
 .m 21 5,
 .o 22 (.len false (.t 21)),
 .b 23 .lss 20 22,
 .m 24 23,
 .v 25 24 true (.mv (.t 1)),
 .v 26 24 true (.bin .geq (.t 25) (.c (.int .i64 0))),
 .y 27 24 26])
 (.cond (.t 27)
 (.skip)
 (.exit 0)))
 (.seq (.block 1 (.reg [.m 30 5,
 .m 31 6,
 .i 32 25 30 31,
 .j 33 25 32,
 .m 34 1,
 .o 35 (.call (.f 174) [(.t 33),(.t 34)]),
 .m 1 35]))
 (.reg [.m 28 6,
 .u 29 .add 28 1,
 .m 6 29]))))))
 (.seq (.reg [.m 36 1,
 .m 4 36])
 (.ret))))))⟩
theorem ok174:oF Tryz.f174 c174:=oI (by kernel_rfl)
noncomputable def c177:F':=⟨31,[.cell 7 none],
 .seq (.reg [.o 5 (.box (.t 0)),
 .o 6 (.box (.t 1)),
 .o 7 (.new (.bool false))])
 (.seq (.draw [⟨.l 9 2,false,none,true,[],0,1⟩,
 ⟨.j 10 25 5,false,none,false,[],0,0⟩,
 ⟨.o 11 (.call (.f 178) [(.t 10)]),true,none,false,[1],0,0⟩,
 ⟨.b 12 .add 9 11,false,none,false,[0,2,1],1,1⟩,
 ⟨.s 1 2 12,true,none,false,[3,0,2,1],1,1⟩] [])
 (.seq (.reg [.l 13 3,
 .l 14 6,
 .o 15 (.ex (.mm true (.t 13) (.t 14))),
 .s 1 3 15])
 (.seq (.seq (.reg [.l 16 2,
 .u 17 .gtr 16 2000,
 .m 18 17,
 .v 19 18 false (.ld none (.t 3)),
 .v 20 18 false (.bin .gtr (.t 19) (.c (.int .i64 60))),
 .z 21 18 20])
 (.cond (.t 21)
 (.seq (.reg [.n (.sto 1 (.t 7) (.c (.bool false)))])
 (.ret))
 (.skip)))
 (.seq (.seq (.reg [.j 22 25 5,
 .o 23 (.call (.f 179) [(.t 22)])])
 (.block 0 (.rf (.t 23) [24] (rfAt Tryz.f177 0).1 (rfAt Tryz.f177 0).2
 (.reg [.o 8 (.new zP),
 .s 25 8 24])
 (.block 1 (.seq (.reg [.l 25 4,
 .j 26 25 8,
 .l 27 6,
 .u 28 .add 27 1,
 .o 29 (.call (.t 25) [(.t 26),(.t 28)]),
 .o 30 (.un .not (.t 29))])
 (.cond (.t 30)
 (.seq (.reg [.n (.sto 1 (.t 7) (.c (.bool false)))])
 (.ret))
 (.skip))))
 31 [24,4,8,6,27,25,26,28,29,30,7])))
 (.seq (.reg [.n (.sto 1 (.t 7) (.c (.bool true)))])
 (.ret))))))⟩
theorem ok177:oF Tryz.f177 c177:=oI (by kernel_rfl)
def c178:F':=⟨24,[.t 2],
 .seq (.reg [.o 1 (.box (.t 0)),
 .o 2 (.mv (.c (.int .i64 0)))])
 (.seq (.seq (.reg [.f 3 0 1,
 .l 4 3])
 (.block 0 (.seq (.reg [.u 6 .eql 4 1,
 .m 5 6])
 (.cond (.t 5)
 (.seq (.reg [.f 7 1 1,
 .f 8 0 7,
 .l 9 8,
 .o 10 (.len false (.t 9)),
 .o 11 (.bin .add (.c (.int .i64 1)) (.t 10)),
 .m 2 11])
 (.ret))
 (.seq (.reg [.u 13 .eql 4 2,
 .m 12 13])
 (.cond (.t 12)
 (.seq (.reg [.f 14 9 1,
 .f 15 3 14,
 .l 16 15,
 .o 17 (.len false (.t 16)),
 .o 18 (.bin .add (.c (.int .i64 1)) (.t 17)),
 .f 19 9 1,
 .f 20 5 19,
 .l 21 20,
 .o 22 (.len false (.t 21)),
 .b 23 .add 18 22,
 .m 2 23])
 (.ret))
 (.skip)))))))
 (.seq (.reg [.o 2 (.mv (.c (.int .i64 1)))])
 (.ret)))⟩
theorem ok178:oF Tryz.f178 c178:=oI (by kernel_rfl)
def c179:F':=⟨4,[.t 2],
 .seq (.reg [.o 1 (.box (.t 0)),
 .o 2 (.mv (.c .nilfn))])
 (.seq (.reg [.o 3 (.mkf 202 [] [(.t 1)]),
 .m 2 3])
 (.ret))⟩
theorem ok179:oF Tryz.f179 c179:=oI (by kernel_rfl)
def c180:F':=⟨103,[.t 2],
 .seq (.reg [.o 1 (.box (.t 0)),
 .o 2 (.mv (.c (.bool false)))])
 (.seq (.reg [.f 8 0 1,
 .l 9 8,
 .o 10 (.call (.f 208) [(.t 9)]),
 .m 7 10,
 .e 11 0 7,
 .e 12 1 7,
 .m 3 11,
 .m 4 12])
 (.seq (.seq (.reg [.f 13 0 1,
 .l 14 13,
 .o 15 (.call (.f 209) [(.t 14),(.c (.int .i64 1)),(.c (.int .i64 11))]),
 .o 16 (.un .not (.t 15)),
 .m 17 16,
 .v 18 17 false (.fa 6 (.t 1)),
 .v 19 17 false (.ld none (.t 18)),
 .v 20 17 false (.len false (.t 19)),
 .v 21 17 false (.mv (.t 3)),
 .v 22 17 false (.mv (.t 4)),
 .v 23 17 false (.call (.f 209) [(.t 20),(.t 21),(.t 22)]),
 .v 24 17 false (.un .not (.t 23)),
 .z 25 17 24])
 (.cond (.t 25)
 (.seq (.reg [.o 2 (.mv (.c (.bool false)))])
 (.ret))
 (.skip)))
 (.seq (.reg [.j 26 7 1,
 .o 5 (.new zX),
 .s 7 5 26])
 (.seq (.reg [.f 27 0 5,
 .n (.sto 1 (.t 27) (.c (.int .i64 0))),
 .f 28 6 5,
 .n (.sto 1 (.t 28) (.c (.sl true [])))])
 (.seq (.reg [.o 6 (.mv (.c (.bool true)))])
 (.seq (.seq (.reg [.f 29 0 1,
 .l 30 29])
 (.block 0 (.seq (.reg [.u 32 .eql 30 1,
 .m 31 32])
 (.cond (.t 31)
 (.seq (.reg [.f 33 2 1,
 .l 34 33,
 .o 35 (.call (.f 209) [(.t 34),(.c (.int .i64 0)),(.c (.int .i64 2147483647))]),
 .m 6 35])
 (.reg [.f 36 2 5,
 .n (.sto 1 (.t 36) (.c (.int .i64 0)))]))
 (.seq (.reg [.u 38 .eql 30 2,
 .m 37 38])
 (.cond (.t 37)
 (.seq (.reg [.f 39 3 1,
 .j 40 2 39,
 .o 41 (.call (.f 210) [(.t 40)]),
 .m 42 41,
 .v 43 42 true (.fa 3 (.t 1)),
 .v 44 42 true (.fa 0 (.t 43)),
 .v 45 42 true (.ld none (.t 44)),
 .v 46 42 true (.bin .geq (.t 45) (.c (.int .i64 0))),
 .y 47 42 46,
 .m 6 47])
 (.reg [.o 48 (.build (.agg [(.int .i64 0),(.int .i64 0)]) []),
 .f 49 3 5,
 .s 2 49 48]))
 (.seq (.reg [.u 51 .eql 30 5,
 .m 50 51])
 (.cond (.t 50)
 (.seq (.reg [.f 52 5 1,
 .l 53 52,
 .o 54 (.call (.f 211) [(.t 53)]),
 .m 6 54])
 (.reg [.f 55 5 5,
 .n (.sto 1 (.t 55) (.c (.str ⟨⟨[]⟩⟩)))]))
 (.seq (.seq (.reg [.u 57 .eql 30 6,
 .m 56 57])
 (.cond (.t 56)
 (.skip)
 (.seq (.reg [.u 58 .eql 30 7,
 .m 56 58])
 (.cond (.t 56)
 (.skip)
 (.reg [.u 59 .eql 30 8,
 .m 56 59])))))
 (.cond (.t 56)
 (.seq (.reg [.f 60 5 1,
 .l 61 60,
 .o 62 (.call (.f 57) [(.t 61)]),
 .m 6 62])
 (.reg [.f 63 5 5,
 .n (.sto 1 (.t 63) (.c (.str ⟨⟨[]⟩⟩)))]))
 (.seq (.reg [.u 65 .eql 30 9,
 .m 64 65])
 (.cond (.t 64)
 (.seq (.reg [.f 66 1 1,
 .l 67 66,
 .u 68 .eql 67 1,
 .m 69 68,
 .v 70 69 false (.fa 1 (.t 1)),
 .v 71 69 false (.ld none (.t 70)),
 .v 72 69 false (.bin .eql (.t 71) (.c (.int .i64 2))),
 .z 73 69 72,
 .m 6 73])
 (.reg [.f 74 1 5,
 .n (.sto 1 (.t 74) (.c (.int .i64 0)))]))
 (.seq (.reg [.u 76 .eql 30 10,
 .m 75 76])
 (.cond (.t 75)
 (.seq (.reg [.f 77 1 1,
 .l 78 77,
 .o 79 (.call (.f 209) [(.t 78),(.c (.int .i64 3)),(.c (.int .i64 18))]),
 .m 6 79])
 (.reg [.f 80 1 5,
 .n (.sto 1 (.t 80) (.c (.int .i64 0)))]))
 (.skip)))))))))))))))
 (.seq (.reg [.m 81 6,
 .m 82 81,
 .v 83 82 true (.fa 1 (.t 5)),
 .v 84 82 true (.ld none (.t 83)),
 .v 85 82 true (.bin .eql (.t 84) (.c (.int .i64 0))),
 .y 86 82 85,
 .m 87 86,
 .v 88 87 true (.fa 2 (.t 5)),
 .v 89 87 true (.ld none (.t 88)),
 .v 90 87 true (.bin .eql (.t 89) (.c (.int .i64 0))),
 .y 91 87 90,
 .m 92 91,
 .v 93 92 true (.fa 3 (.t 5)),
 .v 94 92 true (.ld (some 2) (.t 93)),
 .v 95 92 true (.build (.agg [(.int .i64 0),(.int .i64 0)]) []),
 .v 96 92 true (.ex (.eqs false 2 [(0,.i),(1,.i)] (.t 94) (.t 95))),
 .y 97 92 96,
 .m 98 97,
 .v 99 98 true (.fa 5 (.t 5)),
 .v 100 98 true (.ld none (.t 99)),
 .v 101 98 true (.bin .eql (.t 100) (.c (.str ⟨⟨[]⟩⟩))),
 .y 102 98 101,
 .m 2 102])
 (.ret))))))))⟩
theorem ok180:oF Tryz.f180 c180:=oI (by kernel_rfl)
def c182:F':=⟨109,[.t 2],
 .seq (.reg [.o 1 (.box (.t 0)),
 .o 2 (.mv (.c (.bool false)))])
 (.seq (.reg [.o 9 (.build (.agg [(.int .i64 0),(.int .i64 0)]) [(0,0,1,(.c (.int .i64 1))),(1,1,1,(.c (.int .i64 1)))]),
 .o 10 (.build (.agg [(.int .i64 0),(.int .i64 0)]) []),
 .o 11 (.build (.agg [(.int .i64 0),(.int .i64 0)]) []),
 .o 12 (.build (.agg [(.int .i64 0),(.int .i64 0)]) []),
 .o 3 (.new (.agg [(.int .i64 0),(.int .i64 0)])),
 .o 4 (.new (.agg [(.int .i64 0),(.int .i64 0)])),
 .o 5 (.new (.agg [(.int .i64 0),(.int .i64 0)])),
 .o 6 (.new (.agg [(.int .i64 0),(.int .i64 0)])),
 .s 2 3 9,
 .s 2 4 10,
 .s 2 5 11,
 .s 2 6 12])
 (.seq (.reg [.o 7 (.mv (.c (.bool false))),
 .o 8 (.mv (.c (.bool false)))])
 (.seq (.seq (.reg [.f 13 0 1,
 .l 14 13])
 (.block 0 (.seq (.reg [.u 16 .eql 14 1,
 .m 15 16])
 (.cond (.t 15)
 (.reg [.o 17 (.build (.agg [(.int .i64 0),(.int .i64 0)]) [(0,0,1,(.c (.int .i64 1))),(1,1,1,(.c (.int .i64 (-1))))]),
 .s 2 3 17,
 .o 7 (.mv (.c (.bool true))),
 .o 8 (.mv (.c (.bool true)))])
 (.seq (.reg [.u 19 .eql 14 2,
 .m 18 19])
 (.cond (.t 18)
 (.reg [.o 20 (.build (.agg [(.int .i64 0),(.int .i64 0)]) [(0,0,1,(.c (.int .i64 1))),(1,1,1,(.c (.int .i64 (-1))))]),
 .o 21 (.build (.agg [(.int .i64 0),(.int .i64 0)]) [(0,0,1,(.c (.int .i64 2))),(1,1,1,(.c (.int .i64 8)))]),
 .s 2 3 20,
 .s 2 4 21,
 .o 7 (.mv (.c (.bool true))),
 .o 8 (.mv (.c (.bool true)))])
 (.seq (.reg [.u 23 .eql 14 3,
 .m 22 23])
 (.cond (.t 22)
 (.reg [.o 24 (.build (.agg [(.int .i64 0),(.int .i64 0)]) [(0,0,1,(.c (.int .i64 1))),(1,1,1,(.c (.int .i64 (-1))))]),
 .s 2 4 24])
 (.seq (.reg [.u 26 .eql 14 4,
 .m 25 26])
 (.cond (.t 25)
 (.reg [.o 27 (.build (.agg [(.int .i64 0),(.int .i64 0)]) [(0,0,1,(.c (.int .i64 1))),(1,1,1,(.c (.int .i64 1)))]),
 .o 28 (.build (.agg [(.int .i64 0),(.int .i64 0)]) [(0,0,1,(.c (.int .i64 0))),(1,1,1,(.c (.int .i64 8)))]),
 .s 2 5 27,
 .s 2 6 28])
 (.seq (.reg [.o 2 (.mv (.c (.bool false)))])
 (.ret))))))))))))
 (.seq (.seq (.reg [.j 29 2 3,
 .f 30 3 1,
 .l 31 30,
 .o 32 (.len false (.t 31)),
 .o 33 (.call (.f 212) [(.t 29),(.t 32)]),
 .o 34 (.un .not (.t 33)),
 .m 35 34,
 .v 36 35 false (.ld (some 2) (.t 4)),
 .v 37 35 false (.fa 4 (.t 1)),
 .v 38 35 false (.ld none (.t 37)),
 .v 39 35 false (.len false (.t 38)),
 .v 40 35 false (.call (.f 212) [(.t 36),(.t 39)]),
 .v 41 35 false (.un .not (.t 40)),
 .z 42 35 41,
 .m 43 42,
 .v 44 43 false (.ld (some 2) (.t 5)),
 .v 45 43 false (.fa 6 (.t 1)),
 .v 46 43 false (.ld none (.t 45)),
 .v 47 43 false (.len false (.t 46)),
 .v 48 43 false (.call (.f 212) [(.t 44),(.t 47)]),
 .v 49 43 false (.un .not (.t 48)),
 .z 50 43 49,
 .m 51 50,
 .v 52 51 false (.ld (some 2) (.t 6)),
 .v 53 51 false (.fa 5 (.t 1)),
 .v 54 51 false (.ld none (.t 53)),
 .v 55 51 false (.len false (.t 54)),
 .v 56 51 false (.call (.f 212) [(.t 52),(.t 55)]),
 .v 57 51 false (.un .not (.t 56)),
 .z 58 51 57,
 .m 59 58,
 .v 60 59 false (.fa 3 (.t 1)),
 .v 61 59 false (.ld none (.t 60)),
 .v 62 59 false (.call (.f 213) [(.t 61)]),
 .v 63 59 false (.un .not (.t 62)),
 .z 64 59 63])
 (.cond (.t 64)
 (.seq (.reg [.o 2 (.mv (.c (.bool false)))])
 (.ret))
 (.skip)))
 (.seq (.seq (.reg [.f 65 1 1,
 .l 66 65,
 .m 67 66,
 .v 68 67 true (.mv (.t 8)),
 .v 69 67 true (.un .not (.t 68)),
 .y 70 67 69,
 .m 71 70,
 .v 72 71 false (.mv (.t 7)),
 .v 73 71 false (.mv (.t 72)),
 .v 74 73 true (.fa 2 (.t 1)),
 .v 75 73 true (.ld none (.t 74)),
 .v 76 73 true (.call (.f 209) [(.t 75),(.c (.int .i64 1)),(.c (.int .i64 3))]),
 .v 77 73 true (.un .not (.t 76)),
 .v 78 71 false (.pick (.t 73) (.t 77) (.c (.bool false))),
 .z 79 71 78,
 .m 80 79,
 .v 81 80 false (.fa 0 (.t 1)),
 .v 82 80 false (.ld none (.t 81)),
 .v 83 80 false (.bin .eql (.t 82) (.c (.int .i64 3))),
 .v 84 80 false (.mv (.t 83)),
 .v 85 84 true (.fa 2 (.t 1)),
 .v 86 84 true (.ld none (.t 85)),
 .v 87 84 true (.bin .neq (.t 86) (.c (.int .i64 0))),
 .v 88 80 false (.pick (.t 84) (.t 87) (.c (.bool false))),
 .z 89 80 88,
 .m 90 89,
 .v 91 90 false (.fa 2 (.t 1)),
 .v 92 90 false (.ld none (.t 91)),
 .v 93 90 false (.call (.f 209) [(.t 92),(.c (.int .i64 0)),(.c (.int .i64 3))]),
 .v 94 90 false (.un .not (.t 93)),
 .z 95 90 94])
 (.cond (.t 95)
 (.seq (.reg [.o 2 (.mv (.c (.bool false)))])
 (.ret))
 (.skip)))
 (.seq (.seq (.reg [.f 96 0 1,
 .l 97 96,
 .u 98 .eql 97 2,
 .m 99 98,
 .v 100 99 true (.fa 4 (.t 1)),
 .v 101 99 true (.ld none (.t 100)),
 .v 102 99 true (.len false (.t 101)),
 .v 103 99 true (.bin .rem (.t 102) (.c (.int .i64 2))),
 .v 104 99 true (.bin .neq (.t 103) (.c (.int .i64 0))),
 .y 105 99 104])
 (.cond (.t 105)
 (.seq (.reg [.o 2 (.mv (.c (.bool false)))])
 (.ret))
 (.skip)))
 (.seq (.reg [.f 106 5 1,
 .l 107 106,
 .o 108 (.call (.f 214) [(.t 107)]),
 .m 2 108])
 (.ret))))))))⟩
theorem ok182:oF Tryz.f182 c182:=oI (by kernel_rfl)
def c183:F':=⟨122,[.t 2],
 .seq (.reg [.o 1 (.box (.t 0)),
 .o 2 (.mv (.c (.bool false)))])
 (.seq (.reg [.o 3 (.new (.agg [(.int .i64 0),(.int .i64 0)])),
 .o 4 (.new (.agg [(.int .i64 0),(.int .i64 0)])),
 .o 5 (.new (.agg [(.int .i64 0),(.int .i64 0)])),
 .o 6 (.new (.agg [(.int .i64 0),(.int .i64 0)])),
 .o 7 (.new (.agg [(.int .i64 0),(.int .i64 0)]))])
 (.seq (.reg [.o 8 (.mv (.c (.bool false)))])
 (.seq (.seq (.reg [.f 9 1 1,
 .l 10 9])
 (.block 0 (.seq (.reg [.u 12 .eql 10 1,
 .m 11 12])
 (.cond (.t 11)
 (.skip)
 (.seq (.reg [.u 14 .eql 10 2,
 .m 13 14])
 (.cond (.t 13)
 (.reg [.o 15 (.build (.agg [(.int .i64 0),(.int .i64 0)]) [(0,0,1,(.c (.int .i64 1))),(1,1,1,(.c (.int .i64 (-1))))]),
 .o 16 (.build (.agg [(.int .i64 0),(.int .i64 0)]) [(0,0,1,(.c (.int .i64 1))),(1,1,1,(.c (.int .i64 1)))]),
 .s 2 3 15,
 .s 2 4 16])
 (.seq (.reg [.u 18 .eql 10 3,
 .m 17 18])
 (.cond (.t 17)
 (.reg [.o 19 (.build (.agg [(.int .i64 0),(.int .i64 0)]) [(0,0,1,(.c (.int .i64 1))),(1,1,1,(.c (.int .i64 1)))]),
 .s 2 4 19])
 (.seq (.reg [.u 21 .eql 10 4,
 .m 20 21])
 (.cond (.t 20)
 (.reg [.o 22 (.build (.agg [(.int .i64 0),(.int .i64 0)]) [(0,0,1,(.c (.int .i64 1))),(1,1,1,(.c (.int .i64 1)))]),
 .o 23 (.build (.agg [(.int .i64 0),(.int .i64 0)]) [(0,0,1,(.c (.int .i64 1))),(1,1,1,(.c (.int .i64 2)))]),
 .s 2 4 22,
 .s 2 7 23])
 (.seq (.reg [.u 25 .eql 10 5,
 .m 24 25])
 (.cond (.t 24)
 (.reg [.o 26 (.build (.agg [(.int .i64 0),(.int .i64 0)]) [(0,0,1,(.c (.int .i64 1))),(1,1,1,(.c (.int .i64 1)))]),
 .o 27 (.build (.agg [(.int .i64 0),(.int .i64 0)]) [(0,0,1,(.c (.int .i64 1))),(1,1,1,(.c (.int .i64 (-1))))]),
 .o 28 (.build (.agg [(.int .i64 0),(.int .i64 0)]) [(0,0,1,(.c (.int .i64 1))),(1,1,1,(.c (.int .i64 1)))]),
 .s 2 3 26,
 .s 2 5 27,
 .s 2 7 28])
 (.seq (.reg [.u 30 .eql 10 6,
 .m 29 30])
 (.cond (.t 29)
 (.reg [.o 31 (.build (.agg [(.int .i64 0),(.int .i64 0)]) [(0,0,1,(.c (.int .i64 0))),(1,1,1,(.c (.int .i64 8)))]),
 .o 8 (.mv (.c (.bool true))),
 .s 2 4 31])
 (.seq (.reg [.u 33 .eql 10 7,
 .m 32 33])
 (.cond (.t 32)
 (.reg [.o 34 (.build (.agg [(.int .i64 0),(.int .i64 0)]) [(0,0,1,(.c (.int .i64 1))),(1,1,1,(.c (.int .i64 (-1))))]),
 .o 35 (.build (.agg [(.int .i64 0),(.int .i64 0)]) [(0,0,1,(.c (.int .i64 1))),(1,1,1,(.c (.int .i64 (-1))))]),
 .s 2 6 34,
 .s 2 7 35])
 (.seq (.reg [.u 37 .eql 10 8,
 .m 36 37])
 (.cond (.t 36)
 (.reg [.o 38 (.build (.agg [(.int .i64 0),(.int .i64 0)]) [(0,0,1,(.c (.int .i64 1))),(1,1,1,(.c (.int .i64 (-1))))]),
 .s 2 7 38])
 (.seq (.reg [.o 2 (.mv (.c (.bool false)))])
 (.ret))))))))))))))))))))
 (.seq (.seq (.reg [.j 39 2 3,
 .f 40 3 1,
 .l 41 40,
 .o 42 (.len false (.t 41)),
 .o 43 (.call (.f 212) [(.t 39),(.t 42)]),
 .o 44 (.un .not (.t 43)),
 .m 45 44,
 .v 46 45 false (.ld (some 2) (.t 4)),
 .v 47 45 false (.fa 4 (.t 1)),
 .v 48 45 false (.ld none (.t 47)),
 .v 49 45 false (.len false (.t 48)),
 .v 50 45 false (.call (.f 212) [(.t 46),(.t 49)]),
 .v 51 45 false (.un .not (.t 50)),
 .z 52 45 51,
 .m 53 52,
 .v 54 53 false (.ld (some 2) (.t 5)),
 .v 55 53 false (.fa 5 (.t 1)),
 .v 56 53 false (.ld none (.t 55)),
 .v 57 53 false (.len false (.t 56)),
 .v 58 53 false (.call (.f 212) [(.t 54),(.t 57)]),
 .v 59 53 false (.un .not (.t 58)),
 .z 60 53 59,
 .m 61 60,
 .v 62 61 false (.ld (some 2) (.t 6)),
 .v 63 61 false (.fa 6 (.t 1)),
 .v 64 61 false (.ld none (.t 63)),
 .v 65 61 false (.len false (.t 64)),
 .v 66 61 false (.call (.f 212) [(.t 62),(.t 65)]),
 .v 67 61 false (.un .not (.t 66)),
 .z 68 61 67,
 .m 69 68,
 .v 70 69 false (.ld (some 2) (.t 7)),
 .v 71 69 false (.fa 7 (.t 1)),
 .v 72 69 false (.ld none (.t 71)),
 .v 73 69 false (.len false (.t 72)),
 .v 74 69 false (.call (.f 212) [(.t 70),(.t 73)]),
 .v 75 69 false (.un .not (.t 74)),
 .z 76 69 75])
 (.cond (.t 76)
 (.seq (.reg [.o 2 (.mv (.c (.bool false)))])
 (.ret))
 (.skip)))
 (.seq (.seq (.reg [.m 77 8,
 .f 78 2 1,
 .l 79 78,
 .o 80 (.bin .neq (.t 79) (.c (.str ⟨⟨[]⟩⟩))),
 .o 81 (.eq .bool true (.t 77) (.t 80)),
 .m 82 81,
 .v 83 82 false (.mv (.t 8)),
 .v 84 82 false (.mv (.t 83)),
 .v 85 84 true (.fa 2 (.t 1)),
 .v 86 84 true (.ld none (.t 85)),
 .v 87 84 true (.call (.f 57) [(.t 86)]),
 .v 88 84 true (.un .not (.t 87)),
 .v 89 82 false (.pick (.t 84) (.t 88) (.c (.bool false))),
 .z 90 82 89,
 .m 91 90,
 .v 92 91 false (.fa 0 (.t 1)),
 .v 93 91 false (.ld none (.t 92)),
 .v 94 91 false (.call (.f 213) [(.t 93)]),
 .v 95 91 false (.un .not (.t 94)),
 .z 96 91 95,
 .m 97 96,
 .v 98 97 false (.fa 3 (.t 1)),
 .v 99 97 false (.ld none (.t 98)),
 .v 100 97 false (.call (.f 215) [(.t 99)]),
 .v 101 97 false (.un .not (.t 100)),
 .z 102 97 101])
 (.cond (.t 102)
 (.seq (.reg [.o 2 (.mv (.c (.bool false)))])
 (.ret))
 (.skip)))
 (.seq (.reg [.f 103 1 1,
 .l 104 103,
 .u 105 .neq 104 4,
 .m 106 105,
 .v 107 106 false (.fa 7 (.t 1)),
 .v 108 106 false (.ld none (.t 107)),
 .v 109 106 false (.ia 8 (.t 108) (.c (.int .i64 0))),
 .v 110 106 false (.fa 1 (.t 109)),
 .v 111 106 false (.ld none (.t 110)),
 .v 112 106 false (.bin .neq (.t 111) (.c (.int .i64 4))),
 .v 113 106 false (.mv (.t 112)),
 .v 114 113 true (.fa 7 (.t 1)),
 .v 115 113 true (.ld none (.t 114)),
 .v 116 113 true (.ia 8 (.t 115) (.c (.int .i64 0))),
 .v 117 113 true (.fa 1 (.t 116)),
 .v 118 113 true (.ld none (.t 117)),
 .v 119 113 true (.bin .neq (.t 118) (.c (.int .i64 5))),
 .v 120 106 false (.pick (.t 113) (.t 119) (.c (.bool false))),
 .z 121 106 120,
 .m 2 121])
 (.ret)))))))⟩
theorem ok183:oF Tryz.f183 c183:=oI (by kernel_rfl)
def c184:F':=⟨19,[.t 4],
 .seq (.reg [.o 4 (.mv (.c (.int .i64 0)))])
 (.seq (.seq (.reg [.m 6 0,
 .o 7 (.len false (.t 6)),
 .o 8 (.mv (.c (.int .i64 0)))])
 (.block 0 (.loop (.seq (.reg [.b 9 .lss 8 7])
 (.seq (.cond (.t 9)
 (.skip)
 (.exit 0))
 (.seq (.block 1 (.seq (.reg [.m 10 8,
 .m 5 10])
 (.seq (.reg [.m 11 1,
 .m 12 0,
 .m 13 5,
 .i 14 1 12 13,
 .l 15 14,
 .b 16 .eql 11 15])
 (.cond (.t 16)
 (.seq (.reg [.m 17 5,
 .m 4 17])
 (.ret))
 (.skip)))))
 (.reg [.u 18 .add 8 1,
 .m 8 18])))))))
 (.seq (.reg [.o 4 (.mv (.c (.int .i64 (-1))))])
 (.ret)))⟩
theorem ok184:oF Tryz.f184 c184:=oI (by kernel_rfl)
def c185:F':=cmp Tryz.f185
theorem ok185:oF Tryz.f185 c185:=oI (by kernel_rfl)
def c186:F':=⟨102,[.cell 6 (some 8)],
 .seq (.reg [.o 4 (.box (.t 1)),
 .o 6 (.new zS)])
 (.seq (.reg [.f 9 0 4,
 .l 10 9,
 .m 11 2,
 .o 12 (.call (.f 218) [(.t 10),(.t 11)]),
 .f 13 0 4,
 .s 1 13 12])
 (.seq (.reg [.m 14 0,
 .f 15 3 4,
 .l 16 15,
 .m 17 2,
 .o 18 (.call (.f 134) [(.t 14),(.t 16),(.t 17),(.c (.bool true))]),
 .f 19 3 4,
 .s 1 19 18])
 (.seq (.seq (.reg [.f 20 1 4,
 .l 21 20])
 (.block 0 (.seq (.reg [.u 41 .eql 21 7,
 .m 40 41])
 (.cond (.t 40)
 (.seq (.reg [.m 42 0,
 .m 43 2,
 .j 44 8 4,
 .o 45 (.call (.f 219) [(.t 44)]),
 .o 46 (.call (.f 157) [(.t 42),(.t 43),(.t 45)]),
 .m 7 46])
 (.seq (.reg [.m 47 0,
 .f 48 6 4,
 .l 49 48,
 .m 50 7,
 .m 51 2,
 .o 52 (.call (.f 220) [(.t 47),(.t 49),(.t 50),(.t 51)]),
 .f 53 6 4,
 .s 1 53 52])
 (.reg [.m 54 0,
 .f 55 7 4,
 .l 56 55,
 .m 57 7,
 .o 58 (.call (.f 156) [(.t 54),(.t 56),(.t 57)]),
 .f 59 7 4,
 .s 1 59 58])))
 (.seq (.reg [.u 61 .eql 21 8,
 .m 60 61])
 (.cond (.t 60)
 (.draw [⟨.m 62 0,false,none,false,[],0,2⟩,
 ⟨.f 63 7 4,false,none,false,[],0,2⟩,
 ⟨.l 64 63,false,none,true,[1],0,2⟩,
 ⟨.m 65 0,false,none,false,[],0,1⟩,
 ⟨.m 66 2,false,none,false,[],0,1⟩,
 ⟨.f 67 7 4,false,none,false,[],0,0⟩,
 ⟨.l 68 67,false,none,false,[5],0,0⟩,
 ⟨.o 69 (.call (.f 158) [(.t 68)]),true,none,false,[6,5],0,0⟩,
 ⟨.o 70 (.call (.f 157) [(.t 65),(.t 66),(.t 69)]),true,none,false,[3,4,7,6,5],1,1⟩,
 ⟨.o 71 (.call (.f 156) [(.t 62),(.t 64),(.t 70)]),true,none,false,[0,2,8,1,3,4,7,6,5],2,2⟩,
 ⟨.f 72 7 4,false,none,false,[9,0,2,8,1,3,4,7,6,5],3,3⟩,
 ⟨.s 1 72 71,true,none,false,[10,9,0,2,8,1,3,4,7,6,5],3,3⟩] [])
 (.seq (.reg [.m 22 0,
 .f 23 4 4,
 .l 24 23,
 .m 25 2,
 .o 26 (.call (.f 134) [(.t 22),(.t 24),(.t 25),(.c (.bool false))]),
 .f 27 4 4,
 .s 1 27 26])
 (.seq (.reg [.m 28 0,
 .f 29 5 4,
 .l 30 29,
 .m 31 2,
 .o 32 (.call (.f 221) [(.t 28),(.t 30),(.t 31)]),
 .f 33 5 4,
 .s 1 33 32])
 (.reg [.m 34 0,
 .f 35 7 4,
 .l 36 35,
 .m 37 2,
 .o 38 (.call (.f 111) [(.t 34),(.t 36),(.t 37)]),
 .f 39 7 4,
 .s 1 39 38])))))))))
 (.seq (.seq (.reg [.f 73 1 4,
 .l 74 73,
 .u 75 .eql 74 6])
 (.cond (.t 75)
 (.seq (.reg [.m 76 0,
 .h 77 76,
 .f 78 3 77,
 .l 79 78,
 .o 80 (.eq .func true (.t 79) (.c .nilfn))])
 (.cond (.t 80)
 (.draw [⟨.m 81 0,false,none,false,[],0,0⟩,
 ⟨.h 82 81,false,none,false,[0],0,0⟩,
 ⟨.f 83 3 82,false,none,false,[1,0],0,0⟩,
 ⟨.l 84 83,false,none,false,[2,1,0],0,0⟩,
 ⟨.f 85 2 4,false,none,false,[],0,0⟩,
 ⟨.l 86 85,false,none,false,[4],0,0⟩,
 ⟨.m 87 2,false,none,false,[],0,0⟩,
 ⟨.o 88 (.call (.t 84) [(.t 86),(.t 87)]),true,none,false,[3,5,6,2,1,0,4],0,0⟩,
 ⟨.f 89 2 4,false,none,false,[7,3,5,6,2,1,0,4],1,1⟩,
 ⟨.s 1 89 88,true,none,false,[8,7,3,5,6,2,1,0,4],1,1⟩] [])
 (.seq (.reg [.m 90 2,
 .f 91 2 4,
 .l 92 91,
 .o 93 (.call (.f 60) [(.t 90),(.t 92)]),
 .m 8 93])
 (.seq (.reg [.m 94 8,
 .o 95 (.eq .ptr true (.t 94) (.c .nilp))])
 (.cond (.t 95)
 (.reg [.m 96 8,
 .h 97 96,
 .f 98 2 97,
 .l 99 98,
 .f 100 2 4,
 .s 1 100 99])
 (.skip))))))
 (.skip)))
 (.seq (.reg [.j 101 8 4,
 .s 8 6 101])
 (.ret))))))⟩
theorem ok186:oF Tryz.f186 c186:=oI (by kernel_rfl)
def c187:F':=⟨26,[],
 .seq (.reg [.l 7 1,
 .o 8 (.len false (.t 7)),
 .o 9 (.mv (.c (.int .i64 0)))])
 (.block 0 (.loop (.seq (.reg [.b 10 .lss 9 8])
 (.seq (.cond (.t 10)
 (.skip)
 (.exit 0))
 (.seq (.block 1 (.seq (.reg [.i 11 8 7 9,
 .j 12 8 11,
 .o 4 (.new zS),
 .s 8 4 12])
 (.seq (.reg [.f 13 0 4,
 .l 14 13,
 .o 15 (.len false (.t 14)),
 .o 16 (.mv (.c (.int .i64 0)))])
 (.block 2 (.loop (.seq (.reg [.b 17 .lss 16 15])
 (.seq (.cond (.t 17)
 (.skip)
 (.exit 2))
 (.seq (.block 3 (.seq (.reg [.i 18 1 14 16,
 .l 19 18,
 .m 6 19])
 (.seq (.reg [.m 20 0,
 .m 21 6,
 .o 22 (.call (.t 20) [(.t 21)]),
 .o 23 (.un .not (.t 22))])
 (.cond (.t 23)
 (.ret)
 (.skip)))))
 (.reg [.u 24 .add 16 1,
 .m 16 24])))))))))
 (.reg [.u 25 .add 9 1,
 .m 9 25]))))))⟩
theorem ok187:oF Tryz.f187 c187:=oI (by kernel_rfl)
def c188:F':=⟨23,[.t 2],
 .seq (.reg [.o 1 (.box (.t 0)),
 .o 2 (.mv (.c (.int .i64 0)))])
 (.seq (.reg [.o 3 (.mv (.c (.int .i64 0)))])
 (.seq (.reg [.j 6 25 1,
 .o 7 (.call (.f 193) [(.t 6)]),
 .m 4 7])
 (.seq (.seq (.reg [.o 5 (.mv (.c (.int .i64 0)))])
 (.block 0 (.loop (.seq (.seq (.reg [.m 8 5,
 .m 9 4,
 .o 10 (.len false (.t 9)),
 .b 11 .lss 8 10])
 (.cond (.t 11)
 (.skip)
 (.exit 0)))
 (.seq (.block 1 (.reg [.m 14 3,
 .m 15 4,
 .m 16 5,
 .i 17 25 15 16,
 .j 18 25 17,
 .o 19 (.call (.f 188) [(.t 18)]),
 .o 20 (.ex (.mm true (.t 14) (.t 19))),
 .m 3 20]))
 (.reg [.m 12 5,
 .u 13 .add 12 1,
 .m 5 13]))))))
 (.seq (.reg [.m 21 3,
 .o 22 (.bin .add (.c (.int .i64 1)) (.t 21)),
 .m 2 22])
 (.ret)))))⟩
theorem ok188:oF Tryz.f188 c188:=oI (by kernel_rfl)
def c193:F':=⟨78,[.t 2],
 .seq (.reg [.o 1 (.box (.t 0)),
 .o 2 (.mv (.c (.sl true [])))])
 (.seq (.seq (.reg [.f 7 0 1,
 .l 8 7])
 (.block 0 (.seq (.reg [.u 10 .eql 8 1,
 .m 9 10])
 (.cond (.t 9)
 (.seq (.reg [.f 11 1 1,
 .j 12 8 11,
 .o 3 (.new zS),
 .s 8 3 12])
 (.seq (.reg [.f 13 3 3,
 .l 14 13,
 .o 15 (.call (.f 228) [(.c (.sl true [])),(.t 14)]),
 .m 4 15])
 (.seq (.reg [.m 16 4,
 .f 17 4 3,
 .l 18 17,
 .o 19 (.call (.f 228) [(.t 16),(.t 18)]),
 .m 4 19])
 (.seq (.seq (.reg [.o 5 (.mv (.c (.int .i64 0)))])
 (.block 1 (.loop (.seq (.seq (.reg [.m 20 5,
 .f 21 5 3,
 .l 22 21,
 .o 23 (.len false (.t 22)),
 .b 24 .lss 20 23])
 (.cond (.t 24)
 (.skip)
 (.exit 1)))
 (.seq (.block 2 (.reg [.m 27 4,
 .f 28 5 3,
 .l 29 28,
 .m 30 5,
 .i 31 2 29 30,
 .j 32 2 31,
 .o 33 (.build zP [(0,0,1,(.c (.int .i64 3))),(3,16,2,(.t 32))]),
 .o 34 (.bsl 25 [(.t 33)]),
 .o 35 (.app 25 408 (.t 27) (.t 34)),
 .m 4 35]))
 (.reg [.m 25 5,
 .u 26 .add 25 1,
 .m 5 26]))))))
 (.seq (.seq (.reg [.o 6 (.mv (.c (.int .i64 0)))])
 (.block 3 (.loop (.seq (.seq (.reg [.m 36 6,
 .f 37 6 3,
 .l 38 37,
 .o 39 (.len false (.t 38)),
 .b 40 .lss 36 39])
 (.cond (.t 40)
 (.skip)
 (.exit 3)))
 (.seq (.block 4 (.reg [.m 43 4,
 .f 44 6 3,
 .l 45 44,
 .m 46 6,
 .i 47 7 45 46,
 .j 48 7 47,
 .o 49 (.build zP [(0,0,1,(.c (.int .i64 2))),(2,9,7,(.t 48))]),
 .o 50 (.bsl 25 [(.t 49)]),
 .o 51 (.app 25 408 (.t 43) (.t 50)),
 .m 4 51]))
 (.reg [.m 41 6,
 .u 42 .add 41 1,
 .m 6 42]))))))
 (.seq (.reg [.m 52 4,
 .f 53 7 3,
 .l 54 53,
 .o 55 (.call (.f 229) [(.t 52),(.t 54)]),
 .m 2 55])
 (.ret)))))))
 (.seq (.reg [.u 57 .eql 8 2,
 .m 56 57])
 (.cond (.t 56)
 (.seq (.draw [⟨.f 58 9 1,false,none,false,[],0,0⟩,
 ⟨.f 59 4 58,false,none,false,[0],0,0⟩,
 ⟨.l 60 59,false,none,false,[1,0],0,0⟩,
 ⟨.o 61 (.call (.f 228) [(.c (.sl true [])),(.t 60)]),true,none,false,[2,1,0],0,0⟩,
 ⟨.f 62 9 1,false,none,false,[],0,1⟩,
 ⟨.f 63 6 62,false,none,false,[4],0,1⟩,
 ⟨.l 64 63,false,none,true,[5,4],0,1⟩,
 ⟨.o 65 (.call (.f 229) [(.t 61),(.t 64)]),true,none,false,[6,3,5,4,2,1,0],1,1⟩,
 ⟨.m 2 65,false,none,false,[7,6,3,5,4,2,1,0],2,2⟩] [])
 (.ret))
 (.seq (.reg [.u 67 .eql 8 3,
 .m 66 67])
 (.cond (.t 66)
 (.seq (.reg [.f 68 16 1,
 .f 69 1 68,
 .l 70 69,
 .o 71 (.call (.f 228) [(.c (.sl true [])),(.t 70)]),
 .m 2 71])
 (.ret))
 (.seq (.reg [.u 73 .eql 8 4,
 .m 72 73])
 (.cond (.t 72)
 (.seq (.reg [.f 74 18 1,
 .f 75 6 74,
 .l 76 75,
 .o 77 (.call (.f 228) [(.c (.sl true [])),(.t 76)]),
 .m 2 77])
 (.ret))
 (.skip)))))))))))
 (.seq (.reg [.o 2 (.mv (.c (.sl true [])))])
 (.ret)))⟩
theorem ok193:oF Tryz.f193 c193:=oI (by kernel_rfl)
def c195:F':=⟨239,[.t 4],
 .seq (.reg [.o 2 (.box (.t 0)),
 .o 3 (.box (.t 1)),
 .o 4 (.mv (.c (.bool false)))])
 (.seq (.draw [⟨.f 16 1 2,false,none,false,[],0,0⟩,
 ⟨.j 17 8 16,false,none,false,[0],0,0⟩,
 ⟨.f 18 1 3,false,none,false,[],0,1⟩,
 ⟨.j 19 8 18,false,none,true,[2],0,1⟩,
 ⟨.o 5 (.new zS),false,(some 0),true,[],0,0⟩,
 ⟨.o 6 (.new zS),false,(some 1),true,[],0,0⟩,
 ⟨.s 8 5 17,true,none,false,[1,4,5,0],0,0⟩,
 ⟨.s 8 6 19,true,none,false,[3,6,2,1,4,5,0],1,1⟩] [zS,zS])
 (.seq (.draw [⟨.f 20 9 2,false,none,false,[],0,0⟩,
 ⟨.j 21 7 20,false,none,false,[0],0,0⟩,
 ⟨.f 22 9 3,false,none,false,[],0,1⟩,
 ⟨.j 23 7 22,false,none,true,[2],0,1⟩,
 ⟨.o 7 (.new zD),false,(some 0),true,[],0,0⟩,
 ⟨.o 8 (.new zD),false,(some 1),true,[],0,0⟩,
 ⟨.s 7 7 21,true,none,false,[1,4,5,0],0,0⟩,
 ⟨.s 7 8 23,true,none,false,[3,6,2,1,4,5,0],1,1⟩] [zD,zD])
 (.seq (.seq (.reg [.f 24 0 2,
 .l 25 24,
 .f 26 0 3,
 .l 27 26,
 .b 28 .neq 25 27,
 .m 29 28,
 .v 30 29 false (.fa 5 (.t 7)),
 .v 31 29 false (.ld none (.t 30)),
 .v 32 29 false (.len false (.t 31)),
 .v 33 29 false (.fa 5 (.t 8)),
 .v 34 29 false (.ld none (.t 33)),
 .v 35 29 false (.len false (.t 34)),
 .v 36 29 false (.bin .neq (.t 32) (.t 35)),
 .z 37 29 36])
 (.cond (.t 37)
 (.seq (.reg [.o 4 (.mv (.c (.bool false)))])
 (.ret))
 (.skip)))
 (.seq (.seq (.reg [.o 9 (.mv (.c (.int .i64 0)))])
 (.block 0 (.loop (.seq (.seq (.reg [.m 38 9,
 .f 39 5 7,
 .l 40 39,
 .o 41 (.len false (.t 40)),
 .b 42 .lss 38 41])
 (.cond (.t 42)
 (.skip)
 (.exit 0)))
 (.seq (.block 1 (.seq (.draw [⟨.f 45 5 7,false,none,false,[],0,0⟩,
 ⟨.l 46 45,false,none,false,[0],0,0⟩,
 ⟨.m 47 9,false,none,false,[],0,0⟩,
 ⟨.i 48 4 46 47,false,none,false,[1,2,0],0,0⟩,
 ⟨.j 49 4 48,false,none,false,[3,1,2,0],0,0⟩,
 ⟨.f 50 5 8,false,none,false,[],0,0⟩,
 ⟨.l 51 50,false,none,false,[5],0,0⟩,
 ⟨.m 52 9,false,none,false,[],0,0⟩,
 ⟨.i 53 4 51 52,false,none,false,[6,7,5],0,0⟩,
 ⟨.j 54 4 53,false,none,false,[8,6,7,5],0,0⟩,
 ⟨.o 55 (.ex (.eqs true 4 [(0,.s),(1,.b),(2,.i),(3,.i)] (.t 49) (.t 54))),false,none,false,[4,9,3,1,2,0,8,6,7,5],0,0⟩] [])
 (.cond (.t 55)
 (.seq (.reg [.o 4 (.mv (.c (.bool false)))])
 (.ret))
 (.skip))))
 (.reg [.m 43 9,
 .u 44 .add 43 1,
 .m 9 44]))))))
 (.seq (.draw [⟨.f 56 18 2,false,none,false,[],0,0⟩,
 ⟨.j 57 7 56,false,none,false,[0],0,0⟩,
 ⟨.f 58 18 3,false,none,false,[],0,1⟩,
 ⟨.j 59 7 58,false,none,true,[2],0,1⟩,
 ⟨.o 10 (.new zX),false,(some 0),true,[],0,0⟩,
 ⟨.o 11 (.new zX),false,(some 1),true,[],0,0⟩,
 ⟨.s 7 10 57,true,none,false,[1,4,5,0],0,0⟩,
 ⟨.s 7 11 59,true,none,false,[3,6,2,1,4,5,0],1,1⟩] [zX,zX])
 (.seq (.reg [.f 60 3 5,
 .l 61 60,
 .o 62 (.len false (.t 61)),
 .f 63 3 6,
 .l 64 63,
 .o 65 (.len false (.t 64)),
 .b 66 .eql 62 65,
 .m 67 66,
 .v 68 67 true (.fa 4 (.t 5)),
 .v 69 67 true (.ld none (.t 68)),
 .v 70 67 true (.len false (.t 69)),
 .v 71 67 true (.fa 4 (.t 6)),
 .v 72 67 true (.ld none (.t 71)),
 .v 73 67 true (.len false (.t 72)),
 .v 74 67 true (.bin .eql (.t 70) (.t 73)),
 .y 75 67 74,
 .m 76 75,
 .v 77 76 true (.fa 5 (.t 5)),
 .v 78 76 true (.ld none (.t 77)),
 .v 79 76 true (.len false (.t 78)),
 .v 80 76 true (.fa 5 (.t 6)),
 .v 81 76 true (.ld none (.t 80)),
 .v 82 76 true (.len false (.t 81)),
 .v 83 76 true (.bin .eql (.t 79) (.t 82)),
 .y 84 76 83,
 .m 85 84,
 .v 86 85 true (.fa 6 (.t 5)),
 .v 87 85 true (.ld none (.t 86)),
 .v 88 85 true (.len false (.t 87)),
 .v 89 85 true (.fa 6 (.t 6)),
 .v 90 85 true (.ld none (.t 89)),
 .v 91 85 true (.len false (.t 90)),
 .v 92 85 true (.bin .eql (.t 88) (.t 91)),
 .y 93 85 92,
 .m 94 93,
 .v 95 94 true (.fa 7 (.t 5)),
 .v 96 94 true (.ld none (.t 95)),
 .v 97 94 true (.len false (.t 96)),
 .v 98 94 true (.fa 7 (.t 6)),
 .v 99 94 true (.ld none (.t 98)),
 .v 100 94 true (.len false (.t 99)),
 .v 101 94 true (.bin .eql (.t 97) (.t 100)),
 .y 102 94 101,
 .m 12 102])
 (.seq (.reg [.m 103 12,
 .m 104 103,
 .v 105 104 true (.fa 4 (.t 7)),
 .v 106 104 true (.ld none (.t 105)),
 .v 107 104 true (.len false (.t 106)),
 .v 108 104 true (.fa 4 (.t 8)),
 .v 109 104 true (.ld none (.t 108)),
 .v 110 104 true (.len false (.t 109)),
 .v 111 104 true (.bin .eql (.t 107) (.t 110)),
 .y 112 104 111,
 .m 113 112,
 .v 114 113 true (.fa 6 (.t 7)),
 .v 115 113 true (.ld none (.t 114)),
 .v 116 113 true (.len false (.t 115)),
 .v 117 113 true (.fa 6 (.t 8)),
 .v 118 113 true (.ld none (.t 117)),
 .v 119 113 true (.len false (.t 118)),
 .v 120 113 true (.bin .eql (.t 116) (.t 119)),
 .y 121 113 120,
 .m 122 121,
 .v 123 122 true (.fa 16 (.t 2)),
 .v 124 122 true (.fa 1 (.t 123)),
 .v 125 122 true (.ld none (.t 124)),
 .v 126 122 true (.len false (.t 125)),
 .v 127 122 true (.fa 16 (.t 3)),
 .v 128 122 true (.fa 1 (.t 127)),
 .v 129 122 true (.ld none (.t 128)),
 .v 130 122 true (.len false (.t 129)),
 .v 131 122 true (.bin .eql (.t 126) (.t 130)),
 .y 132 122 131,
 .m 133 132,
 .v 134 133 true (.fa 6 (.t 10)),
 .v 135 133 true (.ld none (.t 134)),
 .v 136 133 true (.len false (.t 135)),
 .v 137 133 true (.fa 6 (.t 11)),
 .v 138 133 true (.ld none (.t 137)),
 .v 139 133 true (.len false (.t 138)),
 .v 140 133 true (.bin .eql (.t 136) (.t 139)),
 .y 141 133 140,
 .m 12 141])
 (.seq (.reg [.f 142 1 5,
 .l 143 142,
 .f 144 1 6,
 .l 145 144,
 .b 146 .eql 143 145,
 .m 147 146,
 .v 148 147 true (.fa 2 (.t 5)),
 .v 149 147 true (.ld none (.t 148)),
 .v 150 147 true (.fa 2 (.t 6)),
 .v 151 147 true (.ld none (.t 150)),
 .v 152 147 true (.bin .eql (.t 149) (.t 151)),
 .y 153 147 152,
 .m 154 153,
 .v 155 154 true (.fa 0 (.t 5)),
 .v 156 154 true (.ld none (.t 155)),
 .v 157 154 true (.fa 0 (.t 6)),
 .v 158 154 true (.ld none (.t 157)),
 .v 159 154 true (.call (.f 233) [(.t 156),(.t 158)]),
 .y 160 154 159,
 .m 13 160])
 (.seq (.reg [.f 161 0 7,
 .l 162 161,
 .f 163 0 8,
 .l 164 163,
 .b 165 .eql 162 164,
 .m 166 165,
 .v 167 166 true (.fa 1 (.t 7)),
 .v 168 166 true (.ld none (.t 167)),
 .v 169 166 true (.fa 1 (.t 8)),
 .v 170 166 true (.ld none (.t 169)),
 .v 171 166 true (.eq .bool false (.t 168) (.t 170)),
 .y 172 166 171,
 .m 173 172,
 .v 174 173 true (.fa 2 (.t 7)),
 .v 175 173 true (.ld none (.t 174)),
 .v 176 173 true (.fa 2 (.t 8)),
 .v 177 173 true (.ld none (.t 176)),
 .v 178 173 true (.bin .eql (.t 175) (.t 177)),
 .y 179 173 178,
 .m 180 179,
 .v 181 180 true (.fa 3 (.t 7)),
 .v 182 180 true (.ld none (.t 181)),
 .v 183 180 true (.fa 3 (.t 8)),
 .v 184 180 true (.ld none (.t 183)),
 .v 185 180 true (.call (.f 233) [(.t 182),(.t 184)]),
 .y 186 180 185,
 .m 14 186])
 (.seq (.reg [.f 187 0 10,
 .l 188 187,
 .f 189 0 11,
 .l 190 189,
 .b 191 .eql 188 190,
 .m 192 191,
 .v 193 192 true (.fa 1 (.t 10)),
 .v 194 192 true (.ld none (.t 193)),
 .v 195 192 true (.fa 1 (.t 11)),
 .v 196 192 true (.ld none (.t 195)),
 .v 197 192 true (.bin .eql (.t 194) (.t 196)),
 .y 198 192 197,
 .m 199 198,
 .v 200 199 true (.fa 2 (.t 10)),
 .v 201 199 true (.ld none (.t 200)),
 .v 202 199 true (.fa 2 (.t 11)),
 .v 203 199 true (.ld none (.t 202)),
 .v 204 199 true (.bin .eql (.t 201) (.t 203)),
 .y 205 199 204,
 .m 206 205,
 .v 207 206 true (.fa 3 (.t 10)),
 .v 208 206 true (.ld (some 2) (.t 207)),
 .v 209 206 true (.fa 3 (.t 11)),
 .v 210 206 true (.ld (some 2) (.t 209)),
 .v 211 206 true (.ex (.eqs false 2 [(0,.i),(1,.i)] (.t 208) (.t 210))),
 .y 212 206 211,
 .m 213 212,
 .v 214 213 true (.fa 5 (.t 10)),
 .v 215 213 true (.ld none (.t 214)),
 .v 216 213 true (.fa 5 (.t 11)),
 .v 217 213 true (.ld none (.t 216)),
 .v 218 213 true (.bin .eql (.t 215) (.t 217)),
 .y 219 213 218,
 .m 15 219])
 (.seq (.reg [.m 220 12,
 .m 221 220,
 .v 222 221 true (.mv (.t 13)),
 .y 223 221 222,
 .m 224 223,
 .v 225 224 true (.mv (.t 14)),
 .y 226 224 225,
 .m 227 226,
 .v 228 227 true (.fa 16 (.t 2)),
 .v 229 227 true (.fa 0 (.t 228)),
 .v 230 227 true (.ld none (.t 229)),
 .v 231 227 true (.fa 16 (.t 3)),
 .v 232 227 true (.fa 0 (.t 231)),
 .v 233 227 true (.ld none (.t 232)),
 .v 234 227 true (.bin .eql (.t 230) (.t 233)),
 .y 235 227 234,
 .m 236 235,
 .v 237 236 true (.mv (.t 15)),
 .y 238 236 237,
 .m 4 238])
 (.ret))))))))))))⟩
theorem ok195:oF Tryz.f195 c195:=oI (by kernel_rfl)
def c196:F':=cmp Tryz.f196
theorem ok196:oF Tryz.f196 c196:=oI (by kernel_rfl)
def c197:F':=cmp Tryz.f197
theorem ok197:oF Tryz.f197 c197:=oI (by kernel_rfl)
def c198:F':=cmp Tryz.f198
theorem ok198:oF Tryz.f198 c198:=oI (by kernel_rfl)
def c199:F':=cmp Tryz.f199
theorem ok199:oF Tryz.f199 c199:=oI (by kernel_rfl)
def c200:F':=⟨24,[.t 2],
 .seq (.reg [.o 1 (.box (.t 0)),
 .o 2 (.mv (.c (.int .i64 0)))])
 (.seq (.seq (.reg [.f 3 0 1,
 .l 4 3])
 (.block 0 (.seq (.reg [.u 6 .eql 4 1,
 .m 5 6])
 (.cond (.t 5)
 (.seq (.reg [.f 7 1 1,
 .f 8 0 7,
 .l 9 8,
 .o 10 (.len false (.t 9)),
 .o 11 (.bin .add (.c (.int .i64 1)) (.t 10)),
 .m 2 11])
 (.ret))
 (.seq (.reg [.u 13 .eql 4 2,
 .m 12 13])
 (.cond (.t 12)
 (.seq (.reg [.f 14 9 1,
 .f 15 3 14,
 .l 16 15,
 .o 17 (.len false (.t 16)),
 .o 18 (.bin .add (.c (.int .i64 1)) (.t 17)),
 .f 19 9 1,
 .f 20 5 19,
 .l 21 20,
 .o 22 (.len false (.t 21)),
 .b 23 .add 18 22,
 .m 2 23])
 (.ret))
 (.skip)))))))
 (.seq (.reg [.o 2 (.mv (.c (.int .i64 1)))])
 (.ret)))⟩
theorem ok200:oF Tryz.f200 c200:=oI (by kernel_rfl)
def c201:F':=⟨50,[.t 2],
 .seq (.reg [.o 1 (.box (.t 0)),
 .o 2 (.mv (.c (.int .i64 0)))])
 (.seq (.seq (.reg [.f 4 0 1,
 .l 5 4])
 (.block 0 (.seq (.reg [.u 7 .eql 5 1,
 .m 6 7])
 (.cond (.t 6)
 (.seq (.reg [.f 8 1 1,
 .j 9 8 8,
 .o 3 (.new zS),
 .s 8 3 9])
 (.seq (.reg [.f 10 3 3,
 .l 11 10,
 .o 12 (.len false (.t 11)),
 .f 13 4 3,
 .l 14 13,
 .o 15 (.len false (.t 14)),
 .b 16 .add 12 15,
 .f 17 5 3,
 .l 18 17,
 .o 19 (.len false (.t 18)),
 .b 20 .add 16 19,
 .f 21 6 3,
 .l 22 21,
 .o 23 (.len false (.t 22)),
 .b 24 .add 20 23,
 .f 25 7 3,
 .l 26 25,
 .o 27 (.len false (.t 26)),
 .b 28 .add 24 27,
 .m 2 28])
 (.ret)))
 (.seq (.reg [.u 30 .eql 5 2,
 .m 29 30])
 (.cond (.t 29)
 (.seq (.reg [.f 31 9 1,
 .f 32 4 31,
 .l 33 32,
 .o 34 (.len false (.t 33)),
 .f 35 9 1,
 .f 36 6 35,
 .l 37 36,
 .o 38 (.len false (.t 37)),
 .b 39 .add 34 38,
 .m 2 39])
 (.ret))
 (.seq (.reg [.u 41 .eql 5 3,
 .m 40 41])
 (.cond (.t 40)
 (.seq (.reg [.f 42 16 1,
 .f 43 1 42,
 .l 44 43,
 .o 45 (.len false (.t 44)),
 .m 2 45])
 (.ret))
 (.skip)))))))))
 (.seq (.reg [.f 46 18 1,
 .f 47 6 46,
 .l 48 47,
 .o 49 (.len false (.t 48)),
 .m 2 49])
 (.ret)))⟩
theorem ok201:oF Tryz.f201 c201:=oI (by kernel_rfl)
def c202:F':=⟨66,[],
 .seq (.reg [.f 4 0 1,
 .l 5 4])
 (.block 0 (.seq (.reg [.u 7 .eql 5 1,
 .m 6 7])
 (.cond (.t 6)
 (.seq (.reg [.f 8 1 1,
 .j 9 8 8,
 .o 3 (.new zS),
 .s 8 3 9])
 (.reg [.f 10 3 3,
 .l 11 10,
 .m 12 0,
 .o 13 (.call (.f 203) [(.t 11),(.f 142),(.t 12)]),
 .m 14 13,
 .v 15 14 true (.fa 4 (.t 3)),
 .v 16 14 true (.ld none (.t 15)),
 .v 17 14 true (.mv (.t 0)),
 .v 18 14 true (.call (.f 203) [(.t 16),(.f 142),(.t 17)]),
 .y 19 14 18,
 .m 20 19,
 .v 21 20 true (.fa 5 (.t 3)),
 .v 22 20 true (.ld none (.t 21)),
 .v 23 20 true (.mv (.t 0)),
 .v 24 20 true (.call (.f 204) [(.t 22),(.f 205),(.t 23)]),
 .y 25 20 24,
 .m 26 25,
 .v 27 26 true (.fa 6 (.t 3)),
 .v 28 26 true (.ld none (.t 27)),
 .v 29 26 true (.mv (.t 0)),
 .v 30 26 true (.call (.f 206) [(.t 28),(.f 168),(.t 29)]),
 .y 31 26 30,
 .m 32 31,
 .v 33 32 true (.fa 7 (.t 3)),
 .v 34 32 true (.ld none (.t 33)),
 .v 35 32 true (.mv (.t 0)),
 .v 36 32 true (.call (.f 207) [(.t 34),(.f 101),(.t 35)]),
 .y 37 32 36]))
 (.seq (.reg [.u 39 .eql 5 2,
 .m 38 39])
 (.cond (.t 38)
 (.reg [.f 40 9 1,
 .f 41 4 40,
 .l 42 41,
 .m 43 0,
 .o 44 (.call (.f 203) [(.t 42),(.f 142),(.t 43)]),
 .m 45 44,
 .v 46 45 true (.fa 9 (.t 1)),
 .v 47 45 true (.fa 6 (.t 46)),
 .v 48 45 true (.ld none (.t 47)),
 .v 49 45 true (.mv (.t 0)),
 .v 50 45 true (.call (.f 207) [(.t 48),(.f 101),(.t 49)]),
 .y 51 45 50])
 (.seq (.reg [.u 53 .eql 5 3,
 .m 52 53])
 (.cond (.t 52)
 (.reg [.f 54 16 1,
 .f 55 1 54,
 .l 56 55,
 .m 57 0,
 .o 58 (.call (.f 203) [(.t 56),(.f 142),(.t 57)])])
 (.seq (.reg [.u 60 .eql 5 4,
 .m 59 60])
 (.cond (.t 59)
 (.reg [.f 61 18 1,
 .f 62 6 61,
 .l 63 62,
 .m 64 0,
 .o 65 (.call (.f 203) [(.t 63),(.f 142),(.t 64)])])
 (.skip))))))))))⟩
theorem ok202:oF Tryz.f202 c202:=oI (by kernel_rfl)
def c203:F':=⟨22,[.t 6],
 .seq (.reg [.o 6 (.mv (.c (.bool false)))])
 (.seq (.seq (.reg [.m 9 0,
 .o 10 (.len false (.t 9)),
 .o 11 (.mv (.c (.int .i64 0)))])
 (.block 0 (.loop (.seq (.reg [.b 12 .lss 11 10])
 (.seq (.cond (.t 12)
 (.skip)
 (.exit 0))
 (.seq (.block 1 (.seq (.reg [.i 13 7 9 11,
 .j 14 7 13,
 .o 8 (.new zX),
 .s 7 8 14])
 (.seq (.reg [.m 15 2,
 .m 16 1,
 .j 17 7 8,
 .o 18 (.call (.t 16) [(.t 17)]),
 .o 19 (.call (.t 15) [(.t 18)]),
 .o 20 (.un .not (.t 19))])
 (.cond (.t 20)
 (.seq (.reg [.o 6 (.mv (.c (.bool false)))])
 (.ret))
 (.skip)))))
 (.reg [.u 21 .add 11 1,
 .m 11 21])))))))
 (.seq (.reg [.o 6 (.mv (.c (.bool true)))])
 (.ret)))⟩
theorem ok203:oF Tryz.f203 c203:=oI (by kernel_rfl)
def c204:F':=⟨22,[.t 6],
 .seq (.reg [.o 6 (.mv (.c (.bool false)))])
 (.seq (.seq (.reg [.m 9 0,
 .o 10 (.len false (.t 9)),
 .o 11 (.mv (.c (.int .i64 0)))])
 (.block 0 (.loop (.seq (.reg [.b 12 .lss 11 10])
 (.seq (.cond (.t 12)
 (.skip)
 (.exit 0))
 (.seq (.block 1 (.seq (.reg [.i 13 2 9 11,
 .j 14 2 13,
 .o 8 (.new zE),
 .s 2 8 14])
 (.seq (.reg [.m 15 2,
 .m 16 1,
 .j 17 2 8,
 .o 18 (.call (.t 16) [(.t 17)]),
 .o 19 (.call (.t 15) [(.t 18)]),
 .o 20 (.un .not (.t 19))])
 (.cond (.t 20)
 (.seq (.reg [.o 6 (.mv (.c (.bool false)))])
 (.ret))
 (.skip)))))
 (.reg [.u 21 .add 11 1,
 .m 11 21])))))))
 (.seq (.reg [.o 6 (.mv (.c (.bool true)))])
 (.ret)))⟩
theorem ok204:oF Tryz.f204 c204:=oI (by kernel_rfl)
def c206:F':=⟨22,[.t 6],
 .seq (.reg [.o 6 (.mv (.c (.bool false)))])
 (.seq (.seq (.reg [.m 9 0,
 .o 10 (.len false (.t 9)),
 .o 11 (.mv (.c (.int .i64 0)))])
 (.block 0 (.loop (.seq (.reg [.b 12 .lss 11 10])
 (.seq (.cond (.t 12)
 (.skip)
 (.exit 0))
 (.seq (.block 1 (.seq (.reg [.i 13 7 9 11,
 .j 14 7 13,
 .o 8 (.new zD),
 .s 7 8 14])
 (.seq (.reg [.m 15 2,
 .m 16 1,
 .j 17 7 8,
 .o 18 (.call (.t 16) [(.t 17)]),
 .o 19 (.call (.t 15) [(.t 18)]),
 .o 20 (.un .not (.t 19))])
 (.cond (.t 20)
 (.seq (.reg [.o 6 (.mv (.c (.bool false)))])
 (.ret))
 (.skip)))))
 (.reg [.u 21 .add 11 1,
 .m 11 21])))))))
 (.seq (.reg [.o 6 (.mv (.c (.bool true)))])
 (.ret)))⟩
theorem ok206:oF Tryz.f206 c206:=oI (by kernel_rfl)
def c207:F':=⟨22,[.t 6],
 .seq (.reg [.o 6 (.mv (.c (.bool false)))])
 (.seq (.seq (.reg [.m 9 0,
 .o 10 (.len false (.t 9)),
 .o 11 (.mv (.c (.int .i64 0)))])
 (.block 0 (.loop (.seq (.reg [.b 12 .lss 11 10])
 (.seq (.cond (.t 12)
 (.skip)
 (.exit 0))
 (.seq (.block 1 (.seq (.reg [.i 13 8 9 11,
 .j 14 8 13,
 .o 8 (.new zS),
 .s 8 8 14])
 (.seq (.reg [.m 15 2,
 .m 16 1,
 .j 17 8 8,
 .o 18 (.call (.t 16) [(.t 17)]),
 .o 19 (.call (.t 15) [(.t 18)]),
 .o 20 (.un .not (.t 19))])
 (.cond (.t 20)
 (.seq (.reg [.o 6 (.mv (.c (.bool false)))])
 (.ret))
 (.skip)))))
 (.reg [.u 21 .add 11 1,
 .m 11 21])))))))
 (.seq (.reg [.o 6 (.mv (.c (.bool true)))])
 (.ret)))⟩
theorem ok207:oF Tryz.f207 c207:=oI (by kernel_rfl)
def c208:F':=⟨15,[.t 2,.t 3],
 .seq (.reg [.o 2 (.mv (.c (.int .i64 0))),
 .o 3 (.mv (.c (.int .i64 0)))])
 (.seq (.seq (.reg [.m 4 0])
 (.block 0 (.seq (.reg [.u 6 .eql 4 7,
 .m 5 6])
 (.cond (.t 5)
 (.seq (.reg [.o 2 (.mv (.c (.int .i64 1))),
 .o 3 (.mv (.c (.int .i64 4)))])
 (.ret))
 (.seq (.reg [.u 8 .eql 4 8,
 .m 7 8])
 (.cond (.t 7)
 (.seq (.reg [.o 2 (.mv (.c (.int .i64 1))),
 .o 3 (.mv (.c (.int .i64 8)))])
 (.ret))
 (.seq (.reg [.u 10 .eql 4 9,
 .m 9 10])
 (.cond (.t 9)
 (.seq (.reg [.o 2 (.mv (.c (.int .i64 1))),
 .o 3 (.mv (.c (.int .i64 1)))])
 (.ret))
 (.seq (.reg [.u 12 .eql 4 10,
 .m 11 12])
 (.cond (.t 11)
 (.seq (.reg [.o 2 (.mv (.c (.int .i64 2))),
 .o 3 (.mv (.c (.int .i64 2)))])
 (.ret))
 (.seq (.reg [.u 14 .eql 4 11,
 .m 13 14])
 (.cond (.t 13)
 (.seq (.reg [.o 2 (.mv (.c (.int .i64 3))),
 .o 3 (.mv (.c (.int .i64 3)))])
 (.ret))
 (.skip)))))))))))))
 (.seq (.reg [.o 2 (.mv (.c (.int .i64 0))),
 .o 3 (.mv (.c (.int .i64 0)))])
 (.ret)))⟩
theorem ok208:oF Tryz.f208 c208:=oI (by kernel_rfl)
def c209:F':=⟨15,[.t 6],
 .seq (.reg [.o 6 (.mv (.c (.bool false)))])
 (.seq (.reg [.m 7 1,
 .m 8 0,
 .b 9 .leq 7 8,
 .m 10 9,
 .v 11 10 true (.mv (.t 0)),
 .v 12 10 true (.mv (.t 2)),
 .v 13 10 true (.bin .leq (.t 11) (.t 12)),
 .y 14 10 13,
 .m 6 14])
 (.ret))⟩
theorem ok209:oF Tryz.f209 c209:=oI (by kernel_rfl)
def c212:F':=⟨20,[.t 4],
 .seq (.reg [.o 2 (.box (.t 0)),
 .o 4 (.mv (.c (.bool false)))])
 (.seq (.reg [.m 5 1,
 .f 6 0 2,
 .l 7 6,
 .b 8 .geq 5 7,
 .m 9 8,
 .v 10 9 true (.fa 1 (.t 2)),
 .v 11 9 true (.ld none (.t 10)),
 .v 12 9 true (.bin .lss (.t 11) (.c (.int .i64 0))),
 .v 13 9 true (.mv (.t 12)),
 .v 14 13 false (.mv (.t 1)),
 .v 15 13 false (.fa 1 (.t 2)),
 .v 16 13 false (.ld none (.t 15)),
 .v 17 13 false (.bin .leq (.t 14) (.t 16)),
 .v 18 9 true (.pick (.t 13) (.c (.bool true)) (.t 17)),
 .y 19 9 18,
 .m 4 19])
 (.ret))⟩
theorem ok212:oF Tryz.f212 c212:=oI (by kernel_rfl)
def c213:F':=⟨6,[.t 2],
 .seq (.reg [.o 2 (.mv (.c (.bool false)))])
 (.seq (.reg [.m 3 0,
 .o 4 (.call (.f 138) [(.t 3),(.f 249)]),
 .o 5 (.un .not (.t 4)),
 .m 2 5])
 (.ret))⟩
theorem ok213:oF Tryz.f213 c213:=oI (by kernel_rfl)
def c214:F':=⟨23,[.t 2],
 .seq (.reg [.o 2 (.mv (.c (.bool false)))])
 (.seq (.seq (.reg [.m 5 0,
 .o 6 (.len false (.t 5)),
 .o 7 (.mv (.c (.int .i64 0)))])
 (.block 0 (.loop (.seq (.reg [.b 8 .lss 7 6])
 (.seq (.cond (.t 8)
 (.skip)
 (.exit 0))
 (.seq (.block 1 (.seq (.reg [.m 9 7,
 .i 10 4 5 7,
 .j 11 4 10,
 .o 4 (.new zF),
 .m 3 9,
 .s 4 4 11])
 (.seq (.reg [.j 12 4 4,
 .o 13 (.call (.f 250) [(.t 12)]),
 .o 14 (.un .not (.t 13)),
 .m 15 14,
 .v 16 15 false (.mv (.t 0)),
 .v 17 15 false (.mv (.t 3)),
 .v 18 15 false (.slc false 4 (.t 16) none (some (.t 17))),
 .v 19 15 false (.mkf 251 [] [(.t 4)]),
 .v 20 15 false (.call (.f 131) [(.t 18),(.t 19)]),
 .z 21 15 20])
 (.cond (.t 21)
 (.seq (.reg [.o 2 (.mv (.c (.bool false)))])
 (.ret))
 (.skip)))))
 (.reg [.u 22 .add 7 1,
 .m 7 22])))))))
 (.seq (.reg [.o 2 (.mv (.c (.bool true)))])
 (.ret)))⟩
theorem ok214:oF Tryz.f214 c214:=oI (by kernel_rfl)
def c215:F':=⟨6,[.t 2],
 .seq (.reg [.o 2 (.mv (.c (.bool false)))])
 (.seq (.reg [.m 3 0,
 .o 4 (.call (.f 252) [(.t 3),(.f 253)]),
 .o 5 (.un .not (.t 4)),
 .m 2 5])
 (.ret))⟩
theorem ok215:oF Tryz.f215 c215:=oI (by kernel_rfl)
def c218:F':=⟨25,[.t 4],
 .seq (.reg [.o 4 (.mv (.c (.sl true [])))])
 (.seq (.reg [.o 5 (.mv (.c (.sl true [])))])
 (.seq (.seq (.reg [.m 8 0,
 .o 9 (.len false (.t 8)),
 .o 10 (.mv (.c (.int .i64 0)))])
 (.block 0 (.loop (.seq (.reg [.b 11 .lss 10 9])
 (.seq (.cond (.t 11)
 (.skip)
 (.exit 0))
 (.seq (.block 1 (.seq (.reg [.i 12 1 8 10,
 .l 13 12,
 .m 7 13])
 (.reg [.m 14 5,
 .m 15 1,
 .m 16 7,
 .o 17 (.call (.f 60) [(.t 15),(.t 16)]),
 .h 18 17,
 .f 19 2 18,
 .l 20 19,
 .o 21 (.bsl 1 [(.t 20)]),
 .o 22 (.app 1 16 (.t 14) (.t 21)),
 .m 5 22])))
 (.reg [.u 23 .add 10 1,
 .m 10 23])))))))
 (.seq (.reg [.m 24 5,
 .m 4 24])
 (.ret))))⟩
theorem ok218:oF Tryz.f218 c218:=oI (by kernel_rfl)
def c219:F':=⟨4,[.t 2],
 .seq (.reg [.o 1 (.box (.t 0)),
 .o 2 (.mv (.c .nilfn))])
 (.seq (.reg [.o 3 (.mkf 255 [] [(.t 1)]),
 .m 2 3])
 (.ret))⟩
theorem ok219:oF Tryz.f219 c219:=oI (by kernel_rfl)
def c220:F':=⟨51,[.t 8],
 .seq (.reg [.o 8 (.mv (.c (.sl true [])))])
 (.seq (.reg [.o 9 (.mv (.c (.sl true [])))])
 (.seq (.seq (.reg [.m 12 1,
 .o 13 (.len false (.t 12)),
 .o 14 (.mv (.c (.int .i64 0)))])
 (.block 0 (.loop (.seq (.reg [.b 15 .lss 14 13])
 (.seq (.cond (.t 15)
 (.skip)
 (.exit 0))
 (.seq (.block 1 (.seq (.reg [.i 16 7 12 14,
 .j 17 7 16,
 .o 11 (.new zD),
 .s 7 11 17])
 (.seq (.reg [.f 18 3 11,
 .l 19 18,
 .m 20 2,
 .o 21 (.call (.f 218) [(.t 19),(.t 20)]),
 .f 22 3 11,
 .s 1 22 21])
 (.seq (.seq (.reg [.f 23 0 11,
 .l 24 23,
 .u 25 .eql 24 2])
 (.cond (.t 25)
 (.reg [.m 26 0,
 .f 27 4 11,
 .l 28 27,
 .m 29 3,
 .o 30 (.call (.f 134) [(.t 26),(.t 28),(.t 29),(.c (.bool false))]),
 .f 31 4 11,
 .s 1 31 30])
 (.reg [.m 32 0,
 .f 33 4 11,
 .l 34 33,
 .m 35 2,
 .o 36 (.call (.f 134) [(.t 32),(.t 34),(.t 35),(.c (.bool false))]),
 .f 37 4 11,
 .s 1 37 36])))
 (.seq (.seq (.reg [.f 38 0 11,
 .l 39 38,
 .u 40 .eql 39 4])
 (.cond (.t 40)
 (.reg [.m 41 0,
 .j 42 7 11,
 .m 43 2,
 .o 44 (.call (.f 256) [(.t 41),(.t 42),(.t 43)]),
 .s 7 11 44])
 (.skip)))
 (.reg [.m 45 9,
 .j 46 7 11,
 .o 47 (.bsl 7 [(.t 46)]),
 .o 48 (.app 7 120 (.t 45) (.t 47)),
 .m 9 48]))))))
 (.reg [.u 49 .add 14 1,
 .m 14 49])))))))
 (.seq (.reg [.m 50 9,
 .m 8 50])
 (.ret))))⟩
theorem ok220:oF Tryz.f220 c220:=oI (by kernel_rfl)
def c221:F':=⟨29,[.t 6],
 .seq (.reg [.o 6 (.mv (.c (.sl true [])))])
 (.seq (.reg [.o 7 (.mv (.c (.sl true [])))])
 (.seq (.seq (.reg [.m 10 1,
 .o 11 (.len false (.t 10)),
 .o 12 (.mv (.c (.int .i64 0)))])
 (.block 0 (.loop (.seq (.reg [.b 13 .lss 12 11])
 (.seq (.cond (.t 13)
 (.skip)
 (.exit 0))
 (.seq (.block 1 (.seq (.reg [.i 14 2 10 12,
 .j 15 2 14,
 .o 9 (.new zE),
 .s 2 9 15])
 (.draw [⟨.m 16 7,false,none,false,[],0,1⟩,
 ⟨.f 17 0 9,false,none,false,[],0,1⟩,
 ⟨.l 18 17,false,none,true,[1],0,1⟩,
 ⟨.m 19 0,false,none,false,[],0,0⟩,
 ⟨.f 20 1 9,false,none,false,[],0,0⟩,
 ⟨.l 21 20,false,none,false,[4],0,0⟩,
 ⟨.m 22 2,false,none,false,[],0,0⟩,
 ⟨.o 23 (.call (.f 134) [(.t 19),(.t 21),(.t 22),(.c (.bool false))]),true,none,false,[3,5,6,4],0,0⟩,
 ⟨.o 24 (.build zE [(0,0,1,(.t 18)),(1,1,1,(.t 23))]),false,none,false,[2,7,1,3,5,6,4],1,1⟩,
 ⟨.o 25 (.bsl 2 [(.t 24)]),false,none,false,[8,2,7,1,3,5,6,4],1,1⟩,
 ⟨.o 26 (.app 2 32 (.t 16) (.t 25)),true,none,false,[0,9,8,2,7,1,3,5,6,4],1,1⟩,
 ⟨.m 7 26,false,none,false,[10,0,9,8,2,7,1,3,5,6,4],2,2⟩] [])))
 (.reg [.u 27 .add 12 1,
 .m 12 27])))))))
 (.seq (.reg [.m 28 7,
 .m 6 28])
 (.ret))))⟩
theorem ok221:oF Tryz.f221 c221:=oI (by kernel_rfl)
def c228:F':=⟨21,[.t 4],
 .seq (.reg [.o 4 (.mv (.c (.sl true [])))])
 (.seq (.seq (.reg [.o 5 (.mv (.c (.int .i64 0)))])
 (.block 0 (.loop (.seq (.seq (.reg [.m 6 5,
 .m 7 1,
 .o 8 (.len false (.t 7)),
 .b 9 .lss 6 8])
 (.cond (.t 9)
 (.skip)
 (.exit 0)))
 (.seq (.block 1 (.reg [.m 12 0,
 .m 13 1,
 .m 14 5,
 .i 15 7 13 14,
 .j 16 7 15,
 .o 17 (.build zP [(0,0,1,(.c (.int .i64 4))),(4,18,7,(.t 16))]),
 .o 18 (.bsl 25 [(.t 17)]),
 .o 19 (.app 25 408 (.t 12) (.t 18)),
 .m 0 19]))
 (.reg [.m 10 5,
 .u 11 .add 10 1,
 .m 5 11]))))))
 (.seq (.reg [.m 20 0,
 .m 4 20])
 (.ret)))⟩
theorem ok228:oF Tryz.f228 c228:=oI (by kernel_rfl)
def c229:F':=⟨21,[.t 4],
 .seq (.reg [.o 4 (.mv (.c (.sl true [])))])
 (.seq (.seq (.reg [.o 5 (.mv (.c (.int .i64 0)))])
 (.block 0 (.loop (.seq (.seq (.reg [.m 6 5,
 .m 7 1,
 .o 8 (.len false (.t 7)),
 .b 9 .lss 6 8])
 (.cond (.t 9)
 (.skip)
 (.exit 0)))
 (.seq (.block 1 (.reg [.m 12 0,
 .m 13 1,
 .m 14 5,
 .i 15 8 13 14,
 .j 16 8 15,
 .o 17 (.build zP [(0,0,1,(.c (.int .i64 1))),(1,1,8,(.t 16))]),
 .o 18 (.bsl 25 [(.t 17)]),
 .o 19 (.app 25 408 (.t 12) (.t 18)),
 .m 0 19]))
 (.reg [.m 10 5,
 .u 11 .add 10 1,
 .m 5 11]))))))
 (.seq (.reg [.m 20 0,
 .m 4 20])
 (.ret)))⟩
theorem ok229:oF Tryz.f229 c229:=oI (by kernel_rfl)
def c233:F':=⟨26,[.t 4],
 .seq (.reg [.o 4 (.mv (.c (.bool false)))])
 (.seq (.seq (.reg [.m 6 0,
 .o 7 (.len false (.t 6)),
 .m 8 1,
 .o 9 (.len false (.t 8)),
 .b 10 .neq 7 9])
 (.cond (.t 10)
 (.seq (.reg [.o 4 (.mv (.c (.bool false)))])
 (.ret))
 (.skip)))
 (.seq (.seq (.reg [.o 5 (.mv (.c (.int .i64 0)))])
 (.block 0 (.loop (.seq (.seq (.reg [.m 11 5,
 .m 12 0,
 .o 13 (.len false (.t 12)),
 .b 14 .lss 11 13])
 (.cond (.t 14)
 (.skip)
 (.exit 0)))
 (.seq (.block 1 (.seq (.draw [⟨.m 17 0,false,none,false,[],0,0⟩,
 ⟨.m 18 5,false,none,false,[],0,0⟩,
 ⟨.i 19 1 17 18,false,none,false,[0,1],0,0⟩,
 ⟨.l 20 19,false,none,false,[2,0,1],0,0⟩,
 ⟨.m 21 1,false,none,false,[],0,0⟩,
 ⟨.m 22 5,false,none,false,[],0,0⟩,
 ⟨.i 23 1 21 22,false,none,false,[4,5],0,0⟩,
 ⟨.l 24 23,false,none,false,[6,4,5],0,0⟩,
 ⟨.b 25 .neq 20 24,false,none,false,[3,7,2,0,1,6,4,5],0,0⟩] [])
 (.cond (.t 25)
 (.seq (.reg [.o 4 (.mv (.c (.bool false)))])
 (.ret))
 (.skip))))
 (.reg [.m 15 5,
 .u 16 .add 15 1,
 .m 5 16]))))))
 (.seq (.reg [.o 4 (.mv (.c (.bool true)))])
 (.ret))))⟩
theorem ok233:oF Tryz.f233 c233:=oI (by kernel_rfl)
def c234:F':=cmp Tryz.f234
theorem ok234:oF Tryz.f234 c234:=oI (by kernel_rfl)
def c238:F':=cmp Tryz.f238
theorem ok238:oF Tryz.f238 c238:=oI (by kernel_rfl)
def c244:F':=cmp Tryz.f244
theorem ok244:oF Tryz.f244 c244:=oI (by kernel_rfl)
def c248:F':=cmp Tryz.f248
theorem ok248:oF Tryz.f248 c248:=oI (by kernel_rfl)
def c249:F':=⟨6,[.t 2],
 .seq (.reg [.o 2 (.mv (.c (.bool false)))])
 (.seq (.reg [.m 3 0,
 .o 4 (.call (.f 57) [(.t 3)]),
 .o 5 (.un .not (.t 4)),
 .m 2 5])
 (.ret))⟩
theorem ok249:oF Tryz.f249 c249:=oI (by kernel_rfl)
def c250:F':=⟨52,[.t 2],
 .seq (.reg [.o 1 (.box (.t 0)),
 .o 2 (.mv (.c (.bool false)))])
 (.seq (.seq (.reg [.f 3 0 1,
 .l 4 3,
 .o 5 (.call (.f 57) [(.t 4)]),
 .o 6 (.un .not (.t 5))])
 (.cond (.t 6)
 (.seq (.reg [.o 2 (.mv (.c (.bool false)))])
 (.ret))
 (.skip)))
 (.seq (.seq (.reg [.f 7 2 1,
 .l 8 7])
 (.block 0 (.seq (.seq (.reg [.u 10 .eql 8 0,
 .m 9 10])
 (.cond (.t 9)
 (.skip)
 (.seq (.reg [.u 11 .eql 8 3,
 .m 9 11])
 (.cond (.t 9)
 (.skip)
 (.seq (.reg [.u 12 .eql 8 4,
 .m 9 12])
 (.cond (.t 9)
 (.skip)
 (.reg [.u 13 .eql 8 5,
 .m 9 13])))))))
 (.cond (.t 9)
 (.seq (.reg [.f 14 3 1,
 .l 15 14,
 .u 16 .eql 15 0,
 .m 17 16,
 .v 18 17 true (.fa 1 (.t 1)),
 .v 19 17 true (.ld none (.t 18)),
 .v 20 17 true (.un .not (.t 19)),
 .y 21 17 20,
 .m 2 21])
 (.ret))
 (.seq (.reg [.u 23 .eql 8 1,
 .m 22 23])
 (.cond (.t 22)
 (.seq (.reg [.f 24 3 1,
 .l 25 24,
 .o 26 (.call (.f 209) [(.t 25),(.c (.int .i64 1)),(.c (.int .i64 3))]),
 .m 2 26])
 (.ret))
 (.seq (.reg [.u 28 .eql 8 2,
 .m 27 28])
 (.cond (.t 27)
 (.seq (.reg [.f 29 3 1,
 .l 30 29,
 .o 31 (.call (.f 209) [(.t 30),(.c (.int .i64 0)),(.c (.int .i64 3))]),
 .m 32 31,
 .v 33 32 true (.fa 1 (.t 1)),
 .v 34 32 true (.ld none (.t 33)),
 .v 35 32 true (.un .not (.t 34)),
 .v 36 32 true (.mv (.t 35)),
 .v 37 36 false (.fa 3 (.t 1)),
 .v 38 36 false (.ld none (.t 37)),
 .v 39 36 false (.bin .neq (.t 38) (.c (.int .i64 0))),
 .v 40 32 true (.pick (.t 36) (.c (.bool true)) (.t 39)),
 .y 41 32 40,
 .m 2 41])
 (.ret))
 (.seq (.reg [.u 43 .eql 8 6,
 .m 42 43])
 (.cond (.t 42)
 (.seq (.reg [.f 44 3 1,
 .l 45 44,
 .o 46 (.call (.f 209) [(.t 45),(.c (.int .i64 0)),(.c (.int .i64 3))]),
 .m 47 46,
 .v 48 47 true (.fa 1 (.t 1)),
 .v 49 47 true (.ld none (.t 48)),
 .v 50 47 true (.un .not (.t 49)),
 .y 51 47 50,
 .m 2 51])
 (.ret))
 (.skip)))))))))))
 (.seq (.reg [.o 2 (.mv (.c (.bool false)))])
 (.ret))))⟩
theorem ok250:oF Tryz.f250 c250:=oI (by kernel_rfl)
def c251:F':=⟨9,[.t 3],
 .seq (.reg [.o 2 (.box (.t 0)),
 .o 3 (.mv (.c (.bool false)))])
 (.seq (.reg [.f 4 0 2,
 .l 5 4,
 .f 6 0 1,
 .l 7 6,
 .b 8 .eql 5 7,
 .m 3 8])
 (.ret))⟩
theorem ok251:oF Tryz.f251 c251:=oI (by kernel_rfl)
def c252:F':=⟨9,[.t 4],
 .seq (.reg [.o 4 (.mv (.c (.bool false)))])
 (.seq (.reg [.m 5 0,
 .m 6 1,
 .o 7 (.call (.f 269) [(.t 5),(.t 6)]),
 .u 8 .geq 7 0,
 .m 4 8])
 (.ret))⟩
theorem ok252:oF Tryz.f252 c252:=oI (by kernel_rfl)
def c253:F':=⟨11,[.t 2],
 .seq (.reg [.o 1 (.box (.t 0)),
 .o 2 (.mv (.c (.bool false)))])
 (.seq (.reg [.f 3 0 1,
 .l 4 3,
 .u 5 .neq 4 6,
 .m 6 5,
 .v 7 6 true (.fa 0 (.t 1)),
 .v 8 6 true (.ld none (.t 7)),
 .v 9 6 true (.bin .neq (.t 8) (.c (.int .i64 7))),
 .y 10 6 9,
 .m 2 10])
 (.ret))⟩
theorem ok253:oF Tryz.f253 c253:=oI (by kernel_rfl)
noncomputable def c255:F':=⟨36,[],
 .seq (.reg [.o 2 (.box (.t 0))])
 (.seq (.seq (.reg [.f 8 6 1,
 .l 9 8,
 .o 10 (.len false (.t 9)),
 .o 11 (.mv (.c (.int .i64 0)))])
 (.block 0 (.loop (.seq (.reg [.b 12 .lss 11 10])
 (.seq (.cond (.t 12)
 (.skip)
 (.exit 0))
 (.seq (.block 1 (.seq (.reg [.i 13 7 9 11,
 .j 14 7 13,
 .o 4 (.new zD),
 .s 7 4 14])
 (.seq (.reg [.f 15 3 4,
 .l 16 15,
 .o 17 (.len false (.t 16)),
 .o 18 (.mv (.c (.int .i64 0)))])
 (.block 2 (.loop (.seq (.reg [.b 19 .lss 18 17])
 (.seq (.cond (.t 19)
 (.skip)
 (.exit 2))
 (.seq (.block 3 (.seq (.reg [.i 20 1 16 18,
 .l 21 20,
 .m 6 21])
 (.seq (.reg [.l 22 2,
 .m 23 6,
 .o 24 (.call (.t 22) [(.t 23)]),
 .o 25 (.un .not (.t 24))])
 (.cond (.t 25)
 (.ret)
 (.skip)))))
 (.reg [.u 26 .add 18 1,
 .m 18 26])))))))))
 (.reg [.u 27 .add 11 1,
 .m 11 27])))))))
 (.seq (.reg [.f 28 7 1,
 .l 29 28,
 .o 30 (.call (.f 158) [(.t 29)])])
 (.block 4 (.rf (.t 30) [31] (rfAt Tryz.f255 0).1 (rfAt Tryz.f255 0).2
 (.reg [.m 7 31])
 (.block 5 (.seq (.reg [.l 32 2,
 .m 33 7,
 .o 34 (.call (.t 32) [(.t 33)]),
 .o 35 (.un .not (.t 34))])
 (.cond (.t 35)
 (.ret)
 (.skip))))
 36 [31,2,7,32,33,34,35]))))⟩
theorem ok255:oF Tryz.f255 c255:=oI (by kernel_rfl)
def c268:F':=cmp Tryz.f268
theorem ok268:oF Tryz.f268 c268:=oI (by kernel_rfl)
def c269:F':=⟨19,[.t 4],
 .seq (.reg [.o 4 (.mv (.c (.int .i64 0)))])
 (.seq (.seq (.reg [.m 6 0,
 .o 7 (.len false (.t 6)),
 .o 8 (.mv (.c (.int .i64 0)))])
 (.block 0 (.loop (.seq (.reg [.b 9 .lss 8 7])
 (.seq (.cond (.t 9)
 (.skip)
 (.exit 0))
 (.seq (.block 1 (.seq (.reg [.m 10 8,
 .m 5 10])
 (.seq (.reg [.m 11 1,
 .m 12 0,
 .m 13 5,
 .i 14 7 12 13,
 .j 15 7 14,
 .o 16 (.call (.t 11) [(.t 15)])])
 (.cond (.t 16)
 (.seq (.reg [.m 17 5,
 .m 4 17])
 (.ret))
 (.skip)))))
 (.reg [.u 18 .add 8 1,
 .m 8 18])))))))
 (.seq (.reg [.o 4 (.mv (.c (.int .i64 (-1))))])
 (.ret)))⟩
theorem ok269:oF Tryz.f269 c269:=oI (by kernel_rfl)
def tblR(k:Nat):Option F':=iteR (Nat.ble 146 k) (iteR (Nat.ble 195 k) (iteR (Nat.ble 218 k) (iteR (Nat.ble 244 k) (iteR (Nat.ble 252 k) (iteR (Nat.ble 255 k) (iteR (Nat.ble 268 k) (iteR (Nat.ble 269 k) (iteR (Nat.beq k 269) (some c269) none) (iteR (Nat.beq k 268) (some c268) none)) (iteR (Nat.beq k 255) (some c255) none)) (iteR (Nat.ble 253 k) (iteR (Nat.beq k 253) (some c253) none) (iteR (Nat.beq k 252) (some c252) none))) (iteR (Nat.ble 249 k) (iteR (Nat.ble 250 k) (iteR (Nat.ble 251 k) (iteR (Nat.beq k 251) (some c251) none) (iteR (Nat.beq k 250) (some c250) none)) (iteR (Nat.beq k 249) (some c249) none)) (iteR (Nat.ble 248 k) (iteR (Nat.beq k 248) (some c248) none) (iteR (Nat.beq k 244) (some c244) none)))) (iteR (Nat.ble 228 k) (iteR (Nat.ble 233 k) (iteR (Nat.ble 234 k) (iteR (Nat.ble 238 k) (iteR (Nat.beq k 238) (some c238) none) (iteR (Nat.beq k 234) (some c234) none)) (iteR (Nat.beq k 233) (some c233) none)) (iteR (Nat.ble 229 k) (iteR (Nat.beq k 229) (some c229) none) (iteR (Nat.beq k 228) (some c228) none))) (iteR (Nat.ble 220 k) (iteR (Nat.ble 221 k) (iteR (Nat.beq k 221) (some c221) none) (iteR (Nat.beq k 220) (some c220) none)) (iteR (Nat.ble 219 k) (iteR (Nat.beq k 219) (some c219) none) (iteR (Nat.beq k 218) (some c218) none))))) (iteR (Nat.ble 204 k) (iteR (Nat.ble 209 k) (iteR (Nat.ble 213 k) (iteR (Nat.ble 214 k) (iteR (Nat.ble 215 k) (iteR (Nat.beq k 215) (some c215) none) (iteR (Nat.beq k 214) (some c214) none)) (iteR (Nat.beq k 213) (some c213) none)) (iteR (Nat.ble 212 k) (iteR (Nat.beq k 212) (some c212) none) (iteR (Nat.beq k 209) (some c209) none))) (iteR (Nat.ble 207 k) (iteR (Nat.ble 208 k) (iteR (Nat.beq k 208) (some c208) none) (iteR (Nat.beq k 207) (some c207) none)) (iteR (Nat.ble 206 k) (iteR (Nat.beq k 206) (some c206) none) (iteR (Nat.beq k 204) (some c204) none)))) (iteR (Nat.ble 199 k) (iteR (Nat.ble 201 k) (iteR (Nat.ble 202 k) (iteR (Nat.ble 203 k) (iteR (Nat.beq k 203) (some c203) none) (iteR (Nat.beq k 202) (some c202) none)) (iteR (Nat.beq k 201) (some c201) none)) (iteR (Nat.ble 200 k) (iteR (Nat.beq k 200) (some c200) none) (iteR (Nat.beq k 199) (some c199) none))) (iteR (Nat.ble 197 k) (iteR (Nat.ble 198 k) (iteR (Nat.beq k 198) (some c198) none) (iteR (Nat.beq k 197) (some c197) none)) (iteR (Nat.ble 196 k) (iteR (Nat.beq k 196) (some c196) none) (iteR (Nat.beq k 195) (some c195) none)))))) (iteR (Nat.ble 169 k) (iteR (Nat.ble 180 k) (iteR (Nat.ble 185 k) (iteR (Nat.ble 187 k) (iteR (Nat.ble 188 k) (iteR (Nat.ble 193 k) (iteR (Nat.beq k 193) (some c193) none) (iteR (Nat.beq k 188) (some c188) none)) (iteR (Nat.beq k 187) (some c187) none)) (iteR (Nat.ble 186 k) (iteR (Nat.beq k 186) (some c186) none) (iteR (Nat.beq k 185) (some c185) none))) (iteR (Nat.ble 183 k) (iteR (Nat.ble 184 k) (iteR (Nat.beq k 184) (some c184) none) (iteR (Nat.beq k 183) (some c183) none)) (iteR (Nat.ble 182 k) (iteR (Nat.beq k 182) (some c182) none) (iteR (Nat.beq k 180) (some c180) none)))) (iteR (Nat.ble 173 k) (iteR (Nat.ble 177 k) (iteR (Nat.ble 178 k) (iteR (Nat.ble 179 k) (iteR (Nat.beq k 179) (some c179) none) (iteR (Nat.beq k 178) (some c178) none)) (iteR (Nat.beq k 177) (some c177) none)) (iteR (Nat.ble 174 k) (iteR (Nat.beq k 174) (some c174) none) (iteR (Nat.beq k 173) (some c173) none))) (iteR (Nat.ble 171 k) (iteR (Nat.ble 172 k) (iteR (Nat.beq k 172) (some c172) none) (iteR (Nat.beq k 171) (some c171) none)) (iteR (Nat.ble 170 k) (iteR (Nat.beq k 170) (some c170) none) (iteR (Nat.beq k 169) (some c169) none))))) (iteR (Nat.ble 156 k) (iteR (Nat.ble 164 k) (iteR (Nat.ble 166 k) (iteR (Nat.ble 167 k) (iteR (Nat.ble 168 k) (iteR (Nat.beq k 168) (some c168) none) (iteR (Nat.beq k 167) (some c167) none)) (iteR (Nat.beq k 166) (some c166) none)) (iteR (Nat.ble 165 k) (iteR (Nat.beq k 165) (some c165) none) (iteR (Nat.beq k 164) (some c164) none))) (iteR (Nat.ble 158 k) (iteR (Nat.ble 159 k) (iteR (Nat.beq k 159) (some c159) none) (iteR (Nat.beq k 158) (some c158) none)) (iteR (Nat.ble 157 k) (iteR (Nat.beq k 157) (some c157) none) (iteR (Nat.beq k 156) (some c156) none)))) (iteR (Nat.ble 151 k) (iteR (Nat.ble 153 k) (iteR (Nat.ble 154 k) (iteR (Nat.ble 155 k) (iteR (Nat.beq k 155) (some c155) none) (iteR (Nat.beq k 154) (some c154) none)) (iteR (Nat.beq k 153) (some c153) none)) (iteR (Nat.ble 152 k) (iteR (Nat.beq k 152) (some c152) none) (iteR (Nat.beq k 151) (some c151) none))) (iteR (Nat.ble 149 k) (iteR (Nat.ble 150 k) (iteR (Nat.beq k 150) (some c150) none) (iteR (Nat.beq k 149) (some c149) none)) (iteR (Nat.ble 147 k) (iteR (Nat.beq k 147) (some c147) none) (iteR (Nat.beq k 146) (some c146) none))))))) (iteR (Nat.ble 95 k) (iteR (Nat.ble 121 k) (iteR (Nat.ble 131 k) (iteR (Nat.ble 136 k) (iteR (Nat.ble 138 k) (iteR (Nat.ble 139 k) (iteR (Nat.ble 142 k) (iteR (Nat.beq k 142) (some c142) none) (iteR (Nat.beq k 139) (some c139) none)) (iteR (Nat.beq k 138) (some c138) none)) (iteR (Nat.ble 137 k) (iteR (Nat.beq k 137) (some c137) none) (iteR (Nat.beq k 136) (some c136) none))) (iteR (Nat.ble 133 k) (iteR (Nat.ble 134 k) (iteR (Nat.beq k 134) (some c134) none) (iteR (Nat.beq k 133) (some c133) none)) (iteR (Nat.ble 132 k) (iteR (Nat.beq k 132) (some c132) none) (iteR (Nat.beq k 131) (some c131) none)))) (iteR (Nat.ble 126 k) (iteR (Nat.ble 128 k) (iteR (Nat.ble 129 k) (iteR (Nat.ble 130 k) (iteR (Nat.beq k 130) (some c130) none) (iteR (Nat.beq k 129) (some c129) none)) (iteR (Nat.beq k 128) (some c128) none)) (iteR (Nat.ble 127 k) (iteR (Nat.beq k 127) (some c127) none) (iteR (Nat.beq k 126) (some c126) none))) (iteR (Nat.ble 124 k) (iteR (Nat.ble 125 k) (iteR (Nat.beq k 125) (some c125) none) (iteR (Nat.beq k 124) (some c124) none)) (iteR (Nat.ble 123 k) (iteR (Nat.beq k 123) (some c123) none) (iteR (Nat.beq k 121) (some c121) none))))) (iteR (Nat.ble 106 k) (iteR (Nat.ble 111 k) (iteR (Nat.ble 118 k) (iteR (Nat.ble 119 k) (iteR (Nat.ble 120 k) (iteR (Nat.beq k 120) (some c120) none) (iteR (Nat.beq k 119) (some c119) none)) (iteR (Nat.beq k 118) (some c118) none)) (iteR (Nat.ble 113 k) (iteR (Nat.beq k 113) (some c113) none) (iteR (Nat.beq k 111) (some c111) none))) (iteR (Nat.ble 108 k) (iteR (Nat.ble 109 k) (iteR (Nat.beq k 109) (some c109) none) (iteR (Nat.beq k 108) (some c108) none)) (iteR (Nat.ble 107 k) (iteR (Nat.beq k 107) (some c107) none) (iteR (Nat.beq k 106) (some c106) none)))) (iteR (Nat.ble 101 k) (iteR (Nat.ble 103 k) (iteR (Nat.ble 104 k) (iteR (Nat.ble 105 k) (iteR (Nat.beq k 105) (some c105) none) (iteR (Nat.beq k 104) (some c104) none)) (iteR (Nat.beq k 103) (some c103) none)) (iteR (Nat.ble 102 k) (iteR (Nat.beq k 102) (some c102) none) (iteR (Nat.beq k 101) (some c101) none))) (iteR (Nat.ble 97 k) (iteR (Nat.ble 100 k) (iteR (Nat.beq k 100) (some c100) none) (iteR (Nat.beq k 97) (some c97) none)) (iteR (Nat.ble 96 k) (iteR (Nat.beq k 96) (some c96) none) (iteR (Nat.beq k 95) (some c95) none)))))) (iteR (Nat.ble 61 k) (iteR (Nat.ble 77 k) (iteR (Nat.ble 81 k) (iteR (Nat.ble 86 k) (iteR (Nat.ble 87 k) (iteR (Nat.ble 90 k) (iteR (Nat.beq k 90) (some c90) none) (iteR (Nat.beq k 87) (some c87) none)) (iteR (Nat.beq k 86) (some c86) none)) (iteR (Nat.ble 82 k) (iteR (Nat.beq k 82) (some c82) none) (iteR (Nat.beq k 81) (some c81) none))) (iteR (Nat.ble 79 k) (iteR (Nat.ble 80 k) (iteR (Nat.beq k 80) (some c80) none) (iteR (Nat.beq k 79) (some c79) none)) (iteR (Nat.ble 78 k) (iteR (Nat.beq k 78) (some c78) none) (iteR (Nat.beq k 77) (some c77) none)))) (iteR (Nat.ble 70 k) (iteR (Nat.ble 74 k) (iteR (Nat.ble 75 k) (iteR (Nat.ble 76 k) (iteR (Nat.beq k 76) (some c76) none) (iteR (Nat.beq k 75) (some c75) none)) (iteR (Nat.beq k 74) (some c74) none)) (iteR (Nat.ble 73 k) (iteR (Nat.beq k 73) (some c73) none) (iteR (Nat.beq k 70) (some c70) none))) (iteR (Nat.ble 68 k) (iteR (Nat.ble 69 k) (iteR (Nat.beq k 69) (some c69) none) (iteR (Nat.beq k 68) (some c68) none)) (iteR (Nat.ble 62 k) (iteR (Nat.beq k 62) (some c62) none) (iteR (Nat.beq k 61) (some c61) none))))) (iteR (Nat.ble 33 k) (iteR (Nat.ble 56 k) (iteR (Nat.ble 58 k) (iteR (Nat.ble 59 k) (iteR (Nat.ble 60 k) (iteR (Nat.beq k 60) (some c60) none) (iteR (Nat.beq k 59) (some c59) none)) (iteR (Nat.beq k 58) (some c58) none)) (iteR (Nat.ble 57 k) (iteR (Nat.beq k 57) (some c57) none) (iteR (Nat.beq k 56) (some c56) none))) (iteR (Nat.ble 54 k) (iteR (Nat.ble 55 k) (iteR (Nat.beq k 55) (some c55) none) (iteR (Nat.beq k 54) (some c54) none)) (iteR (Nat.ble 53 k) (iteR (Nat.beq k 53) (some c53) none) (iteR (Nat.beq k 33) (some c33) none)))) (iteR (Nat.ble 27 k) (iteR (Nat.ble 30 k) (iteR (Nat.ble 31 k) (iteR (Nat.ble 32 k) (iteR (Nat.beq k 32) (some c32) none) (iteR (Nat.beq k 31) (some c31) none)) (iteR (Nat.beq k 30) (some c30) none)) (iteR (Nat.ble 29 k) (iteR (Nat.beq k 29) (some c29) none) (iteR (Nat.beq k 27) (some c27) none))) (iteR (Nat.ble 23 k) (iteR (Nat.ble 24 k) (iteR (Nat.beq k 24) (some c24) none) (iteR (Nat.beq k 23) (some c23) none)) (iteR (Nat.ble 19 k) (iteR (Nat.beq k 19) (some c19) none) (iteR (Nat.beq k 18) (some c18) none)))))))
def Good(k:Nat)(f':F'):Prop:=∃f,prog.funcs[k]?=some f∧qeK prog f=some f'
theorem qar{G:Prop}{c:Bool}{x y:Option F'}{f':F'}(hx:x=some f'→G)(hy:y=some f'→G):iteR c x y=some f'→G:=fun h=>by
 cases c
 ·exact hy h
 ·exact hx h
theorem qaq{k n:Nat}{cn f':F'}(h:Good n cn):iteR (Nat.beq k n) (some cn) none=some f'→Good k f':=fun hh=>by
 rw[qaZ] at hh
 split at hh
 ·rename_i hb
  have:=qaL hb
  subst this
  cases hh;exact h
 ·cases hh
theorem qpU(k:Nat)(f':F'):tblR k=some f'→Good k f':=qar (qar (qar (qar (qar (qar (qar (qar (qaq ⟨_,func269,ok269⟩) (qaq ⟨_,func268,ok268⟩)) (qaq ⟨_,func255,ok255⟩)) (qar (qaq ⟨_,func253,ok253⟩) (qaq ⟨_,func252,ok252⟩))) (qar (qar (qar (qaq ⟨_,func251,ok251⟩) (qaq ⟨_,func250,ok250⟩)) (qaq ⟨_,func249,ok249⟩)) (qar (qaq ⟨_,func248,ok248⟩) (qaq ⟨_,func244,ok244⟩)))) (qar (qar (qar (qar (qaq ⟨_,func238,ok238⟩) (qaq ⟨_,func234,ok234⟩)) (qaq ⟨_,func233,ok233⟩)) (qar (qaq ⟨_,func229,ok229⟩) (qaq ⟨_,func228,ok228⟩))) (qar (qar (qaq ⟨_,func221,ok221⟩) (qaq ⟨_,func220,ok220⟩)) (qar (qaq ⟨_,func219,ok219⟩) (qaq ⟨_,func218,ok218⟩))))) (qar (qar (qar (qar (qar (qaq ⟨_,func215,ok215⟩) (qaq ⟨_,func214,ok214⟩)) (qaq ⟨_,func213,ok213⟩)) (qar (qaq ⟨_,func212,ok212⟩) (qaq ⟨_,func209,ok209⟩))) (qar (qar (qaq ⟨_,func208,ok208⟩) (qaq ⟨_,func207,ok207⟩)) (qar (qaq ⟨_,func206,ok206⟩) (qaq ⟨_,func204,ok204⟩)))) (qar (qar (qar (qar (qaq ⟨_,func203,ok203⟩) (qaq ⟨_,func202,ok202⟩)) (qaq ⟨_,func201,ok201⟩)) (qar (qaq ⟨_,func200,ok200⟩) (qaq ⟨_,func199,ok199⟩))) (qar (qar (qaq ⟨_,func198,ok198⟩) (qaq ⟨_,func197,ok197⟩)) (qar (qaq ⟨_,func196,ok196⟩) (qaq ⟨_,func195,ok195⟩)))))) (qar (qar (qar (qar (qar (qar (qaq ⟨_,func193,ok193⟩) (qaq ⟨_,func188,ok188⟩)) (qaq ⟨_,func187,ok187⟩)) (qar (qaq ⟨_,func186,ok186⟩) (qaq ⟨_,func185,ok185⟩))) (qar (qar (qaq ⟨_,func184,ok184⟩) (qaq ⟨_,func183,ok183⟩)) (qar (qaq ⟨_,func182,ok182⟩) (qaq ⟨_,func180,ok180⟩)))) (qar (qar (qar (qar (qaq ⟨_,func179,ok179⟩) (qaq ⟨_,func178,ok178⟩)) (qaq ⟨_,func177,ok177⟩)) (qar (qaq ⟨_,func174,ok174⟩) (qaq ⟨_,func173,ok173⟩))) (qar (qar (qaq ⟨_,func172,ok172⟩) (qaq ⟨_,func171,ok171⟩)) (qar (qaq ⟨_,func170,ok170⟩) (qaq ⟨_,func169,ok169⟩))))) (qar (qar (qar (qar (qar (qaq ⟨_,func168,ok168⟩) (qaq ⟨_,func167,ok167⟩)) (qaq ⟨_,func166,ok166⟩)) (qar (qaq ⟨_,func165,ok165⟩) (qaq ⟨_,func164,ok164⟩))) (qar (qar (qaq ⟨_,func159,ok159⟩) (qaq ⟨_,func158,ok158⟩)) (qar (qaq ⟨_,func157,ok157⟩) (qaq ⟨_,func156,ok156⟩)))) (qar (qar (qar (qar (qaq ⟨_,func155,ok155⟩) (qaq ⟨_,func154,ok154⟩)) (qaq ⟨_,func153,ok153⟩)) (qar (qaq ⟨_,func152,ok152⟩) (qaq ⟨_,func151,ok151⟩))) (qar (qar (qaq ⟨_,func150,ok150⟩) (qaq ⟨_,func149,ok149⟩)) (qar (qaq ⟨_,func147,ok147⟩) (qaq ⟨_,func146,ok146⟩))))))) (qar (qar (qar (qar (qar (qar (qar (qaq ⟨_,func142,ok142⟩) (qaq ⟨_,func139,ok139⟩)) (qaq ⟨_,func138,ok138⟩)) (qar (qaq ⟨_,func137,ok137⟩) (qaq ⟨_,func136,ok136⟩))) (qar (qar (qaq ⟨_,func134,ok134⟩) (qaq ⟨_,func133,ok133⟩)) (qar (qaq ⟨_,func132,ok132⟩) (qaq ⟨_,func131,ok131⟩)))) (qar (qar (qar (qar (qaq ⟨_,func130,ok130⟩) (qaq ⟨_,func129,ok129⟩)) (qaq ⟨_,func128,ok128⟩)) (qar (qaq ⟨_,func127,ok127⟩) (qaq ⟨_,func126,ok126⟩))) (qar (qar (qaq ⟨_,func125,ok125⟩) (qaq ⟨_,func124,ok124⟩)) (qar (qaq ⟨_,func123,ok123⟩) (qaq ⟨_,func121,ok121⟩))))) (qar (qar (qar (qar (qar (qaq ⟨_,func120,ok120⟩) (qaq ⟨_,func119,ok119⟩)) (qaq ⟨_,func118,ok118⟩)) (qar (qaq ⟨_,func113,ok113⟩) (qaq ⟨_,func111,ok111⟩))) (qar (qar (qaq ⟨_,func109,ok109⟩) (qaq ⟨_,func108,ok108⟩)) (qar (qaq ⟨_,func107,ok107⟩) (qaq ⟨_,func106,ok106⟩)))) (qar (qar (qar (qar (qaq ⟨_,func105,ok105⟩) (qaq ⟨_,func104,ok104⟩)) (qaq ⟨_,func103,ok103⟩)) (qar (qaq ⟨_,func102,ok102⟩) (qaq ⟨_,func101,ok101⟩))) (qar (qar (qaq ⟨_,func100,ok100⟩) (qaq ⟨_,func97,ok97⟩)) (qar (qaq ⟨_,func96,ok96⟩) (qaq ⟨_,func95,ok95⟩)))))) (qar (qar (qar (qar (qar (qar (qaq ⟨_,func90,ok90⟩) (qaq ⟨_,func87,ok87⟩)) (qaq ⟨_,func86,ok86⟩)) (qar (qaq ⟨_,func82,ok82⟩) (qaq ⟨_,func81,ok81⟩))) (qar (qar (qaq ⟨_,func80,ok80⟩) (qaq ⟨_,func79,ok79⟩)) (qar (qaq ⟨_,func78,ok78⟩) (qaq ⟨_,func77,ok77⟩)))) (qar (qar (qar (qar (qaq ⟨_,func76,ok76⟩) (qaq ⟨_,func75,ok75⟩)) (qaq ⟨_,func74,ok74⟩)) (qar (qaq ⟨_,func73,ok73⟩) (qaq ⟨_,func70,ok70⟩))) (qar (qar (qaq ⟨_,func69,ok69⟩) (qaq ⟨_,func68,ok68⟩)) (qar (qaq ⟨_,func62,ok62⟩) (qaq ⟨_,func61,ok61⟩))))) (qar (qar (qar (qar (qar (qaq ⟨_,func60,ok60⟩) (qaq ⟨_,func59,ok59⟩)) (qaq ⟨_,func58,ok58⟩)) (qar (qaq ⟨_,func57,ok57⟩) (qaq ⟨_,func56,ok56⟩))) (qar (qar (qaq ⟨_,func55,ok55⟩) (qaq ⟨_,func54,ok54⟩)) (qar (qaq ⟨_,func53,ok53⟩) (qaq ⟨_,func33,ok33⟩)))) (qar (qar (qar (qar (qaq ⟨_,func32,ok32⟩) (qaq ⟨_,func31,ok31⟩)) (qaq ⟨_,func30,ok30⟩)) (qar (qaq ⟨_,func29,ok29⟩) (qaq ⟨_,func27,ok27⟩))) (qar (qar (qaq ⟨_,func24,ok24⟩) (qaq ⟨_,func23,ok23⟩)) (qar (qaq ⟨_,func19,ok19⟩) (qaq ⟨_,func18,ok18⟩)))))))
def TT(l:List Pr):Tb:=⟨tblR,fun k args=>Pr.find k args l⟩
theorem qbq{l:List Pr}(h:∀p,p∈l→p.ok prog):(TT l).Ok prog:=⟨qpU,fun _ _ _ hf=>Pr.find_spec h hf⟩
theorem qaF{p:Pr}{l:List Pr}(h:p.ok prog)(g:∀q,q∈l→q.ok prog):∀q,q∈p::l→q.ok prog:=fun q hq=>by
 rcases quc.1 hq with rfl|hq
 ·exact h
 ·exact g q hq
theorem SR.grown{E:En}{S:St}{w w':World}(h:SR E S w)(hb:∀b,b<w.heap.size→w'.heap[b]?=w.heap[b]?)(hs:w.heap.size≤w'.heap.size)(ho:(w'.output,w'.os)=(w.output,w.os)):SR E S w'∧∀n,Ext n E S w E S w':=by
 refine ⟨⟨h.gl.old (fun _ _ _ h=>h) (fun b _ _ _ hc _=>hb b (qdV hc)),fun b o' c hc=>?_,fun l ob hl=>?_,h.dom,h.apart,fun b hb'=>?_,h.inj⟩,fun n=>⟨hs,fun _ _ _ h=>h,fun _ _ _ _ h=>h,fun _ _ h=>h,fun _ h=>.inl h,fun _ _ _ h=>.inl h,fun b hb' _=>hb b hb',ho⟩⟩
 ·have:=h.I b o' c hc;rw[cell?_heap (hb b (cell?_lt this))];exact this
 ·by_cases hd:ob=.dead
  ·subst hd;trivial
  exact (h.obs l ob hl).mono (En.le_refl E) (fun _ _ hx=>hx) (fun st x hx=>hb _ (h.lt _ ⟨l,st,x,⟨ob,hl,hd⟩,hx,rfl⟩))
 ·have:=h.lt b hb';omega
theorem SR.tab {E : En} {S : St} {w : World} (h : SR E S w) : Lib.TabIs prog w "internal/strconv.uint64pow10" .u64 Lib.pow10Tab := by
 obtain ⟨t,fz,hh⟩:=h.gl.2 2 _ (by simp only[qjR,if_pos];rfl);unfold Lib.TabIs World.var?
 rw [show prog.globalNamed "internal/strconv.uint64pow10" = some 2 by decide +kernel]
 simp only[qtT,hh];simp[Lib.pow10Tab,qvm,Function.comp]
theorem Spec.of_calls{P:Program}{f:FuncId}{fn:Func}{f':F'}{args:List V}{S:St}{R:V→St→Prop}(hf:P.funcs[f]?=some fn)(hc:qeK P fn=some f')
  (h:∀(E:En) (w:World) (us:Array Value),SR E S w→VRs E args us→Calls P f us w fun e w'=>∃u r E' S',e=.returned u∧R r S'∧VR E' r u∧SR E' S' w'∧Ext S.length E S w E' S' w'∧S.length≤S'.length):Spec P f args S R:=by
 refine ⟨fun xs w=>?_,fun E w us n hs hv=>callsIn_wide.2 (h E w us hs hv)⟩;unfold qeK at hc;split at hc
 ·rename_i c rs hb hrs;split at hc
  ·cases hc
  ·rename_i hname;simp[callFunc,program,Sem.run,Result.andThen,hf,hname,hb]
 ·cases hc
theorem qpi(n:Nat)(hn:n≤9223372036854775807)(S:St):Spec prog 129 [.int .i64 n] S (fun r U=>r=.str ⟨(dig n).toArray⟩∧U=S):=by
 refine Spec.of_calls func129 ok129 fun E w us hs hv=>?_
 obtain ⟨hl,hv⟩:=hv
 have hu:us=#[.int .i64 n]:=by
  match us,hl with
  | ⟨[u]⟩,_=>
   have:=hv 0 _ u rfl rfl;cases this;rfl
 subst hu;refine Calls.mono (Tryz.strconv_Itoa n (by omega) (by omega) w hs.tab) ?_;rintro e w' ⟨rfl,k,os,rfl⟩;obtain ⟨g1,g2⟩:=hs.grown (w':=Sort.grow (w.drewN k) os) (fun b hb=>by simp[Sort.grow,World.drewN,Array.getElem?_append,hb]) (by simp[Sort.grow,World.drewN]) rfl;refine ⟨_,_,E,S,rfl,⟨rfl,rfl⟩,?_,g1,g2 _,qtH _⟩;rw[show Lib.itoa (n:Int)=dig n by unfold Lib.itoa dig;simp];exact VR.str _
theorem qaj{rs:List RV}{n:Nat}{R:V→St→Prop}{e:Env}{S:St}{vs:List V}(h:rvs e S rs=some vs)(g:R (retV vs) S):endp rs n R .ret e S:=⟨vs,h,_,_,qa1.refl _ _ _,g⟩
theorem qaN{rs:List RV}{n:Nat}{R:V→St→Prop}{e:Env}{S:St}{vs:List V}(h:rvs e S rs=some vs)(g:R (retV vs) S):endp rs n R .normal e S:=⟨vs,h,_,_,qa1.refl _ _ _,g⟩
abbrev Fn(P:Program)(k:Nat)(args:List V)(S:St)(r:V):Prop:=Spec P k args S (fun v U=>v=r∧U=S)
def qiw(P:Program)(k:Nat)(args:List V)(S:St)(Φ:V→St→Prop):Prop:=∃R,Spec P k args S R∧∀v S',R v S'→Φ v S'
def wyld(P:Program)(l:Nat)(args:List V)(S:St)(Φ:V→St→Prop):Prop:=∃R,qbS P l args S R∧∀v S',R v S'→Φ v S'
def qj7(P:Program)(os:List O')(Q:Env→St→Prop)(e:Env)(d:Option Nat)(v:V)(S:St):Prop:=wops P os Q (e.put d v) S
def wres(r:Option (V×St))(P:Program)(d:Option Nat)(k:K)(os:List O')(Q:Env→St→Prop)(e:Env)(S:St):Prop:=match r with
 | some (r,S')=>wops P os Q (e.put d r) S'
 | none=>(ndK e k≠[]∧∀v,v∈ndK e k→wops P os Q (e.put d v) S)∨(ndS e S k≠[]∧∀q,q∈ndS e S k→wops P os Q (e.put d q.1) q.2)
def wgd(g:Option Bool)(P:Program)(d:Option Nat)(k:K)(os:List O')(Q:Env→St→Prop)(e:Env)(S:St):Prop:=match g with
 | none=>False
 | some false=>wops P os Q (e.put d (.tup [])) S
 | some true=>wops P (⟨d,none,k⟩::os) Q e S
def wcnd(c:Option V)(P:Program)(a b:C')(Q:Post)(e:Env)(S:St):Prop:=match c with
 | some (.bool true)=>WP P a Q e S
 | some (.bool false)=>WP P b Q e S
 | _=>False
def wtgt(f:Option V)(vs:Option (List V))(P:Program)(d:Option Nat)(os:List O')(Q:Env→St→Prop)(e:Env)(S:St):Prop:=match f,vs with
 | some (.fn (.func k) fs cs),some vs=>qiw P k (fs++vs++cs) S (qj7 P os Q e d)
 | some (.yld l),some vs=>wyld P l vs S (qj7 P os Q e d)
 | _,_=>False
theorem qod{P:Program}{os:List O'}{Q:Env→St→Prop}{e:Env}{d:Option Nat}{v:V}{S:St}:qj7 P os Q e d v S=wops P os Q (e.put d v) S:=(rfl)
theorem qmW{P:Program}{d:Option Nat}{k:K}{os:List O'}{Q:Env→St→Prop}{e:Env}{r:V}{S S':St}:wres (some (r,S')) P d k os Q e S=wops P os Q (e.put d r) S':=(rfl)
theorem qno{P:Program}{d:Option Nat}{k:K}{os:List O'}{Q:Env→St→Prop}{e:Env}{S:St}:wgd (some false) P d k os Q e S=wops P os Q (e.put d (.tup [])) S:=(rfl)
theorem qoo{P:Program}{d:Option Nat}{k:K}{os:List O'}{Q:Env→St→Prop}{e:Env}{S:St}:wgd (some true) P d k os Q e S=wops P (⟨d,none,k⟩::os) Q e S:=(rfl)
theorem ql5{P:Program}{a b:C'}{Q:Post}{e:Env}{S:St}:wcnd (some (.bool true)) P a b Q e S=WP P a Q e S:=(rfl)
theorem qjO{P:Program}{a b:C'}{Q:Post}{e:Env}{S:St}:wcnd (some (.bool false)) P a b Q e S=WP P b Q e S:=(rfl)
theorem qqp{P:Program}{k:Nat}{fs cs vs:List V}{d:Option Nat}{os:List O'}{Q:Env→St→Prop}{e:Env}{S:St}:wtgt (some (.fn (.func k) fs cs)) (some vs) P d os Q e S=qiw P k (fs++vs++cs) S (qj7 P os Q e d):=(rfl)
theorem qoz{P:Program}{l:Nat}{vs:List V}{d:Option Nat}{os:List O'}{Q:Env→St→Prop}{e:Env}{S:St}:wtgt (some (.yld l)) (some vs) P d os Q e S=wyld P l vs S (qj7 P os Q e d):=(rfl)
theorem qoD{P:Program}{Q:Env→St→Prop}{e:Env}{S:St}:wops P [] Q e S=Q e S:=(rfl)
theorem qko{P:Program}{d:Option Nat}{g:Nat×Bool}{k:K}{os:List O'}{Q:Env→St→Prop}{e:Env}{S:St}:wops P (⟨d,some g,k⟩::os) Q e S=wgd (qaX e (some g)) P d k os Q e S:=by
 unfold wgd
 cases h:qaX e (some g) with
 | none=>simp only[wops,h]
 | some b=>cases b <;> simp only[wops,h] <;> rfl
theorem qnh{P:Program}{d:Option Nat}{f:Opd}{args:List Opd}{os:List O'}{Q:Env→St→Prop}{e:Env}{S:St}:wops P (⟨d,none,.call f args⟩::os) Q e S=wtgt (f.ev e) (evs e args) P d os Q e S:=(rfl)
theorem qkD{P:Program}{d:Option Nat}{k:K}{os:List O'}{Q:Env→St→Prop}{e:Env}{S:St}(h:∀f args,k≠.call f args):wops P (⟨d,none,k⟩::os) Q e S=wres (evK e S k) P d k os Q e S:=by
 cases k <;> first|rfl|exact absurd rfl (h _ _)
theorem qag{P:Program}{k:Nat}{args:List V}{S:St}{r:V}{Φ:V→St→Prop}(h:Fn P k args S r)(g:Φ r S):qiw P k args S Φ:=
 ⟨_,h,fun _ _ hh=>by obtain ⟨rfl,rfl⟩:=hh;exact g⟩
theorem qan{P:Program}{k:Nat}{args:List V}{S:St}{R:V→St→Prop}{Φ:V→St→Prop}(h:Spec P k args S R)(g:∀v U,R v U→Φ v U):qiw P k args S Φ:=⟨_,h,g⟩
theorem qmJ{P:Program}{Q:Post}{e:Env}{S:St}:WP P .skip Q e S=Q .normal e S:=(rfl)
theorem qsQ{P:Program}{ops:List O'}{Q:Post}{e:Env}{S:St}:WP P (.reg ops) Q e S=wops P ops (Q .normal) e S:=(rfl)
theorem qjg{P:Program}{a b:C'}{Q:Post}{e:Env}{S:St}:WP P (.seq a b) Q e S=WP P a (qdQ (WP P b Q) Q) e S:=(rfl)
theorem qp4{P:Program}{c:Opd}{a b:C'}{Q:Post}{e:Env}{S:St}:WP P (.cond c a b) Q e S=wcnd (c.ev e) P a b Q e S:=by
 unfold wcnd;simp only[WP]
 cases c.ev e with
 | none=>rfl
 | some v=>cases v <;> first|rfl|(rename_i b;cases b <;> simp)
theorem qiO{P:Program}{id:Nat}{c:C'}{Q:Post}{e:Env}{S:St}:WP P (.block id c) Q e S=WP P c (qdr id Q) e S:=(rfl)
theorem qiT{P:Program}{c:C'}{Q:Post}{e:Env}{S:St}:WP P (.scope c) Q e S=WP P c (qeQ Q) e S:=(rfl)
theorem qrv{P:Program}{id:Nat}{Q:Post}{e:Env}{S:St}:WP P (.exit id) Q e S=Q (.exit id) e S:=(rfl)
theorem qsE{P:Program}{Q:Post}{e:Env}{S:St}:WP P .ret Q e S=Q .ret e S:=(rfl)
theorem qap{P:Program}{c:C'}{Q:Post}{e:Env}{S:St}(I:Nat→Env→St→Prop)(n0:Nat)(e0:Env)(hs:Env.sub e0 e)(h0:I n0 e0 S)
 (h:∀n e S,I n e S→WP P c (qdQ (fun e S=>∃n',n'<n∧∃e',Env.sub e' e∧I n' e' S) Q) e S):WP P (.loop c) Q e S:=⟨I,n0,⟨e0,hs,h0⟩,h⟩
theorem qeV{N:Env→St→Prop}{Q:Post}{e:Env}{S:St}:qdQ N Q .normal e S=N e S:=(rfl)
theorem Env.sub_nil(e:Env):Env.sub [] e:=fun t v h=>by simp[Env.get] at h
theorem Env.sub_cons{e e':Env}{k:Nat}{v:V}(h:e.get k=some v)(g:Env.sub e' e):Env.sub ((k,v)::e') e:=fun t u hu=>by
 simp only[Env.get] at hu;split at hu
 ·rename_i hk;subst hk;cases hu;exact h
 ·exact g _ _ hu
@[simp] def Env.sa:Env→Env→Prop
 | [],_=>True
 | (k,v)::r,e=>e.get k=some v∧Env.sa r e
theorem Env.so:∀{a e:Env},Env.sa a e→Env.sub a e
 | [],e,_=>Env.sub_nil e
 | (k,v)::r,e,h=>Env.sub_cons h.1 (Env.so h.2)
theorem qaz{n:Int}(h0:-9223372036854775808≤n)(h1:n≤9223372036854775807):IntKind.i64.wrap n=n:=by rw[IntKind.wrap_i64];omega
theorem qaK{n:Int}(h0:-9223372036854775808≤n:=by omega)(h1:n≤9223372036854775807:=by omega):IntKind.i64.wrap n=n:=qaz h0 h1
theorem qhM(a b:ByteArray):qg6 a b=decide (a=b):=by
 unfold qg6;by_cases h:a=b
 ·subst h;simp
 ·have:¬ a.toList=b.toList:=fun hh=>h (by
   rw[qbW,qbW] at hh;exact ByteArray.ext (Array.ext' hh))
  simp[h,this]
theorem qdp{l:List ByteArray}{i:Nat}(h:i<l.length)(b:Bool)(S:St):iaS S 1 (.sl b (l.map .str)) i=some (.iptr (.str l[i]) 0):=by simp[iaS,h,V.size,V.cells]
theorem qtp(s:ByteArray)(S:St):ldS S (.iptr (.str s) 0) none=some (.str s):=rfl
theorem qn0(a b:ByteArray):strV .eql a b=some (.bool (decide (a=b))):=by simp[strV,qhM]
theorem qop(a b:ByteArray):strV .neq a b=some (.bool (!decide (a=b))):=by simp[strV,qhM]
theorem idxS{s:ByteArray}{i:Nat}(h:i<s.size):idxV s i=some (.int .u8 (s.data[i]'h).toNat):=by
 have h1:(s[(i:Int).toNat]?:Option UInt8)=some s[i]:=getElem?_pos s i h;unfold idxV;rw[h1];simp[ByteArray.getElem_eq_getElem_data]
theorem qsn{s:ByteArray}(h:0<s.size):idxV s 0=some (.int .u8 (s.data[0]'h).toNat):=by
 have:=idxS h;simpa using this
attribute [simp] qmJ qsQ qjg qp4 qiO qiT qrv qsE qod qmW qno qoo ql5 qjO qqp qoz qoD qko qnh qkD qeV qdQ qdr
 qaX evK evs Opd.ev Env.get Env.put qbB binV intV unV rvs retV qtp qn0 qop
def c21:F':=⟨26,[.t 2],
 .seq (.reg [.o 2 (.mv (.c (.bool false)))])
 (.seq (.seq (.reg [.m 3 0,
 .o 4 (.len true (.t 3)),
 .u 5 .lss 4 1,
 .m 6 5,
 .v 7 6 false (.mv (.t 0)),
 .v 8 6 false (.len true (.t 7)),
 .v 9 6 false (.bin .gtr (.t 8) (.c (.int .i64 16))),
 .z 10 6 9,
 .m 11 10,
 .v 12 11 false (.mv (.t 0)),
 .v 13 11 false (.idx (.t 12) (.c (.int .i64 0))),
 .v 14 11 false (.call (.f 64) [(.t 13)]),
 .v 15 11 false (.un .not (.t 14)),
 .z 16 11 15,
 .m 17 16,
 .v 18 17 false (.mv (.t 0)),
 .v 19 17 false (.call (.f 65) [(.t 18)]),
 .z 20 17 19])
 (.cond (.t 20)
 (.seq (.reg [.o 2 (.mv (.c (.bool false)))])
 (.ret))
 (.skip)))
 (.seq (.reg [.m 21 0,
 .o 22 (.call (.f 66) [(.t 21),(.c (.int .i64 0))]),
 .m 23 0,
 .o 24 (.len true (.t 23)),
 .b 25 .eql 22 24,
 .m 2 25])
 (.ret)))⟩
theorem ok21:oF Tryz.f21 c21:=oI (by kernel_rfl)
def c94:F':=⟨23,[.t 2],
 .seq (.reg [.o 2 (.mv (.c (.str ⟨⟨[]⟩⟩)))])
 (.seq (.reg [.m 4 0,
 .u 5 .rem 4 10,
 .o 6 (.bin .add (.c (.int .i64 48)) (.t 5)),
 .o 7 (.conv .u8 (.t 6)),
 .o 8 (.bsl 1 [(.t 7)]),
 .o 9 (.ex (.cts (.t 8))),
 .m 3 9])
 (.seq (.block 0 (.loop (.seq (.seq (.reg [.m 10 0,
 .u 11 .gtr 10 9])
 (.cond (.t 11)
 (.skip)
 (.exit 0)))
 (.block 1 (.seq (.reg [.m 12 0,
 .u 13 .quo 12 10,
 .m 0 13])
 (.reg [.m 14 0,
 .u 15 .rem 14 10,
 .o 16 (.bin .add (.c (.int .i64 48)) (.t 15)),
 .o 17 (.conv .u8 (.t 16)),
 .o 18 (.bsl 1 [(.t 17)]),
 .o 19 (.ex (.cts (.t 18))),
 .m 20 3,
 .b 21 .add 19 20,
 .m 3 21]))))))
 (.seq (.reg [.m 22 3,
 .m 2 22])
 (.ret))))⟩
theorem ok94:oF Tryz.f94 c94:=oI (by kernel_rfl)
def c34:F':=⟨18,[.t 4],
 .seq (.reg [.o 4 (.mv (.c (.bool false)))])
 (.seq (.seq (.reg [.o 5 (.mv (.c (.int .i64 0)))])
 (.block 0 (.loop (.seq (.seq (.reg [.m 6 5,
 .m 7 0,
 .o 8 (.len false (.t 7)),
 .b 9 .lss 6 8])
 (.cond (.t 9)
 (.skip)
 (.exit 0)))
 (.seq (.block 1 (.seq (.reg [.m 12 0,
 .m 13 5,
 .i 14 1 12 13,
 .l 15 14,
 .m 16 1,
 .b 17 .eql 15 16])
 (.cond (.t 17)
 (.seq (.reg [.o 4 (.mv (.c (.bool true)))])
 (.ret))
 (.skip))))
 (.reg [.m 10 5,
 .u 11 .add 10 1,
 .m 5 11]))))))
 (.seq (.reg [.o 4 (.mv (.c (.bool false)))])
 (.ret)))⟩
theorem ok34:oF Tryz.f34 c34:=oI (by kernel_rfl)
def c64:F':=⟨9,[.t 2],
 .seq (.reg [.o 2 (.mv (.c (.bool false)))])
 (.seq (.reg [.m 3 0,
 .o 4 (.bin .leq (.c (.int .u8 97)) (.t 3)),
 .m 5 4,
 .v 6 5 true (.mv (.t 0)),
 .v 7 5 true (.bin .leq (.t 6) (.c (.int .u8 122))),
 .y 8 5 7,
 .m 2 8])
 (.ret))⟩
theorem ok64:oF Tryz.f64 c64:=oI (by kernel_rfl)
def c65:F':=⟨6,[.t 2],
 .seq (.reg [.o 2 (.mv (.c (.bool false)))])
 (.seq (.reg [.m 3 0,
 .o 4 (.call (.f 115) []),
 .o 5 (.call (.f 114) [(.t 3),(.t 4)]),
 .m 2 5])
 (.ret))⟩
theorem ok65:oF Tryz.f65 c65:=oI (by kernel_rfl)
def c66:F':=⟨24,[.t 4],
 .seq (.reg [.o 4 (.mv (.c (.int .i64 0)))])
 (.seq (.block 0 (.loop (.seq (.seq (.reg [.m 5 1,
 .m 6 0,
 .o 7 (.len true (.t 6)),
 .b 8 .lss 5 7,
 .m 9 8,
 .v 10 9 true (.mv (.t 0)),
 .v 11 9 true (.mv (.t 1)),
 .v 12 9 true (.idx (.t 10) (.t 11)),
 .v 13 9 true (.call (.f 64) [(.t 12)]),
 .v 14 9 true (.mv (.t 13)),
 .v 15 14 false (.mv (.t 0)),
 .v 16 14 false (.mv (.t 1)),
 .v 17 14 false (.idx (.t 15) (.t 16)),
 .v 18 14 false (.call (.f 116) [(.t 17)]),
 .v 19 9 true (.pick (.t 14) (.c (.bool true)) (.t 18)),
 .y 20 9 19])
 (.cond (.t 20)
 (.skip)
 (.exit 0)))
 (.block 1 (.reg [.m 21 1,
 .u 22 .add 21 1,
 .m 1 22])))))
 (.seq (.reg [.m 23 1,
 .m 4 23])
 (.ret)))⟩
theorem ok66:oF Tryz.f66 c66:=oI (by kernel_rfl)
def c115:F':=⟨2,[.t 0],
 .seq (.reg [.o 0 (.mv (.c (.sl true [])))])
 (.seq (.reg [.o 1 (.bsl 1 [(.c (.str ⟨⟨[98,101,103,105,110]⟩⟩)),(.c (.str ⟨⟨[101,110,100]⟩⟩)),(.c (.str ⟨⟨[105,102]⟩⟩)),(.c (.str ⟨⟨[116,104,101,110]⟩⟩)),(.c (.str ⟨⟨[101,108,115,101]⟩⟩)),(.c (.str ⟨⟨[102,111,114]⟩⟩)),(.c (.str ⟨⟨[100,111]⟩⟩)),(.c (.str ⟨⟨[115,116,101,112]⟩⟩)),(.c (.str ⟨⟨[117,110,116,105,108]⟩⟩)),(.c (.str ⟨⟨[119,104,105,108,101]⟩⟩)),(.c (.str ⟨⟨[103,111,116,111]⟩⟩)),(.c (.str ⟨⟨[111,119,110]⟩⟩)),(.c (.str ⟨⟨[105,110,116,101,103,101,114]⟩⟩)),(.c (.str ⟨⟨[114,101,97,108]⟩⟩)),(.c (.str ⟨⟨[98,111,111,108,101,97,110]⟩⟩)),(.c (.str ⟨⟨[97,114,114,97,121]⟩⟩)),(.c (.str ⟨⟨[115,119,105,116,99,104]⟩⟩)),(.c (.str ⟨⟨[112,114,111,99,101,100,117,114,101]⟩⟩)),(.c (.str ⟨⟨[118,97,108,117,101]⟩⟩)),(.c (.str ⟨⟨[108,97,98,101,108]⟩⟩)),(.c (.str ⟨⟨[115,116,114,105,110,103]⟩⟩)),(.c (.str ⟨⟨[116,114,117,101]⟩⟩)),(.c (.str ⟨⟨[102,97,108,115,101]⟩⟩)),(.c (.str ⟨⟨[99,111,109,109,101,110,116]⟩⟩)),(.c (.str ⟨⟨[110,111,116]⟩⟩)),(.c (.str ⟨⟨[97,110,100]⟩⟩)),(.c (.str ⟨⟨[111,114]⟩⟩)),(.c (.str ⟨⟨[105,109,112]⟩⟩)),(.c (.str ⟨⟨[101,113,118]⟩⟩))]),
 .m 0 1])
 (.ret))⟩
theorem ok115:oF Tryz.f115 c115:=oI (by kernel_rfl)
def c114:F':=⟨18,[.t 4],
 .seq (.reg [.o 4 (.mv (.c (.bool false)))])
 (.seq (.seq (.reg [.o 5 (.mv (.c (.int .i64 0)))])
 (.block 0 (.loop (.seq (.seq (.reg [.m 6 5,
 .m 7 1,
 .o 8 (.len false (.t 7)),
 .b 9 .lss 6 8])
 (.cond (.t 9)
 (.skip)
 (.exit 0)))
 (.seq (.block 1 (.seq (.reg [.m 12 1,
 .m 13 5,
 .i 14 1 12 13,
 .l 15 14,
 .m 16 0,
 .b 17 .eql 15 16])
 (.cond (.t 17)
 (.seq (.reg [.o 4 (.mv (.c (.bool true)))])
 (.ret))
 (.skip))))
 (.reg [.m 10 5,
 .u 11 .add 10 1,
 .m 5 11]))))))
 (.seq (.reg [.o 4 (.mv (.c (.bool false)))])
 (.ret)))⟩
theorem ok114:oF Tryz.f114 c114:=oI (by kernel_rfl)
def c116:F':=⟨9,[.t 2],
 .seq (.reg [.o 2 (.mv (.c (.bool false)))])
 (.seq (.reg [.m 3 0,
 .o 4 (.bin .leq (.c (.int .u8 48)) (.t 3)),
 .m 5 4,
 .v 6 5 true (.mv (.t 0)),
 .v 7 5 true (.bin .leq (.t 6) (.c (.int .u8 57))),
 .y 8 5 7,
 .m 2 8])
 (.ret))⟩
theorem ok116:oF Tryz.f116 c116:=oI (by kernel_rfl)
def isL(c:Int):Bool:=decide (97≤c) && decide (c≤122)
def isD(c:Int):Bool:=decide (48≤c) && decide (c≤57)
theorem qnp(c:Int)(S:St):Fn prog 102 [.int .u8 c] S (.bool (isL c)):=by
 refine Spec.intro func102 ok102 (by simp[c102]) ?_;unfold isL;by_cases h1:97≤c <;> by_cases h2:c≤122 <;> simp[c102,h1,h2] <;> exact qaj rfl (by simp)
theorem qqw(c:Int)(S:St):Fn prog 155 [.int .u8 c] S (.bool (isD c)):=by
 refine Spec.intro func155 ok155 (by simp[c155]) ?_;unfold isD;by_cases h1:48≤c <;> by_cases h2:c≤57 <;> simp[c155,h1,h2] <;> exact qaj rfl (by simp)
theorem qo6(c:Int)(S:St):Fn prog 64 [.int .u8 c] S (.bool (isL c)):=by
 refine Spec.intro func64 ok64 (by simp[c64]) ?_;unfold isL;by_cases h1:97≤c <;> by_cases h2:c≤122 <;> simp[c64,h1,h2] <;> exact qaj rfl (by simp)
theorem qrr(c:Int)(S:St):Fn prog 116 [.int .u8 c] S (.bool (isD c)):=by
 refine Spec.intro func116 ok116 (by simp[c116]) ?_;unfold isD;by_cases h1:48≤c <;> by_cases h2:c≤57 <;> simp[c116,h1,h2] <;> exact qaj rfl (by simp)
theorem qpA(c:Int)(S:St):Fn prog 106 [.int .u8 c] S (.bool (isL c || isD c)):=by
 refine Spec.intro func106 ok106 (by simp[c106]) ?_;simp[c106];refine qag (qnp c S) ?_;cases isL c <;> simp
 ·refine qag (qqw c S) ?_
  try simp
  exact qaj rfl (by simp)
 ·exact qaj rfl (by simp)
theorem qp5(c:Int)(S:St):Fn prog 105 [.int .u8 c] S (.bool (!(isL c || isD c))):=by
 refine Spec.intro func105 ok105 (by simp[c105]) ?_;simp[c105];refine qag (qpA c S) ?_
 try simp
 exact qaj rfl (by simp)
def qlQ:List V:=[(.str ⟨⟨[98,101,103,105,110]⟩⟩),(.str ⟨⟨[101,110,100]⟩⟩),(.str ⟨⟨[105,102]⟩⟩),(.str ⟨⟨[116,104,101,110]⟩⟩),(.str ⟨⟨[101,108,115,101]⟩⟩),(.str ⟨⟨[102,111,114]⟩⟩),(.str ⟨⟨[100,111]⟩⟩),(.str ⟨⟨[115,116,101,112]⟩⟩),(.str ⟨⟨[117,110,116,105,108]⟩⟩),(.str ⟨⟨[119,104,105,108,101]⟩⟩),(.str ⟨⟨[103,111,116,111]⟩⟩),(.str ⟨⟨[111,119,110]⟩⟩),(.str ⟨⟨[105,110,116,101,103,101,114]⟩⟩),(.str ⟨⟨[114,101,97,108]⟩⟩),(.str ⟨⟨[98,111,111,108,101,97,110]⟩⟩),(.str ⟨⟨[97,114,114,97,121]⟩⟩),(.str ⟨⟨[115,119,105,116,99,104]⟩⟩),(.str ⟨⟨[112,114,111,99,101,100,117,114,101]⟩⟩),(.str ⟨⟨[118,97,108,117,101]⟩⟩),(.str ⟨⟨[108,97,98,101,108]⟩⟩),(.str ⟨⟨[115,116,114,105,110,103]⟩⟩),(.str ⟨⟨[116,114,117,101]⟩⟩),(.str ⟨⟨[102,97,108,115,101]⟩⟩),(.str ⟨⟨[99,111,109,109,101,110,116]⟩⟩),(.str ⟨⟨[110,111,116]⟩⟩),(.str ⟨⟨[97,110,100]⟩⟩),(.str ⟨⟨[111,114]⟩⟩),(.str ⟨⟨[105,109,112]⟩⟩),(.str ⟨⟨[101,113,118]⟩⟩)]
def qto:V→ByteArray
 | .str s=>s
 | _=>⟨#[]⟩
def wds:List ByteArray:=qlQ.map qto
theorem qk2:wds.map V.str=qlQ:=rfl
theorem qk6:wds.length=29:=rfl
theorem qrb(S:St):Fn prog 115 [] S (.sl true (wds.map .str)):=by
 rw[qk2];refine Spec.intro func115 ok115 (by simp[c115]) ?_;show endp c115.rs S.length _ .ret [(0,.sl true qlQ),(1,.sl true qlQ),(0,.sl true [])] S;exact qaj (vs:=[.sl true qlQ]) rfl ⟨rfl,rfl⟩
theorem qpD(b:Bool)(l:List ByteArray)(s:ByteArray)(S:St)(hl:l.length≤1000000):Spec prog 184 [.sl b (l.map .str),.str s] S (fun v U=>(∃i:Int,v=.int .i64 i∧(0≤i↔s∈l))∧U=S):=by
 refine Spec.intro func184 ok184 (by simp[c184]) ?_;simp[c184];refine qap (fun n e S'=>∃i:Nat,n=l.length - i∧i≤l.length∧(∀j,(h:j<l.length)→j<i→l[j]≠s)∧S'=S∧
  e=[(8,.int .i64 i),(7,.int .i64 l.length),(4,.int .i64 0),(0,.sl b (l.map .str)),(1,.str s)]) l.length _ ?_ ⟨0,by simp,by omega,by omega,rfl,rfl⟩ ?_
 ·exact Env.so (by simp)
 rintro n e S' ⟨i,rfl,hi,hno,rfl,rfl⟩;by_cases h:i<l.length
 ·by_cases he:s=l[i]
  ·simp[h,qdp,he];exact qaj rfl ⟨⟨i,rfl,by simp⟩,rfl⟩
  ·simp[h,qdp,he,qaK (n:=(i:Int)+1)];refine ⟨_,?_,_,?_,i+1,rfl,by omega,fun j hj hji=>?_,rfl⟩
   ·omega
   ·exact Env.so (by simp)
   ·by_cases hj':j=i
    ·subst hj';exact fun hh=>he hh.symm
    ·exact hno j hj (by omega)
 ·simp[h];refine qaj rfl ⟨⟨-1,rfl,?_⟩,rfl⟩;simp;intro hs;obtain ⟨j,hj,rfl⟩:=quI hs;exact hno j hj (by omega) rfl
def Y26:V:=(.agg [(.int .i64 1),(.int .i64 0),(.int .i64 1),(.int .i64 0),(.int .i64 0),(.str ⟨⟨[]⟩⟩),(.sl true [])])
def Y25:V:=(.agg [(.int .i64 1),(.int .i64 0),(.int .i64 2),(.int .i64 0),(.int .i64 0),(.str ⟨⟨[]⟩⟩),(.sl true [])])
def Y24:V:=(.agg [(.int .i64 6),(.int .i64 0),(.int .i64 0),(.int .i64 0),(.int .i64 0),(.str ⟨⟨[97]⟩⟩),(.sl true [])])
def Y23:V:=(.agg [(.int .i64 6),(.int .i64 0),(.int .i64 0),(.int .i64 0),(.int .i64 0),(.str ⟨⟨[107]⟩⟩),(.sl true [])])
def Y22:V:=(.agg [(.int .i64 6),(.int .i64 0),(.int .i64 0),(.int .i64 0),(.int .i64 0),(.str ⟨⟨[105]⟩⟩),(.sl true [])])
def Y21:V:=(.agg [(.int .i64 6),(.int .i64 0),(.int .i64 0),(.int .i64 0),(.int .i64 0),(.str ⟨⟨[108]⟩⟩),(.sl true [])])
def Y20:V:=(.agg [(.int .i64 1),(.bool false),(.int .i64 1),(.sl true [(.str ⟨⟨[98]⟩⟩)]),(.sl true []),(.sl true []),(.sl true [])])
def Y19:V:=(.sl true [(.agg [(.int .i64 1),(.bool false),(.int .i64 1),(.sl true [(.str ⟨⟨[120]⟩⟩)]),(.sl true []),(.sl true []),(.sl true [])])])
def Y18:V:=(.sl true [(.agg [(.int .i64 1),(.bool false),(.int .i64 1),(.sl true [(.str ⟨⟨[120,49]⟩⟩)]),(.sl true []),(.sl true []),(.sl true [])])])
def Y17:V:=(.sl false [(.agg [(.int .i64 1),(.bool false),(.int .i64 1),(.sl false [(.str ⟨⟨[120,49]⟩⟩)]),(.sl true []),(.sl true []),(.sl true [])])])
def Y16:V:=(.agg [(.int .i64 6),(.int .i64 0),(.int .i64 0),(.int .i64 0),(.int .i64 0),(.str ⟨⟨[116]⟩⟩),(.sl true [])])
def Y15:V:=(.agg [(.sl true []),(.int .i64 3),(.str ⟨⟨[]⟩⟩),(.sl true []),(.sl true [Y21]),(.sl true []),(.sl true []),(.sl true [])])
def Y14:V:=(.agg [(.sl true []),(.int .i64 0),(.str ⟨⟨[]⟩⟩),(.sl true []),(.sl true []),(.sl true []),(.sl true []),(.sl true [])])
def Y13:V:=(.agg [(.int .i64 6),(.int .i64 0),(.int .i64 0),(.int .i64 0),(.int .i64 0),(.str ⟨⟨[122]⟩⟩),(.sl true [])])
def Y12:V:=(.agg [(.int .i64 6),(.int .i64 0),(.int .i64 0),(.int .i64 0),(.int .i64 0),(.str ⟨⟨[121]⟩⟩),(.sl true [])])
def Y11:V:=(.agg [(.int .i64 6),(.int .i64 0),(.int .i64 0),(.int .i64 0),(.int .i64 0),(.str ⟨⟨[98]⟩⟩),(.sl true [])])
def Y9:V:=(.agg [(.int .i64 7),(.int .i64 0),(.int .i64 0),(.int .i64 0),(.int .i64 0),(.str ⟨⟨[113]⟩⟩),(.sl true [Y22])])
def Y8:V:=(.agg [(.int .i64 10),(.int .i64 3),(.int .i64 0),(.int .i64 0),(.int .i64 0),(.str ⟨⟨[]⟩⟩),(.sl true [Y23,Y26])])
def Y4:V:=(.agg [(.int .i64 6),(.int .i64 0),(.int .i64 0),(.int .i64 0),(.int .i64 0),(.str ⟨⟨[120,49]⟩⟩),(.sl true [])])
def Y3:V:=(.agg [(.int .i64 6),(.int .i64 0),(.int .i64 0),(.int .i64 0),(.int .i64 0),(.str ⟨⟨[120]⟩⟩),(.sl true [])])
def Y2:V:=(.agg [(.int .i64 4),(.bool false),(.int .i64 0),(.sl true [(.str ⟨⟨[112]⟩⟩)]),(.sl true []),(.sl true [(.agg [(.str ⟨⟨[97]⟩⟩),(.bool false),(.int .i64 0),(.int .i64 0)]),(.agg [(.str ⟨⟨[98]⟩⟩),(.bool true),(.int .i64 1),(.int .i64 1)])]),(.sl true [(.agg [(.sl true []),(.int .i64 7),(.str ⟨⟨[]⟩⟩),(.sl true []),(.sl true []),(.sl true []),Y19,(.sl true [(.agg [(.sl true []),(.int .i64 2),(.str ⟨⟨[]⟩⟩),(.sl true [Y3]),(.sl true [Y11]),(.sl true []),(.sl true []),(.sl true [])]),(.agg [(.sl true []),(.int .i64 2),(.str ⟨⟨[]⟩⟩),(.sl true [Y24]),(.sl true [(.agg [(.int .i64 10),(.int .i64 3),(.int .i64 0),(.int .i64 0),(.int .i64 0),(.str ⟨⟨[]⟩⟩),(.sl true [Y24,Y3])])]),(.sl true []),(.sl true []),(.sl true [])])])])])])
def Y1:V:=(.agg [(.sl true []),(.int .i64 7),(.str ⟨⟨[]⟩⟩),(.sl true []),(.sl true []),(.sl true []),(.sl true [(.agg [(.int .i64 1),(.bool false),(.int .i64 1),(.sl true [(.str ⟨⟨[116]⟩⟩)]),(.sl true []),(.sl true []),(.sl true [])])]),(.sl true [(.agg [(.sl true []),(.int .i64 2),(.str ⟨⟨[]⟩⟩),(.sl true [Y16]),(.sl true [Y12]),(.sl true []),(.sl true []),(.sl true [])]),(.agg [(.sl true [(.str ⟨⟨[109]⟩⟩)]),(.int .i64 8),(.str ⟨⟨[]⟩⟩),(.sl true []),(.sl true []),(.sl true []),(.sl true []),(.sl true [(.agg [(.sl true []),(.int .i64 2),(.str ⟨⟨[]⟩⟩),(.sl true [Y16]),(.sl true [(.agg [(.int .i64 10),(.int .i64 3),(.int .i64 0),(.int .i64 0),(.int .i64 0),(.str ⟨⟨[]⟩⟩),(.sl true [Y16,Y13])])]),(.sl true []),(.sl true []),(.sl true [])]),(.agg [(.sl true []),(.int .i64 3),(.str ⟨⟨[]⟩⟩),(.sl true []),(.sl true [(.agg [(.int .i64 6),(.int .i64 0),(.int .i64 0),(.int .i64 0),(.int .i64 0),(.str ⟨⟨[109]⟩⟩),(.sl true [])])]),(.sl true []),(.sl true []),(.sl true [])])])])])])
def Y0:V:=(.agg [(.sl true []),(.int .i64 7),(.str ⟨⟨[]⟩⟩),(.sl true []),(.sl true []),(.sl true []),Y19,(.sl true [(.agg [(.sl true []),(.int .i64 2),(.str ⟨⟨[]⟩⟩),(.sl true [Y3]),(.sl true [Y12]),(.sl true []),(.sl true []),(.sl true [])]),(.agg [(.sl true [(.str ⟨⟨[108]⟩⟩)]),(.int .i64 8),(.str ⟨⟨[]⟩⟩),(.sl true []),(.sl true []),(.sl true []),(.sl true []),(.sl true [(.agg [(.sl true []),(.int .i64 2),(.str ⟨⟨[]⟩⟩),(.sl true [Y3]),(.sl true [(.agg [(.int .i64 10),(.int .i64 3),(.int .i64 0),(.int .i64 0),(.int .i64 0),(.str ⟨⟨[]⟩⟩),(.sl true [Y3,Y13])])]),(.sl true []),(.sl true []),(.sl true [])]),Y15])])])])
def Y10:V:=(.agg [(.int .i64 10),(.int .i64 5),(.int .i64 0),(.int .i64 0),(.int .i64 0),(.str ⟨⟨[]⟩⟩),(.sl true [Y3,Y25])])
def Y7:V:=(.agg [(.sl true []),(.int .i64 7),(.str ⟨⟨[]⟩⟩),(.sl true []),(.sl true []),(.sl true []),Y18,(.sl true [(.agg [(.sl true []),(.int .i64 2),(.str ⟨⟨[]⟩⟩),(.sl true [Y4]),(.sl true [Y10]),(.sl true []),(.sl true []),(.sl true [])]),(.agg [(.sl true [(.str ⟨⟨[108]⟩⟩)]),(.int .i64 8),(.str ⟨⟨[]⟩⟩),(.sl true []),(.sl true []),(.sl true []),(.sl true []),(.sl true [(.agg [(.sl true []),(.int .i64 2),(.str ⟨⟨[]⟩⟩),(.sl true [Y4]),(.sl true [(.agg [(.int .i64 10),(.int .i64 3),(.int .i64 0),(.int .i64 0),(.int .i64 0),(.str ⟨⟨[]⟩⟩),(.sl true [Y4,Y9])])]),(.sl true []),(.sl true []),(.sl true [])]),Y15])])])])
def Y6:V:=(.agg [(.sl true []),(.int .i64 7),(.str ⟨⟨[]⟩⟩),(.sl true []),(.sl true []),(.sl true []),Y17,(.sl false [(.agg [(.sl true []),(.int .i64 2),(.str ⟨⟨[]⟩⟩),(.sl false [Y4]),(.sl false [(.agg [(.int .i64 10),(.int .i64 5),(.int .i64 0),(.int .i64 0),(.int .i64 0),(.str ⟨⟨[]⟩⟩),(.sl false [Y3,Y25])])]),(.sl true []),(.sl true []),(.sl true [])]),(.agg [(.sl false [(.str ⟨⟨[108]⟩⟩)]),(.int .i64 8),(.str ⟨⟨[]⟩⟩),(.sl true []),(.sl true []),(.sl true []),(.sl true []),(.sl false [(.agg [(.sl true []),(.int .i64 2),(.str ⟨⟨[]⟩⟩),(.sl false [Y4]),(.sl false [(.agg [(.int .i64 10),(.int .i64 3),(.int .i64 0),(.int .i64 0),(.int .i64 0),(.str ⟨⟨[]⟩⟩),(.sl false [Y4,(.agg [(.int .i64 7),(.int .i64 0),(.int .i64 0),(.int .i64 0),(.int .i64 0),(.str ⟨⟨[113]⟩⟩),(.sl false [Y22])])])])]),(.sl true []),(.sl true []),(.sl true [])]),(.agg [(.sl true []),(.int .i64 3),(.str ⟨⟨[]⟩⟩),(.sl true []),(.sl false [Y21]),(.sl true []),(.sl true []),(.sl true [])])])])])])
def Y5:V:=(.agg [(.sl true []),(.int .i64 7),(.str ⟨⟨[]⟩⟩),(.sl true []),(.sl true []),(.sl true []),(.sl false [Y20]),(.sl false [(.agg [(.sl true []),(.int .i64 2),(.str ⟨⟨[]⟩⟩),(.sl true [Y11]),(.sl true [(.agg [(.int .i64 10),(.int .i64 3),(.int .i64 0),(.int .i64 0),(.int .i64 0),(.str ⟨⟨[]⟩⟩),(.sl false [Y23,Y26])])]),(.sl true []),(.sl true []),(.sl true [])]),(.agg [(.sl true []),(.int .i64 7),(.str ⟨⟨[]⟩⟩),(.sl true []),(.sl true []),(.sl true []),Y17,(.sl false [(.agg [(.sl true []),(.int .i64 2),(.str ⟨⟨[]⟩⟩),(.sl false [Y4]),(.sl false [Y11]),(.sl true []),(.sl true []),(.sl true [])]),(.agg [(.sl true []),(.int .i64 2),(.str ⟨⟨[]⟩⟩),(.sl false [Y3]),(.sl false [(.agg [(.int .i64 10),(.int .i64 3),(.int .i64 0),(.int .i64 0),(.int .i64 0),(.str ⟨⟨[]⟩⟩),(.sl false [Y3,Y4])])]),(.sl true []),(.sl true []),(.sl true [])])])])])])
def prs0:List Pr:=[]
theorem qk1:∀p,p∈prs0→p.ok prog:=fun p hp=>by cases hp
def pr1:Pr:=⟨53,[(.str ⟨⟨[120]⟩⟩),(.str ⟨⟨[108]⟩⟩),Y12,Y13],Y0⟩
theorem qs6:pr1.ok prog:=Pr.run (qbq qk1) 200 (by decide+kernel)
def prs1:List Pr:=pr1::prs0
theorem qmC:∀p,p∈prs1→p.ok prog:=qaF qs6 qk1
def pr2:Pr:=⟨153,[],(.sl false [(.str ⟨⟨[98,101,103,105,110]⟩⟩),(.str ⟨⟨[101,110,100]⟩⟩),(.str ⟨⟨[105,102]⟩⟩),(.str ⟨⟨[116,104,101,110]⟩⟩),(.str ⟨⟨[101,108,115,101]⟩⟩),(.str ⟨⟨[102,111,114]⟩⟩),(.str ⟨⟨[100,111]⟩⟩),(.str ⟨⟨[115,116,101,112]⟩⟩),(.str ⟨⟨[117,110,116,105,108]⟩⟩),(.str ⟨⟨[119,104,105,108,101]⟩⟩),(.str ⟨⟨[103,111,116,111]⟩⟩),(.str ⟨⟨[111,119,110]⟩⟩),(.str ⟨⟨[105,110,116,101,103,101,114]⟩⟩),(.str ⟨⟨[114,101,97,108]⟩⟩),(.str ⟨⟨[98,111,111,108,101,97,110]⟩⟩),(.str ⟨⟨[97,114,114,97,121]⟩⟩),(.str ⟨⟨[115,119,105,116,99,104]⟩⟩),(.str ⟨⟨[112,114,111,99,101,100,117,114,101]⟩⟩),(.str ⟨⟨[118,97,108,117,101]⟩⟩),(.str ⟨⟨[108,97,98,101,108]⟩⟩),(.str ⟨⟨[115,116,114,105,110,103]⟩⟩),(.str ⟨⟨[116,114,117,101]⟩⟩),(.str ⟨⟨[102,97,108,115,101]⟩⟩),(.str ⟨⟨[99,111,109,109,101,110,116]⟩⟩),(.str ⟨⟨[110,111,116]⟩⟩),(.str ⟨⟨[97,110,100]⟩⟩),(.str ⟨⟨[111,114]⟩⟩),(.str ⟨⟨[105,109,112]⟩⟩),(.str ⟨⟨[101,113,118]⟩⟩)])⟩
theorem qoW:pr2.ok prog:=Pr.run (qbq qmC) 200 (by decide+kernel)
def prs2:List Pr:=pr2::prs1
theorem qmw:∀p,p∈prs2→p.ok prog:=qaF qoW qmC
def pr3:Pr:=⟨57,[(.str ⟨⟨[120]⟩⟩)],(.bool true)⟩
theorem qsy:pr3.ok prog:=Pr.run (qbq qmw) 200 (by decide+kernel)
def prs3:List Pr:=pr3::prs2
theorem qlJ:∀p,p∈prs3→p.ok prog:=qaF qsy qmw
def pr4:Pr:=⟨57,[(.str ⟨⟨[121]⟩⟩)],(.bool true)⟩
theorem qr7:pr4.ok prog:=Pr.run (qbq qlJ) 200 (by decide+kernel)
def prs4:List Pr:=pr4::prs3
theorem qk4:∀p,p∈prs4→p.ok prog:=qaF qr7 qlJ
def pr5:Pr:=⟨57,[(.str ⟨⟨[108]⟩⟩)],(.bool true)⟩
theorem qsJ:pr5.ok prog:=Pr.run (qbq qk4) 200 (by decide+kernel)
def prs5:List Pr:=pr5::prs4
theorem qk5:∀p,p∈prs5→p.ok prog:=qaF qsJ qk4
def pr6:Pr:=⟨57,[(.str ⟨⟨[122]⟩⟩)],(.bool true)⟩
theorem qti:pr6.ok prog:=Pr.run (qbq qk5) 200 (by decide+kernel)
def prs6:List Pr:=pr6::prs5
theorem qlF:∀p,p∈prs6→p.ok prog:=qaF qti qk5
def isIn(s:ByteArray)(l:List ByteArray):Bool:=l.any fun x=>decide (x=s)
theorem qd2{s:ByteArray}{l:List ByteArray}:isIn s l=true↔s∈l:=by simp[isIn]
theorem qg3{s:ByteArray}{l:List ByteArray}:isIn s l=false↔s∉l:=by rw[←qd2];simp
theorem qrp(b:Bool)(l:List ByteArray)(s:ByteArray)(S:St)(hl:l.length≤1000000):Fn prog 152 [.sl b (l.map .str),.str s] S (.bool (isIn s l)):=by
 refine Spec.intro func152 ok152 (by simp[c152]) ?_;simp[c152];refine qan (qpD b l s S hl) ?_;rintro v S' ⟨⟨i,rfl,hi⟩,rfl⟩;simp;exact qaj rfl ⟨by simp only[retV,V.bool.injEq];rw[qui,qd2,←hi];simp,rfl⟩
theorem qp0(S:St):Fn prog 153 [] S (.sl false (wds.map .str)):=by
 rw[qk2];exact qoW S
theorem qra(s:ByteArray)(S:St):Fn prog 103 [.str s] S (.bool (isIn s wds)):=by
 refine Spec.intro func103 ok103 (by simp[c103]) ?_;simp[c103];refine qag (qp0 S) ?_;refine qag (qrp false wds s S (by rw[qk6];omega)) ?_;exact qaj rfl ⟨rfl,rfl⟩
theorem qrG(b:Bool)(l:List ByteArray)(s:ByteArray)(S:St)(hl:l.length≤1000000):Fn prog 114 [.str s,.sl b (l.map .str)] S (.bool (isIn s l)):=by
 refine Spec.intro func114 ok114 (by simp[c114]) ?_;simp[c114];refine qap (fun n e S'=>∃i:Nat,n=l.length - i∧i≤l.length∧(∀j,(h:j<l.length)→j<i→l[j]≠s)∧S'=S∧
  e=[(5,.int .i64 i),(4,.bool false),(0,.str s),(1,.sl b (l.map .str))]) l.length _ ?_ ⟨0,by simp,by omega,by omega,rfl,rfl⟩ ?_
 ·exact Env.so (by simp)
 rintro n e S' ⟨i,rfl,hi,hno,rfl,rfl⟩;by_cases h:i<l.length
 ·by_cases he:l[i]=s
  ·simp[h,qdp,he];exact qaj rfl ⟨by rw[qd2.2 (by rw[←he];exact qtM h)];rfl,rfl⟩
  ·simp[h,qdp,he,qaK (n:=(i:Int)+1)];refine ⟨_,?_,_,?_,i+1,rfl,by omega,fun j hj hji=>?_,rfl⟩
   ·omega
   ·exact Env.so (by simp)
   ·by_cases hj':j=i
    ·subst hj';exact he
    ·exact hno j hj (by omega)
 ·simp[h];refine qaj rfl ⟨?_,rfl⟩;rw[qg3.2]
  ·rfl
  intro hs;obtain ⟨j,hj,rfl⟩:=quI hs;exact hno j hj (by omega) rfl
theorem qsU(s:ByteArray)(S:St):Fn prog 65 [.str s] S (.bool (isIn s wds)):=by
 refine Spec.intro func65 ok65 (by simp[c65]) ?_;simp[c65];refine qag (qrb S) ?_;refine qag (qrG true wds s S (by rw[qk6];omega)) ?_;exact qaj rfl ⟨rfl,rfl⟩
def qdc(b:UInt8):Bool:=isL b.toNat || isD b.toNat
def qhO(l:List UInt8):Bool:=l.all qdc
theorem qd5{l:List UInt8}:qhO l=true↔∀i,(h:i<l.length)→qdc l[i]=true:=by
 unfold qhO;rw[qtY];exact ⟨fun hh i h=>hh _ (qtM h),fun hh x hx=>by obtain ⟨i,h,rfl⟩:=quI hx;exact hh i h⟩
def qhv(b:UInt8):V:=.int .u8 b.toNat
theorem qsf{l:List UInt8}{i:Nat}(h:i<l.length)(b:Bool)(S:St):iaS S 1 (.sl b (l.map qhv)) i=some (.iptr (qhv l[i]) 0):=by simp[iaS,h,V.size,V.cells,qhv]
theorem qst(s:UInt8)(S:St):ldS S (.iptr (qhv s) 0) none=some (qhv s):=rfl
theorem qpL(b:Bool)(l:List UInt8)(S:St)(hl:l.length≤1000000):Spec prog 154 [.sl b (l.map qhv),.fn (.func 105) [] []] S (fun v U=>(∃i:Int,v=.int .i64 i∧(0≤i↔qhO l=false))∧U=S):=by
 refine Spec.intro func154 ok154 (by simp[c154]) ?_;simp[c154];refine qap (fun n e S'=>∃i:Nat,n=l.length - i∧i≤l.length∧(∀j,(h:j<l.length)→j<i→qdc l[j]=true)∧S'=S∧
  e=[(8,.int .i64 i),(7,.int .i64 l.length),(4,.int .i64 0),(0,.sl b (l.map qhv)),(1,.fn (.func 105) [] [])]) l.length _ ?_ ⟨0,by simp,by omega,by omega,rfl,rfl⟩ ?_
 ·exact Env.so (by simp)
 rintro n e S' ⟨i,rfl,hi,hno,rfl,rfl⟩;by_cases h:i<l.length
 ·simp[h,qsf,qst];refine qag (qp5 _ S') ?_;by_cases he:qdc l[i]=true
  ·rw[show (isL l[i].toNat || isD l[i].toNat)=true from he];simp[qaK (n:=(i:Int)+1)];refine ⟨_,?_,_,?_,i+1,rfl,by omega,fun j hj hji=>?_,rfl⟩
   ·omega
   ·exact Env.so (by simp)
   ·by_cases hj':j=i
    ·subst hj';exact he
    ·exact hno j hj (by omega)
  ·have he':qdc l[i]=false:=by simpa using he
   rw[show (isL l[i].toNat || isD l[i].toNat)=false from he'];simp;refine qaj rfl ⟨⟨i,rfl,?_⟩,rfl⟩;rw[←qu9,qd5];exact ⟨fun _ hh=>he (hh i h),fun _=>by omega⟩
 ·simp[h];refine qaj rfl ⟨⟨-1,rfl,?_⟩,rfl⟩;rw[←qu9,qd5];exact ⟨fun hh=>by omega,fun hh=>absurd (fun j hj=>hno j hj (by omega)) hh⟩
theorem qqt(b:Bool)(l:List UInt8)(S:St)(hl:l.length≤1000000):Fn prog 104 [.sl b (l.map qhv),.fn (.func 105) [] []] S (.bool (!qhO l)):=by
 refine Spec.intro func104 ok104 (by simp[c104]) ?_;simp[c104];refine qan (qpL b l S hl) ?_;rintro v S' ⟨⟨i,rfl,hi⟩,rfl⟩;simp;refine qaj rfl ⟨?_,rfl⟩;simp only[retV,hi];cases qhO l <;> simp
theorem qsx(s:ByteArray)(S:St)(hl:s.size≤1000000):Spec prog 66 [.str s,.int .i64 0] S (fun v U=>(∃i:Int,v=.int .i64 i∧(i=s.size↔qhO s.data.toList=true))∧U=S):=by
 have hsz:s.data.toList.length=s.size:=by simp
 refine Spec.intro func66 ok66 (by simp[c66]) ?_;simp[c66];refine qap (fun n e S'=>∃i:Nat,n=s.size - i∧i≤s.size∧(∀j,(h:j<s.size)→j<i→qdc (s.data[j]'h)=true)∧S'=S∧
  e=[(1,.int .i64 i),(4,.int .i64 0),(0,.str s)]) s.size _ ?_ ⟨0,by simp,by omega,by omega,rfl,rfl⟩ ?_
 ·exact Env.so (by simp)
 rintro n e S' ⟨i,rfl,hi,hno,rfl,rfl⟩;by_cases h:i<s.size
 ·have hi64:=qaK (n:=(i:Int)+1)
  have hgo:∀(hn:qdc s.data[i]=true) (j:Nat) (hj:j<s.size),j<i+1→qdc (s.data[j]'hj)=true:=fun hn j hj hji=>by
   by_cases hj':j=i
   ·subst hj';exact hn
   ·exact hno j hj (by omega)
  simp[h,idxS h];refine qag (qo6 _ S') ?_
  cases hL:isL (s.data[i]'h).toNat with
  | true=>
   simp[hi64];refine ⟨_,?_,_,?_,i+1,rfl,by omega,?_,rfl⟩
   ·omega
   ·exact Env.so (by simp)
   ·have:=hgo (by simp only[qdc,hL,Bool.true_or]);simpa using this
  | false=>
   simp[h,idxS h];refine qag (qrr _ S') ?_
   cases hD:isD (s.data[i]'h).toNat with
   | true=>
    simp[hi64];refine ⟨_,?_,_,?_,i+1,rfl,by omega,?_,rfl⟩
    ·omega
    ·exact Env.so (by simp)
    ·have:=hgo (by simp only[qdc,hD,Bool.or_true]);simpa using this
   | false=>
    simp;refine qaj rfl ⟨⟨i,rfl,?_⟩,rfl⟩;constructor
    ·intro hh;omega
    ·intro hh;rw[qd5] at hh;have:=hh i (by omega);rw[Array.getElem_toList] at this;simp only[qdc,hL,hD] at this;cases this
 ·simp[h];refine qaj rfl ⟨⟨i,rfl,?_⟩,rfl⟩;constructor
  ·intro _;rw[qd5];intro j hj;have:=hno j (by omega) (by omega);simpa using this
  ·intro _;omega
def qry:List UInt8→Bool
 | []=>false
 | c::_=>isL c.toNat
def qab(s:ByteArray):Bool:=decide (1≤s.size) && decide (s.size≤16) && qry s.data.toList && !isIn s wds && qhO s.data.toList
theorem qed{s:ByteArray}:s=⟨⟨[]⟩⟩↔s.size=0:=by
 constructor
 ·rintro rfl;rfl
 ·intro h;refine ByteArray.ext ?_;exact Array.eq_empty_of_size_eq_zero h
theorem qhT{s:ByteArray}(h1:0<s.size)(h2:s.size≤16):qab s=(isL (s.data[0]'h1).toNat && !isIn s wds && qhO s.data.toList):=by
 unfold qab;rw[decide_eq_true (show 1≤s.size from h1),decide_eq_true h2];have h1':0<s.data.toList.length:=by simpa using h1
 have:∀(l:List UInt8) (h:0<l.length),qry l=isL (l[0]).toNat:=fun l h=>by
  cases l with
  | nil=>cases h
  | cons c cs=>rfl
 rw[this _ h1',Array.getElem_toList];rfl
theorem qf2(s:ByteArray)(S:St):Fn prog 57 [.str s] S (.bool (qab s)):=by
 refine Spec.intro func57 ok57 (by simp[c57]) ?_;by_cases h0:s.size=0
 ·have h0':=qed.2 h0;simp[c57,h0'];exact qaj rfl ⟨rfl,rfl⟩
 have h0':¬ s=⟨⟨[]⟩⟩:=fun hh=>h0 (qed.1 hh)
 by_cases h1:(16:Int)<s.size
 ·simp[c57,h0',h1];refine qaj rfl ⟨?_,rfl⟩;simp[qab];omega
 have hi:=qsn (s:=s) (by omega);simp[c57,h0',h1,hi];refine qag (qnp _ S) ?_;have hn:=qhT (s:=s) (by omega) (by omega)
 cases hL:isL (s.data[0]'(Nat.pos_of_ne_zero h0)).toNat with
 | false=>
  simp;refine qaj rfl ⟨?_,rfl⟩;rw[hn,hL];rfl
 | true=>
  simp;refine qag (qra s S) ?_
  cases hW:isIn s wds with
  | true=>
   simp;refine qaj rfl ⟨?_,rfl⟩;rw[hn,hL,hW];rfl
  | false=>
   simp[evX,ctbV];refine qag (qqt false s.data.toList S (by rw[quK];have:s.data.size=s.size:=rfl;omega)) ?_;simp;refine qaj rfl ⟨?_,rfl⟩;rw[hn,hL,hW];simp
theorem qcu(s:ByteArray)(S:St):Fn prog 21 [.str s] S (.bool (qab s)):=by
 refine Spec.intro func21 ok21 (by simp[c21]) ?_;by_cases h0:s.size=0
 ·simp[c21,h0];refine qaj rfl ⟨?_,rfl⟩;simp[qab,h0]
 by_cases h1:(16:Int)<s.size
 ·simp[c21,h0,h1,show ¬ ((s.size:Int)<1) by omega];refine qaj rfl ⟨?_,rfl⟩;simp[qab];omega
 have hi:=qsn (s:=s) (by omega);simp[c21,h0,h1,hi,show ¬ ((s.size:Int)<1) by omega];refine qag (qo6 _ S) ?_;have hn:=qhT (s:=s) (by omega) (by omega)
 cases hL:isL (s.data[0]'(Nat.pos_of_ne_zero h0)).toNat with
 | false=>
  simp;refine qaj rfl ⟨?_,rfl⟩;rw[hn,hL];rfl
 | true=>
  simp;refine qag (qsU s S) ?_
  cases hW:isIn s wds with
  | true=>
   simp;refine qaj rfl ⟨?_,rfl⟩;rw[hn,hL,hW];rfl
  | false=>
   simp;refine qan (qsx s S (by omega)) ?_;rintro v S' ⟨⟨i,rfl,hi'⟩,rfl⟩;simp;refine qaj rfl ⟨?_,rfl⟩;rw[hn,hL,hW];simp only[retV,V.bool.injEq,qvp,Bool.not_false];rw[qui,←hi'];simp
theorem qoE{a b:ByteArray}(h:a.size+b.size≤1000000):strV .add a b=some (.str (a++b)):=by
 simp only[strV];rw[if_pos];rw[show IntKind.i64.max=9223372036854775807 by rfl];omega
theorem cts1(x:Bool)(n:Int)(S:St):ctsV S (.sl x [.int .u8 n])=some (.str ⟨[UInt8.ofNat n.toNat].toArray⟩):=rfl
theorem qr5(a b:List UInt8):(⟨a.toArray⟩:ByteArray)++(⟨b.toArray⟩:ByteArray)=⟨(a++b).toArray⟩:=by
 apply ByteArray.ext;apply Array.ext';simp
theorem qs8{n:Int}(h0:0≤n)(h1:n<256):IntKind.u8.wrap n=n:=by
 simp[IntKind.wrap,IntKind.bits,IntKind.signed];omega
theorem qtd(n:Nat)(h:n<1000):(dig n).length≤4:=(qmj (by omega)).2
theorem qqv(m:Nat):IntKind.u8.wrap (IntKind.i64.wrap (48+((m:Int)).tmod 10))=((48+m % 10:Nat):Int):=by
 have:((m:Int)).tmod 10=((m % 10:Nat):Int):=by
  rw[Int.tmod_eq_emod_of_nonneg (by omega)];omega
 rw[this,qaz (by omega) (by omega),qs8 (by omega) (by omega)];omega
def dgb(n:Nat):UInt8:=UInt8.ofNat (48+n % 10)
theorem qpa(m:Nat):UInt8.ofNat (IntKind.u8.wrap (IntKind.i64.wrap (48+((m:Int)).tmod 10))).toNat=dgb m:=by rw[qqv];rfl
theorem qhJ{n:Nat}(h:n<10):[dgb n]=dig n:=by rw[qbN h];unfold dgb;rw[Nat.mod_eq_of_lt h]
theorem qiV{n:Nat}(h:¬ n<10):dig (n / 10)++[dgb n]=dig n:=(qdx h).symm
theorem qq3(m:Nat)(h:m<1000000):IntKind.i64.wrap ((m:Int) / 10)=((m / 10:Nat):Int):=by
 rw[qaz (by omega) (by omega)];omega
theorem cat1(b:UInt8)(a:List UInt8):(⟨#[b]⟩:ByteArray)++(⟨a.toArray⟩:ByteArray)=⟨(b::a).toArray⟩:=qr5 [b] a
theorem qs7(n:Nat)(hn:n<1000)(S:St):Fn prog 94 [.int .i64 n] S (.str ⟨(dig n).toArray⟩):=by
 refine Spec.intro func94 ok94 (by simp[c94]) ?_;simp[c94,V.size,V.cells,V.flat,fits,evX,cts1];rw[qpa];refine qap (fun k e S'=>∃(m:Nat) (acc:List UInt8),k=m∧m≤n∧acc.length≤4∧(if m<10 then acc=dig n else dig (m / 10)++acc=dig n)∧S'=S∧
  e=[(0,.int .i64 m),(3,.str ⟨acc.toArray⟩),(2,.str ⟨⟨[]⟩⟩)]) n [(0,.int .i64 n),(3,.str ⟨[dgb n].toArray⟩),(2,.str ⟨⟨[]⟩⟩)] ?_ ⟨n,[dgb n],rfl,by omega,by simp,?_,rfl,rfl⟩ ?_
 ·exact Env.so (by simp)
 ·split
  ·rename_i h;exact qhJ h
  ·rename_i h;exact qiV h
 rintro m e S' ⟨_,acc,rfl,hm,hal,ha,rfl,rfl⟩;by_cases h:m<10
 ·rw[if_pos h] at ha;subst ha;simp[show ¬ ((9:Int)<(m:Int)) by omega];exact qaj rfl ⟨rfl,rfl⟩
 ·rw[if_neg h] at ha
  have hacc:acc.length+1≤4:=by
   have h1:=congrArg List.length ha;rw[qtZ] at h1;have h2:=qtd n hn;have h3:=(qmj (n:=m / 10) (by omega)).1;omega
  simp[show ((9:Int)<(m:Int)) by omega,V.size,V.cells,V.flat,fits,evX,cts1];rw[qq3 m (by omega),qpa,qoE (by simp[ByteArray.size];omega),cat1];simp;refine ⟨m / 10,?_,_,?_,by omega,dgb (m / 10)::acc,by simpa using hacc,?_,rfl⟩
  ·omega
  ·exact Env.so (by simp)
  ·split
   ·rename_i h';rw[←ha,←qhJ h'];rfl
   ·rename_i h';rw[←ha,←qiV h'];simp
def kv(s:ByteArray):V×V:=(.str s,.bool true)
